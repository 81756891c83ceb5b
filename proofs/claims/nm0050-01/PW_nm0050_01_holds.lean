import PyProof.Rows.All
import PySem.Value
import PyProof.TableCode
import Open.Split
import Wide.FinOn
import OpenK.AllK
import Wide.All
import PySem.Challenge.RW_nm0050_01
set_option Elab.async false
set_option genSizeOf false
set_option genInjectivity false
set_option maxRecDepth 100000
set_option maxHeartbeats 4000000
set_option linter.all false
noncomputable section
open PySem PySem.W PySem.Calls PyProof.Rows
local macro_rules | `(tactic| omega) => `(tactic| lia)
local macro_rules | `(tactic| left) => `(tactic| kernel_rfl)
universe u0 u1 u2 u3 u4 u5 u6 u7 u8
open _root_.PySem renaming Value→Ab,Shared→Ac,model→Ag,Expr→Ak,wpAny_bind→Aq,Around→Aw,World→A5,wpAny_pure→AJ,starEach→AR,Stmt→Bm,wpAny_mono→Bo,compareOp→B4,Result→BR,Scope→Cn,sizeLine_eq→Co,wpAny_holding→Cp,backTo→Cy,DictEntry→CF,wpAny_of_eq→CG,Builtin→Dc,assign→De,callEnvC→Dg,codeAny→Dw,Model→D3,holding→Ea,swapsWith→Eb,sysModules→Ec,spliced→Er,NameKind→EG,binaryOp→Fj,mainGlobals→Fm,setItem→Fo,standAt→Fp,strKind_is→Fq,valueAt→Fs,callWith→FK,foldedSetIterable→FL,OsState→Gq,relabel→Gs,table→Gu,wpAny_specialOf→Gv,wpAny_standAt→Gw,builtinLookup_eq_fast→GW,compEnvC→GX,pyIter→GY,typeLookup_type→GZ,argsOk→HC,execs→HD,getItem→HE,interactive→HF,typeLookup→HG,argBest→I3,checkBuiltinCall→I4,compPost→I5,entryFor→I6,getMethod→I7,letOwnedTupleGo→I8,operate→I9,rawInt→IA,subscripted→IB,wpAny_Name→IC,call_meetsIn→JJ,noteFrame→JK,sizeLine→JL,stored→JM,wants→JN,wpAny_load→JO,wpAny_truthy_bool→JP,FuncData→Ly,IsItemIter→Lz,assignInOrder→L3,atKey→L4,behindInMarks→L5,bindC→L6,bindL→L7,cellsFrom→L8,comprehension→L9,lookup_relabel_local→LD,storeName→LH,storedH→LK,treeTable→LL,without→LM,wpAny_Call_method→LN,wpAny_Expr_any→LO,wpAny_execs_nil→LP,assignEach→OY,builtinsNs→OZ,callAny→Pa,callWith_type1→Pb,eqBool→Pd,getAttr→Pe,isSubtype_type→Pf,notedBy→Ph,outcomeOf→Pj,swappedStores→Pm,theTreesLotGoes→Pn,truthy→Po,tupleKind→Pp,wpAny_rule→Pq,Arguments→Ug,BoolOp→Ui,attributeBase→Uw,bm_if_false→Ux,call_meets→Uy,cellOf→Uz,evalArgs→U0,isTrue→U1,plainId_quiet→U2,signature?_of→U3,unpack→U4,wpAny_Tuple→U5,wpAny_field→U6,wpAny_isInstance→U7,Comprehension→A0Y,GenState→B0e,Program→B0h,allTrue→B0q,bindArgs→B0r,call→B0s,callSpecial?→B0t,callerA→B0u,checkTypeCall→B0v,closureFor→B0w,codeAny_forLoop_any→B0x,codeAny_of_tree→B0y,compTurn→B0z,dictSet→B00,entryFor_of_tree→B01,leaving→B02,letTemporaryGo→B03,newList→B04,setAttr→B05,swapsWithSole→B06,typeIs_int→B07,unaryOp→B08,wpAny_Assign_Subscript→B09,wpAny_Call_NameR→B0A,wpAny_Constant_str→B0B,wpAny_Dict_empty→B0C,wpAny_For→B0D,wpAny_List→B0E,wpAny_call→B0F,wpAny_call_entry→B0G,wpAny_comp_letGo→B0H,wpAny_comprehension_free→B0I,wpAny_evalPart_none→B0J,wpAny_evalPart_some→B0K,wpAny_getItem_of→B0L,wpAny_loadPart'→B0M,wpAny_point→B0N,bootBuiltins→M0P,callWith_builtin1→M0R,call_min_walk→M0S,codeAny_builtin_stack→M0T,codeAny_compStart_list→M0U,codeAny_loop→M0V,compTurn_list→M0W,constantsAlone→M0X,eval_ListComp→M0Y,exec_Assign_Name_used→M0Z,foldedForSure→N0a,leftWithCleanup→N0b,meets_dict_items→N0c,newFunctionEnv→N0d,rangeSize_one→N0e,recursionLimit→N0f,sliceIndices→N0g,theWindowsPlace→N0h,updateBytearray→N0i,wpAny_Assign_Name→N0j,wpAny_askSetting→N0k,wpAny_getItem_list→N0l,wpAny_isTrue_Compare1→N0m,wpAny_letOwnedTupleGo_items→N0n,wpAny_loadPart→N0o,wpAny_lookBehind→N0p,wpAny_newList→N0q,wpAny_pyIter_dict→N0r,wpAny_pyIter_items→N0s,wpAny_pyIter_list→N0t,wpAny_pyNext_items_end→N0u,wpAny_pyNext_items_item→N0v,wpAny_setItem_pairs→N0w,wpAny_tests_one→N0x
open _root_.Option.some renaming inj→An,injEq→N0V
open _root_.List renaming mem_of_getElem?→As,length_map→AD,length_append→AU,mem_cons→AW,mem_singleton→Bx,map_append→B3,mem_map→BE,replicate→BW,mem_append→C7,getElem?_map→CH,append_assoc→CO,map_map→CP,nodup_cons→CQ,append_nil→CX,length_cons→Dm,all_eq_true→D1,getElem?_eq_some_iff→DN,map_cons→Em,pairwise_cons→En,lookup→E3,forall_mem_cons→Fb,getElem?_eq_getElem→Fc,map_id→Fe,mem_append_left→Ff,range→FF,getElem?_eq_none→GN,mem_append_right→GO,mem_map_of_mem→GP,foldl_append→H4,foldl_cons→H5,getElem?_of_mem→H6,length_set→H7,length→J0,length_eq_zero_iff→J1,map→J3,map_congr_left→J5,mem_filter→J6,nodup_append→J7,any_eq_false→Ll,filter_cons_of_neg→Lm,filter_cons_of_pos→Ln,getElem_mem→Lo,not_mem_nil→Lp,size_toArray→Lq,toArray→Lr,any_cons→OA,append_cons→OB,cons_lt_cons_iff→OC,flatMap_append→OD,getElem?_set_ne→OE,getElem?_set_self→OF,lt_trans→OG,pairwise_map→OH,ext_getElem?→TG,filter_append→TH,find?_cons→TK,getD→TL,length_take→TM,map_nil→TN,map_set→TO,mem_of_mem_take→TP,mem_or_eq_of_mem_set→TQ,pairwise_singleton→TR,any_eq_true→A05,drop_eq_nil_of_le→A07,filterMap_cons→A08,flatMap_cons→A09,foldl→A0A,getElem?_append_right→A0B,getElem?_set_self'→A0C,length_nil→A0D,length_range→A0E,of_mem_zip→A0F,pairwise_iff_getElem→A0G,take_sublist→A0H,any→L0s,drop_eq_getElem_cons→L0t,filterMap_cons_some→L0u,filter_eq_nil_iff→L0v,flatMap_singleton→L0w,foldl_map→L0x,getD_eq_getElem?_getD→L0y,getElem?_append_left→L0z,getElem?_range→L00,getElem_map→L01,isEmpty_iff→L02,le_antisymm→L03,le_trans→L04,length_eraseIdx_of_lt→L05,length_filter_le→L06,length_singleton→L07,lookup_cons→L08,lt_irrefl→L09,map_singleton→L0A,mem_reverse→L0B,nil_sublist→L0C,nodup_nil→L0D,not_lt→L0E,not_lt_nil→L0F,pairwise_append→L0G,reverse_cons→L0H,set_append_right→L0I,set_set→L0J,sum_cons→L0K,take_nil→L0L,zip_eq_zipWith→L0M
open _root_.Eq renaming symm→Au,trans→A03
open _root_.Nat renaming le_trans→A8,le_refl→A9,lt_of_lt_of_le→Bc,lt_irrefl→Bu,beq→B6,zero_add→Cc,ne_of_lt→C4,lt_succ_self→C8,zero_le→C9,le_of_lt→CY,le_succ→CZ,le_of_eq→DC,lt_of_le_of_lt→DX,not_lt→DY,le_add_right→E4,succ_add_eq_add_succ→Fg,lt_succ_of_lt→FG,succ_pos→FH,le_succ_of_le→Gm,succ_le_succ→Gn,eq_of_beq_eq_true→GQ,le_of_not_lt→GS,lt_add_of_pos_right→H8,lt_trans→H9,add_comm→J8,beq_refl→J9,not_lt_zero→Ls,add_le_add_left→OJ,blt→OK,le_add_left→OL,le_antisymm→OM,le_of_ble_eq_true→ON,sub_self→OO,add_assoc→TS,add_le_add→TU,add_right_comm→TV,add_zero→TX,lt_of_le_of_ne→TY,succ_ne_self→TZ,add_le_add_right→A0I,ble→A0J,le_of_succ_le→A0K,lt_asymm→A0L,mul_le_mul_right→A0M,ne_of_gt→A0N,toDigits→A0O,ble_eq_true_of_le→L0N,digitChar→L0O,div_mul_le_self→L0P,eq_zero_or_pos→L0Q,length_toDigits_le_iff→L0R,log2_lt→L0S,lt_add_right→L0T,lt_trichotomy→L0U,mod_lt→L0V,mul_le_mul_left→L0W,zero_max→L0X
open _root_.Bool renaming and_eq_true→Bv,false_ne_true→C3,not_eq_true'→DW,eq_false_iff→O4,false_xor→O5,or_eq_true→O6,true_xor→O7,and_false→A0z,false_eq_true→A00,not_eq_true→A01,and_self→L0b,false_and→L0c,noConfusion→L0d,or_false→L0e
open PySem.Heap renaming lt_size→Bz,get?_push_size→BQ,SameBut→Ce,size_push→CI,get?_push_of_some→Dd,get?_update_self→JG,size_update→OT,get?_push_ne→M0B
open _root_.Prod.mk renaming inj→BG,injEq→M0b
open PyProof.Rows renaming seqObj→Cx,Call_Name1→JE,StrsAre→JF,sortedHeap→Lw,subscriptTail→Lx,Subscript_→Ud,assign_Tuple→Ue,callWith_method0→A0Q,callWith_method1→A0R,listUpdate_at→A0S,seqEpoch_at→A0T,tail_any→A0U,Assign_Tuple→M0c,evalArgs_nil3→M0d,lt_int→M0e,lt_str→M0f,Assign_Tuple_swapped→N0W,Attribute_any_→N0X,add_int→N0Y,add_str→N0Z,callWith_builtin1→O0a,eq_int→O0b,eq_str→O0c,floordiv_int→O0d,getItem_str→O0e,getItem_tuple→O0f,gt_int→O0g,mod_int'→O0h,mul_int→O0i,ne_str→O0j,neg_int→O0k,sub_int→O0l
open _root_.Option renaming none→CE,map→Fh,join_eq_some_iff→JC,isSome→Lu,isSome_iff_exists→Lv,bind→OP,map_eq_none_iff→Ua,map_eq_some_iff→Ub,some→Uc,isNone_iff_eq_none→A0P,isSome_map→L0Y,map_some→L0Z
open PySem.F renaming plainAttrs_list→Dp,slot_list_append→Dv,type_list_append→D2,plainAttrs_dict→GU,slot_dict_get→OQ,slot_dict_items→OS,plainAttrs_str→Uj,slot_dict_getitem→Uk,slot_dict_setdefault→A0Z,slot_str_join→B0a,type_dict_get→B0b,type_dict_items→B0c,type_str_join→B0d,args_dict_items_1→M00,entry_dict_get→M01,entry_dict_items→M02,slot_dict_itemiterator_iter→M03,slot_dict_pop→M04,slot_dict_values→M05,slot_list_extend→M06,slot_list_getitem→M07,slot_list_ne→M08,slot_list_pop→M09,type_dict_setdefault→M0A
open _root_.Array renaming length_toList→DB,getElem?_toList→I0,toList_push→O3,getD_eq_getD_getElem?→A0y,any_toList→K0X,eq_empty_of_size_eq_zero→K0Y,replicate→K0Z,toList→L0a
open PySem.NameKind renaming free→DZ,cell→B0g
open PySem.Heap.SameBut renaming update→Eo
open PySem.Obj renaming mapSeq→Ep,mapBytearray→Gp
open PySem.W renaming boot_heap→EH,findIn→EI,dictOf→Gr,keepIn→I2,emptyDict→JH,instObj→JI,WellAll→L0,kas_rev→L1,typeIn→L2,Looks→OW,defOf→OX,boot_drawn→Uq,boot_toks→Ur,makesIn→Us,topFrame→Ut,topRun→Uu,topStub→Uv,SharedT→B0m,handedIn→B0n,keeps_K→B0o,openGood→B0p,kas_descPart→M0L,looks_findIn→M0M
open _root_.Prod renaming fst→Fi,snd→HA,ext→JD,mk→M0a
open _root_.Exists renaming elim→FE
open _root_.Int renaming ofNat_lt→Gl,natCast_nonneg→Jz,ofNat→O8,toNat_natCast→O9,emod_lt_of_pos→TB,emod_nonneg→TC,ne_of_gt→TF,eq_ofNat_of_zero_le→A04,le_of_lt→L0g,max_eq_right→L0h,natCast_add→L0i,not_le→L0j,not_lt→L0k,ofNat_inj→L0m,one_pos→L0n,zero_add→L0o
open PySem.W.WData renaming int→GV
open PySem.Value renaming isStrOf_shape→HB,ref→OV,isInt_shape→Um,type→Un,isInt→B0j,isStrOf→B0k,str→B0l,none→M0G
open _root_.Nat.succ renaming inj→I1
open _root_.And renaming intro→Lj,imp_left→TA
open PySem.Sem renaming wp_mono→OU,wp→B0i,wp_run→M0C
open PySem.Around renaming under_plainId→Uh
open PySem.PyData renaming keyHash→Ul
open PySem.W.WShape renaming hasAll→Uo
open _root_.Char renaming toNat→A02
open _root_.List.cons renaming inj→A06
open PySem.Builtin.Bytes renaming buffer?→A0V,exported→A0W,bindOptional→M0g,exportsOf→M0h,fitsIndex→M0i,ownRelease→M0j,payload→M0k,sameRef→M0l,sliceParts→M0m,slotIsOwn→M0n,tooLong→M0o,decodersThatHold→O0o,payload?→O0p,subscript?→O0q,write→O0r
open PySem.Calls renaming Name_function_global→A0X,evalArgs_plain→M0s,loadGlobal_global→M0t,spliced_nil→M0u
open PySem.Heap.DictOf renaming new→B0f
open _root_.Array.Perm renaming mem_iff→K0W,refl→N0O
open _root_.ForInStep renaming yield→L0f
open _root_.Int.ofNat renaming inj→L0l
open _root_.List.Perm renaming append_left→L0p,swap→L0q,eq_of_pairwise→N0S,refl→N0T
open _root_.List.Sublist renaming refl→L0r,cons_cons→N0U
open PySem.Builtin.Range renaming rangeSize→M0p,small→M0q,rangeFitsLong→O0v
open PySem.Builtin renaming divisionGoesByPylong→M0r
open PySem.Challenge renaming rw_nm0050_01→M0v,pw_nm0050_01→O0x
open PySem.Code renaming quiet_builtin→M0w
open PySem.Env renaming blockKind→M0x,kindOf→M0y
open PySem.Expr renaming Name→M0z,DictComp→O0z,ListComp→O00
open PySem.Spec renaming ltCps→M0D
open PySem.Str renaming ofString→M0E
open PySem.Txt renaming startswith→M0F
open PySem.W.Fast renaming te14364793385576792824→M0H,tw4187177175401517315→M0I
open PySem.W.Looks renaming ld→M0J
open PySem.W.WTm renaming holds→M0K
open PySem.Walks renaming dictKeys→M0N,list→M0O
open PySem.callAny renaming viaDunder→M0Q
open _root_.Std renaming le_of_lt→N0y
open _root_.String renaming ofList→N0z
open _root_.Classical renaming byContradiction→N0P,not_not→N0Q
open _root_.List.Pairwise renaming map→N0R
open PySem.AutoListH renaming list_append_list_val_0→O0m
open PySem.AutoSeq1 renaming list_extend_list_list_0→O0n
open PySem.Builtin.Int renaming intBits→O0s
open PySem.Builtin.List renaming listFitsIndex→O0t,listTooLong→O0u
open PySem.Builtin.Str renaming glued→O0w
open PySem.DictEntry renaming refKey→O0y
open PySem.Heap.DictOfH renaming new→O01
open PySem.MeetsSeq renaming list_pop_at→O02
namespace Mine
theorem Ja{P0 P1:Prop}{G:Prop}(e:P0∧P1)(f:P0→P1→G):G:=f e.1 e.2
theorem Np{P0 P1 P2:Prop}{G:Prop}(e:P0∧P1∧P2)(f:P0→P1→P2→G):G:=Ja e.2 (f e.1)
theorem F0n{P0 P1 P2 P3:Prop}{G:Prop}(e:P0∧P1∧P2∧P3)(f:P0→P1→P2→P3→G):G:=Np e.2 (f e.1)
theorem Xe{P0 P1 P2 P3 P4:Prop}{G:Prop}(e:P0∧P1∧P2∧P3∧P4)(f:P0→P1→P2→P3→P4→G):G:=F0n e.2 (f e.1)
theorem F0o{P0 P1 P2 P3 P4 P5:Prop}{G:Prop}(e:P0∧P1∧P2∧P3∧P4∧P5)(f:P0→P1→P2→P3→P4→P5→G):G:=Xe e.2 (f e.1)
theorem Xf{A0:Sort u0}{P0:A0→Prop}{G:Prop}(e: ∃a0,P0 a0)(f: ∀a0,P0 a0→G):G:=e.elim f
theorem Dt{A0:Sort u0}{P0 P1:A0→Prop}{G:Prop}(e: ∃a0,P0 a0∧P1 a0)(f: ∀a0,P0 a0→P1 a0→G):G:=e.elim λa h=>Ja h (f a)
theorem EO{A0:Sort u0}{P0 P1 P2:A0→Prop}{G:Prop}(e: ∃a0,P0 a0∧P1 a0∧P2 a0)(f: ∀a0,P0 a0→P1 a0→P2 a0→G):G:=e.elim λa h=>Np h (f a)
theorem F0p{A0:Sort u0}{P0 P1 P2 P3 P4 P5:A0→Prop}{G:Prop}(e: ∃a0,P0 a0∧P1 a0∧P2 a0∧P3 a0∧P4 a0∧P5 a0)(f: ∀a0,P0 a0→P1 a0→P2 a0→P3 a0→P4 a0→P5 a0→G):G:=e.elim λa h=>F0o h (f a)
theorem Nq{A0:Sort u0}{A1:Sort u1}{P0:A0→A1→Prop}{G:Prop}(e: ∃a0 a1,P0 a0 a1)(f: ∀a0 a1,P0 a0 a1→G):G:=e.elim λa h=>Xf h (f a)
theorem F5{A0:Sort u0}{A1:Sort u1}{P0 P1:A0→A1→Prop}{G:Prop}(e: ∃a0 a1,P0 a0 a1∧P1 a0 a1)(f: ∀a0 a1,P0 a0 a1→P1 a0 a1→G):G:=e.elim λa h=>Dt h (f a)
theorem F0q{A0:Sort u0}{A1:Sort u1}{P0 P1 P2:A0→A1→Prop}{G:Prop}(e: ∃a0 a1,P0 a0 a1∧P1 a0 a1∧P2 a0 a1)(f: ∀a0 a1,P0 a0 a1→P1 a0 a1→P2 a0 a1→G):G:=e.elim λa h=>EO h (f a)
theorem F0r{A0:Sort u0}{A1:Sort u1}{P0 P1 P2 P3 P4 P5:A0→A1→Prop}{G:Prop}(e: ∃a0 a1,P0 a0 a1∧P1 a0 a1∧P2 a0 a1∧P3 a0 a1∧P4 a0 a1∧P5 a0 a1)(f: ∀a0 a1,P0 a0 a1→P1 a0 a1→P2 a0 a1→P3 a0 a1→P4 a0 a1→P5 a0 a1→G):G:=e.elim λa h=>F0p h (f a)
theorem Xg{A0:Sort u0}{A1:Sort u1}{A2:Sort u2}{P0 P1:A0→A1→A2→Prop}{G:Prop}(e: ∃a0 a1 a2,P0 a0 a1 a2∧P1 a0 a1 a2)(f: ∀a0 a1 a2,P0 a0 a1 a2→P1 a0 a1 a2→G):G:=e.elim λa h=>F5 h (f a)
theorem F0s{A0:Sort u0}{A1:Sort u1}{A2:Sort u2}{P0 P1 P2 P3 P4 P5:A0→A1→A2→Prop}{G:Prop}(e: ∃a0 a1 a2,P0 a0 a1 a2∧P1 a0 a1 a2∧P2 a0 a1 a2∧P3 a0 a1 a2∧P4 a0 a1 a2∧P5 a0 a1 a2)(f: ∀a0 a1 a2,P0 a0 a1 a2→P1 a0 a1 a2→P2 a0 a1 a2→P3 a0 a1 a2→P4 a0 a1 a2→P5 a0 a1 a2→G):G:=e.elim λa h=>F0r h (f a)
theorem byC{p:Prop}(h: ¬p→False):p:=N0P h
noncomputable abbrev Nm:=List Nat
inductive FV where
 |none
 |bool (b:Bool)
 |int (i:Int)
 |str (s:Nm)
 |bytesN (n:Nat)
 |fba (n:Nat)
 |tup (xs:List FV)
 |lst (xs:List FV)
 |dct (es:List (Nm×FV))
 |obj (C:Nat) (fs:List (Nat×FV))
inductive V where
 |f (x:FV)
 |c (k:Nat)
 |g (k:Nat)
 |d (k i:Nat)
inductive O where
 |list (xs:List FV)
 |jlist (n:Nat)
 |list2 (xss:List (List FV))
 |dict (es:List (Nm×FV))
 |tdict (es:List ((Int×Nm)×FV))
 |ddict (C:Nat) (es:List (Nm×List (Nat×FV)))
 |inst (C:Nat) (fs:List (Nat×V))
 |ba (n:Nat)
structure St where
 m:List (Option V)
 l:List (Option O)
 g:List (Option O)
inductive Fl where
 |nx
 |ct
 |rt (v:V)
section
variable{α β:Type}
theorem noS{x:α}{P:Prop}(e:none=some x):P:=nomatch e
theorem noZ{x:α}{P:Prop}(e:some x=none):P:=nomatch e
theorem noT{P:Prop}(e:false=true):P:=L0d e
theorem noF{P:Prop}(e:true=false):P:=L0d e
theorem AY{B:List Nat}: ∀k∈([]:List Nat),k∈B:= λ_ h=>nomatch h
theorem Ax{o:Option α}{f:α→Option β}{y:β}{P:Prop}(e:o.bind f=some y)(k: ∀a,o=some a→f a=some y→P):P:=by
 cases o with
 |none=>cases e
 |some a=>exact k a rfl e
theorem HV{b:Bool}{x y z:α}{P:Prop}(e:cond b x y=z)(h1:b=true→x=z→P)(h0:b=false→y=z→P):P:=by
 cases b with
 |false=>exact h0 rfl e
 |true=>exact h1 rfl e
theorem ifE{c:Prop}[Decidable c]{x:Option α}{z:α}{P:Prop}(e:(if c then x else none)=some z)(h:c→x=some z→P):P:=by
 by_cases q:c
 ·rw [if_pos q] at e;exact h q e
 ·rw [if_neg q] at e;cases e
theorem Dk{p:α×β}{a:α}{b:β}(e:some p=some (a,b)):p.1=a∧p.2=b:=by cases e;exact ⟨rfl,rfl⟩
theorem BM{a a':α}{b b':β}(e:some (a,b)=some (a',b')):a=a'∧b=b':=BG (An e)
noncomputable def V.onF(v:V)(k:FV→Option α):Option α:=match v with
 |.f y=>k y
 |_=>none
theorem V.onFE{v:V}{k:FV→Option α}{z:α}{P:Prop}(e:v.onF k=some z)(h: ∀y,v=.f y→k y=some z→P):P:=by
 cases v with
 |f x=>exact h x rfl e
 |_=>exact noS e
noncomputable def V.onG_(v:V)(f:Nat→Option α):Option α:=match v with
 |.g k=>f k
 |_=>none
theorem V.onGE{v:V}{k:Nat→Option α}{z:α}{P:Prop}(e:v.onG_ k=some z)(h: ∀y,v=.g y→k y=some z→P):P:=by
 cases v with
 |g x=>exact h x rfl e
 |_=>exact noS e
noncomputable def FV.onStr(v:FV)(k:Nm→Option α):Option α:=match v with
 |.str y=>k y
 |_=>CE
theorem Mj{v:FV}{k:Nm→Option α}{z:α}{P:Prop}(e:v.onStr k=some z)(h: ∀y,v=.str y→k y=some z→P):P:=by
 cases v with
 |str x=>exact h x rfl e
 |_=>exact noS e
noncomputable def V.onC(v:V)(f:Nat→Option α):Option α:=match v with
 |.c k=>f k
 |_=>none
theorem V.onCE{v:V}{k:Nat→Option α}{z:α}{P:Prop}(e:v.onC k=some z)(h: ∀y,v=.c y→k y=some z→P):P:=by
 cases v with
 |c x=>exact h x rfl e
 |_=>exact noS e
noncomputable def FV.onInt(v:FV)(k:Int→Option α):Option α:=match v with
 |.int y=>k y
 |_=>CE
theorem IF{v:FV}{k:Int→Option α}{z:α}{P:Prop}(e:v.onInt k=some z)(h: ∀y,v=.int y→k y=some z→P):P:=by
 cases v with
 |int x=>exact h x rfl e
 |_=>exact noS e
noncomputable def O.onDict(v:O)(k:List (Nm×FV)→Option α):Option α:=match v with
 |.dict y=>k y
 |_=>none
theorem HO{v:O}{k:List (Nm×FV)→Option α}{z:α}{P:Prop}(e:v.onDict k=some z)(h: ∀y,v=.dict y→k y=some z→P):P:=by
 cases v with
 |dict x=>exact h x rfl e
 |_=>exact noS e
noncomputable def O.onDD(v:O)(k:List (Nm×List (Nat×FV))→Option α):Option α:=match v with
 |.ddict _ y=>k y
 |_=>none
theorem M9{v:O}{k:List (Nm×List (Nat×FV))→Option α}{z:α}{P:Prop}(e:v.onDD k=some z)(h: ∀C y,v=.ddict C y→k y=some z→P):P:=by
 cases v with
 |ddict C x=>exact h C x rfl e
 |_=>exact noS e
noncomputable def Fl.isRt:Fl→Bool
 |.rt _=>true
 |_=>false
end
noncomputable abbrev Ev:=St→Option (V×St)
noncomputable abbrev Cv:=St→Option (Bool×St)
noncomputable abbrev Av:=St→Option (O×St)
noncomputable abbrev Sv:=St→Option (Fl×St)
noncomputable def lim:Int:=9223372036854775808
noncomputable def AM:Nat:=16000000
noncomputable def small(i:Int):Bool:=decide (-lim<i)&&decide (i<lim)
noncomputable def GB{α:Type}:List (Nat×α)→Nat→Option α
 |[],_=>none
 |(a,v)::r,k=>cond (B6 a k) (some v) (GB r k)
noncomputable def Ht{α:Type}:List (Nat×α)→Nat→α→List (Nat×α)
 |[],k,v=>[(k,v)]
 |(a,x)::r,k,v=>cond (B6 a k) ((a,v)::r) ((a,x)::Ht r k v)
noncomputable def Ay{κ α:Type}[DecidableEq κ]:List (κ×α)→κ→Option α
 |[],_=>none
 |(a,v)::r,k=>if a=k then some v else Ay r k
noncomputable def AE{κ α:Type}[DecidableEq κ]:List (κ×α)→κ→α→List (κ×α)
 |[],k,v=>[(k,v)]
 |(a,x)::r,k,v=>if a=k then (a,v)::r else (a,x)::AE r k v
noncomputable def Ga{κ α:Type}[DecidableEq κ]:List (κ×α)→κ→Option Nat
 |[],_=>none
 |(a,_)::r,k=>if a=k then some 0 else (Ga r k).map (· +1)
noncomputable def DF{κ α:Type}[DecidableEq κ]:List (κ×α)→κ→List (κ×α)
 |[],_=>[]
 |(a,x)::r,k=>if a=k then r else (a,x)::DF r k
noncomputable def V.isC(k:Nat):V→Bool
 |.c j=>B6 j k
 |_=>false
noncomputable def V.isG(k:Nat):V→Bool
 |.g j=>B6 j k
 |_=>false
noncomputable def V.onG(k:Nat):V→Bool
 |.g j=>B6 j k
 |.d j _=>B6 j k
 |_=>false
noncomputable def V.noC:V→Bool
 |.c _=>false
 |_=>true
noncomputable def BP(p:V→Bool):Option V→Bool
 |some v=>p v
 |none=>false
noncomputable def O.refs(p:V→Bool):O→Bool
 |.inst _ fs=>fs.any λa=>p a.2
 |_=>false
noncomputable def Ey(p:V→Bool):Option O→Bool
 |some o=>o.refs p
 |none=>false
noncomputable def BY(s:St)(k:Nat):Option O:=(s.l[k]?).join
noncomputable def BI(s:St)(k:Nat):Option O:=(s.g[k]?).join
noncomputable def deref(s:St):V→Option O
 |.c k=>BY s k
 |.g k=>BI s k
 |_=>none
noncomputable def FV.asO(x:FV):Option O:=match x with
 |.lst xs=>some (.list xs)
 |.dct es=>some (.dict es)
 |.fba n=>some (.ba n)
 |_=>CE
noncomputable def view(s:St)(v:V):Option O:=match v with
 |.f x=>x.asO
 |.c k=>BY s k
 |.g k=>BI s k
 |.d _ _=>none
noncomputable def V.wr(v:V)(o:O)(s:St):St:=match v with
 |.c k=>{s with l:=s.l.set k (some o)}
 |.g k=>{s with g:=s.g.set k (some o)}
 |_=>s
section
variable{α:Type}
noncomputable def O.onList(o:O)(k:List FV→Option α):Option α:=match o with
 |.list xs=>k xs
 |_=>none
theorem HP{o:O}{k:List FV→Option α}{z:α}{P:Prop}(e:o.onList k=some z)(h: ∀y,o=.list y→k y=some z→P):P:=by
 cases o with
 |list x=>exact h x rfl e
 |_=>exact noS e
noncomputable def O.onTD(o:O)(k:List ((Int×Nm)×FV)→Option α):Option α:=match o with
 |.tdict xs=>k xs
 |_=>none
theorem QR{o:O}{k:List ((Int×Nm)×FV)→Option α}{z:α}{P:Prop}(e:o.onTD k=some z)(h: ∀y,o=.tdict y→k y=some z→P):P:=by
 cases o with
 |tdict x=>exact h x rfl e
 |_=>exact noS e
noncomputable def O.onBa(o:O)(k:Nat→Option α):Option α:=match o with
 |.ba n=>k n
 |_=>none
theorem VB{o:O}{k:Nat→Option α}{z:α}{P:Prop}(e:o.onBa k=some z)(h: ∀y,o=.ba y→k y=some z→P):P:=by
 cases o with
 |ba x=>exact h x rfl e
 |_=>exact noS e
noncomputable def O.onInst(o:O)(k:Nat→List (Nat×V)→Option α):Option α:=match o with
 |.inst C fs=>k C fs
 |_=>none
theorem QQ{o:O}{k:Nat→List (Nat×V)→Option α}{z:α}{P:Prop}(e:o.onInst k=some z)(h: ∀C fs,o=.inst C fs→k C fs=some z→P):P:=by
 cases o with
 |inst C x=>exact h C x rfl e
 |_=>exact noS e
noncomputable def O.onList2(o:O)(k:List (List FV)→Option α):Option α:=match o with
 |.list2 xs=>k xs
 |_=>none
theorem VC{o:O}{k:List (List FV)→Option α}{z:α}{P:Prop}(e:o.onList2 k=some z)(h: ∀y,o=.list2 y→k y=some z→P):P:=by
 cases o with
 |list2 x=>exact h x rfl e
 |_=>exact noS e
noncomputable def O.onD(o:O)(k:List (Nm×FV)→Option α)(d:List (Nm×List (Nat×FV))→Option α):Option α:=match o with
 |.dict es=>k es
 |.ddict _ es=>d es
 |_=>none
theorem C0Q{o:O}{k:List (Nm×FV)→Option α}{d:List (Nm×List (Nat×FV))→Option α}{z:α}{P:Prop}(e:o.onD k d=some z)(h: ∀y,o=.dict y→k y=some z→P)(h': ∀C y,o=.ddict C y→d y=some z→P):P:=by
 cases o with
 |dict x=>exact h x rfl e
 |ddict C x=>exact h' C x rfl e
 |_=>exact noS e
noncomputable def FV.sw(v:FV)(i:Int→Option α)(s:Nm→Option α)(t:List FV→Option α):Option α:=match v with
 |.int x=>i x
 |.str x=>s x
 |.tup x=>t x
 |_=>CE
theorem C0d{v:FV}{i:Int→Option α}{s:Nm→Option α}{t:List FV→Option α}{z:α}{P:Prop}(e:v.sw i s t=some z)(hi: ∀x,v=.int x→i x=some z→P)(hs: ∀x,v=.str x→s x=some z→P)(ht: ∀x,v=.tup x→t x=some z→P):P:=by
 cases v with
 |int x=>exact hi x rfl e
 |str x=>exact hs x rfl e
 |tup x=>exact ht x rfl e
 |_=>exact noS e
noncomputable def V.ts(v:V)(t:List FV→Option α)(s:Nm→Option α)(d:Option α):Option α:=match v with
 |.f x=>match x with
  |.tup y=>t y
  |.str y=>s y
  |_=>d
 |_=>d
theorem D0t{v:V}{t:List FV→Option α}{s:Nm→Option α}{d:Option α}{z:α}{P:Prop}(e:v.ts t s d=some z)(ht: ∀x,v=.f (.tup x)→t x=some z→P)(hs: ∀x,v=.f (.str x)→s x=some z→P)(hd:d=some z→P):P:=by
 cases v with
 |f x=>cases x with
  |tup y=>exact ht y rfl e
  |str y=>exact hs y rfl e
  |_=>exact hd e
 |_=>exact hd e
noncomputable def FV.onLst(v:FV)(k:List FV→Option α):Option α:=match v with
 |.lst y=>k y
 |_=>CE
theorem C0a{v:FV}{k:List FV→Option α}{z:α}{P:Prop}(e:v.onLst k=some z)(h: ∀y,v=.lst y→k y=some z→P):P:=by
 cases v with
 |lst x=>exact h x rfl e
 |_=>exact noS e
noncomputable def FV.onDct(v:FV)(k:List (Nm×FV)→Option α):Option α:=match v with
 |.dct y=>k y
 |_=>CE
theorem UH{v:FV}{k:List (Nm×FV)→Option α}{z:α}{P:Prop}(e:v.onDct k=some z)(h: ∀y,v=.dct y→k y=some z→P):P:=by
 cases v with
 |dct x=>exact h x rfl e
 |_=>exact noS e
theorem AV{β:Type}{o:Option β}{f:β→α}{z:α}{P:Prop}(e:o.map f=some z)(h: ∀a,o=some a→f a=z→P):P:=by
 cases o with
 |none=>cases e
 |some a=>exact h a rfl (An e)
end
noncomputable def FV.onNone{α:Type}(v:FV)(k:Option α):Option α:=match v with
 |.none=>k
 |_=>CE
theorem UK{α:Type}{v:FV}{k:Option α}{z:α}{P:Prop}(e:v.onNone k=some z)(h:v=.none→k=some z→P):P:=by
 cases v with
 |none=>exact h rfl e
 |_=>exact noS e
noncomputable def Ic(t:List FV):Option (Int×Nm):=match t with
 |[]=>none
 |x::r=>x.onInt λi=>match r with
  |[]=>none
  |y::r=>y.onStr λs=>match r with
   |[]=>some (i,s)
   |_::_=>none
theorem XY{t:List FV}{p:Int×Nm}(e:Ic t=some p):t=[.int p.1,.str p.2]:=by
 cases t with
 |nil=>exact noS e
 |cons x r=>
  refine IF e λi hx e=>?_
  cases r with
  |nil=>exact noS e
  |cons y r=>
   refine Mj e λs hy e=>?_
   cases r with
   |nil=>cases e;rw [hx,hy]
   |cons _ _=>exact noS e
noncomputable def C0(s:St)(k:Nat):Option V:=(s.m[k]?).join
noncomputable def E1(s:St)(k:Nat)(v:V):Option St:=if k<s.m.length then some {s with m:=s.m.set k (some v)} else none
noncomputable def O.okL:O→Bool
 |.ddict _ _=>false
 |.inst _ _=>false
 |_=>true
noncomputable def O.okG:O→Bool
 |.list2 _=>false
 |.inst _ _=>false
 |_=>true
noncomputable def MP:List (Nat×V)→Option (List (Nat×FV))
 |[]=>some []
 |(a,v)::r=>v.onF λx=>(MP r).map ((a,x):: ·)
noncomputable def O.freeze:O→Option FV
 |.list xs=>some (.lst xs)
 |.list2 xss=>some (.lst (xss.map FV.lst))
 |.dict es=>some (.dct es)
 |.inst C fs=>(MP fs).map (FV.obj C)
 |.ba n=>some (.fba n)
 |_=>none
noncomputable def V.subC(k:Nat)(x:FV)(v:V):V:=if v.isC k then .f x else v
noncomputable def V.subG(k:Nat)(x:FV)(v:V):V:=if v.isG k then .f x else v
noncomputable def QP(f:V→V):O→O
 |.inst C fs=>.inst C (fs.map λa=>(a.1,f a.2))
 |o=>o
noncomputable def Xx(k:Nat)(s:St):Option St:=match BY s k with
 |some o=>o.freeze.map λx=>{s with m:=s.m.map (·.map (V.subC k x)),l:=s.l.set k none}
 |none=>some s
noncomputable def Jd(k:Nat)(s:St):Option St:=match BI s k with
 |some o=>o.freeze.map λx=>{s with m:=s.m.map (·.map (V.subG k x)),g:=(s.g.set k none).map (·.map (QP (V.subG k x)))}
 |none=>some s
noncomputable def B7{β:Type}(f:Ev)(h:V→St→Option β):St→Option β:= λs=>(f s).bind λp=>h p.1 p.2
noncomputable def at_{β:Type}(s:St)(o:Option β):Option (β×St):=o.map λr=>(r,s)
noncomputable def Aa(k:Nat):Ev:= λs=>at_ s (C0 s k)
noncomputable def Af(x:FV):Ev:= λs=>some (.f x,s)
noncomputable def B0U:Ev:= λ_=>none
noncomputable def Al(op:St→V→Option V)(f:Ev):Ev:=B7 f λv s=>at_ s (op s v)
noncomputable def C0P:O→Bool
 |.list _=>true
 |.jlist _=>true
 |.list2 _=>true
 |_=>false
noncomputable def VA:O→Bool
 |.dict _=>true
 |.tdict _=>true
 |.ddict _ _=>true
 |_=>false
noncomputable def Gb(s:St)(v:V):Bool:=(view s v).any C0P
noncomputable def EA(s:St)(v:V):Bool:=(view s v).any VA
noncomputable def isStr(_:St)(v:V):Bool:=match v with
 |.f (.str _)=>true
 |_=>false
noncomputable def AH(p:St→V→Bool)(f:Ev):Ev:=B7 f λv s=>if p s v=true then some (v,s) else none
noncomputable def Ao(op:St→V→V→Option V)(f g:Ev):Ev:=B7 f λa=>B7 g λb s=>at_ s (op s a b)
noncomputable def DD:List Ev→St→Option (List V×St)
 |[],s=>some ([],s)
 |f::r,s=>(f s).bind λp=>(DD r p.2).map λq=>(p.1::q.1,q.2)
noncomputable def G4:List V→Option (List FV)
 |[]=>some []
 |v::r=>v.onF λx=>(G4 r).map (x:: ·)
noncomputable def B8(fs:List Ev):Ev:= λs=>(DD fs s).bind λp=>(G4 p.1).map λxs=>(.f (.tup xs),p.2)
noncomputable def E5(c:Cv)(f g:Ev):Ev:= λs=>(c s).bind λp=>cond p.1 (f p.2) (g p.2)
noncomputable def E6(c:Cv):Ev:= λs=>(c s).map λp=>(.f (.bool p.1),p.2)
noncomputable def V.onBool{α:Type}(v:V)(k:Bool→Option α):Option α:=match v with
 |.f x=>match x with
  |.bool b=>k b
  |_=>none
 |_=>none
theorem V.onBoolE{α:Type}{v:V}{k:Bool→Option α}{z:α}{P:Prop}(e:v.onBool k=some z)(h: ∀y,v=.f (.bool y)→k y=some z→P):P:=by
 cases v with
 |f x=>cases x with
  |bool b=>exact h b rfl e
  |_=>exact noS e
 |_=>exact noS e
noncomputable def JV(f g:Ev):Ev:= λs=>(f s).bind λp=>p.1.onBool λb=>cond b (some (.f (.bool true),p.2)) (g p.2)
noncomputable def JU(f g:Ev):Ev:= λs=>(f s).bind λp=>p.1.onBool λb=>cond b (g p.2) (some (.f (.bool false),p.2))
noncomputable def Cf(a:Av):Ev:= λs=>(a s).bind λp=>p.1.freeze.map λx=>(.f x,p.2)
noncomputable def Nx(k:Nat)(s:St):Bool:= !(s.m.any (BP (V.onG k)))&& !(s.g.any (Ey (V.onG k)))
noncomputable def Dq(k:Nat)(a:Av):Ev:= λs=>(a s).bind λp=>if (Nx k p.2&&decide (k<p.2.g.length)&&p.1.okG)=true then some (.g k,{p.2 with g:=p.2.g.set k (some p.1)}) else none
noncomputable def HT(C:Nat):List Nat:=match B6 C 147 with
 |true=>[0,1,2,3,4,5]
 |false=>match B6 C 175 with
  |true=>[0,6,7,8,9]
  |false=>match B6 C 224 with
   |true=>[0,10,11,12]
   |false=>match B6 C 356 with
    |true=>[13,14,3,4,11,15,12,16]
    |false=>match B6 C 377 with
     |true=>[17,18,19,9,2,20]
     |false=>match B6 C 553 with
      |true=>[14,21,22,23,24,25,26,15,3,4]
      |false=>[]
noncomputable def okA(C a:Nat):Bool:=(HT C).any (B6 a)
noncomputable def mk(k C:Nat)(init:List V→List (Option O)→Option (V×List (Option O)))(vs:List V)(g:List (Option O)):Option (V×List (Option O)):=
 if (decide (k<g.length)&& !(g.any (Ey (V.onG k)))&& !(vs.any (V.onG k)))=true then (init (.g k::vs) (g.set k (some (.inst C [])))).bind λp=>p.1.onF λx=>x.onNone (some (.g k,p.2))
 else none
noncomputable def N0(C C':Nat){α:Type}(fs:List (Nat×α)):Bool:=B6 C' C&&fs.all λp=>okA C p.1
noncomputable def XM(C:Nat)(o:O):Bool:=match o with
 |.inst C' fs=>N0 C C' fs
 |_=>false
noncomputable def XR(C:Nat)(s:St)(v:V):Bool:=match v with
 |.f x=>match x with
  |.obj C' fs=>N0 C C' fs
  |_=>false
 |.g k=>(BI s k).any (XM C)
 |_=>false
noncomputable def BL(C:Nat)(B:List Nat)(s:St)(v:V):Bool:=XR C s v&&B.all λj=> !(v.onG j)
noncomputable def JW(k:Nat)(f:Ev):Ev:= λs=>(f s).bind λp=>p.1.onG_ λj=>if B6 j k=true then (BI p.2 k).bind λo=>o.freeze.bind λx=>(Jd k p.2).map λs=>(.f x,s) else none
noncomputable def Zc(B:List Nat)(v:V):Bool:=B.all λj=> !(v.onG j)
noncomputable def CK(B:List Nat)(s:St)(v:V):Bool:=Gb s v&&Zc B v
noncomputable def AB(A:List Nat)(den:List V→List (Option O)→Option (V×List (Option O)))(fs:List Ev):Ev:= λs=>(DD fs s).bind λp=>if (p.1.all V.noC&&(A.all λj=> !(p.2.m.any (BP (V.onG j)))))=true then (den p.1 p.2.g).map λq=>(q.1,{p.2 with g:=q.2}) else none
noncomputable def Ap(a:Nat)(s:St)(v:V):Option V:=match v with
 |.f x=>match x with
  |.obj C fs=>if okA C a then (GB fs a).map V.f else none
  |_=>none
 |.c _=>none
 |.g k=>(BI s k).bind λo=>o.onInst λC fs=>if okA C a then GB fs a else none
 |.d k i=>(BI s k).bind λo=>match o with
  |.ddict C es=>(es[i]?).bind λe=>if okA C a then (GB e.2 a).map V.f else none
  |_=>none
noncomputable def V.ints{α:Type}(a b:V)(k:Int→Int→Option α):Option α:=a.onF λx=>b.onF λy=>x.onInt λi=>y.onInt λj=>k i j
noncomputable def Bf(_:St)(a b:V):Option V:=a.onF λx=>b.onF λy=>x.sw (λi=>y.onInt λj=>some (.f (.int (i+j)))) (λx=>y.onStr λy=>if x.length+y.length≤AM then some (.f (.str (x++y))) else none) λ_=>none
noncomputable def Io(_:St)(a b:V):Option V:=a.ints b λi j=>some (.f (.int (i - j)))
noncomputable def EU(_:St)(a b:V):Option V:=a.ints b λi j=>if small j||small i then some (.f (.int (i*j))) else none
noncomputable def DJ(_:St)(a b:V):Option V:=a.ints b λi j=>if 0<j then some (.f (.int (i % j))) else none
noncomputable def Gi(_:St)(a b:V):Option V:=a.ints b λi j=>if 0<j then (if small i then (if small j then some (.f (.int (i/j))) else none) else none) else none
noncomputable def KQ(_:St)(a:V):Option V:=a.onF λx=>x.onInt λi=>some (.f (.int (-i)))
noncomputable def Jh(xs:List FV)(i:Int):Option V:=if 0≤i then (if i<lim then (xs[i.toNat]?).map V.f else none) else none
noncomputable def MZ(cs:Nm)(i:Int):Option V:=if 0≤i then (if i<lim then (cs[i.toNat]?).map λc=>V.f (.str [c]) else none) else none
noncomputable def AQ(s:St)(a b:V):Option V:=b.onF λy=>y.sw
 (λi=>a.ts (λxs=>Jh xs i) (λcs=>MZ cs i) ((view s a).bind λo=>o.onList λxs=>Jh xs i))
 (λx=>(view s a).bind λo=>o.onD (λes=>(Ay es x).map V.f) λes=>a.onG_ λk=>(Ga es x).map (V.d k))
 (λt=>(Ic t).bind λp=>(view s a).bind λo=>o.onTD λes=>(Ay es p).map V.f)
noncomputable def Oy(xs:List FV)(i:Int):Option V:=if 0≤i then (if xs.length≤16777216 then some (.f (.lst (xs.take i.toNat))) else none) else none
noncomputable def Ip(s:St)(a b:V):Option V:=b.onF λy=>y.onInt λi=>(view s a).bind λo=>o.onList λxs=>Oy xs i
noncomputable def Sz(n:Nat):Option V:=if n<9223372036854775808 then some (.f (.int n)) else none
noncomputable def O.size:O→Option Nat
 |.list xs=>some xs.length
 |.list2 xs=>some xs.length
 |.ba n=>some n
 |_=>none
noncomputable def Ei(s:St)(a:V):Option V:=(view s a).bind λo=>o.size.bind Sz
noncomputable def SS(_:St)(a:V):Option V:=a.onF λx=>x.onInt λi=>some (.f (.int i))
noncomputable def CS(n:Nat):Nm:=(A0O 10 n).map A02
noncomputable def EP(n:Nat):Nm:=(A0O 16 n).map A02
noncomputable def FV.onNat{α:Type}(v:FV)(k:Nat→Option α):Option α:=match v with
 |.int i=>match i with
  |.ofNat n=>k n
  |.negSucc _=>CE
 |_=>CE
theorem C0b{α:Type}{v:FV}{k:Nat→Option α}{z:α}{P:Prop}(e:v.onNat k=some z)(h: ∀y:Nat,v=.int (.ofNat y)→k y=some z→P):P:=by
 cases v with
 |int i=>cases i with
  |ofNat n=>exact h n rfl e
  |negSucc n=>cases e
 |_=>exact noS e
noncomputable def Im(_:St)(a:V):Option V:=a.onF λx=>x.onNat λn=>if n<1000000000 then some (.f (.str (CS n))) else none
noncomputable def KP(_:St)(a:V):Option V:=a.onF λx=>x.onNat λn=>if n<4294967297 then some (.f (.str ([48,120]++EP n))) else none
noncomputable def Zf(s:St)(a:V):Option V:=a.onG_ λk=>(BI s k).bind λo=>o.onBa λn=>if n≤AM then some (.f (.bytesN n)) else none
noncomputable def Il(_:St)(a b:V):Option V:=a.ints b λi j=>some (.f (.int (if i<j then j else i)))
noncomputable def C6:Nm→Nm→Bool
 |[],[]=>false
 |[],_::_=>true
 |_::_,[]=>false
 |a::x,b::y=>if a<b then true else if b<a then false else C6 x y
noncomputable def Gg:Nm→List Nm→Nm
 |x,[]=>x
 |x,y::r=>Gg (if C6 y x then y else x) r
noncomputable def G9:Int→List Int→Int
 |x,[]=>x
 |x,y::r=>G9 (if y<x then y else x) r
noncomputable def E2:List FV→Option (List Nm)
 |[]=>some []
 |x::r=>x.onStr λy=>(E2 r).map (y:: ·)
noncomputable def Ib:List FV→Option (List Int)
 |[]=>some []
 |x::r=>x.onInt λy=>(Ib r).map (y:: ·)
noncomputable def FV.onTup{α:Type}(v:FV)(k:List FV→Option α):Option α:=match v with
 |.tup y=>k y
 |_=>CE
theorem UL{α:Type}{v:FV}{k:List FV→Option α}{z:α}{P:Prop}(e:v.onTup k=some z)(h: ∀y,v=.tup y→k y=some z→P):P:=by
 cases v with
 |tup x=>exact h x rfl e
 |_=>exact noS e
noncomputable def NT:List FV→Option (List (Int×Nm))
 |[]=>some []
 |x::r=>x.onTup λt=>(Ic t).bind λp=>(NT r).map (p:: ·)
noncomputable def Hr(x:Nm):List Nm→List Nm
 |[]=>[x]
 |y::r=>if C6 x y then x::y::r else y::Hr x r
noncomputable def EY:List Nm→List Nm
 |[]=>[]
 |x::r=>Hr x (EY r)
noncomputable def Cb(a b:Int×Nm):Bool:=if a.1<b.1 then true else if b.1<a.1 then false else C6 a.2 b.2
noncomputable def G7(x:Int×Nm):List (Int×Nm)→List (Int×Nm)
 |[]=>[x]
 |y::r=>if Cb x y then x::y::r else y::G7 x r
noncomputable def H3:List (Int×Nm)→List (Int×Nm)
 |[]=>[]
 |x::r=>G7 x (H3 r)
noncomputable def ZU(xs:List FV):Option V:=if xs.length<64 then (NT xs).map λps=>.f (.lst ((H3 ps).map λp=>.tup [.int p.1,.str p.2])) else none
noncomputable def Hu(s:St)(a:V):Option V:=(view s a).bind λo=>match o with
 |.list xs=>ZU xs
 |.ddict _ es=>if es.length<64 then some (.f (.lst ((EY (es.map (·.1))).map FV.str))) else none
 |_=>none
noncomputable def SV(s:St)(a:V):Option V:=a.onC λk=>(BY s k).bind λo=>o.onDict λes=>(Ib (es.map (·.2))).bind λl=>match l with
 |[]=>none
 |x::r=>some (.f (.int (G9 x r)))
noncomputable def SU(_:St)(a:V):Option V:=a.onF λv=>v.onLst λxs=>(E2 xs).bind λl=>match l with
 |[]=>none
 |x::r=>some (.f (.str (Gg x r)))
noncomputable def EC(sep:Nm):List Nm→Nm
 |[]=>[]
 |[x]=>x
 |x::r=>x++sep++EC sep r
noncomputable def Su(sep:Nm)(xs:List FV):Option V:=(E2 xs).bind λys=>if (ys.map J0).sum+ys.length*sep.length≤AM then some (.f (.str (EC sep ys))) else none
noncomputable def NP(s:St)(a b:V):Option V:=a.onF λx=>x.onStr λsep=>(view s b).bind λo=>o.onList λxs=>Su sep xs
noncomputable def orV(x:Option FV)(e:V):V:=match x with
 |some y=>.f y
 |none=>e
noncomputable def NO(s:St)(a b c:V):Option V:=b.onF λy=>y.onStr λx=>(view s a).bind λo=>o.onDict λes=>some (orV (Ay es x) c)
noncomputable def orD(k:Nat)(x:Option Nat):V:=match x with
 |some i=>.d k i
 |none=>.f .none
noncomputable def SQ(s:St)(a b:V):Option V:=a.onG_ λk=>b.onF λy=>y.onStr λx=>(BI s k).bind λo=>o.onDD λes=>some (orD k (Ga es x))
noncomputable def SW(_:St)(a b:V):Option V:=a.onF λx=>b.onF λy=>x.onStr λx=>y.onStr λy=>some (.f (.bool (y.isPrefixOf x)))
noncomputable def IE(op:St→V→V→V→Option V)(f g h:Ev):Ev:=B7 f λa=>B7 g λb=>B7 h λc s=>at_ s (op s a b c)
noncomputable def N0F(a b:V)(s:St):Option (V×St):=a.onC λk=>b.onF λy=>y.onInt λi=>(BY s k).bind λo=>o.onList λxs=>if 0≤i∧xs.length≤16777216 then (xs[i.toNat]?).map λx=>(.f x,{s with l:=s.l.set k (some (.list (xs.eraseIdx i.toNat)))}) else none
noncomputable def Q6(f g:Ev):Ev:=B7 f λa=>B7 g λb=>Mine.N0F a b
noncomputable def N0G(a b:V)(s:St):Option (V×St):=a.onC λk=>b.onF λy=>y.onStr λx=>(BY s k).bind λo=>o.onDict λes=>if es.length≤16777216 then (Ay es x).map λy=>(.f y,{s with l:=s.l.set k (some (.dict (DF es x)))}) else none
noncomputable def Q7(f g:Ev):Ev:=B7 f λa=>B7 g λb=>Mine.N0G a b
noncomputable def AA(op:St→V→V→Option Bool)(f g:Ev):Cv:=B7 f λa=>B7 g λb s=>at_ s (op s a b)
noncomputable def Sg(a b:FV):Option Bool:=a.sw (λi=>b.onInt λj=>some (decide (i=j))) (λx=>b.onStr λy=>some (decide (x=y))) λ_=>none
noncomputable def Bj(_:St)(a b:V):Option Bool:=a.onF λx=>b.onF λy=>Sg x y
noncomputable def FV.emp{α:Type}(y:FV)(l d n:Option α):Option α:=match y with
 |.lst xs=>match xs with
  |[]=>l
  |_::_=>n
 |.dct es=>match es with
  |[]=>d
  |_::_=>n
 |_=>n
theorem B0Y{α:Type}{y:FV}{l d n:Option α}{z:α}{P:Prop}(e:y.emp l d n=some z)(hl:y=.lst []→l=some z→P)(hd:y=.dct []→d=some z→P)(hn:n=some z→P):P:=by
 cases y with
 |lst xs=>cases xs with
  |nil=>exact hl rfl e
  |cons _ _=>exact hn e
 |dct xs=>cases xs with
  |nil=>exact hd rfl e
  |cons _ _=>exact hn e
 |_=>exact hn e
noncomputable def E9(s:St)(a b:V):Option Bool:=b.onF λy=>y.emp
 ((view s a).bind λo=>o.onList λxs=>some (!xs.isEmpty))
 (a.onC λk=>(BY s k).bind λo=>o.onDict λxs=>some (!xs.isEmpty))
 (a.onF λx=>(Sg x y).map (!·))
noncomputable def Hk(_:St)(a b:V):Option Bool:=a.ints b λi j=>some (decide (i<j))
noncomputable def Hj(_:St)(a b:V):Option Bool:=a.ints b λi j=>some (decide (j<i))
noncomputable def V.none?:V→Option Bool
 |.f x=>match x with
  |.none=>some true
  |_=>none
 |.d _ _=>some false
 |_=>none
noncomputable def RJ(_:St)(a b:V):Option Bool:=b.onF λy=>y.onNone a.none?
noncomputable def He(x:Nm)(ys:List Nm):Bool:=ys.any λy=>decide (y=x)
noncomputable def inO(x:Nm)(o:O):Option Bool:=match o with
 |.dict es=>some (Ay es x).isSome
 |.ddict _ es=>some (Ay es x).isSome
 |.list xs=>(E2 xs).map (He x)
 |_=>none
noncomputable def F4(s:St)(a b:V):Option Bool:=a.onF λy=>y.sw (λ_=>none)
 (λx=>b.ts (λxs=>(E2 xs).map (He x)) (λ_=>none) ((view s b).bind (inO x)))
 (λt=>(Ic t).bind λp=>(view s b).bind λo=>o.onTD λes=>some (Ay es p).isSome)
noncomputable def G6(s:St)(a b:V):Option Bool:=(F4 s a b).map (!·)
noncomputable def FN(c d:Cv):Cv:= λs=>(c s).bind λp=>cond p.1 (d p.2) (some (false,p.2))
noncomputable def Qk(c:Cv):Cv:= λs=>(c s).map λp=>(!p.1,p.2)
noncomputable def ID(f:Ev):Cv:= λs=>(f s).bind λp=>p.1.onBool λb=>some (b,p.2)
noncomputable def A.list(fs:List Ev):Av:= λs=>(DD fs s).bind λp=>(G4 p.1).map λxs=>(.list xs,p.2)
noncomputable def A.list2:Av:= λs=>some (.list2 [],s)
noncomputable def A.jlist:Av:= λs=>some (.jlist 0,s)
noncomputable def Gx:Av:= λs=>some (.dict [],s)
noncomputable def B0P:Av:= λs=>some (.tdict [],s)
noncomputable def B0O(C:Nat):Av:= λs=>some (.ddict C [],s)
noncomputable def A.dict(ks:List Nm)(fs:List Ev):Av:= λs=>(DD fs s).bind λp=>(G4 p.1).map λxs=>(.dict (ks.zip xs),p.2)
noncomputable def Pr(c:Cv)(a b:Av):Av:= λs=>(c s).bind λp=>cond p.1 (a p.2) (b p.2)
noncomputable def Pu(f:Ev):Av:= λs=>(f s).bind λp=>p.1.onF λx=>x.onLst λxs=>if xs.length≤16777216 then some (.list xs,p.2) else none
noncomputable def A.dictOf(f:Ev):Av:= λs=>(f s).bind λp=>p.1.onF λx=>x.onDct λes=>if es.length≤16777216 then some (.dict es,p.2) else none
noncomputable def U8:Av:= λs=>some (.ba 0,s)
noncomputable def A.ba(f:Ev):Av:= λs=>(f s).bind λp=>p.1.onF λx=>x.onNat λn=>if n≤AM then some (.ba n,p.2) else none
noncomputable abbrev Iv:=St→Option (List FV×St)
noncomputable def FV.items(x:FV):Option (List FV):=match x with
 |.lst xs=>some xs
 |.tup xs=>some xs
 |_=>CE
noncomputable def I.of(f:Ev):Iv:= λs=>(f s).bind λp=>p.1.onF λx=>at_ p.2 x.items
noncomputable def UT(f:Ev):Iv:= λs=>(f s).bind λp=>p.1.onF λx=>x.onDct λes=>some (es.map λe=>.str e.1,p.2)
noncomputable def I.items(f:Ev):Iv:= λs=>(f s).bind λp=>p.1.onF λx=>x.onDct λes=>some (es.map λe=>.tup [.str e.1,e.2],p.2)
noncomputable def Hl:Nat→List FV→List FV
 |_,[]=>[]
 |n,x::r=>.tup [.int n,x]::Hl (n+1) r
noncomputable def Gy(f:Ev):Iv:= λs=>(f s).bind λp=>p.1.onF λx=>x.onLst λxs=>some (Hl 0 xs,p.2)
noncomputable def I.range(f:Ev):Iv:= λs=>(f s).bind λp=>p.1.onF λx=>x.onInt λi=>if small i=true then some ((FF i.toNat).map λj=>.int (j:Nat),p.2) else none
noncomputable def Hx:List Nat→List FV→St→Option St
 |[],xs,s=>match xs with
  |[]=>some s
  |_::_=>none
 |k::ks,xs,s=>match xs with
  |[]=>none
  |x::xs=>(E1 s k (.f x)).bind (Hx ks xs)
inductive Tg where
 |one (k:Nat)
 |many (ks:List Nat)
noncomputable def Tg.put(t:Tg)(x:FV)(s:St):Option St:=match t with
 |.one k=>E1 s k (.f x)
 |.many ks=>x.onTup λxs=>Hx ks xs s
noncomputable def F0(n:Nat)(fr:List (Nat×Nat))(m:List (Option V)):List (Option V):=fr.foldl (λacc p=>acc.set p.1 ((m[p.2]?).join)) (BW n none)
noncomputable def DE(t:Tg)(c:Cv)(e:Ev):List FV→St→Option (List FV×St)
 |[],s=>some ([],s)
 |x::r,s=>(t.put x s).bind λs1=>(c s1).bind λp=>cond p.1 ((e p.2).bind λq=>q.1.onF λy=>(DE t c e r q.2).bind λz=>some (y::z.1,z.2)) (DE t c e r p.2)
noncomputable def HH:Cv:= λs=>some (true,s)
noncomputable def Ft(A:List Nat)(n:Nat)(fr:List (Nat×Nat))(it:Iv)(t:Tg)(c:Cv)(e:Ev):Ev:= λs=>(it s).bind λp=>if (decide (p.1.length≤16777216)&&A.all λj=> !(p.2.m.any (BP (V.onG j))))=true then (DE t c e p.1 {p.2 with m:=F0 n fr p.2.m}).bind λq=>some (.f (.lst q.1),{q.2 with m:=p.2.m}) else none
noncomputable def RC(t:Tg)(c:Cv)(k e:Ev):List FV→List (Nm×FV)→St→Option (List (Nm×FV)×St)
 |[],acc,s=>some (acc,s)
 |x::r,acc,s=>(t.put x s).bind λs1=>(c s1).bind λp=>cond p.1 ((k p.2).bind λq=>q.1.onF λa=>a.onStr λa=>(e q.2).bind λq=>q.1.onF λy=>RC t c k e r (AE acc a y) q.2) (RC t c k e r acc p.2)
noncomputable def Q4(n:Nat)(fr:List (Nat×Nat))(it:Iv)(t:Tg)(c:Cv)(k e:Ev):Ev:= λs=>(it s).bind λp=>if p.1.length≤16777216 then (Mine.RC t c k e p.1 [] {p.2 with m:=F0 n fr p.2.m}).bind λq=>some (.f (.dct q.1),{q.2 with m:=p.2.m}) else none
noncomputable def N7(i:Int):List (Nm×FV)→Option (List FV)
 |[]=>some []
 |(x,v)::r=>v.onInt λj=>(N7 i r).bind λys=>some (if j=i then .str x::ys else ys)
noncomputable def UE(p q:Nat):Ev:= λs=>(C0 s p).bind λu=>u.onC λk=>(C0 s q).bind λv=>v.onF λz=>z.onInt λi=>(BY s k).bind λo=>o.onDict λes=>if es.length≤16777216 then (Mine.N7 i es).bind λys=>some (.f (.lst ys),s) else none
noncomputable def FQ:Sv:= λ_=>none
noncomputable def Ar:Sv:= λs=>some (.nx,s)
noncomputable def Ae(a b:Sv):Sv:= λs=>(a s).bind λp=>match p.1 with
 |.nx=>b p.2
 |.ct=>some p
 |.rt _=>some p
noncomputable def nxt(o:Option St):Option (Fl×St):=o.map λs=>(.nx,s)
noncomputable def Bp(k:Nat)(f:Ev):Sv:= λs=>(f s).bind λp=>nxt (E1 p.2 k p.1)
noncomputable def IK(ks:List Nat)(f:Ev):Sv:= λs=>(f s).bind λp=>p.1.onF λx=>x.onTup λxs=>nxt (Hx ks xs p.2)
noncomputable def Se(c:Nat)(s:St):Bool:= !(s.m.any (BP (V.isC c)))
noncomputable def SN(k c:Nat)(o:O)(s:St):Option St:=
 let s0:St:={s with m:=s.m.set k none}
 if Se c s0&&decide (c<s.l.length)&&decide (k<s.m.length)&&o.okL then some {s0 with m:=s.m.set k (some (.c c)),l:=s.l.set c (some o)} else none
noncomputable def Dr(k c:Nat)(a:Av):Sv:= λs=>(a s).bind λp=>nxt (Mine.SN k c p.1 p.2)
inductive Src where
 |e (f:Ev)
 |a (c:Nat) (f:Av)
inductive Got where
 |v (x:V)
 |o (c:Nat) (x:O)
noncomputable def Src.run(x:Src)(s:St):Option (Got×St):=match x with
 |.e f=>(f s).map λp=>(.v p.1,p.2)
 |.a c f=>(f s).map λp=>(.o c p.1,p.2)
noncomputable def EZ:List Src→St→Option (List Got×St)
 |[],s=>some ([],s)
 |x::r,s=>(x.run s).bind λp=>(EZ r p.2).map λq=>(p.1::q.1,q.2)
noncomputable def Got.put(k:Nat)(x:Got)(s:St):Option St:=match x with
 |.v u=>if u.noC=true then E1 s k u else none
 |.o c y=>SN k c y s
noncomputable def Ia:List Nat→List Got→St→Option St
 |[],xs,s=>match xs with
  |[]=>some s
  |_::_=>none
 |k::ks,xs,s=>match xs with
  |[]=>none
  |x::r=>(x.put k s).bind (Ia ks r)
noncomputable def VE(ks:List Nat)(fs:List Src):Sv:= λs=>(EZ fs s).bind λp=>nxt (Ia ks p.1 p.2)
noncomputable def IJ(ks:List Nat)(fs:List Src):Sv:= λs=>(EZ fs s).bind λp=>nxt (Ia ks.reverse p.1.reverse p.2)
noncomputable def V.offC?(w:V):Option V:=match w with
 |.f _=>some w
 |.g _=>some w
 |_=>none
noncomputable def setAttr(a:Nat)(v w:V)(s:St):Option St:=match v with
 |.g k=>(BI s k).bind λo=>o.onInst λC fs=>w.offC?.bind λw=>if (okA C a&&decide (fs.length<100))=true then some {s with g:=s.g.set k (some (.inst C (Ht fs a w)))} else none
 |.d k i=>(BI s k).bind λo=>match o with
  |.ddict C es=>w.onF λx=>(es[i]?).bind λe=>if (okA C a&&decide (e.2.length<100))=true then some {s with g:=s.g.set k (some (.ddict C (es.set i (e.1,Ht e.2 a x))))} else none
  |_=>none
 |_=>none
noncomputable def Ba(o:Ev)(a:Nat)(f:Ev):Sv:=B7 f λw=>B7 o λv s=>nxt (Mine.setAttr a v w s)
noncomputable def setItem(v i w:V)(s:St):Option St:=w.onF λx=>i.onF λy=>(deref s v).bind λo=>y.sw
 (λj=>v.onG_ λ_=>o.onList λxs=>if 0≤j∧j.toNat<xs.length∧xs.length<1000 then some (v.wr (.list (xs.set j.toNat x)) s) else none)
 (λy=>o.onDict λes=>if es.length<AM then some (v.wr (.dict (AE es y x)) s) else none)
 (λt=>(Ic t).bind λp=>v.onG_ λ_=>o.onTD λes=>if es.length<AM then some (v.wr (.tdict (AE es p x)) s) else none)
noncomputable def Di(o i f:Ev):Sv:=B7 f λw=>B7 o λv=>B7 i λj s=>nxt (Mine.setItem v j w s)
noncomputable def V.onD(k:Nat):V→Bool
 |.d j _=>B6 j k
 |_=>false
noncomputable def G07(k k' C C' j:Nat)(n:Nat)(s:St):Bool:=B6 k k'&&B6 C C'&& !(B6 k j)&&decide (n<16000000)&& !(s.m.any (BP (V.onD k)))&& !(s.g.any (Ey (V.onD k)))
noncomputable def N0J(k:Nat)(v i w:V)(s:St):Option St:=v.onG_ λk'=>i.onF λx=>x.onStr λy=>w.onG_ λj=>(BI s k).bind λo=>match o with
 |.ddict C es=>(BI s j).bind λo'=>o'.onInst λC' fs=>match Ay es y with
  |none=>(MP fs).bind λfs'=>if G07 k k' C C' j es.length s=true then some {s with g:=(s.g.set j none).set k (some (.ddict C (es++[(y,fs')])))} else none
  |some _=>none
 |_=>none
noncomputable def QY(k:Nat)(o i f:Ev):Sv:=B7 f λw=>B7 o λv=>B7 i λj s=>nxt (Mine.N0J k v j w s)
noncomputable def FV.onFba{α:Type}(v:FV)(k:Nat→Option α):Option α:=match v with
 |.fba y=>k y
 |_=>CE
theorem B0Z{α:Type}{v:FV}{k:Nat→Option α}{z:α}{P:Prop}(e:v.onFba k=some z)(h: ∀y,v=.fba y→k y=some z→P):P:=by
 cases v with
 |fba x=>exact h x rfl e
 |_=>exact noS e
noncomputable def N0K(v i j w:V)(s:St):Option St:=v.onG_ λk=>i.ints j λa b=>w.onF λx=>x.onFba λn=>(BI s k).bind λo=>o.onBa λt=>if 0≤a∧a≤b∧b≤(t:Int)∧b - a=(n:Int)∧t≤AM then some {s with g:=s.g.set k (some (.ba t))} else none
noncomputable def QZ(o i j f:Ev):Sv:=B7 f λw=>B7 o λv=>B7 i λa=>B7 j λb s=>nxt (Mine.N0K v a b w s)
noncomputable def append(v w:V)(s:St):Option St:=(deref s v).bind λo=>match o with
 |.list xs=>w.onF λx=>if xs.length<AM then some (v.wr (.list (xs++[x])) s) else none
 |.jlist n=>v.onG_ λ_=>if n<AM then some (v.wr (.jlist (n+1)) s) else none
 |_=>none
noncomputable def CJ(o f:Ev):Sv:=B7 o λv=>B7 f λw s=>nxt (Mine.append v w s)
noncomputable def QV(o:Ev):Sv:=B7 o λv s=>v.onC λk=>(BY s k).bind λo=>o.onList2 λxss=>if xss.length<AM then some (.nx,{s with l:=s.l.set k (some (.list2 (xss++[[]])))}) else none
noncomputable def N01(v i x y:V)(s:St):Option St:=v.onC λk=>i.onF λi=>i.onInt λj=>x.onF λx=>y.onF λy=>(BY s k).bind λo=>o.onList2 λxss=>if 0≤j∧j<9223372036854775808 then (xss[j.toNat]?).bind λxs=>if xs.length<16000000 then some {s with l:=s.l.set k (some (.list2 (xss.set j.toNat (xs++[.tup [x,y]]))))} else none else none
noncomputable def MB(o i:Ev)(p1 p2:Nat):Sv:=B7 o λv=>B7 i λj s=>(C0 s p1).bind λx=>(C0 s p2).bind λy=>nxt (Mine.N01 v j x y s)
noncomputable def N05(v w:V)(s:St):Option St:=v.onC λk=>w.onF λx=>x.onLst λys=>(BY s k).bind λo=>o.onList λxs=>if xs.length+ys.length<AM then some {s with l:=s.l.set k (some (.list (xs++ys)))} else none
noncomputable def QW(o f:Ev):Sv:=B7 o λv=>B7 f λw s=>nxt (Mine.N05 v w s)
noncomputable def Z8(es:List (Nm×FV))(y:Nm)(x:FV)(k:Nat)(s:St):St:=match Ay es y with
 |some _=>s
 |none=>{s with g:=s.g.set k (some (.dict (es++[(y,x)])))}
noncomputable def N0L(v i w:V)(s:St):Option St:=v.onG_ λk=>i.onF λi=>i.onStr λy=>w.onF λx=>(BI s k).bind λo=>o.onDict λes=>if es.length<AM then some (Z8 es y x k s) else none
noncomputable def Ra(o i f:Ev):Sv:=B7 o λv=>B7 i λj=>B7 f λw s=>nxt (Mine.N0L v j w s)
noncomputable def Hc(f:Ev):Sv:= λs=>(f s).map λp=>(.nx,p.2)
noncomputable def BN(f:Ev):Sv:= λs=>(f s).map λp=>(.rt p.1,p.2)
noncomputable def VD:Sv:= λs=>some (.ct,s)
noncomputable def BB(c:Cv)(a b:Sv):Sv:= λs=>(c s).bind λp=>cond p.1 (a p.2) (b p.2)
noncomputable def Ee(k:Nat):Sv:= λs=>nxt (Mine.Xx k s)
noncomputable def D4(k:Nat):Sv:= λs=>nxt (Mine.Jd k s)
noncomputable def stp(t:Tg)(b:Sv)(x:FV)(s:St):Option (Fl×St):=(t.put x s).bind b
noncomputable def CB(t:Tg)(b:Sv):List FV→St→Option (Fl×St)
 |[],s=>some (.nx,s)
 |x::r,s=>(stp t b x s).bind λp=>cond p.1.isRt (some p) (CB t b r p.2)
noncomputable def Bn(t:Tg)(it:Iv)(b:Sv):Sv:= λs=>(it s).bind λp=>CB t b p.1 p.2
noncomputable def MC(it:Iv):Sv:= λs=>(it s).bind λp=>match p.1 with
 |[]=>some (.nx,p.2)
 |_::_=>none
noncomputable def F0B(k:Nat)(a b:Nat)(body:Sv):Nat→Nat→St→Option (Fl×St)
 |0,_,s=>some (.nx,s)
 |n+1,i,s=>(BI s k).bind λo=>o.onDD λes=>if es.length=i+n+1 then (es[i]?).bind λe=>(E1 s a (.f (.str e.1))).bind λs0=>(E1 s0 b (.d k i)).bind λs1=>(body s1).bind λp=>cond p.1.isRt (some p) (F0B k a b body n (i+1) p.2) else none
noncomputable def Ji(k:Nat)(s:St):Option Nat:=(BI s k).bind λo=>o.onDD λes=>some es.length
noncomputable def QX(a b:Nat)(f:Ev)(body:Sv):Sv:= λs=>(f s).bind λp=>p.1.onG_ λk=>(Ji k p.2).bind λn=>(Mine.F0B k a b body n 0 p.2).bind λq=>if Ji k q.2=some n then some q else none
noncomputable def GL(c:Cv)(b:Sv):Nat→St→Option (Fl×St)
 |0,_=>none
 |n+1,s=>(c s).bind λp=>cond p.1 ((b p.2).bind λq=>cond q.1.isRt (some q) (GL c b n q.2)) (some (.nx,p.2))
noncomputable def Rb(fuel:Nat)(c:Cv)(b:Sv):Sv:=GL c b fuel
noncomputable def V.ret?(v:V):Option V:=match v with
 |.c _=>none
 |.f _=>some v
 |.g _=>some v
 |.d _ _=>some v
noncomputable def run(n q:Nat)(body:Sv)(vs:List V)(g:List (Option O)):Option (V×List (Option O)):=
 (body ⟨vs.map some++BW (n - vs.length) none,BW q none,g⟩).bind λp=>match p.1 with
  |.rt v=>v.ret?.map λv=>(v,p.2.g)
  |.nx=>some (.f .none,p.2.g)
  |.ct=>none
noncomputable abbrev rw0:OpenRow:=M0v.row
noncomputable def pg:B0h:=rw0.toRowW.prog
noncomputable def S'(x:Nm):Str:=⟨x.toArray⟩
noncomputable def Wu:List Nm:=[[110,97,109,101],[107,105,110,100],[97,108,105,103,110],[111,99,116,101,116,115],[98,115,115,95,115,105,122,101],[102,105,120,117,112,115],[115,101,99,116,105,111,110],[118,97,108,117,101],[98,105,110,100,105,110,103],[115,105,122,101],[115,101,99,116,105,111,110,115],[115,121,109,98,111,108,115],[108,105,110,101,115],[101,110,116,114,121],[98,97,115,101],[112,105,101,99,101,115],[110,97,109,101,115],[114,97,110,107],[110,117,109,98,101,114],[115,121,109,98,111,108],[97,100,100,114,101,115,115],[111,98,106,101,99,116,115],[116,97,98,108,101,115],[100,101,102,105,110,105,116,105,111,110,115],[119,97,110,116,101,100],[115,116,97,114,116,115],[109,97,114,107,115]]
noncomputable def Bh(a:Nat):Str:=S' (Wu.getD a [0,a])
inductive Tag where
 |cm (k:Nat)
 |ci (k i:Nat)
 |gm (k:Nat)
 |gd (k:Nat)
 |dm (k i:Nat)
 |dd (k i:Nat)
structure Wd where
 c:Nat→Option Addr
 g:Nat→Option Addr
 d:Nat→Nat→Option Addr
 ow:Addr→Option Tag
 fz:Addr→Prop
noncomputable abbrev C5(ys:Array Ab)(n:Nat):Obj:={cls:=.type "list",data:=.seq ys n}
noncomputable abbrev T1(ys:Array Ab)(n:Nat):Obj:={cls:=.type "tuple",data:=.seq ys n}
noncomputable abbrev Cj(b:Array UInt8):Obj:={cls:=.type "bytearray",data:=.bytearray b 0}
noncomputable abbrev instObj(C d:Addr):Obj:={cls:=.ref C,dict:=some d,data:=.plain}
inductive Cs{α:Type}(ys:List α)(p:α→Prop)(q:List α→Prop):Prop
 |mk (y:α) (r:List α) (e:ys=y::r) (a:p y) (b:q r)
noncomputable def RelL{ι α:Type}(R:ι→α→Prop):List ι→List α→Prop
 |[]=> λys=>ys=[]
 |x::xs=> λys=>Cs ys (R x) (RelL R xs)
noncomputable def RelI{ι α:Type}(R:Nat→ι→α→Prop):List ι→Nat→List α→Prop
 |[]=> λ_ ys=>ys=[]
 |x::xs=> λi ys=>Cs ys (R i x) (RelI R xs (i+1))
section
variable{ι α:Type}{R R':ι→α→Prop}{I I':Nat→ι→α→Prop}{x:ι}{xs:List ι}{ys:List α}
theorem JQ{p:α→Prop}{q:List α→Prop}{P:List α→Prop}(h:Cs ys p q)(k: ∀y r,p y→q r→P (y::r)):P ys:=h.casesOn λy r e a b=>Au e▸k y r a b
theorem RelL.nil{P:List α→Prop}(h:RelL R [] ys)(k:P []):P ys:=Au (h:ys=[])▸k
theorem RelL.cons{P:List α→Prop}(h:RelL R (x::xs) ys)(k: ∀y r,R x y→RelL R xs r→P (y::r)):P ys:=JQ h k
theorem RelL.mk{y:α}{r:List α}(a:R x y)(b:RelL R xs r):RelL R (x::xs) (y::r):=⟨y,r,rfl,a,b⟩
theorem RelL.mono: ∀{xs ys},(∀x∈xs,∀y,R x y→R' x y)→RelL R xs ys→RelL R' xs ys:= λ{xs}=>by
 induction xs with
 |nil=>exact λ_ e=>e
 |cons x xs ih=>exact λk e=>e.cons λy r a b=>.mk (k x (.head _) y a) (ih (λz h=>k z (.tail _ h)) b)
theorem RelL.len: ∀{xs ys},RelL R xs ys→xs.length=ys.length:= λ{xs}=>by
 induction xs with
 |nil=>exact λe=>e.nil (P:= λys=>0=ys.length) rfl
 |cons x xs ih=>exact λe=>e.cons (P:= λys=>xs.length+1=ys.length) λy r _ b=>congrArg (· +1) (ih b)
theorem RelL.get{P:Prop}: ∀{xs ys},RelL R xs ys→∀{i:Nat} {x:ι},xs[i]?=some x→(∀y,ys[i]?=some y→R x y→P)→P:= λ{xs}=>by
 induction xs with
 |nil=>exact λ_ i x q _=>noS q
 |cons a xs ih=>
  refine λe i=>e.cons (P:= λys=> ∀{x},(a::xs)[i]?=some x→(∀y,ys[i]?=some y→R x y→P)→P) λy r h b=>?_
  cases i with
  |zero=>exact λq k=>k y rfl (An q▸h)
  |succ i=>exact λq k=>ih b q k
theorem RelL.append: ∀{xs ys} {xs':List ι} {ys':List α},RelL R xs ys→RelL R xs' ys'→RelL R (xs++xs') (ys++ys'):= λ{xs}=>by
 induction xs with
 |nil=>exact λe e'=>e.nil (P:= λys=>RelL R _ (ys++_)) e'
 |cons x xs ih=>exact λe e'=>e.cons (P:= λys=>RelL R _ (ys++_)) λy r a b=>.mk a (ih b e')
theorem RelL.one{y:α}(a:R x y):RelL R [x] [y]:=.mk a rfl
theorem RelL.take: ∀{xs ys},RelL R xs ys→∀n,RelL R (xs.take n) (ys.take n):= λ{xs}=>by
 induction xs with
 |nil=>exact λe n=>e.nil (P:= λys=>RelL R ([].take n) (ys.take n)) (by refine L0L.symm▸?_;refine L0L.symm▸?_;rfl)
 |cons x xs ih=>
  refine λe n=>e.cons (P:= λys=>RelL R _ (ys.take n)) λy r a b=>?_
  cases n with
  |zero=>rfl
  |succ n=>exact .mk a (ih b n)
theorem RelL.set: ∀{xs ys},RelL R xs ys→∀{n:Nat} {y:ι} {z:α},R y z→RelL R (xs.set n y) (ys.set n z):= λ{xs}=>by
 induction xs with
 |nil=>exact λe n y z _=>e.nil (P:= λys=>RelL R _ (ys.set n z)) rfl
 |cons x xs ih=>
  refine λe n y z h=>e.cons (P:= λys=>RelL R _ (ys.set n z)) λy r a b=>?_
  cases n with
  |zero=>exact .mk h b
  |succ n=>exact .mk a (ih b h)
theorem RelL.erase: ∀{xs ys},RelL R xs ys→∀n,RelL R (xs.eraseIdx n) (ys.eraseIdx n):= λ{xs}=>by
 induction xs with
 |nil=>exact λe n=>e.nil (P:= λys=>RelL R _ (ys.eraseIdx n)) rfl
 |cons x xs ih=>
  refine λe n=>e.cons (P:= λys=>RelL R _ (ys.eraseIdx n)) λy r a b=>?_
  cases n with
  |zero=>exact b
  |succ n=>exact .mk a (ih b n)
theorem RelI.nil{P:List α→Prop}{i:Nat}(h:RelI I [] i ys)(k:P []):P ys:=Au (h:ys=[])▸k
theorem RelI.cons{P:List α→Prop}{i:Nat}(h:RelI I (x::xs) i ys)(k: ∀y r,I i x y→RelI I xs (i+1) r→P (y::r)):P ys:=JQ h k
theorem RelI.mk{y:α}{r:List α}{i:Nat}(a:I i x y)(b:RelI I xs (i+1) r):RelI I (x::xs) i (y::r):=⟨y,r,rfl,a,b⟩
theorem RelI.mono: ∀{xs i ys},(∀j x,i≤j→∀y,I j x y→I' j x y)→RelI I xs i ys→RelI I' xs i ys:= λ{xs}=>by
 induction xs with
 |nil=>exact λ_ e=>e
 |cons x xs ih=>exact λk e=>e.cons λy r a b=>.mk (k _ x (A9 _) y a) (ih (λj z h=>k j z (A0K h)) b)
theorem RelI.len: ∀{xs i ys},RelI I xs i ys→xs.length=ys.length:= λ{xs}=>by
 induction xs with
 |nil=>exact λe=>e.nil (P:= λys=>0=ys.length) rfl
 |cons x xs ih=>exact λe=>e.cons (P:= λys=>xs.length+1=ys.length) λy r _ b=>congrArg (· +1) (ih b)
theorem RelI.get{P:Prop}: ∀{xs j ys},RelI I xs j ys→∀{i:Nat} {x:ι},xs[i]?=some x→(∀y,ys[i]?=some y→I (j+i) x y→P)→P:= λ{xs}=>by
 induction xs with
 |nil=>exact λ_ i x q _=>noS q
 |cons a xs ih=>
  refine λ{j ys} e i=>e.cons (P:= λys=> ∀{x},(a::xs)[i]?=some x→(∀y,ys[i]?=some y→I (j+i) x y→P)→P) λy r h b=>?_
  cases i with
  |zero=>exact λq k=>k y rfl (An q▸h)
  |succ i=>exact λq k=>ih b q λy e h=>k y e (Fg j i▸h)
theorem RelI.upd{x':ι}: ∀{xs j ys},RelI I xs j ys→∀{i:Nat},xs[i]?=some x→(∀m z y,m≠j+i→I m z y→I' m z y)→(∀y,ys[i]?=some y→I (j+i) x y→I' (j+i) x' y)→RelI I' (xs.set i x') j ys:= λ{xs}=>by
 induction xs with
 |nil=>exact λ_ i q _ _=>noS q
 |cons a xs ih=>
  refine λ{j ys} e i=>e.cons (P:= λys=>(a::xs)[i]?=some x→(∀m z y,m≠j+i→I m z y→I' m z y)→(∀y,ys[i]?=some y→I (j+i) x y→I' (j+i) x' y)→RelI I' ((a::xs).set i x') j ys) λy r h b=>?_
  cases i with
  |zero=>exact λq n k=>.mk (k y rfl (An q▸h)) (RelI.mono (λm z l y=>n m z y (A0N l)) b)
  |succ i=>exact λq n k=>.mk (n j a y (C4 (H8 (FH i))) h) (ih b q (λm z y l=>n m z y λe=>l (e.trans (Fg j i).symm)) λy e h=>Au (Fg j i)▸k y e (Fg j i▸h))
theorem RelI.upd': ∀{xs j ys},RelI I xs j ys→(∀m z y,m<j+xs.length→I m z y→I' m z y)→RelI I' xs j ys:= λ{xs}=>by
 induction xs with
 |nil=>exact λe _=>e
 |cons a xs ih=>exact λ{j ys} e k=>e.cons λy r h b=>.mk (k j a y (H8 (FH _)) h) (ih b λm z y l=>k m z y (Fg j xs.length▸l))
theorem RelI.snoc{y:α}: ∀{xs j ys},RelI I xs j ys→I (j+xs.length) x y→RelI I (xs++[x]) j (ys++[y]):= λ{xs}=>by
 induction xs with
 |nil=>exact λe h=>e.nil (P:= λys=>RelI I _ _ (ys++_)) (.mk h rfl)
 |cons a xs ih=>exact λ{j ys} e h=>e.cons (P:= λys=>RelI I _ _ (ys++_)) λy r a b=>.mk a (ih b (Fg j xs.length▸h))
end
inductive Fz(fz:Addr→Prop)(x:Ab)(p:Addr→Prop):Prop
 |mk (a:Addr) (e:x=.ref a) (f:fz a) (h:p a)
inductive LstP(h:Heap)(a:Addr)(r:List Ab→Prop):Prop
 |mk (ys:Array Ab) (n:Nat) (e:h.get? a=some (C5 ys n)) (q:r ys.toList)
inductive TupP(h:Heap)(a:Addr)(r:List Ab→Prop):Prop
 |mk (ys:Array Ab) (e:h.IsTuple a ys) (q:r ys.toList)
inductive DctP(w:A5)(h:Heap)(a:Addr)(r:List (Str×Ab)→Prop):Prop
 |mk (kvs:List (Str×Ab)) (e:h.DictOf (strKind pg w) a kvs) (q:r kvs)
inductive BaP(h:Heap)(a:Addr)(n:Nat):Prop
 |mk (b:Array UInt8) (e:h.get? a=some (Cj b)) (q:b.size=n)
inductive InP(h:Heap)(a:Addr)(C:Nat)(r:Addr→List CF→Prop):Prop
 |mk (d:Addr) (es:List CF) (n:Nat) (e1:h.get? a=some (instObj C d)) (e2:h.get? d=some (Gr es n)) (q:r d es)
inductive AtE(a:Nat)(p:Ab→Prop)(e:CF):Prop
 |mk (t:Tok) (k:e.key=.str (Bh a) t) (v:p e.val)
inductive KvE(k:Nm)(p:Ab→Prop)(e:Str×Ab):Prop
 |mk (y:Ab) (e:e=(S' k,y)) (v:p y)
section
variable{w:A5}{fz fz':Addr→Prop}{h h':Heap}{x:Ab}{a:Addr}
theorem HJ{K:Type}[DecidableEq K]{knd:KeyKind pg w K}{kvs:List (K×Ab)}(D:h.DictOf knd a kvs)(k: ∀o,h.get? a=some o→h'.get? a=some o):h'.DictOf knd a kvs:=Xg D λo es ep e r=>⟨o,es,ep,k o e,r⟩
theorem Fz.mono{p p':Addr→Prop}(e:Fz fz x p)(hf: ∀a,fz a→fz' a)(k: ∀a,fz a→p a→p' a):Fz fz' x p':=e.casesOn λa e1 e2 e3=>⟨a,e1,hf a e2,k a e2 e3⟩
theorem Dx{p:Addr→Prop}{P:Ab→Prop}(e:Fz fz x p)(k: ∀a,fz a→p a→P (.ref a)):P x:=e.casesOn λa e1 e2 e3=>e1▸k a e2 e3
theorem LstP.mono{r r':List Ab→Prop}(e:LstP h a r)(k: ∀o,h.get? a=some o→h'.get? a=some o)(q: ∀ys,r ys→r' ys):LstP h' a r':=e.casesOn λys n e1 e2=>⟨ys,n,k _ e1,q _ e2⟩
theorem TupP.mono{r r':List Ab→Prop}(e:TupP h a r)(k: ∀o,h.get? a=some o→h'.get? a=some o)(q: ∀ys,r ys→r' ys):TupP h' a r':=e.casesOn λys e1 e2=>⟨ys,e1.imp λo e=>e.imp_left (k o),q _ e2⟩
theorem DctP.mono{r r':List (Str×Ab)→Prop}(e:DctP w h a r)(k: ∀o,h.get? a=some o→h'.get? a=some o)(q: ∀ys,r ys→r' ys):DctP w h' a r':=e.casesOn λys e1 e2=>⟨ys,HJ e1 k,q _ e2⟩
theorem BaP.mono{n:Nat}(e:BaP h a n)(k: ∀o,h.get? a=some o→h'.get? a=some o):BaP h' a n:=e.casesOn λb e1 e2=>⟨b,k _ e1,e2⟩
theorem InP.mono{C:Nat}{r r':Addr→List CF→Prop}(e:InP h a C r)(k: ∀o,h.get? a=some o→h'.get? a=some o)(q: ∀d ys,r d ys→(∀o,h.get? d=some o→h'.get? d=some o)∧r' d ys):InP h' a C r':=e.casesOn λd es n e1 e2 e3=>⟨d,es,n,k _ e1,(q d es e3).1 _ e2,(q d es e3).2⟩
theorem AtE.mono{b:Nat}{p p':Ab→Prop}{e:CF}(x:AtE b p e)(k: ∀y,p y→p' y):AtE b p' e:=x.casesOn λt a b=>⟨t,a,k _ b⟩
theorem KvE.mono{b:Nm}{p p':Ab→Prop}{e:Str×Ab}(x:KvE b p e)(k: ∀y,p y→p' y):KvE b p' e:=x.casesOn λt a b=>⟨t,a,k _ b⟩
end
section
variable(w:A5)(fz:Addr→Prop)(h:Heap)
mutual
noncomputable def FR:FV→Ab→Prop
 |.none=> λx=>x=.none
 |.bool b=> λx=>x=.bool b
 |.int i=> λx=> ∃t,x=.int i t
 |.str s=> λx=> ∃t,x=.str (S' s) t
 |.bytesN n=> λx=> ∃b t,x=.bytes b t∧b.size=n
 |.fba n=> λx=>Fz fz x λa=>BaP h a n
 |.tup xs=> λx=>Fz fz x λa=>TupP h a (FRl xs)
 |.lst xs=> λx=>Fz fz x λa=>LstP h a (FRl xs)
 |.dct es=> λx=>Fz fz x λa=>(a==Ec)=false∧DctP w h a (FRm es)
 |.obj C fs=> λx=>Fz fz x λa=>InP h a C λd es=>fz d∧FRa fs es
noncomputable def FRl:List FV→List Ab→Prop
 |[]=> λys=>ys=[]
 |x::xs=> λys=>Cs ys (FR x) (FRl xs)
noncomputable def FRm:List (Nm×FV)→List (Str×Ab)→Prop
 |[]=> λys=>ys=[]
 |(k,x)::xs=> λys=>Cs ys (KvE k (FR x)) (FRm xs)
noncomputable def FRa:List (Nat×FV)→List CF→Prop
 |[]=> λys=>ys=[]
 |(a,x)::xs=> λys=>Cs ys (AtE a (FR x)) (FRa xs)
end
def FRs:List FV→List Ab→Prop:=RelL (FR w fz h)
def FRd:List (Nm×FV)→List (Str×Ab)→Prop:=RelL λe=>KvE e.1 (FR w fz h e.2)
def FRo:List (Nat×FV)→List CF→Prop:=RelL λe=>AtE e.1 (FR w fz h e.2)
theorem Dh: ∀xs,FRl w fz h xs=FRs w fz h xs:= λxs=>by
 induction xs with
 |nil=>rfl
 |cons x xs ih=>exact congrArg (λq ys=>Cs ys (FR w fz h x) q) ih
theorem HK: ∀xs,FRm w fz h xs=FRd w fz h xs:= λxs=>by
 induction xs with
 |nil=>rfl
 |cons x xs ih=>exact congrArg (λq ys=>Cs ys (KvE x.1 (FR w fz h x.2)) q) ih
theorem Q8: ∀xs,FRa w fz h xs=FRo w fz h xs:= λxs=>by
 induction xs with
 |nil=>rfl
 |cons x xs ih=>exact congrArg (λq ys=>Cs ys (AtE x.1 (FR w fz h x.2)) q) ih
end
section
variable{w:A5}{fz fz':Addr→Prop}{h h':Heap}
theorem FR.mono{v:FV}{x:Ab}(hf: ∀a,fz a→fz' a)(hk: ∀a,fz a→∀o,h.get? a=some o→h'.get? a=some o):FR w fz h v x→FR w fz' h' v x:=
 FV.rec (motive_1:= λv=> ∀x,FR w fz h v x→FR w fz' h' v x) (motive_2:= λv=> ∀x,FRl w fz h v x→FRl w fz' h' v x) (motive_3:= λv=> ∀x,FRm w fz h v x→FRm w fz' h' v x) (motive_4:= λv=> ∀x,FRa w fz h v x→FRa w fz' h' v x)
  (motive_5:= λv=> ∀x,FR w fz h v.2 x→FR w fz' h' v.2 x) (motive_6:= λv=> ∀x,FR w fz h v.2 x→FR w fz' h' v.2 x)
  (λ_ e=>e) (λ_ _ e=>e) (λ_ _ e=>e) (λ_ _ e=>e) (λ_ _ e=>e) (λ_ _ e=>Fz.mono e hf λa f e=>e.mono (hk a f))
  (λ_ ih _ e=>Fz.mono e hf λa f e=>e.mono (hk a f) ih) (λ_ ih _ e=>Fz.mono e hf λa f e=>e.mono (hk a f) ih) (λ_ ih _ e=>Fz.mono e hf λa f e=>⟨e.1,e.2.mono (hk a f) ih⟩)
  (λ_ _ ih _ e=>Fz.mono e hf λa f e=>e.mono (hk a f) λd es e=>⟨hk d e.1,hf d e.1,ih es e.2⟩)
  (λ_ e=>e) (λ_ _ i1 i2 _ e=>JQ e λy r a b=>⟨y,r,rfl,i1 y a,i2 r b⟩)
  (λ_ e=>e) (λ_ _ i1 i2 _ e=>JQ e λy r a b=>⟨y,r,rfl,a.mono i1,i2 r b⟩)
  (λ_ e=>e) (λ_ _ i1 i2 _ e=>JQ e λy r a b=>⟨y,r,rfl,a.mono i1,i2 r b⟩)
  (λ_ _ i=>i) (λ_ _ i=>i) v x
theorem FRs.mono{v:List FV}{x:List Ab}(hf: ∀a,fz a→fz' a)(hk: ∀a,fz a→∀o,h.get? a=some o→h'.get? a=some o)(e:FRs w fz h v x):FRs w fz' h' v x:=RelL.mono (λ_ _ _=>FR.mono hf hk) e
theorem FRd.mono{v:List (Nm×FV)}{x:List (Str×Ab)}(hf: ∀a,fz a→fz' a)(hk: ∀a,fz a→∀o,h.get? a=some o→h'.get? a=some o)(e:FRd w fz h v x):FRd w fz' h' v x:=RelL.mono (λ_ _ _ e=>e.mono λ_=>FR.mono hf hk) e
theorem FRo.mono{v:List (Nat×FV)}{x:List CF}(hf: ∀a,fz a→fz' a)(hk: ∀a,fz a→∀o,h.get? a=some o→h'.get? a=some o)(e:FRo w fz h v x):FRo w fz' h' v x:=RelL.mono (λ_ _ _ e=>e.mono λ_=>FR.mono hf hk) e
theorem FRs.length{v:List FV}{x:List Ab}(e:FRs w fz h v x):v.length=x.length:=RelL.len e
end
def VR(w:A5)(ω:Wd)(h:Heap):V→Ab→Prop
 |.f x,v=>FR w ω.fz h x v
 |.c k,v=> ∃a,ω.c k=some a∧v=.ref a
 |.g k,v=> ∃a,ω.g k=some a∧v=.ref a
 |.d k i,v=> ∃a,ω.d k i=some a∧v=.ref a
def VRo(w:A5)(ω:Wd)(h:Heap):List (Nat×V)→List CF→Prop:=RelL λe=>AtE e.1 (VR w ω h e.2)
noncomputable def GA:Int⊕Str→Ab→Bool
 |.inl i,v=>B0j i v
 |.inr x,v=>B0k x v
noncomputable def Y9(w:A5):Int⊕Str→Int
 |.inl i=>hashInt i
 |.inr x=>hashStr w x
section
variable{w:A5}
theorem K0F{A:Aw}{E:Ab→Ac→Prop}{s:Ac}{a:Int}{b:Str}{t u:Tok}{Q:Bool→Ac→Prop}(h:Q false s):wpAny (Ag pg w) A (Pd (.int a t) (.str b u)) Q E s:=by
 dsimp only [Pd]
 refine Cp ?_
 rw [if_neg (by simp)]
 exact Aq (EqMixed.eq_int_str (JP h))
theorem K0G{A:Aw}{E:Ab→Ac→Prop}{s:Ac}{a:Str}{b:Int}{t u:Tok}{Q:Bool→Ac→Prop}(h:Q false s):wpAny (Ag pg w) A (Pd (.str a t) (.int b u)) Q E s:=by
 dsimp only [Pd]
 refine Cp ?_
 rw [if_neg (by simp)]
 exact Aq (EqMixed.eq_str_int (JP h))
theorem I0b{A:Aw}{E:Ab→Ac→Prop}{s:Ac}{a b:Int⊕Str}{u v:Ab}{Q:Bool→Ac→Prop}(hu:GA a u=true)(hv:GA b v=true)(h:Q (decide (a=b)) s):
  wpAny (Ag pg w) A (Pd u v) Q E s:=by
 cases a with
 |inl i=>
  cases b with
  |inl j=>exact (intKind pg w).eqBool hu hv (by simpa using h)
  |inr y=>
   obtain ⟨t,rfl⟩:=Um hu
   obtain ⟨t',rfl⟩:=HB hv
   exact K0F (by exact h)
 |inr x=>
  cases b with
  |inl j=>
   obtain ⟨t,rfl⟩:=HB hu
   obtain ⟨t',rfl⟩:=Um hv
   exact K0G (by exact h)
  |inr y=>exact (strKind pg w).eqBool hu hv (by simpa using h)
theorem I0d(v:Ab)(a b:Int⊕Str)(ha:GA a v=true)(hb:GA b v=true):a=b:=by
 cases a with
 |inl i=>
  cases b with
  |inl j=>exact congrArg _ (Value.isInt_inj _ _ _ ha hb)
  |inr y=>
   refine byC λnk=>?_
   obtain ⟨t,rfl⟩:=Um ha
   refine nk ?_
   contradiction
 |inr x=>
  cases b with
  |inl j=>
   refine byC λnk=>?_
   obtain ⟨t,rfl⟩:=HB ha
   refine nk ?_
   contradiction
  |inr y=>exact congrArg _ (Value.isStrOf_inj _ _ _ ha hb)
theorem I0f(k:Int⊕Str)(v:Ab)(hv:GA k v=true):carriedByValue v=true:=by
 cases k with
 |inl i=>obtain ⟨t,rfl⟩:=Um hv;rfl
 |inr x=>obtain ⟨t,rfl⟩:=HB hv;rfl
theorem I0c{A:Aw}{E:Ab→Ac→Prop}{s:Ac}{k:Int⊕Str}{v:Ab}{Q:Int→Ac→Prop}(hv:GA k v=true)(h:Q (Y9 w k) {s with toks:=s.toks+1}):
  wpAny (Ag pg w) A (PySem.pyHash v) Q E s:=by
 cases k with
 |inl i=>exact (intKind pg w).pyHash hv h
 |inr x=>exact (strKind pg w).pyHash hv h
theorem I0e(k:Int⊕Str)(x:Str)(t:Tok)(v:Ab)(h:GA k (.str x t)=true):GA k v=v.isStr x:=by
 cases k with
 |inl i=>contradiction
 |inr y=>
  have h':(x==y)=true:=h
  have hx:x=y:=by simpa using h'
  subst hx
  cases v<;>rfl
end
noncomputable def Jl(w:A5):KeyKind pg w (Int⊕Str):=⟨GA,Y9 w,I0d,I0f,I0c,I0b,I0e⟩
section
variable(w:A5)(ω:Wd)(h:Heap)
def R2(Ti:Nat→Tag):List (List FV)→Nat→List Ab→Prop:=RelI λi xs y=> ∃b,y=.ref b∧ω.ow b=some (Ti i)∧LstP h b (FRs w ω.fz h xs)
inductive DdE(C k i:Nat)(x:Nm)(fs:List (Nat×FV))(e:Str×Ab):Prop
 |mk (b:Addr) (e:e=(S' x,.ref b)) (d:ω.d k i=some b) (o:ω.ow b=some (.dm k i)) (p:InP h b C λd es=>ω.ow d=some (.dd k i)∧FRo w ω.fz h fs es)
def RD(C:Nat)(k:Nat):List (Nm×List (Nat×FV))→Nat→List (Str×Ab)→Prop:=RelI λi p=>DdE w ω h C k i p.1 p.2
inductive TdE(k:Int×Nm)(p:Ab→Prop)(e:List (Int⊕Str)×Addr×Ab):Prop
 |mk (a:Addr) (y:Ab) (e:e=([.inl k.1,.inr (S' k.2)],a,y)) (f:ω.fz a) (v:p y)
def FRt:List ((Int×Nm)×FV)→List (List (Int⊕Str)×Addr×Ab)→Prop:=RelL λe=>TdE ω e.1 (FR w ω.fz h e.2)
noncomputable def EPI:Nat:=16000001
inductive TdP(a:Addr)(r:List (List (Int⊕Str)×Addr×Ab)→Prop):Prop
 |mk (xs:List (List (Int⊕Str)×Addr×Ab)) (e:h.DictOfH (Pp (Jl w)) a xs) (q:r xs)
inductive DdP(k:Nat)(a:Addr)(r:List (Str×Ab)→Prop):Prop
 |mk (kvs:List (Str×Ab)) (ep:Nat) (e:h.DictOf (strKind pg w) a kvs) (p:ω.d k EPI=some ep) (f:h.DictAt (strKind pg w) a kvs ep) (q:r kvs)
def CA(k:Nat)(a:Addr)(o:O):Prop:=match o with
 |.list xs=>LstP h a (FRs w ω.fz h xs)
 |.jlist j=>LstP h a λys=>ys.length=j
 |.list2 xss=>LstP h a (R2 w ω h (Tag.ci k) xss 0)
 |.dict es=>DctP w h a (FRd w ω.fz h es)
 |.tdict es=>TdP w h a (FRt w ω h es)
 |.ddict C es=>DdP w ω h k a (RD w ω h C k es 0)
 |.inst C fs=>InP h a C λd es=>ω.ow d=some (.gd k)∧VRo w ω h fs es∧∀p∈fs,p.2.noC=true
 |.ba j=>BaP h a j
def O.inL(o:O)(loc:Bool):Prop:=match o with
 |.list2 _=>loc=true
 |.ddict _ _=>loc=false
 |.inst _ _=>loc=false
 |_=>True
noncomputable def tm(loc:Bool)(k:Nat):Tag:=cond loc (.cm k) (.gm k)
noncomputable def Wd.m(ω:Wd)(loc:Bool)(k:Nat):Option Addr:=cond loc (ω.c k) (ω.g k)
inductive CR(loc:Bool)(k:Nat)(o:O):Prop
 |mk (a:Addr) (m:ω.m loc k=some a) (t:ω.ow a=some (tm loc k)) (l:o.inL loc) (c:CA w ω h k a o)
end
structure Names where
 ns:List Str
 gs:List Str
 cs:List Str:=[]
 ls:List Str:=[]
structure EnvOK(N:Names)(env:Env):Prop where
 kind:env.scope.kind=.function
 glob:env.globals=Fm
 bltn:env.builtins=OZ
 slot: ∀x∈N.ns,env.kindOf x=some .local∨((env.kindOf x=some .cell∨env.kindOf x=some .free)∧(env.cells.lookup x).isSome=true)
 gk: ∀x∈N.gs,env.kindOf x=some .globalImplicit
 nodup:N.ns.Nodup
 cinj: ∀x y c,env.cells.lookup x=some c→env.cells.lookup y=some c→x=y
 cel: ∀x∈N.cs,(env.kindOf x=some .cell∨env.kindOf x=some .free)∧(env.cells.lookup x).isSome=true
 lcl: ∀x∈N.ls,env.kindOf x=some .local
def FW(env:Env)(a:Addr):Prop:=a=env.locals∨∃x,env.cells.lookup x=some a
structure FrameR(w:A5)(h₀:Heap)(N:Names)(env:Env)(ω:Wd)(m:List (Option V))(h:Heap):Prop where
 ok:EnvOK N env
 len:m.length=N.ns.length
 ns: ∃mm,h.Ns env.locals mm∧∀(k:Nat) (x:Str) (v:V),N.ns[k]?=some x→m[k]?=some (some v)→env.kindOf x=some .local→∃y,mm x=some y∧VR w ω h v y
 cells: ∀x c,env.cells.lookup x=some c→∃y,h.IsCell c y∧∀(k:Nat) (v:V),N.ns[k]?=some x→m[k]?=some (some v)→env.kindOf x≠some .local→∃z,y=some z∧VR w ω h v z
 off: ∀a,FW env a→ω.ow a=none∧¬ω.fz a∧h₀.objs.size≤a∧a<h.objs.size
 lc: ∀x c,env.cells.lookup x=some c→c≠env.locals
noncomputable def St.cell(s:St)(b:Bool)(k:Nat):Option O:=((cond b s.l s.g)[k]?).join
structure SR(w:A5)(h₀:Heap)(N:Names)(env:Env)(ω:Wd)(s:St)(h:Heap):Prop where
 base: ∀b o,h₀.get? b=some o→h.get? b=some o
 low: ∀a,ω.ow a≠none→h₀.objs.size≤a∧a<h.objs.size
 fzlt: ∀a,ω.fz a→a<h.objs.size∧ω.ow a=none
 fz0: ∀a,a<h₀.objs.size→ω.fz a
 fr:FrameR w h₀ N env ω s.m h
 c: ∀b k o,s.cell b k=some o→CR w ω h b k o
theorem SR.l{w:A5}{h₀:Heap}{N:Names}{env:Env}{ω:Wd}{s:St}{h:Heap}(S:SR w h₀ N env ω s h)(k:Nat)(o:O)(e:BY s k=some o):CR w ω h true k o:=S.c true k o e
theorem SR.g{w:A5}{h₀:Heap}{N:Names}{env:Env}{ω:Wd}{s:St}{h:Heap}(S:SR w h₀ N env ω s h)(k:Nat)(o:O)(e:BI s k=some o):CR w ω h false k o:=S.c false k o e
structure Step(A:List Nat)(W:Addr→Prop)(ω:Wd)(h:Heap)(ω':Wd)(h':Heap):Prop where
 size:h.objs.size≤h'.objs.size
 keep: ∀a,ω.ow a=none→¬W a→∀o,h.get? a=some o→h'.get? a=some o
 fz: ∀a,ω.fz a→ω'.fz a
 fzk: ∀a,ω.fz a→∀o,h.get? a=some o→h'.get? a=some o
 fznew: ∀a,ω'.fz a→ω.fz a∨ω.ow a≠none∨h.objs.size≤a
 ownew: ∀a,ω'.ow a≠none→ω.ow a≠none∨h.objs.size≤a
 g: ∀k,k∉A→∀a,ω.g k=some a→ω'.g k=some a
 d: ∀k,k∉A→∀i a,ω.d k i=some a→ω'.d k i=some a
structure StepE(A:List Nat)(ω:Wd)(h:Heap)(ω':Wd)(h':Heap):Prop extends Step A (λ_=>False) ω h ω' h' where
 c: ∀k a,ω.c k=some a→ω'.c k=some a
def Rm(k:Nat)(A:Aw):Prop:=A.handled=none∧A.depth+4*k+4<N0f∧A.units+64*k+64<cLine∧A.guards=some []
section
variable(w:A5)(h₀:Heap)
def PostE(N:Names)(env:Env)(A:List Nat)(ω:Wd)(sh:Ac)(s':St)(v:V)(Q:Ab→Ac→Prop):Prop:=∀ω' h' tk x,SR w h₀ N env ω' s' h'→StepE A ω sh.heap ω' h'→VR w ω' h' v x→Q x {sh with heap:=h',toks:=tk}
def Sound(n:Nat)(A:List Nat)(N:Names)(e:Ak)(f:Ev):Prop:=
 ∀(R:Aw) (env:Env) (ω:Wd) (s s':St) (v:V) (sh:Ac) (Q E:Ab→Ac→Prop),Rm n R→SR w h₀ N env ω s sh.heap→f s=some (v,s')→PostE w h₀ N env A ω sh s' v Q→wpAny (Ag pg w) R (eval e env) Q E sh
end
noncomputable def Tag.cell:Tag→Bool×Nat
 |.cm k=>(true,k)
 |.ci k _=>(true,k)
 |.gm k=>(false,k)
 |.gd k=>(false,k)
 |.dm k _=>(false,k)
 |.dd k _=>(false,k)
theorem Step.refl{W:Addr→Prop}{ω:Wd}{h:Heap}:Step [] W ω h ω h:=⟨A9 _,λ_ _ _ _ e=>e,λ_ e=>e,λ_ _ _ e=>e,λ_ e=>.inl e,λ_ e=>.inl e,λ_ _ _ e=>e,λ_ _ _ _ e=>e⟩
theorem StepE.refl{ω:Wd}{h:Heap}:StepE [] ω h ω h:=⟨Step.refl,λ_ _ e=>e⟩
theorem Step.trans{A B C:List Nat}{W:Addr→Prop}{ω ω₁ ω₂:Wd}{h h₁ h₂:Heap}(x:Step A W ω h ω₁ h₁)(y:Step B W ω₁ h₁ ω₂ h₂)(hA: ∀k∈A,k∈C)(hB: ∀k∈B,k∈C):Step C W ω h ω₂ h₂:=by
 have back: ∀a,ω₁.ow a≠none∨h₁.objs.size≤a→ω.ow a≠none∨h.objs.size≤a:= λa e=>e.elim (x.ownew a) λe=>.inr (A8 x.size e)
 refine ⟨A8 x.size y.size,λa e n o q=>?_,λa e=>y.fz a (x.fz a e),λa e o q=>y.fzk a (x.fz a e) o (x.fzk a e o q),λa e=>?_,λa e=>?_,λk hk a e=>y.g k (λq=>hk (hB k q)) a (x.g k (λq=>hk (hA k q)) a e),λk hk i a e=>y.d k (λq=>hk (hB k q)) i a (x.d k (λq=>hk (hA k q)) i a e)⟩
 ·refine y.keep a ?_ n o (x.keep a e n o q)
  cases z:ω₁.ow a with
  |none=>rfl
  |some t=>
   exfalso
   rcases x.ownew a (by refine z.symm▸?_;simp) with u|u
   ·exact u e
   ·exact absurd (Bz q) (DY.mpr u)
 ·rcases y.fznew a e with u|u
  ·rcases x.fznew a u with v|v
   ·exact .inl v
   ·exact .inr v
  ·exact .inr (back a u)
 ·rcases y.ownew a e with u|u
  ·exact x.ownew a u
  ·exact .inr (A8 x.size u)
theorem StepE.trans{A B C:List Nat}{ω ω₁ ω₂:Wd}{h h₁ h₂:Heap}(x:StepE A ω h ω₁ h₁)(y:StepE B ω₁ h₁ ω₂ h₂)(hA: ∀k∈A,k∈C)(hB: ∀k∈B,k∈C):StepE C ω h ω₂ h₂:=⟨x.toStep.trans y.toStep hA hB,λk a e=>y.c k a (x.c k a e)⟩
theorem Step.weak{A C:List Nat}{W W':Addr→Prop}{ω ω₁:Wd}{h h₁:Heap}(x:Step A W ω h ω₁ h₁)(hA: ∀k∈A,k∈C)(hW: ∀a,W a→W' a):Step C W' ω h ω₁ h₁:=⟨x.size,λa e n=>x.keep a e λq=>n (hW a q),x.fz,x.fzk,x.fznew,x.ownew,λk hk=>x.g k λq=>hk (hA k q),λk hk=>x.d k λq=>hk (hA k q)⟩
theorem StepE.weak{A C:List Nat}{ω ω₁:Wd}{h h₁:Heap}(x:StepE A ω h ω₁ h₁)(hA: ∀k∈A,k∈C):StepE C ω h ω₁ h₁:=⟨x.toStep.weak hA λ_ e=>e,x.c⟩
def V.off(A:List Nat)(v:V):Prop:= ∀k∈A,v≠.g k∧∀i,v≠.d k i
section
variable{w:A5}{h₀:Heap}{ω ω':Wd}{h h':Heap}{A:List Nat}
theorem VR.step(x:StepE A ω h ω' h'){v:V}{y:Ab}(hv:v.off A)(e:VR w ω h v y):VR w ω' h' v y:=by
 cases v with
 |f a=>exact FR.mono x.fz x.fzk e
 |c k=>refine Dt (e) λa e1 e2=>?_;exact ⟨a,x.c k a e1,e2⟩
 |g k=>refine Dt (e) λa e1 e2=>?_;exact ⟨a,x.g k (λq=>(hv k q).1 rfl) a e1,e2⟩
 |d k i=>refine Dt (e) λa e1 e2=>?_;exact ⟨a,x.d k (λq=>(hv k q).2 i rfl) i a e1,e2⟩
theorem BO(v:V):v.off []:= λ_ h=>nomatch h
theorem VRo.mono{fs:List (Nat×V)}{es:List CF}(hv: ∀v y,VR w ω h v y→VR w ω' h' v y)(e:VRo w ω h fs es):VRo w ω' h' fs es:=RelL.mono (λ_ _ _ e=>e.mono λy=>hv _ y) e
theorem D0v{fs:List (Nat×V)}{es:List CF}(hv: ∀p∈fs,∀y,VR w ω h p.2 y→VR w ω' h' p.2 y)(e:VRo w ω h fs es):VRo w ω' h' fs es:=RelL.mono (λp hp _ e=>e.mono (hv p hp)) e
structure Same(b:Bool)(k:Nat)(ω:Wd)(h:Heap)(ω':Wd)(h':Heap):Prop where
 ow: ∀a t,ω.ow a=some t→t.cell=(b,k)→ω'.ow a=some t∧∀o,h.get? a=some o→h'.get? a=some o
 fz: ∀a,ω.fz a→ω'.fz a
 fzk: ∀a,ω.fz a→∀o,h.get? a=some o→h'.get? a=some o
 mn: ∀a,ω.m b k=some a→ω'.m b k=some a
 d:b=false→∀i a,ω.d k i=some a→ω'.d k i=some a
theorem R2.mono{k:Nat}{xss:List (List FV)}{i:Nat}{ys:List Ab}(S:Same true k ω h ω' h')(e:R2 w ω h (Tag.ci k) xss i ys):R2 w ω' h' (Tag.ci k) xss i ys:=RelI.mono (λ_ _ _ _ e=>EO e λb e1 e2 e3=>⟨b,e1,(S.ow b _ e2 rfl).1,e3.mono (S.ow b _ e2 rfl).2 λ_=>FRs.mono S.fz S.fzk⟩) e
theorem RD.mono{k C:Nat}{xss:List (Nm×List (Nat×FV))}{i:Nat}{ys:List (Str×Ab)}(S:Same false k ω h ω' h')(e:RD w ω h C k xss i ys):RD w ω' h' C k xss i ys:=RelI.mono (λi _ _ _ e=>e.casesOn λb e1 e2 e3 e4=>⟨b,e1,S.d rfl i b e2,(S.ow b _ e3 rfl).1,e4.mono (S.ow b _ e3 rfl).2 λd _ e=>⟨(S.ow d _ e.1 rfl).2,(S.ow d _ e.1 rfl).1,FRo.mono S.fz S.fzk e.2⟩⟩) e
theorem FRt.mono(hf: ∀a,ω.fz a→ω'.fz a)(hk: ∀a,ω.fz a→∀o,h.get? a=some o→h'.get? a=some o){es:List ((Int×Nm)×FV)}{xs}(e:FRt w ω h es xs):FRt w ω' h' es xs:=RelL.mono (λ_ _ _ e=>e.casesOn λa y e1 e2 e3=>⟨a,y,e1,hf a e2,FR.mono hf hk e3⟩) e
theorem UG: ∀{es:List ((Int×Nm)×FV)} {xs},FRt w ω h es xs→∀x∈xs,ω.fz x.2.1:= λ{es}=>by
 induction es with
 |nil=>exact λe=>RelL.nil e (P:= λxs=> ∀x∈xs,ω.fz x.2.1) λ_ h=>nomatch h
 |cons p es ih=>exact λe=>RelL.cons e (P:= λxs=> ∀x∈xs,ω.fz x.2.1) λy r e b=>Fb.mpr ⟨e.casesOn λa z e1 e2 _=>Au e1▸e2,ih b⟩
theorem UD{a:Addr}{xs}(D:h.DictOfH (Pp (Jl w)) a xs)(k: ∀o,h.get? a=some o→h'.get? a=some o)(hk: ∀x∈xs,∀o,h.get? x.2.1=some o→h'.get? x.2.1=some o):
  h'.DictOfH (Pp (Jl w)) a xs:=
 F0s D λo es ep e r1 r2 r3 r4 r5=>⟨o,es,ep,k o e,r1,r2,r3,λx hx=>Xg (r4 x hx) λo' it n q r=>⟨o',it,n,hk x hx _ q,r⟩,r5⟩
theorem Ot(b:Bool)(k:Nat):(tm b k).cell=(b,k):=by cases b<;>rfl
theorem CA.mono{b:Bool}{k:Nat}{a:Addr}{o:O}(S:Same b k ω h ω' h')(l:o.inL b)(ha: ∀o,h.get? a=some o→h'.get? a=some o)(hv: ∀C fs,o=.inst C fs→∀p∈fs,∀y,VR w ω h p.2 y→VR w ω' h' p.2 y)
  (e:CA w ω h k a o):CA w ω' h' k a o:=by
 cases o with
 |list xs=>exact LstP.mono e ha λ_=>FRs.mono S.fz S.fzk
 |jlist j=>exact LstP.mono e ha λ_ e=>e
 |list2 xss=>exact LstP.mono e ha λ_=>R2.mono ((l:b=true)▸S)
 |dict es=>exact DctP.mono e ha λ_=>FRd.mono S.fz S.fzk
 |tdict es=>exact TdP.casesOn e λxs e1 e2=>⟨xs,UD e1 ha (λx hx=>S.fzk _ (UG e2 x hx)),FRt.mono S.fz S.fzk e2⟩
 |ddict C es=>exact DdP.casesOn e λkvs ep e1 e2 e3 e4=>⟨kvs,ep,HJ e1 ha,S.d l _ _ e2,e3.at' ha,RD.mono ((l:b=false)▸S) e4⟩
 |inst C fs=>exact InP.mono e ha λd es e=>⟨(S.ow d _ e.1 (congrArg (·,k) (Au l))).2,(S.ow d _ e.1 (congrArg (·,k) (Au l))).1,D0v (hv C fs rfl) e.2.1,e.2.2⟩
 |ba j=>exact BaP.mono e ha
theorem CR.mono{b:Bool}{k:Nat}{o:O}(S:Same b k ω h ω' h')(hv: ∀C fs,o=.inst C fs→∀p∈fs,∀y,VR w ω h p.2 y→VR w ω' h' p.2 y)
  (e:CR w ω h b k o):CR w ω' h' b k o:=
 e.casesOn λa m t l c=>⟨a,S.mn a m,(S.ow a _ t (Ot b k)).1,l,c.mono S l (S.ow a _ t (Ot b k)).2 hv⟩
section
variable{k:Nat}{a:Addr}{o:O}(l:CA w ω h k a o)
include l
theorem CA.list{xs:List FV}(e:o=.list xs):LstP h a (FRs w ω.fz h xs):=(e▸l:CA w ω h k a (.list xs))
theorem CA.list2{xs:List (List FV)}(e:o=.list2 xs):LstP h a (R2 w ω h (Tag.ci k) xs 0):=(e▸l:CA w ω h k a (.list2 xs))
theorem CA.dict{es:List (Nm×FV)}(e:o=.dict es):DctP w h a (FRd w ω.fz h es):=(e▸l:CA w ω h k a (.dict es))
theorem CA.tdict{es:List ((Int×Nm)×FV)}(e:o=.tdict es):TdP w h a (FRt w ω h es):=(e▸l:CA w ω h k a (.tdict es))
theorem CA.ddict{C:Nat}{es:List (Nm×List (Nat×FV))}(e:o=.ddict C es):DdP w ω h k a (RD w ω h C k es 0):=(e▸l:CA w ω h k a (.ddict C es))
theorem CA.inst{C:Nat}{fs:List (Nat×V)}(e:o=.inst C fs):InP h a C λd es=>ω.ow d=some (.gd k)∧VRo w ω h fs es∧∀p∈fs,p.2.noC=true:=(e▸l:CA w ω h k a (.inst C fs))
theorem CA.ba{n:Nat}(e:o=.ba n):BaP h a n:=(e▸l:CA w ω h k a (.ba n))
end
end
structure Grow(ω:Wd)(h:Heap)(ω':Wd)(h':Heap):Prop where
 size:h.objs.size≤h'.objs.size
 keep: ∀a o,h.get? a=some o→h'.get? a=some o
 c: ∀k a,ω.c k=some a→ω'.c k=some a
 g: ∀k a,ω.g k=some a→ω'.g k=some a
 d: ∀k i a,ω.d k i=some a→ω'.d k i=some a
 ow: ∀a t,ω.ow a=some t→ω'.ow a=some t
 ownew: ∀a,ω'.ow a≠none→ω.ow a≠none∨(h.objs.size≤a∧a<h'.objs.size)
 fz: ∀a,ω.fz a→ω'.fz a
 fznew: ∀a,ω'.fz a→ω.fz a∨(h.objs.size≤a∧a<h'.objs.size∧ω'.ow a=none)
theorem DP{ω:Wd}{h h':Heap}(hs:h.objs.size≤h'.objs.size)(k: ∀a o,h.get? a=some o→h'.get? a=some o):Grow ω h ω h':=⟨hs,k,λ_ _ e=>e,λ_ _ e=>e,λ_ _ _ e=>e,λ_ _ e=>e,λ_ e=>.inl e,λ_ e=>e,λ_ e=>.inl e⟩
theorem Grow.step{ω ω':Wd}{h h':Heap}(G:Grow ω h ω' h'):StepE [] ω h ω' h':=⟨⟨G.size,λa _ _ o e=>G.keep a o e,G.fz,λa _ o e=>G.keep a o e,λa e=>(G.fznew a e).elim .inl λe=>.inr (.inr e.1),λa e=>(G.ownew a e).elim .inl λe=>.inr e.1,λk _ a e=>G.g k a e,λk _ i a e=>G.d k i a e⟩,G.c⟩
theorem Grow.same{ω ω':Wd}{h h':Heap}(G:Grow ω h ω' h')(b:Bool)(k:Nat):Same b k ω h ω' h':=⟨λa t e _=>⟨G.ow a t e,G.keep a⟩,G.fz,λa _ o e=>G.keep a o e,λa e=>by cases b;exact G.g k a e;exact G.c k a e,λ_ i a e=>G.d k i a e⟩
section
variable{w:A5}{h₀:Heap}{N:Names}{env:Env}{ω ω':Wd}{h h':Heap}{s:St}
theorem VR.grow(G:Grow ω h ω' h'){v:V}{y:Ab}(e:VR w ω h v y):VR w ω' h' v y:=e.step G.step (BO v)
theorem FrameR.mono{m:List (Option V)}(F:FrameR w h₀ N env ω m h)(size:h.objs.size≤h'.objs.size)(keep: ∀a,FW env a→∀o,h.get? a=some o→h'.get? a=some o)
  (hv: ∀v,some v∈m→∀y,VR w ω h v y→VR w ω' h' v y) (off: ∀a,FW env a→ω'.ow a=none∧¬ω'.fz a):FrameR w h₀ N env ω' m h':=by
 exact ⟨F.ok,F.len,F.ns.imp λmm n=>⟨n.1.at' (keep _ (.inl rfl)),λk x v e1 e2 e3=>(n.2 k x v e1 e2 e3).imp λy e=>e.imp_right (hv v (As e2) y)⟩,
  λx c e=>(F.cells x c e).imp λy r=>⟨r.1.imp λo q=>q.imp_left (keep c (.inr ⟨x,e⟩) o),λk v e1 e2 e3=>(r.2 k v e1 e2 e3).imp λz e=>e.imp_right (hv v (As e2) z)⟩,
  λa e=>⟨(off a e).1,(off a e).2,(F.off a e).2.2.1,Bc (F.off a e).2.2.2 size⟩,F.lc⟩
theorem GG{o:Option Tag}(h: ¬o≠none):o=none:=N0Q.mp h
theorem SR.grow(S:SR w h₀ N env ω s h)(G:Grow ω h ω' h'):SR w h₀ N env ω' s h':=
 have old: ∀a,ω.ow a=none→a<h.objs.size→ω'.ow a=none:= λa e l=>GG λz=>(G.ownew a z).elim (λv=>v e) λv=>Bu _ (Bc l v.1)
 ⟨λb o e=>G.keep b o (S.base b o e),λa e=>(G.ownew a e).elim (λu=>⟨(S.low a u).1,Bc (S.low a u).2 G.size⟩) λu=>⟨A8 (CY (DX (S.fr.off _ (.inl rfl)).2.2.1 (S.fr.off _ (.inl rfl)).2.2.2)) u.1,u.2⟩,
  λa e=>(G.fznew a e).elim (λu=>⟨Bc (S.fzlt a u).1 G.size,old a (S.fzlt a u).2 (S.fzlt a u).1⟩) λu=>⟨u.2.1,u.2.2⟩,
  λa e=>G.fz a (S.fz0 a e),
  S.fr.mono G.size (λa _=>G.keep a) (λv _ y e=>e.grow G) λa e=>⟨old a (S.fr.off a e).1 (S.fr.off a e).2.2.2,λq=>(G.fznew a q).elim (S.fr.off a e).2.1 λv=>Bu _ (Bc (S.fr.off a e).2.2.2 v.1)⟩,
  λb k o e=>(S.c b k o e).mono (G.same b k) (λ_ _ _ _ _ _ z=>z.grow G)⟩
noncomputable def Jp(b:Bool)(k:Nat)(o:O)(s:St):St:={s with l:=cond b (s.l.set k (some o)) s.l,g:=cond b s.g (s.g.set k (some o))}
theorem Od{l:List (Option O)}{k j:Nat}{o o':O}(e:((l.set k (some o))[j]?).join=some o'):(j=k∧o'=o)∨(j≠k∧(l[j]?).join=some o'):=by
 by_cases q:k=j
 ·rw [←q] at e;replace e:=(A0C)▸e
  cases z:l[k]? with
  |none=>replace e:=z▸e;exact noS e
  |some y=>rw [z] at e;exact .inl ⟨q.symm,(An e).symm⟩
 ·rw [OE q] at e;exact .inr ⟨λz=>q z.symm,e⟩
theorem WG{s:St}{b b':Bool}{k j:Nat}{o o':O}(e:(Jp b k o s).cell b' j=some o'):((b',j)=(b,k)∧o'=o)∨((b',j)≠(b,k)∧s.cell b' j=some o'):=by
 cases b<;>cases b'
 ·exact (Od e).imp (TA (congrArg _)) (TA λn z=>n (BG z).2)
 ·exact .inr ⟨nofun,e⟩
 ·exact .inr ⟨nofun,e⟩
 ·exact (Od e).imp (TA (congrArg _)) (TA λn z=>n (BG z).2)
structure Turn(b:Bool)(k:Nat)(ω:Wd)(h h':Heap):Prop where
 size:h.objs.size≤h'.objs.size
 keep: ∀a o,h.get? a=some o→(∀t,ω.ow a=some t→t.cell≠(b,k))→h'.get? a=some o
theorem MN{b:Bool}{k:Nat}{a:Addr}{t:Tag}(hs:Ce a h h')(ho:ω.ow a=some t)(hc:t.cell=(b,k)):Turn b k ω h h':=
 ⟨DC hs.1.symm,λa' o e n=>by exact (hs.2 a' (λq=>n t (q▸ho) hc)).symm▸e⟩
theorem IQ{b:Bool}{k:Nat}(S:SR w h₀ N env ω s h)(T:Turn b k ω h h'):StepE [] ω h ω h':=⟨⟨T.size,λa e _ o q=>T.keep a o q (λt z=>by cases (e).symm.trans z),λ_ e=>e,λa e o q=>T.keep a o q (λt z=>by replace z:=((S.fzlt a e).2)▸z;contradiction),λ_ e=>.inl e,λ_ e=>.inl e,λ_ _ _ e=>e,λ_ _ _ _ e=>e⟩,λ_ _ e=>e⟩
theorem Turn.same{b b':Bool}{k k':Nat}(S:SR w h₀ N env ω s h)(T:Turn b k ω h h')(hne:(b',k')≠(b,k)):Same b' k' ω h ω h':=⟨λa t e q=>⟨e,λo z=>T.keep a o z (λt' e'=>by replace e':=e▸e';cases e';exact q.symm▸hne)⟩,λ_ e=>e,(IQ S T).fzk,λ_ e=>e,λ_ _ _ e=>e⟩
theorem SR.turn{b:Bool}{k:Nat}{o:O}(S:SR w h₀ N env ω s h)(T:Turn b k ω h h')(ho:CR w ω h' b k o):SR w h₀ N env ω (Jp b k o s) h':=
 have x:=IQ S T
 have vm: ∀v y,VR w ω h v y→VR w ω h' v y:= λv y e=>e.step x (BO v)
 ⟨λa o e=>x.keep a (GG λz=>Bu _ (Bc (Bz e) (S.low a z).1)) (λz=>z) o (S.base a o e),
  λa e=>(S.low a e).imp_right λq=>Bc q T.size,λa e=>(S.fzlt a e).imp_left λq=>Bc q T.size,S.fz0,
  S.fr.mono x.size (λa e o q=>x.keep a (S.fr.off a e).1 (λz=>z) o q) (λv _=>vm v) λa e=>⟨(S.fr.off a e).1,(S.fr.off a e).2.1⟩,
  λb' j o' e=>(WG e).elim (λz=>Eq.rec (motive:= λp _=>CR w ω h' p.1 p.2 o') (Au z.2▸ho) z.1.symm) λz=>(S.c b' j o' z.2).mono (Turn.same S T z.1) λ_ _ _ _ _ y z=>vm _ y z⟩
end
section
variable{w:A5}{h₀:Heap}{N:Names}{env:Env}{ω ω':Wd}{h h':Heap}{s s1 s2:St}{n:Nat}{A:List Nat}
theorem VR.toInt{i:Int}{x:Ab}(e:VR w ω h (.f (.int i)) x): ∃t,x=.int i t:=e
theorem VR.toStr{i:Nm}{x:Ab}(e:VR w ω h (.f (.str i)) x): ∃t,x=.str (S' i) t:=e
theorem VR.toBool{i:Bool}{x:Ab}(e:VR w ω h (.f (.bool i)) x):x=.bool i:=e
theorem VR.toNone{x:Ab}(e:VR w ω h (.f .none) x):x=.none:=e
theorem EM(i:Int)(t:Tok):VR w ω h (.f (.int i)) (.int i t):=⟨t,rfl⟩
theorem IT(i:Nm)(t:Tok):VR w ω h (.f (.str i)) (.str (S' i) t):=⟨t,rfl⟩
theorem IS(i:Bool):VR w ω h (.f (.bool i)) (.bool i):=rfl
theorem Rh:VR w ω h (.f .none) .none:=rfl
section
variable{α:Type}{v:V}{x:Ab}{z:α}{y:FV}{fz:Addr→Prop}
theorem V.onFR{k:FV→Option α}{P:Prop}(e:v.onF k=some z)(vx:VR w ω h v x)(q: ∀y,FR w ω.fz h y x→k y=some z→P):P:=V.onFE e λy hv e=>q y (hv▸vx:VR w ω h (.f y) x) e
theorem FP{k:Int→Option α}{P:Ab→Prop}(e:y.onInt k=some z)(vx:FR w fz h y x)(q: ∀i t,k i=some z→P (.int i t)):P x:=IF e λi hv e=>FE (hv▸vx:FR w fz h (.int i) x) λt hx=>Au hx▸q i t e
theorem Q9{k:Nat→Option α}{P:Ab→Prop}(e:y.onNat k=some z)(vx:FR w fz h y x)(q: ∀(i:Nat) t,k i=some z→P (.int i t)):P x:=C0b e λi hv e=>FE (hv▸vx:FR w fz h (.int i) x) λt hx=>Au hx▸q i t e
theorem EJ{k:Nm→Option α}{P:Ab→Prop}(e:y.onStr k=some z)(vx:FR w fz h y x)(q: ∀i t,k i=some z→P (.str (S' i) t)):P x:=Mj e λi hv e=>FE (hv▸vx:FR w fz h (.str i) x) λt hx=>Au hx▸q i t e
theorem C0c{k:Option α}{P:Ab→Prop}(e:y.onNone k=some z)(vx:FR w fz h y x)(q:k=some z→P .none):P x:=UK e λhv e=>Au (hv▸vx:FR w fz h .none x)▸q e
theorem Mi{k:List FV→Option α}{P:Ab→Prop}(e:y.onLst k=some z)(vx:FR w fz h y x)(q: ∀xs a,fz a→LstP h a (FRs w fz h xs)→k xs=some z→P (.ref a)):P x:=C0a e λxs hv e=>Dx (hv▸vx:FR w fz h (.lst xs) x) λa f l=>q xs a f (Dh w fz h xs▸l) e
theorem UJ{k:List (Nm×FV)→Option α}{P:Ab→Prop}(e:y.onDct k=some z)(vx:FR w fz h y x)(q: ∀xs a,fz a→(a==Ec)=false→DctP w h a (FRd w fz h xs)→k xs=some z→P (.ref a)):P x:=UH e λxs hv e=>Dx (hv▸vx:FR w fz h (.dct xs) x) λa f l=>q xs a f l.1 (HK w fz h xs▸l.2) e
theorem IG{i:Int→Option α}{s:Nm→Option α}{t:List FV→Option α}{P:Ab→Prop}(e:y.sw i s t=some z)(vx:FR w fz h y x)(hi: ∀c u,i c=some z→P (.int c u))(hs: ∀c u,s c=some z→P (.str (S' c) u))
  (ht: ∀xs a,fz a→TupP h a (FRs w fz h xs)→t xs=some z→P (.ref a)):P x:=
 C0d e (λc hv e=>FE (hv▸vx:FR w fz h (.int c) x) λt hx=>Au hx▸hi c t e) (λc hv e=>FE (hv▸vx:FR w fz h (.str c) x) λt hx=>Au hx▸hs c t e)
  λxs hv e=>Dx (hv▸vx:FR w fz h (.tup xs) x) λa f l=>ht xs a f (Dh w fz h xs▸l) e
theorem V.onBoolR{k:Bool→Option α}{P:Ab→Prop}(e:v.onBool k=some z)(vx:VR w ω h v x)(q: ∀b,v=.f (.bool b)→k b=some z→P (.bool b)):P x:=V.onBoolE e λb hv e=>Au (hv▸vx:VR w ω h (.f (.bool b)) x)▸q b hv e
theorem V.intsR{x':Ab}{v':V}{k:Int→Int→Option α}{P:Ab→Ab→Prop}(e:v.ints v' k=some z)(vx:VR w ω h v x)(vx':VR w ω h v' x')(q: ∀i t j u,k i j=some z→P (.int i t) (.int j u)):P x x':=V.onFR e vx λ_ f e=>V.onFR e vx' λ_ f' e=>FP (P:= λx=>P x x') e f λi t e=>FP e f' λj u e=>q i t j u e
theorem VQ{t:List FV→Option α}{s:Nm→Option α}{d:Option α}{P:Ab→Prop}(e:v.ts t s d=some z)(vx:VR w ω h v x)(ht: ∀xs a,ω.fz a→TupP h a (FRs w ω.fz h xs)→t xs=some z→P (.ref a))(hs: ∀c u,s c=some z→P (.str (S' c) u))(hd:d=some z→P x):P x:=D0t e (λxs hv e=>Dx (hv▸vx:VR w ω h (.f (.tup xs)) x) λa f l=>ht xs a f (Dh w ω.fz h xs▸l) e) (λc hv e=>FE (hv▸vx:VR w ω h (.f (.str c)) x) λt hx=>Au hx▸hs c t e) hd
end
noncomputable def V.k:V→Nat
 |.c k=>k
 |.g k=>k
 |_=>0
theorem SR.cell{b:Bool}{k:Nat}{o:O}{x:Ab}{P:Ab→Prop}(S:SR w h₀ N env ω s h)(e:s.cell b k=some o)(vx: ∃a,ω.m b k=some a∧x=.ref a)
  (q: ∀a,ω.m b k=some a→ω.ow a=some (tm b k)→o.inL b→CA w ω h k a o→P (.ref a)):P x:=
 (S.c b k o e).casesOn λa m t l c=>vx.elim λa' r=>Au (r.2.trans (congrArg OV (An (r.1.symm.trans m))))▸q a m t l c
theorem SR.view{v:V}{o:O}{x:Ab}{P:Ab→Prop}(S:SR w h₀ N env ω s h)(e:view s v=some o)(vx:VR w ω h v x)(q: ∀a,CA w ω h v.k a o→P (.ref a)):P x:=by
 cases v with
 |f y=>cases y with
  |lst xs=>exact Dx (vx:FR w ω.fz h (.lst xs) x) λa _ l=>q a (An e▸(Dh w ω.fz h xs▸l:LstP h a (FRs w ω.fz h xs)))
  |dct xs=>exact Dx (vx:FR w ω.fz h (.dct xs) x) λa _ l=>q a (An e▸(HK w ω.fz h xs▸l.2:DctP w h a (FRd w ω.fz h xs)))
  |fba n=>exact Dx (vx:FR w ω.fz h (.fba n) x) λa _ l=>q a (An e▸(l:BaP h a n))
  |_=>exact noS e
 |c k=>exact SR.cell (b:=true) S e vx λa _ _ _ c=>q a c
 |g k=>exact SR.cell (b:=false) S e vx λa _ _ _ c=>q a c
 |d k i=>exact noS e
theorem SR.deref{v:V}{o:O}{x:Ab}{P:Ab→Prop}(S:SR w h₀ N env ω s h)(e:deref s v=some o)(vx:VR w ω h v x)(q: ∀b k a,(∀o',v.wr o' s=Jp b k o' s)→ω.m b k=some a→ω.ow a=some (tm b k)→o.inL b→CA w ω h k a o→P (.ref a)):P x:=by
 cases v with
 |c k=>exact SR.cell (b:=true) S e vx λa=>q true k a λ_=>rfl
 |g k=>exact SR.cell (b:=false) S e vx λa=>q false k a λ_=>rfl
 |_=>exact noS e
theorem SR.wr{b:Bool}{k:Nat}{a:Addr}{o':O}(S:SR w h₀ N env ω s h)(m:ω.m b k=some a)(t:ω.ow a=some (tm b k))(hs:Ce a h h')(l:o'.inL b)(c:(∀d,ω.fz d→∀o,h.get? d=some o→h'.get? d=some o)→CA w ω h' k a o'):
  SR w h₀ N env ω (Jp b k o' s) h'∧StepE [] ω h ω h':=
 have T:Turn b k ω h h':=MN hs t (Ot b k)
 have x:=IQ S T
 ⟨S.turn T ⟨a,m,t,l,c x.fzk⟩,x⟩
theorem PostE.here{sh:Ac}{v:V}{x:Ab}{Q:Ab→Ac→Prop}(P:PostE w h₀ N env A ω sh s v Q)(S:SR w h₀ N env ω s sh.heap)(hv:VR w ω sh.heap v x)(tk:Nat):Q x {sh with toks:=tk}:=P ω sh.heap tk x S (StepE.refl.weak λ_ h=>nomatch h) hv
theorem PostE.grow{sh:Ac}{v:V}{x:Ab}{Q:Ab→Ac→Prop}{ω':Wd}{h':Heap}(P:PostE w h₀ N env A ω sh s v Q)(S:SR w h₀ N env ω s sh.heap)(G:Grow ω sh.heap ω' h')(hv:VR w ω' h' v x)(tk:Nat):Q x {sh with heap:=h',toks:=tk}:=P ω' h' tk x (S.grow G) (G.step.weak λ_ h=>nomatch h) hv
theorem Kd{α:Type}{e1 e2:Ak}{f g:Ev}(hf:Sound w h₀ n A N e1 f)(hg:Sound w h₀ n [] N e2 g){R:Aw}{sh:Ac}{a b:V}{K:Ab→Ab→Sem α}{Q:α→Ac→Prop}{E:Ab→Ac→Prop}
  (hR:Rm n R) (S:SR w h₀ N env ω s sh.heap) (ef:f s=some (a,s1)) (eg:g s1=some (b,s2))
  (k: ∀ω' h' tk x y,SR w h₀ N env ω' s2 h'→StepE A ω sh.heap ω' h'→VR w ω' h' a x→VR w ω' h' b y→wpAny (Ag pg w) R (K x y) Q E {sh with heap:=h',toks:=tk}):
  wpAny (Ag pg w) R (eval e1 env) (λx s₁=>wpAny (Ag pg w) R (eval e2 env) (λy s₂=>wpAny (Ag pg w) R (K x y) Q E s₂) E s₁) E sh:=
 hf R env ω s s1 a sh _ E hR S ef λω1 h1 tk1 x S1 st1 vx=>hg R env ω1 s1 s2 b {sh with heap:=h1,toks:=tk1} _ E hR S1 eg λω2 h2 tk2 y S2 st2 vy=>k ω2 h2 tk2 x y S2 (st1.trans st2 (λ_ q=>q) AY) (vx.step st2 (BO _)) vy
theorem BH{β:Type}{f:Ev}{k:V→St→Option β}{s:St}{r:β}{P:Prop}(e:B7 f k s=some r)(q: ∀v s1,f s=some (v,s1)→k v s1=some r→P):P:=Ax e λp e1 e2=>q p.1 p.2 e1 e2
theorem MR{β:Type}{s s':St}{o:Option β}{r:β}{P:Prop}(e:at_ s o=some (r,s'))(q:s=s'→o=some r→P):P:=AV e λ_ e1 e2=>q (congrArg HA e2) (e1.trans (congrArg some (congrArg Fi e2)))
theorem Lg{op:St→V→Option V}{f:Ev}{v:V}{P:Prop}(e:Al op f s=some (v,s2))(q: ∀a,f s=some (a,s2)→op s2 a=some v→P):P:=BH e λa _ e1 e2=>MR e2 λz e2=>q a (z▸e1) (z▸e2)
theorem HU{β:Type}{op:St→V→V→Option β}{f g:Ev}{v:β}{P:Prop}(e:(B7 f λa=>B7 g λb s=>at_ s (op s a b)) s=some (v,s2))(q: ∀a s1 b,f s=some (a,s1)→g s1=some (b,s2)→op s2 a b=some v→P):P:=BH e λa s1 e1 e=>BH e λb _ e2 e3=>MR e3 λz e3=>q a s1 b e1 (z▸e2) (z▸e3)
def Op2(w:A5)(h₀:Heap)(n:Nat)(t:Ab→Ab→Sem Ab)(op:St→V→V→Option V):Prop:=
 ∀(R:Aw) (N:Names) (env:Env) (ω:Wd) (s:St) (a b r:V) (sh:Ac) (x y:Ab) (Q E:Ab→Ac→Prop),Rm n R→SR w h₀ N env ω s sh.heap→op s a b=some r→
  VR w ω sh.heap a x→VR w ω sh.heap b y→PostE w h₀ N env [] ω sh s r Q→wpAny (Ag pg w) R (t x y) Q E sh
def Op1(w:A5)(h₀:Heap)(n:Nat)(t:Ab→Sem Ab)(op:St→V→Option V):Prop:=
 ∀(R:Aw) (N:Names) (env:Env) (ω:Wd) (s:St) (a r:V) (sh:Ac) (x:Ab) (Q E:Ab→Ac→Prop),Rm n R→SR w h₀ N env ω s sh.heap→op s a=some r→
  VR w ω sh.heap a x→PostE w h₀ N env [] ω sh s r Q→wpAny (Ag pg w) R (t x) Q E sh
def Cp2(w:A5)(h₀:Heap)(n:Nat)(t:Ab→Ab→Sem Ab)(op:St→V→V→Option Bool):Prop:=Op2 w h₀ n t λs a b=>(op s a b).map λr=>.f (.bool r)
theorem PostE.of_step{sh:Ac}{v:V}{Q:Ab→Ac→Prop}{ω':Wd}{h':Heap}{tk:Nat}(P:PostE w h₀ N env A ω sh s v Q)(st:StepE A ω sh.heap ω' h'):PostE w h₀ N env [] ω' {sh with heap:=h',toks:=tk} s v Q:=λω2 h2 tk2 x S2 st2 vx=>P ω2 h2 tk2 x S2 (st.trans st2 (λ_ q=>q) AY) vx
theorem PostE.ret{sh:Ac}{v r:V}{x:Ab}{Q:Ab→Ac→Prop}(P:PostE w h₀ N env A ω sh s r Q)(S:SR w h₀ N env ω s sh.heap)(e:some v=some r)(hv:VR w ω sh.heap v x)(tk:Nat):Q x {sh with toks:=tk}:=P.here S (An e▸hv) tk
theorem PostE.eq{sh:Ac}{v v':V}{s':St}{Q:Ab→Ac→Prop}(P:PostE w h₀ N env A ω sh s v Q)(e:(v',s')=(v,s)):PostE w h₀ N env A ω sh s' v' Q:=(BG e).1▸(BG e).2▸P
theorem AN{o:Operator}{op:St→V→V→Option V}{l r:Ak}{p:Pos}{f g:Ev}(ho:Op2 w h₀ n (Fj o) op)(hf:Sound w h₀ n A N l f)(hg:Sound w h₀ n [] N r g):Sound w h₀ n A N (.BinOp l o r p) (Ao op f g):=λR env ω _ s' v sh Q E hR S e P=>HU e λa _ b e1 e2 e3=>wpAny_BinOp (Kd hf hg hR S e1 e2 λω' _ _ x y S' st vx vy=>ho R N env ω' s' a b v _ x y Q E hR S' e3 vx vy (P.of_step st))
theorem Rc{o:UnaryOp}{op:St→V→Option V}{l:Ak}{p:Pos}{f:Ev}(ho:Op1 w h₀ n (B08 o) op)(hf:Sound w h₀ n A N l f):Sound w h₀ n A N (.UnaryOp o l p) (Al op f):=λR env ω s s' v sh Q E hR S e P=>Lg e λa e1 e2=>wpAny_UnaryOp (hf R env ω s s' a sh _ E hR S e1 λω' _ _ x S' st vx=>ho R N env ω' s' a v _ x Q E hR S' e2 vx (P.of_step st))
theorem C0S(x y:Nm):S' (x++y)=S' x++S' y:=by
 show (⟨(x++y).toArray⟩:Str)=⟨x.toArray++y.toArray⟩
 simp
theorem Hb(x:Nm):(S' x).length=x.length:=by rfl
theorem Bw:Op2 w h₀ n (Fj .Add) Bf:=
 λ_ _ _ _ _ _ _ _ _ _ y Q E _ S e va vb P=>V.onFR e va λ_ f e=>V.onFR e vb λ_ f' e=>IG (P:= λx=>wpAny _ _ (Fj .Add x y) Q E _) e f
  (λ_ _ e=>FP (P:= λy=>wpAny _ _ (Fj .Add _ y) Q E _) e f' λ_ _ e=>N0Y (P.ret S e (EM _ _) _))
  (λc _ e=>EJ (P:= λy=>wpAny _ _ (Fj .Add _ y) Q E _) e f' λd _ e=>ifE e λhl e=>N0Z (λ_ _=>C0S c d▸P.ret S e (IT _ _) _) (by rw [Hb,Hb,Co];exact A8 hl (by decide)))
  λ_ _ _ _ e=>noS e
theorem KU:Op2 w h₀ n (Fj .Sub) Io:=λ_ _ _ _ _ _ _ _ _ _ _ Q E _ S e va vb P=>V.intsR (P:= λx y=>wpAny _ _ (Fj .Sub x y) Q E _) e va vb λ_ _ _ _ e=>O0l (P.ret S e (EM _ _) _)
theorem ZK{i:Int}(e:small i=true): -lim<i∧i<lim:=by simpa [small] using e
theorem ZJ{i:Int}(e:small i=true):O0s i≤64:=by
 have q:=ZK e
 unfold lim at q
 exact intBits_le_64 (by lia) (by lia)
theorem Iq:Op2 w h₀ n (Fj .Mult) EU:=
 λ_ _ _ _ _ _ _ _ _ _ _ Q E _ S e va vb P=>V.intsR (P:= λx y=>wpAny _ _ (Fj .Mult x y) Q E _) e va vb λ_ _ _ _ e=>ifE e λq e=>O0i (P.ret S e (EM _ _) _)
  (((O6 _ _).mp q).elim (λq=>.of_right (ZJ q)) λq=>.of_left (ZJ q))
theorem GD:Op2 w h₀ n (Fj .Mod) DJ:=λ_ _ _ _ _ _ _ _ _ _ _ Q E _ S e va vb P=>V.intsR (P:= λx y=>wpAny _ _ (Fj .Mod x y) Q E _) e va vb λ_ _ _ _ e=>ifE e λq e=>O0h (TF q) (Au (Int.fmod_eq_emod_of_nonneg _ (L0g q))▸P.ret S e (EM _ _) _)
theorem J0l{i j:Int}(hj:small j=true):M0r i j=false:=by
 have q:=ZK hj
 dsimp only [M0r]
 have:(decide ((if (j==0)=true then 0 else j.natAbs.log2/30+1)>300))=false:=by
  apply decide_eq_false
  split
  ·lia
  ·have h1:j.natAbs<2^63:=by unfold lim at q;omega
   have h2:j.natAbs.log2<63:=by
    by_cases z:j.natAbs=0
    ·rw [z];decide
    ·exact (L0S z).mpr h1
   lia
 simp only [this,L0c]
theorem KR:Op2 w h₀ n (Fj .FloorDiv) Gi:=
 λ_ _ _ _ _ _ _ _ _ _ _ Q E _ S e va vb P=>V.intsR (P:= λx y=>wpAny _ _ (Fj .FloorDiv x y) Q E _) e va vb λ_ _ _ _ e=>ifE e λq e=>ifE e λ_ e=>ifE e λq2 e=>O0d (TF q) (Au (Int.fdiv_eq_ediv_of_nonneg _ (L0g q))▸P.ret S e (EM _ _) _) (.inl (J0l q2))
theorem SY:Op1 w h₀ n (B08 .USub) KQ:=λ_ _ _ _ _ _ _ _ _ Q E _ S e va P=>V.onFR e va λ_ f e=>FP (P:= λx=>wpAny _ _ (B08 .USub x) Q E _) e f λ_ _ e=>O0k (P.ret S e (EM _ _) _)
theorem N00{x y:Nm}:S' x=S' y↔x=y:=by
 constructor
 ·intro e;injection e with e;have:=congrArg L0a e;simpa using this
 ·rintro rfl;rfl
theorem QU(x y:Nm):(S' x==S' y)=decide (x=y):=by
 by_cases e:x=y
 ·subst e;simp
 ·rw [decide_eq_false e]
  exact beq_eq_false_iff_ne.mpr λz=>e (N00.mp z)
theorem Cp2.mk{t:Ab→Ab→Sem Ab}{op:St→V→V→Option Bool}(k: ∀(R:Aw) (N:Names) (env:Env) (ω:Wd) (s:St) (a b:V) (r:Bool) (sh:Ac) (x y:Ab) (Q E:Ab→Ac→Prop),Rm n R→SR w h₀ N env ω s sh.heap→op s a b=some r→
  VR w ω sh.heap a x→VR w ω sh.heap b y→Q (.bool r) {sh with toks:=sh.toks}→wpAny (Ag pg w) R (t x y) Q E sh):Cp2 w h₀ n t op:=
 λR N env ω s a b _ sh x y Q E hR S e va vb P=>AV e λc e1 e2=>k R N env ω s a b c sh x y Q E hR S e1 va vb (P.ret S (congrArg some e2) (IS c) _)
theorem WW{i j:Int}{t u:Tok}{R:Aw}{sh:Ac}{Q E:Ab→Ac→Prop}(hq:Q (.bool (decide (i=j))) sh):wpAny (Ag pg w) R (B4 .Eq (.int i t) (.int j u)) Q E sh:=O0b ((show decide (i=j)=(i==j) by rfl)▸hq)
theorem F00{a b:FV}{r:Bool}{x y:Ab}{fz:Addr→Prop}{R:Aw}{sh:Ac}{Q E:Ab→Ac→Prop}(e:Sg a b=some r)(va:FR w fz h a x)(vb:FR w fz h b y)(hq:Q (.bool r) sh):wpAny (Ag pg w) R (B4 .Eq x y) Q E sh:=IG (P:= λx=>wpAny _ _ (B4 .Eq x y) Q E _) e va (λ_ _ e=>FP (P:= λy=>wpAny _ _ (B4 .Eq _ y) Q E _) e vb λ_ _ e=>WW (An e▸hq)) (λc _ e=>EJ (P:= λy=>wpAny _ _ (B4 .Eq _ y) Q E _) e vb λd _ e=>O0c (Au (QU c d)▸An e▸hq)) λ_ _ _ _ e=>noS e
theorem Ct:Cp2 w h₀ n (B4 .Eq) Bj:=.mk λ_ _ _ _ _ _ _ _ _ _ _ _ _ _ _ e va vb hq=>V.onFR e va λ_ f e=>V.onFR e vb λ_ f' e=>F00 e f f' hq
theorem RK:Cp2 w h₀ n (B4 .Lt) Hk:=.mk λ_ _ _ _ _ _ _ _ _ _ _ Q E _ _ e va vb hq=>V.intsR (P:= λx y=>wpAny _ _ (B4 .Lt x y) Q E _) e va vb λ_ _ _ _ e=>M0e (An e▸hq)
theorem Nf:Cp2 w h₀ n (B4 .Gt) Hj:=.mk λ_ _ _ _ _ _ _ _ _ _ _ Q E _ _ e va vb hq=>V.intsR (P:= λx y=>wpAny _ _ (B4 .Gt x y) Q E _) e va vb λ_ _ _ _ e=>O0g (An e▸hq)
theorem E0U:Cp2 w h₀ n (B4 .Is) RJ:=.mk λ_ _ _ _ _ a _ _ _ _ _ Q E _ _ e va vb hq=>V.onFR e vb λ_ f e=>C0c (P:= λy=>wpAny _ _ (B4 .Is _ y) Q E _) e f λe=>by
 cases a with
 |f y=>cases y with
  |none=>exact Au (va:_=M0G)▸Aq (AJ (AJ (An e▸hq:Q (.bool true) _)))
  |_=>exact noS e
 |d k i=>exact va.elim λa q=>Au q.2▸Aq (AJ (AJ (An e▸hq:Q (.bool false) _)))
 |_=>exact noS e
end
structure Base(h₀:Heap)(mg mb:Str→Option Ab):Prop where
 g:h₀.Ns Fm mg
 b:h₀.Ns OZ mb
 lim:h₀.NoLimit
 sys:Ec<h₀.objs.size
 blt: ∀x:Str,x≠ "__name__"→mb x=M0P x
section
variable(w:A5)(h₀:Heap)
def PostC(N:Names)(env:Env)(A:List Nat)(ω:Wd)(sh:Ac)(s':St)(b:Bool)(Q:Bool→Ac→Prop):Prop:=∀ω' h' tk,SR w h₀ N env ω' s' h'→StepE A ω sh.heap ω' h'→Q b {sh with heap:=h',toks:=tk}
def SoundC(n:Nat)(A:List Nat)(N:Names)(e:Ak)(c:Cv):Prop:=
 ∀(R:Aw) (env:Env) (ω:Wd) (s s':St) (b:Bool) (sh:Ac) (Q:Bool→Ac→Prop) (E:Ab→Ac→Prop),Rm n R→SR w h₀ N env ω s sh.heap→c s=some (b,s')→PostC w h₀ N env A ω sh s' b Q→wpAny (Ag pg w) R (U1 e env (eval e env)) Q E sh
def SoundAll(n:Nat)(A:List Nat)(N:Names)(op:Ui)(es:List Ak)(c:Cv):Prop:=
 ∀(R:Aw) (env:Env) (ω:Wd) (s s':St) (b:Bool) (sh:Ac) (Q:Bool→Ac→Prop) (E:Ab→Ac→Prop),Rm n R→SR w h₀ N env ω s sh.heap→c s=some (b,s')→PostC w h₀ N env A ω sh s' b Q→wpAny (Ag pg w) R (B0q op es env) Q E sh
def VRs(ω:Wd)(h:Heap):List V→List Ab→Prop:=RelL (VR w ω h)
def SoundL(n:Nat)(A:List Nat)(N:Names)(es:List Ak)(fs:List Ev):Prop:=
 ∀(R:Aw) (env:Env) (pos:Pos) (ω:Wd) (s s':St) (vs:List V) (sh:Ac) (Q:List Ab→Ac→Prop) (E:Ab→Ac→Prop),
  Rm n R→SR w h₀ N env ω s sh.heap→Mine.DD fs s=some (vs,s')→
  (∀ω' h' tk xs,SR w h₀ N env ω' s' h'→StepE A ω sh.heap ω' h'→VRs w ω' h' vs xs→Q xs {sh with heap:=h',toks:=tk})→
  wpAny (Ag pg w) R (Er (Cy pos (AR es env))) Q E sh
end
section
variable{w:A5}{h₀:Heap}{N:Names}{env:Env}{ω ω':Wd}{h h':Heap}{s s1 s2:St}{n:Nat}{A B:List Nat}{mg mb:Str→Option Ab}
theorem PostC.of_step{sh:Ac}{v:Bool}{Q:Bool→Ac→Prop}{ω':Wd}{h':Heap}{tk:Nat}(P:PostC w h₀ N env A ω sh s v Q)(st:StepE A ω sh.heap ω' h'):PostC w h₀ N env A ω' {sh with heap:=h',toks:=tk} s v Q:=λω2 h2 tk2 S2 st2=>P ω2 h2 tk2 S2 (st.trans st2 (λ_ q=>q) (λ_ q=>q))
theorem PostE.of_step'{sh:Ac}{v:V}{Q:Ab→Ac→Prop}{ω':Wd}{h':Heap}{tk:Nat}(P:PostE w h₀ N env A ω sh s v Q)(st:StepE A ω sh.heap ω' h'):PostE w h₀ N env A ω' {sh with heap:=h',toks:=tk} s v Q:=λω2 h2 tk2 x S2 st2 vx=>P ω2 h2 tk2 x S2 (st.trans st2 (λ_ q=>q) (λ_ q=>q)) vx
theorem Sound.weak{e:Ak}{f:Ev}(hf:Sound w h₀ n A N e f)(hA: ∀k∈A,k∈B):Sound w h₀ n B N e f:=λR env ω s s' v sh Q E hR S ef P=>hf R env ω s s' v sh Q E hR S ef λω' h' tk x S' st vx=>P ω' h' tk x S' (st.weak hA) vx
theorem SoundC.weak{e:Ak}{c:Cv}(hf:SoundC w h₀ n A N e c)(hA: ∀k∈A,k∈B):SoundC w h₀ n B N e c:=λR env ω s s' b sh Q E hR S ef P=>hf R env ω s s' b sh Q E hR S ef λω' h' tk S' st=>P ω' h' tk S' (st.weak hA)
theorem X5{k:Nat}{v:V}(e:C0 s k=some v):s.m[k]?=some (some v):=JC.mp e
theorem Hs{k:Nat}{x:Str}{v:V}{R:Aw}{sh:Ac}{Q E:Ab→Ac→Prop}(S:SR w h₀ N env ω s sh.heap)(hx:N.ns[k]?=some x)(hv:C0 s k=some v)(hc:(x==("__classdict__":Str))=false)
  (q: ∀y,VR w ω sh.heap v y→Q y sh):wpAny (Ag pg w) R (loadName env x) Q E sh:=
 S.fr.ns.elim λmm n=>(S.fr.ok.slot x (As hx)).elim
  (λhl=>(n.2 k x v hx (X5 hv) hl).elim λy e=>wpAny_loadName_local S.fr.ok.kind hl n.1 e.1 (q y e.2))
  λhl=>(Lv.mp hl.2).elim λc hc'=>Dt (S.fr.cells x c hc') λy o1 o3=>Dt (o3 k v hx (X5 hv) (hl.1.elim (λe z=>nomatch e.symm.trans z) λe z=>nomatch e.symm.trans z)) λz z1 z2=>hl.1.elim (λhl=>wpAny_loadName_cell S.fr.ok.kind hl hc' (z1▸o1) (q z z2)) λhl=>wpAny_loadName_free S.fr.ok.kind hl hc' (z1▸o1) (q z z2) hc
noncomputable def J0I(N:Names)(k:Nat)(x:Str):Bool:=decide (N.ns[k]?=some x)&&(!(x==("__debug__":Str))&& !(x==("__classdict__":Str)))
theorem Ad{k:Nat}{x:Str}{pos:Pos}(h:J0I N k x=true:=by left):Sound w h₀ n [] N (.Name x pos) (Aa k):=
 have h:=(Bool.and_eq_true_iff).mp h
 have h2:=(Bool.and_eq_true_iff).mp h.2
 λ_ _ _ _ _ _ _ _ _ _ S e P=>MR e λz q=>IC (Hs S (of_decide_eq_true h.1) q ((DW _).mp h2.2) λ_ vy=>P.here (z▸S) vy _) ((DW _).mp h2.1)
theorem AF{i:Int}{k:Nat}{pos:Pos}:Sound w h₀ n [] N (.Constant (.int i) k pos) (Af (.int i)):=λ_ _ _ _ _ _ _ _ _ _ S e P=>wpAny_Constant_int (P.here ((Dk e).2▸S) ((Dk e).1▸EM _ _) _)
theorem AK{c:Str}{x:Nm}{k:Nat}{pos:Pos}(hx:c=S' x:=by left):Sound w h₀ n [] N (.Constant (.str c) k pos) (Af (.str x)):=λ_ _ _ _ _ _ _ _ _ _ S e P=>B0B (P.here ((Dk e).2▸S) ((Dk e).1▸hx▸IT _ _) _)
theorem C0Y{k:Nat}{pos:Pos}:Sound w h₀ n [] N (.Constant .none k pos) (Af .none):=λ_ _ _ _ _ _ _ _ _ _ S e P=>wpAny_Constant_none (P.here ((Dk e).2▸S) ((Dk e).1▸Rh) _)
theorem C0X{x:Str}{pos:Pos}{fv:FV}{v:Ab}(B:Base h₀ mg mb)(hx:x∈N.gs)(hv:mg x=some v)(hr:FR w (· <h₀.objs.size) h₀ fv v)(hd:(x==("__debug__":Str))=false):
  Sound w h₀ n [] N (.Name x pos) (Af fv):=
 λ_ _ _ _ _ _ _ _ _ _ S e P=>A0X S.fr.ok.kind (S.fr.ok.gk x hx) (M0t (Au S.fr.ok.glob▸B.g.keeps S.base) hv
  (P.here ((Dk e).2▸S) ((Dk e).1▸(FR.mono S.fz0 (λa _ o q=>S.base a o q) hr:VR w _ _ (.f fv) v)) _)) hd
theorem Jg{α:Type}{b:Bool}{x y z:α}{X Y:Prop}(e:cond b x y=z)(h1:b=true→x=z→X)(h0:b=false→y=z→Y):if b=true then X else Y:=by
 cases b with
 |false=>exact (if_neg C3).mpr (h0 rfl e)
 |true=>exact (if_pos rfl).mpr (h1 rfl e)
theorem IL{t b o:Ak}{p:Pos}{c:Cv}{f g:Ev}(hc:SoundC w h₀ n A N t c)(hf:Sound w h₀ n A N b f)(hg:Sound w h₀ n A N o g):Sound w h₀ n A N (.IfExp t b o p) (E5 c f g):=λR env ω _ s' v sh Q E hR S e P=>Ax e λp e1 e2=>wpAny_IfExp (hc R env ω _ p.2 p.1 sh _ E hR S e1 λω1 _ _ S1 st1=>Jg e2 (λ_ e=>hf R env ω1 _ s' v _ Q E hR S1 e (P.of_step' st1)) λ_ e=>hg R env ω1 _ s' v _ Q E hR S1 e (P.of_step' st1))
theorem Bq{o:CmpOp}{op:St→V→V→Option Bool}{l r:Ak}{p:Pos}{f g:Ev}(ho:Cp2 w h₀ n (B4 o) op)(hf:Sound w h₀ n A N l f)(hg:Sound w h₀ n [] N r g)(hm:L5 o r=false:=by left):
  SoundC w h₀ n A N (.Compare l [o] [r] p) (AA op f g):=
 λR env ω _ s' v _ Q E hR S e P=>HU e λa _ b e1 e2 e3=>N0m (Kd hf hg (K:=B4 o) (Q:= λc s₃=>wpAny (Ag pg w) R (Po c) Q E s₃) hR S e1 e2 λω' _ _ x y S' st vx vy=>ho R N env ω' s' a b (.f (.bool v)) _ x y _ E hR S' (congrArg (Fh _) e3) vx vy λω2 h2 tk2 _ S2 st2 vz=>Au vz.toBool▸JP (P ω2 h2 tk2 S2 (st.trans st2 (λ_ q=>q) AY))) hm
theorem HQ{o:CmpOp}{op:St→V→V→Option Bool}{l r:Ak}{p:Pos}{f g:Ev}(ho:Cp2 w h₀ n (B4 o) op)(hf:Sound w h₀ n A N l f)(hg:Sound w h₀ n [] N r g)(hm:L5 o r=false):
  Sound w h₀ n A N (.Compare l [o] [r] p) (E6 (AA op f g)):=
 λR env ω s s' v _ Q E hR S e P=>AV e λp e e4=>HU (v:=p.1) (s2:=p.2) e λa _ b e1 e2 e3=>wpAny_Compare1 (Kd hf hg (K:=B4 o) hR S e1 e2 λω' _ _ x y S' st vx vy=>ho R N env ω' p.2 a b (.f (.bool p.1)) _ x y _ E hR S' (congrArg (Fh _) e3) vx vy (PostE.of_step (v:=.f (.bool p.1)) ((BG e4).1▸(BG e4).2▸P) st)) hm
theorem SoundC.not{x:Ak}{p:Pos}{c:Cv}(hc:SoundC w h₀ n A N x c):SoundC w h₀ n A N (.UnaryOp .Not x p) (Qk c):=λR env ω s s' v sh Q E hR S e P=>AV e λp e e4=>wpAny_isTrue_Not (hc R env ω s p.2 p.1 sh _ E hR S e λω1 h1 tk1 S1 st1=>(BG e4).1▸P ω1 h1 tk1 ((BG e4).2▸S1) st1)
theorem SoundC.val{x:Ak}{f:Ev}(hf:Sound w h₀ n A N x f)(hp: ∀env whole,U1 x env whole=(do let v←whole;Fp x.pos;Ea [v] (Po v))):SoundC w h₀ n A N x (ID f):=
 λR env ω s s' v sh Q E hR S e P=>Ax e λp e1 e2=>Au (hp env _)▸Aq (hf R env ω s p.2 p.1 sh _ E hR S e1 λω1 h1 tk1 _ S1 st1 vx=>V.onBoolR (P:= λx=>wpAny _ _ (Fp _>>= λ_=>Ea [x] (Po x)) Q E _) e2 vx λb _ e3=>Aq (Gw (Cp (JP ((BM e3).1▸P ω1 h1 tk1 ((BM e3).2▸S1) st1)))))
theorem Wg(op:Ui)(x:Ak)(r:List Ak)(env:Env):B0q op (x::r) env=(U1 x env (eval x env)>>= λb=>match op,b with|.And,false=>pure false|.Or,true=>pure true|_,_=>B0q op r env):=rfl
theorem MD{op:Ui}{x:Ak}{c:Cv}(hc:SoundC w h₀ n A N x c):SoundAll w h₀ n A N op [x] c:=λR env ω s s' v sh _ E hR S e P=>Au (Wg op x [] env)▸Aq (hc R env ω s s' v sh _ E hR S e λω1 h1 tk1 S1 st1=>by cases op<;>cases v<;>exact AJ (P ω1 h1 tk1 S1 st1))
theorem Ke{x:Ak}{r:List Ak}{c d:Cv}(hc:SoundC w h₀ n A N x c)(hd:SoundAll w h₀ n A N .And r d):SoundAll w h₀ n A N .And (x::r) (FN c d):=
 λR env ω s s' v sh Q E hR S e P=>Au (Wg .And x r env)▸Ax e λp e1 e2=>Aq (hc R env ω s p.2 p.1 sh _ E hR S e1 λω1 h1 tk1 S1 st1=>by
  obtain ⟨b,s1⟩:=p
  cases b with
  |true=>exact hd R env ω1 s1 s' v _ Q E hR S1 e2 (P.of_step st1)
  |false=>exact AJ ((BM e2).1▸P ω1 h1 tk1 ((BM e2).2▸S1) st1))
theorem SoundC.all{op:Ui}{es:List Ak}{p:Pos}{c:Cv}(h:SoundAll w h₀ n A N op es c):SoundC w h₀ n A N (.BoolOp op es p) c:=λR env ω s s' v sh Q E hR S e P=>h R env ω s s' v sh Q E hR S e P
theorem C0V{x y:Ak}{p:Pos}{f g:Ev}(hf:Sound w h₀ n A N x f)(hg:Sound w h₀ n A N y g):Sound w h₀ n A N (.BoolOp .Or [x,y] p) (JV f g):=
 λR env ω s s' v sh Q E hR S e P=>Ax e λp e1 e2=>wpAny_Or2 (hf R env ω s p.2 p.1 sh _ E hR S e1 λω1 h1 tk1 x S1 st1 vx=>V.onBoolR (P:= λx=>wpAny _ _ (Po x) (λt s=>if t=true then Q x s else wpAny _ _ (eval y env) Q E s) E _) e2 vx λb _ e3=>JP (Jg e3
  (λhb e=>P ω1 h1 tk1 _ ((BM e).2▸S1) st1 ((BM e).1▸hb▸IS _)) λ_ e=>hg R env ω1 _ s' v _ Q E hR S1 e (P.of_step' st1)))
theorem VF{x y:Ak}{p:Pos}{f g:Ev}(hf:Sound w h₀ n A N x f)(hg:Sound w h₀ n A N y g):Sound w h₀ n A N (.BoolOp .And [x,y] p) (JU f g):=
 λR env ω s s' v sh Q E hR S e P=>Ax e λp e1 e2=>wpAny_And2 (hf R env ω s p.2 p.1 sh _ E hR S e1 λω1 h1 tk1 x S1 st1 vx=>V.onBoolR (P:= λx=>wpAny _ _ (Po x) (λt s=>if t=true then wpAny _ _ (eval y env) Q E s else Q x s) E _) e2 vx λb _ e3=>JP (Jg e3
  (λ_ e=>hg R env ω1 _ s' v _ Q E hR S1 e (P.of_step' st1)) λhb e=>P ω1 h1 tk1 _ ((BM e).2▸S1) st1 ((BM e).1▸hb▸IS _)))
theorem VRs.length{vs:List V}{ys:List Ab}(e:VRs w ω h vs ys):vs.length=ys.length:=RelL.len e
theorem A3:SoundL w h₀ n [] N [] []:= λ_ _ _ ω _ _ _ sh _ _ _ S e k=>AJ (k ω sh.heap sh.toks [] ((Dk e).2▸S) StepE.refl ((Dk e).1▸rfl))
theorem It{f:Ev}{fs:List Ev}{vs:List V}{P:Prop}(e:DD (f::fs) s=some (vs,s2))(q: ∀v s1 r,f s=some (v,s1)→DD fs s1=some (r,s2)→vs=v::r→P):P:=Ax e λp e1 e2=>AV e2 λa e3 e4=>q p.1 p.2 a.1 e1 ((BG e4).2▸e3) (BG e4).1.symm
theorem Jr: ∀{fs:List Ev} {s s':St} {vs:List V},DD fs s=some (vs,s')→vs.length=fs.length:= λ{fs}=>by
 induction fs with
 |nil=>exact λe=>(Dk e).1▸rfl
 |cons f fs ih=>exact λe=>It e λv s1 r _ e2 e3=>e3▸congrArg (· +1) (ih e2)
theorem D0h{x:Ak}{r:List Ak}{f:Ev}{fs:List Ev}(hf:Sound w h₀ n A N x f)(hr:SoundL w h₀ n B N r fs)(hs: ∀env,AR (x::r) env=(false,eval x env)::AR r env)
  (hB: ∀s v s1 r s2,f s=some (v,s1)→DD fs s1=some (r,s2)→v.off B) {C:List Nat} (hA: ∀k∈A,k∈C) (hC: ∀k∈B,k∈C):SoundL w h₀ n C N (x::r) (f::fs):=
 λR env pos ω s s' vs sh Q E hR S e k=>It e λv s1 r' e1 e2 e3=>Au (hs env)▸
  (show wpAny _ _ (eval x env>>= λv=>(pure [v]>>= λhere=>Ea here (Er (Cy pos (AR r env)))>>= λrest=>pure (here++rest))) Q E sh from
   Aq (hf R env ω s s1 v sh _ E hR S e1 λω1 _ _ y S1 st1 vy=>Aq (AJ (Aq (Cp (hr R env pos ω1 s1 s' r' _ _ E hR S1 e2 λω2 h2 tk2 ys S2 st2 vys=>AJ (k ω2 h2 tk2 (y::ys) S2 (st1.trans st2 hA hC) (e3▸RelL.mk (vy.step st2 (hB _ _ _ _ _ e1 e2)) vys))))))))
theorem Ah{x:Ak}{r:List Ak}{f:Ev}{fs:List Ev}(hf:Sound w h₀ n A N x f)(hr:SoundL w h₀ n [] N r fs)(hs: ∀env,AR (x::r) env=(false,eval x env)::AR r env:=by exact λ_=>by left):SoundL w h₀ n A N (x::r) (f::fs):=D0h hf hr hs (λ_ _ _ _ _ _ _=>BO _) (λ_ q=>q) AY
theorem Wc: ∀{vs:List V} {xs:List FV} {ys:List Ab},G4 vs=some xs→VRs w ω h vs ys→FRs w ω.fz h xs ys:= λ{vs}=>by
 induction vs with
 |nil=>exact λe r=>RelL.nil r (P:= λys=>FRs w ω.fz h _ ys) (An e▸rfl)
 |cons v vs ih=>exact λe r=>RelL.cons r (P:= λys=>FRs w ω.fz h _ ys) λy r a b=>V.onFR e a λx f e=>AV e λxs e1 e2=>e2▸RelL.mk f (ih e1 b)
noncomputable def Wd.addFz(ω:Wd)(a:Addr):Wd:={ω with fz:= λb=>ω.fz b∨b=a}
theorem Grow.push{o:Obj}(S:SR w h₀ N env ω s h):Grow ω h (ω.addFz h.objs.size) (h.push o):=
 have lt:h.objs.size<(h.push o).objs.size:=CI h o▸C8 _
 ⟨CY lt,λ_ _ e=>Dd _ e,λ_ _ e=>e,λ_ _ e=>e,λ_ _ _ e=>e,λ_ _ e=>e,λ_ e=>.inl e,λ_ e=>.inl e,λa e=>e.imp_right λ(e:a=h.objs.size)=>Au e▸⟨A9 _,lt,GG λz=>Bu _ (S.low _ z).2⟩⟩
theorem Cg{es:List Ak}{fs:List Ev}{k:Nat}{pos:Pos}(hl:SoundL w h₀ n A N es fs)(hz:fs.length≤1000):Sound w h₀ n A N (.Tuple es k pos) (B8 fs):=
 λR env ω s _ _ sh _ E hR S e P=>Ax e λp q e2=>AV e2 λxs q2 e3=>U5 (hl R env pos ω s p.2 p.1 sh _ E hR S q λω1 h1 _ ys S1 st1 vys=>
  have G:=Grow.push (o:={cls:=.type "tuple",data:=.seq ys.toArray}) S1
  ⟨by refine vys.length▸?_;exact (Jr q).symm▸(Co.symm▸(A8 hz (by decide))),P _ _ _ _ (((BG e3).2▸S1).grow G) (st1.trans G.step (λ_ q=>q) AY)
   ((BG e3).1▸(⟨_,rfl,Or.inr rfl,ys.toArray,⟨_,BQ _ rfl,rfl,0,rfl⟩,Au (Dh w _ _ xs)▸FRs.mono G.fz (λa _ o q=>G.keep a o q) (Wc q2 vys)⟩:VR w _ _ (.f (.tup xs)) _))⟩)
end
theorem D0H:Wu.Nodup:=by decide
theorem Wv(r:Nm): ∀x∈Wu,x≠0::r:= λx hx e=>by
 have h:(Wu.all λx=> !(x.head?==some 0))=true:=by rfl
 have:=D1.mp h x hx
 replace this:=e▸this
 exact noT this
theorem YV{α:Type}{xs:List α}(h:xs.Nodup){i j:Nat}(hi:i<xs.length)(hj:j<xs.length)(e:xs[i]=xs[j]):i=j:=by
 rcases L0U i j with q|q|q
 ·exact absurd e (A0G.mp h i j hi hj q)
 ·exact q
 ·exact absurd e.symm (A0G.mp h j i hj hi q)
theorem Si{α:Type}{xs:List α}{i:Nat}{d:α}(h:i<xs.length):xs.getD i d=xs[i]:=by simp [TL,Fc h]
theorem D0I{a b:Nat}(e:Bh a=Bh b):a=b:=by
 have e:=N00.mp e
 have small: ∀{c:Nat},c<Wu.length→Wu.getD c [0,c]∈Wu:= λ{c} h=>by rw [Si h];exact Lo h
 have big: ∀{c:Nat},¬c<Wu.length→Wu.getD c [0,c]=[0,c]:= λ{c} h=>by simp [TL,GN (GS h)]
 by_cases ha:a<Wu.length
 ·by_cases hb:b<Wu.length
  ·rw [Si ha,Si hb] at e
   exact YV D0H ha hb e
  ·rw [big hb] at e
   exact absurd e (Wv _ _ (small ha))
 ·by_cases hb:b<Wu.length
  ·rw [big ha] at e
   exact absurd e.symm (Wv _ _ (small hb))
  ·rw [big ha,big hb] at e
   simpa using e
structure ClsA(K:Frag)(C a:Nat):Prop where
 get:plainGet K C (Bh a)=true
 dict:hasDictIn K C=true
 own:EI K (.ref C) (Bh a)=some none
 set:EI K (.ref C) "__setattr__"=some (some (.builtin "object.__setattr__"))
 over:plainOver K C=true
 taker:takerIn K C (Bh a)=some none
structure Gd(K:Frag)(h₀:Heap)(mg mb:Str→Option Ab):Prop extends Base h₀ mg mb where
 kin:K.In h₀
 cls: ∀C a,okA C a=true→ClsA K C a
section
variable{w:A5}{h₀:Heap}{N:Names}{env:Env}{ω ω':Wd}{h h':Heap}{s s1 s2:St}{n:Nat}{A B:List Nat}{mg mb:Str→Option Ab}{K:Frag}
theorem VR.handed{v:V}{x:Ab}(e:VR w ω h v x):B0n x=true:=by
 cases v with
 |f y=>cases y with
  |none=>exact Au (e:x=_)▸rfl
  |bool b=>exact Au (e:x=_)▸rfl
  |int i=>exact FE e λt e=>Au e▸rfl
  |str i=>exact FE e λt e=>Au e▸rfl
  |bytesN n=>exact F5 e λb t e _=>Au e▸rfl
  |_=>exact Dx (P:= λx=>B0n x=true) e λ_ _ _=>rfl
 |_=>exact Dt e λ_ _ e=>Au e▸rfl
theorem G0H{a b:Nat}{t:Tok}:(B0l (Bh a) t).isStr (Bh b)=B6 a b:=by
 show (Bh a==Bh b)=B6 a b
 by_cases e:a=b
 ·subst e;simp
 ·have h1:B6 a b=false:=by
   cases z:B6 a b with
   |false=>rfl
   |true=>exact absurd (GQ z) e
  exact h1.symm▸(beq_eq_false_iff_ne.mpr λz=>e (D0I z))
def OptR{α β:Type}(R:α→β→Prop):Option α→Option β→Prop
 |none=> λb=>b=none
 |some a=> λb=> ∃y,b=some y∧R a y
theorem QS{α β:Type}{R:α→β→Prop}{p:Prop}[Decidable p]{a a':Option α}{b b':Option β}(h:OptR R a b)(h':OptR R a' b'):OptR R (if p then a else a') (if p then b else b'):=by
 by_cases q:p
 ·rw [if_pos q,if_pos q];exact h
 ·rw [if_neg q,if_neg q];exact h'
theorem OptR.some{α β:Type}{R:α→β→Prop}{a:Option α}{b:Option β}{x:α}{P:Prop}(h:OptR R a b)(e:a=some x)(k: ∀y,b=some y→R x y→P):P:=(e▸h:OptR R (Uc x) b).elim λy q=>k y q.1 q.2
theorem OptR.isSome{α β:Type}{R:α→β→Prop}{a:Option α}{b:Option β}(h:OptR R a b):a.isSome=b.isSome:=by
 cases a with
 |none=>exact Au (h:b=none)▸rfl
 |some x=>exact h.elim λy q=>Au q.1▸rfl
theorem RelL.nget{α:Type}{R:α→Ab→Prop}{a:Nat}: ∀{fs:List (Nat×α)} {es:List CF},RelL (λe=>AtE e.1 (R e.2)) fs es→OptR (λv e=>R v e.val) (GB fs a) (es.find? (·.key.isStr (Bh a))):= λ{fs}=>by
 induction fs with
 |nil=>exact λe=>RelL.nil e (P:= λes=>OptR _ none (es.find? _)) rfl
 |cons p r ih=>
  refine λe=>RelL.cons e (P:= λes=>OptR _ _ (es.find? _)) λy ys q b=>q.casesOn λt h1 h2=>?_
  rw [TK,h1,G0H]
  show OptR _ (cond (B6 p.1 a) (some p.2) (Mine.GB r a)) _
  cases B6 p.1 a with
  |true=>exact ⟨y,rfl,h2⟩
  |false=>exact ih b
theorem X4{n:Str}{es:List CF}{e:CF}(q:es.find? (·.key.isStr n)=some e):getL n es=some (some e.val):=by unfold getL;rw [q]
theorem VRo.get{fs:List (Nat×V)}{es:List CF}{a:Nat}{v:V}{P:Prop}(e:VRo w ω h fs es)(q:GB fs a=some v)(k: ∀y,getL (Bh a) es=some (some y)→VR w ω h v y→P):P:=OptR.some (RelL.nget e) q λy h1 h2=>k _ (X4 h1) h2
theorem FRo.get{fs:List (Nat×FV)}{es:List CF}{a:Nat}{v:FV}{P:Prop}(e:FRo w ω.fz h fs es)(q:GB fs a=some v)(k: ∀y,getL (Bh a) es=some (some y)→VR w ω h (.f v) y→P):P:=OptR.some (RelL.nget e) q λy h1 h2=>k _ (X4 h1) h2
theorem B0W{fs:List (Nat×FV)}{es:List CF}(e:FRo w ω.fz h fs es):VRo w ω h (fs.map λp=>(p.1,V.f p.2)) es:=by
 induction fs generalizing es with
 |nil=>exact e
 |cons p r ih=>exact RelL.cons e (P:=VRo w ω h _) λy ys q b=>.mk q (ih b)
theorem Sj{sh:Ac}{R:Aw}{Q E:Ab→Ac→Prop}{a d:Addr}{C at_:Nat}{es:List CF}{m:Nat}{y:Ab}(G:Gd K h₀ mg mb)(hb: ∀b o,h₀.get? b=some o→sh.heap.get? b=some o)(ho:okA C at_=true)
  (h1:sh.heap.get? a=some (instObj C d)) (h2:sh.heap.get? d=some (Gr es m)) (hl:getL (Bh at_) es=some (some y)) (hh:B0n y=true) (q:Q y {sh with toks:=sh.toks+1}):
  wpAny (Ag pg w) R (Pe (.ref a) (Bh at_) true) Q E sh:=by
 have c:=G.cls C at_ ho
 have I:W.InstAt sh.heap a (instObj C d) C (some (Gr es m)):=⟨h1,rfl,rfl,h2⟩
 exact get_value (G.kin.keeps hb) I (plainGet_of c.get).1 (findObj_own c.dict c.own rfl (by rw [lookIn_dict];exact hl)) hh q
theorem I08{a:Nat}(G:Gd K h₀ mg mb):Op1 w h₀ n (λx=>Pe x (Bh a) true) (Ap a):= λR N env ω s v r sh x Q E _ S e va P=>by
 cases v with
 |f y=>cases y with
  |obj C fs=>exact ifE e λho e=>AV e λu e1 e2=>Dx (P:= λx=>wpAny _ _ (Pe x _ true) Q E _) va λb _ l=>l.casesOn λd es m z3 z4 z5=>FRo.get (Q8 w ω.fz sh.heap fs▸z5.2) e1 λy u1 u2=>Sj G S.base ho z3 z4 u1 u2.handed (P.here S (e2▸u2) _)
  |_=>exact noS e
 |c k=>exact noS e
 |g k=>exact Ax e λo q e=>QQ e λC fs ho e=>ifE e λhk e=>S.cell (b:=false) (P:= λx=>wpAny _ _ (Pe x _ true) Q E _) q va λb _ _ _ c=>(c.inst ho).casesOn λd es m z3 z4 z5=>VRo.get z5.2.1 e λy u1 u2=>Sj G S.base hk z3 z4 u1 u2.handed (P.here S u2 _)
 |d k i=>
  refine Ax e λo q e=>?_
  cases o with
  |ddict C es=>
    refine Ax e λen e1 e=>ifE e λho e=>AV e λu e2 e3=>(S.g k _ q).casesOn λ_ _ _ _ c=>DdP.casesOn c λkvs ep _ _ _ z=>RelI.get z e1 λy _ z=>z.casesOn λb _ z1 _ z2=>z2.casesOn λd es m z3 z4 z5=>?_
    refine va.elim λb' q=>Au q.2▸?_
    rw [Cc] at z1
    exact (An (z1.symm.trans q.1))▸(FRo.get z5.2 e2 λy u1 u2=>Sj G S.base ho z3 z4 u1 u2.handed (P.here S (e3▸u2) _))
  |_=>exact noS e
theorem Az{a:Nat}{o:Ak}{nm:Str}{pos:Pos}{f:Ev}(G:Gd K h₀ mg mb)(hf:Sound w h₀ n A N o f)(hn:nm=Bh a:=by left)(hb: ∀env,Uw o nm env (eval o env)=eval o env:=by exact λ_=>by left):
  Sound w h₀ n A N (.Attribute o nm pos) (Al (Ap a) f):=by
 subst hn
 exact λR env ω s s' v sh Q E hR S e P=>Lg e λb e1 e2=>N0X (hf R env ω s s' b sh _ E hR S e1 λω' _ _ x S' st vx=>I08 G R N env ω' s' b v _ x Q E hR S' e2 vx (P.of_step st))
  (by show (do let x←Uw o (Bh a) env (eval o env);Fp pos.atName;let r←Ea [x] (Pe x (Bh a) true);B03 o x r;pure r)=_;rw [hb])
theorem A0r{b k:Nm}{y:Ab}{r:List (Str×Ab)}:Fs ((S' b,y)::r) (S' k)=if b=k then some y else Fs r (S' k):=by
 unfold Fs
 rw [TK]
 by_cases q:b=k
 ·rw [if_pos q,q,decide_eq_true rfl];rfl
 ·rw [if_neg q,decide_eq_false λz=>q (N00.mp z)]
theorem FRd.at{k:Nm}: ∀{es:List (Nm×FV)} {kvs:List (Str×Ab)},FRd w ω.fz h es kvs→OptR (λv y=>VR w ω h (.f v) y) (Ay es k) (Fs kvs (S' k)):= λ{es}=>by
 induction es with
 |nil=>exact λe=>RelL.nil e (P:= λkvs=>OptR _ none (Fs kvs _)) rfl
 |cons p r ih=>exact λe=>RelL.cons e (P:= λkvs=>OptR _ _ (Fs kvs _)) λkv ys q b=>q.casesOn λy e h=>Au e▸Au A0r▸QS ⟨y,rfl,h⟩ (ih b)
theorem OptR.map{α β γ:Type}{R:α→β→Prop}{R':γ→β→Prop}{f:α→γ}{a:Option α}{b:Option β}(h:OptR R a b)(k: ∀x y,R x y→R' (f x) y):OptR R' (a.map f) b:=by
 cases a with
 |none=>exact h
 |some x=>exact h.imp λy q=>q.imp_right (k x y)
theorem RD.at{C k:Nat}{x:Nm}: ∀{es:List (Nm×List (Nat×FV))} {j:Nat} {kvs:List (Str×Ab)},RD w ω h C k es j kvs→OptR (λi y=>VR w ω h (.d k (j+i)) y) (Ga es x) (Fs kvs (S' x)):= λ{es}=>by
 induction es with
 |nil=>exact λe=>RelI.nil e (P:= λkvs=>OptR _ none (Fs kvs _)) rfl
 |cons p r ih=>exact λ{j _} e=>RelI.cons e (P:= λkvs=>OptR _ _ (Fs kvs _)) λkv ys q b=>q.casesOn λa e d _ _=>Au e▸Au A0r▸QS ⟨_,rfl,a,d,rfl⟩ ((ih b).map λi y q=>(Fg j i▸q:VR w ω h (.d k (j+(i+1))) y))
theorem D0F{k k':List (Int⊕Str)}{a:Addr}{y:Ab}{r:List (List (Int⊕Str)×Addr×Ab)}:L4 ((k,a,y)::r) k'=if k=k' then some (a,y) else L4 r k':=by
 unfold L4
 rw [TK]
 by_cases q:k=k'
 ·rw [if_pos q,decide_eq_true q];rfl
 ·rw [if_neg q,decide_eq_false q]
theorem G0Q{a b:Int×Nm}:([.inl a.1,.inr (S' a.2)]:List (Int⊕Str))=[.inl b.1,.inr (S' b.2)]↔a=b:=⟨λe=>JD (Sum.inl.inj (A06 e).1) (N00.mp (Sum.inr.inj (A06 (A06 e).2).1)),λe=>e▸rfl⟩
theorem FRt.at{k:Int×Nm}: ∀{es:List ((Int×Nm)×FV)} {xs},FRt w ω h es xs→OptR (λv y=>VR w ω h (.f v) y.2) (Ay es k) (L4 xs [.inl k.1,.inr (S' k.2)]):= λ{es}=>by
 induction es with
 |nil=>exact λe=>RelL.nil e (P:= λkvs=>OptR _ none (L4 kvs _)) rfl
 |cons p r ih=>
  refine λe=>RelL.cons e (P:= λxs=>OptR _ _ (L4 xs _)) λkv ys q b=>q.casesOn λa y e _ h=>Au e▸Au D0F▸?_
  simp only [G0Q]
  exact QS ⟨_,rfl,h⟩ (ih b)
def IH(w:A5)(R:Aw)(sh:Ac)(x y:Ab)(Q E:Ab→Ac→Prop):Prop:=∃T id,sh.TypeIs x T∧HG (.type T) "__getitem__"=pure (some (.builtin id))∧wpAny (Ag pg w) R (HE x y) Q E sh
theorem XS{xs:List FV}{i:Int}{r:V}{P:Prop}(e:Jh xs i=some r)(k:0≤i→i<lim→∀x,xs[i.toNat]?=some x→.f x=r→P):P:=ifE e λh0 e=>ifE e λhl e=>AV e λx e1 e2=>k h0 hl x e1 e2
theorem Ou{sh:Ac}{t:List FV}{p:Int×Nm}{a:Addr}(hp:Ic t=some p)(l:TupP sh.heap a (FRs w ω.fz sh.heap t)):IsTupleKey (Jl w) sh.heap [.inl p.1,.inr (S' p.2)] a:=
 l.casesOn λys ⟨oo,zo,zc,m,zd⟩ q=>by
  rw [XY hp] at q
  refine ⟨oo,ys,m,zo,zc,zd,?_⟩
  generalize ys.toList=l at q
  refine RelL.cons (R:=FR w ω.fz sh.heap) q (P:=PySem.ItemsAre _ _) λy1 r f1 q=>RelL.cons q (P:= λr=>PySem.ItemsAre _ _ (y1::r)) λy2 r f2 q=>RelL.nil q (P:= λr=>PySem.ItemsAre _ _ (y1::y2::r)) ?_
  exact FE f1 λt e1=>FE f2 λu e2=>Au e1▸Au e2▸.cons (by show B0j p.1 (.int p.1 t)=true;simp [B0j]) (.cons (by show B0k (S' p.2) (.str (S' p.2) u)=true;simp [B0k]) .nil)
theorem Tj{i:Int}{n:Nat}(h0:0≤i)(h:i.toNat<n):seqIndex? i n=some i.toNat:=by
 have h1:i<n:=by lia
 dsimp only [seqIndex?]
 refine (if_neg (L0k.mpr h0)).symm▸?_
 simp only [decide_eq_true h0,decide_eq_true h1,L0b,if_true]
theorem I0D{R:Aw}{sh:Ac}{Q E:Ab→Ac→Prop}{a b r:V}{x y:Ab}(hR:Rm n R)(S:SR w h₀ N env ω s sh.heap)(e:AQ s a b=some r)(va:VR w ω sh.heap a x)(vb:VR w ω sh.heap b y)
  (P:PostE w h₀ N env [] ω sh s r Q):IH w R sh x y Q E:=
 have lim63: ∀{i:Int},i<lim→i<2^63:= λh=>h
 V.onFR e vb λ_ f e=>IG (P:= λy=>IH w R sh x y Q E) e f
  (λi t e=>VQ (P:= λx=>IH w R sh x (.int i t) Q E) e va
   (λxs c _ l e=>XS e λh0 hl x e1 e2=>l.casesOn λys z z3=>RelL.get z3 e1 λu y1 y2=>⟨"tuple",_,z.elim λo z=>⟨o,z.1,z.2.1⟩,PySem.F.slot_tuple_getitem.lookup,O0f z (Int.le_trans (by decide) h0) (lim63 hl) (Tj h0 (DN.mp y1).1) (I0▸y1) (P.here S (e2▸y2) _)⟩)
   (λcs u e=>ifE e λh0 e=>ifE e λhl e=>AV e λc e1 e2=>⟨"str",_,typeIs_str _ _ _,PySem.F.slot_str_getitem.lookup,O0e (c:=c) (by rw [decide_eq_false (by lia),decide_eq_false (L0j.mpr (lim63 hl))];rfl) (by rw [Hb,Tj h0 (DN.mp e1).1];simpa [S'] using e1) (P.here S (e2▸IT [c] _) _)⟩)
   λe=>Ax e λo q e=>HP e λxs ho e=>S.view (P:= λx=>IH w R sh x _ Q E) q va λc l=>XS e λh0 hl x e1 e2=>(l.list ho).casesOn λys m z z3=>RelL.get z3 e1 λu y1 y2=>⟨"list",_,⟨_,z,rfl⟩,M07.lookup,N0l ⟨_,z,rfl,_,rfl⟩ h0 (lim63 hl) (I0▸y1) (P.here S (e2▸y2) _)⟩)
  (λk t e=>Ax e λo q e=>S.view (P:= λx=>IH w R sh x _ Q E) q va λc l=>C0Q e
   (λes ho e=>AV e λv e1 e2=>(l.dict ho).casesOn λkvs z z3=>(FRd.at z3).some e1 λu y1 y2=>⟨"dict",_,z.typeIs,Uk.lookup,B0L (Fq pg w _ _) z.mapOf y1 (P.here S (e2▸y2) _)⟩)
   λC es ho e=>V.onGE e λj hj e=>AV e λi e1 e2=>(l.ddict ho).casesOn λkvs ep z _ _ z3=>(RD.at z3).some e1 λu y1 y2=>⟨"dict",_,z.typeIs,Uk.lookup,B0L (Fq pg w _ _) z.mapOf y1 (P.here S (e2▸(Cc i▸(hj▸y2:VR w ω sh.heap (.d (V.g j).k (0+i)) u):VR w ω sh.heap (.d j i) u)) _)⟩)
  λt ka _ l e=>Ax e λp hp e=>Ax e λo q e=>QR e λes ho e=>AV e λv e1 e2=>S.view (P:= λx=>IH w R sh x _ Q E) q va λc l'=>(l'.tdict ho).casesOn λxs z z3=>(FRt.at z3).some e1 λu y1 y2=>⟨"dict",_,z.typeIs,Uk.lookup,wpAny_getItem_heap (knd:=Pp (Jl w)) (DX (show R.units+1≤R.units+64*n+64 by lia) hR.2.2.1) (Ou hp l) z y1 (P.here S (e2▸y2) _)⟩
theorem BD{v i:Ak}{pos:Pos}{f g:Ev}(hf:Sound w h₀ n A N v f)(hg:Sound w h₀ n [] N i g)(hs: ∀o j,IB i false o j=I9 [o,j] (HE o j):=by exact λ_ _=>by left):Sound w h₀ n A N (.Subscript v i pos) (Ao AQ f g):=
 λR env ω s s' r sh Q E hR S e P=>HU e λa s1 b e1 e2 e3=>Ud (Kd hf hg (K:= λx y=>Lx v i x y) hR S e1 e2 λω' h' tk x y S' st vx vy=>F0q (I0D (R:=R) (E:=E) hR S' e3 vx vy (P.of_step (tk:=tk) st)) λT id t1 t2 t3=>A0U t1 t2 t3 (hs _ _))
end
theorem A0p(h:Heap)(a:Addr)(f:Obj→Obj):(h.update a f).objs.size=h.objs.size:=by simp [Heap.update]
theorem Oc{M:D3}{Γ:Ctx}{p:Pos}{t:Sem Fin}{fs:List Frame}{s s':Ac}{e:End}(h:Runs M Γ p t fs s e s'):s.heap.objs.size≤s'.heap.objs.size:=by induction h<;>(try simp only [Shared.setGen,A0p,CI] at*)<;>omega
theorem K08{M:D3}{Γ:Ctx}{p:Pos}{g:Nat}{r:Resume}{s s':Ac}{res:GenResult}(h:Wakes M Γ p g r s res s'):s.heap.objs.size≤s'.heap.objs.size:=by
 unfold Wakes at h
 split at h
 ·exact h.elim
 ·split at h
  ·obtain ⟨e₁,s₁,hr,_,_,rfl⟩:=h;exact (Oc hr:(s.setGen g .running).heap.objs.size≤s₁.heap.objs.size)
  ·rw [h.2];exact A9 _
  ·rw [h.2];exact A9 _
 ·obtain ⟨e₁,s₁,hr,_,_,rfl⟩:=h;exact (Oc hr:(s.setGen g .running).heap.objs.size≤s₁.heap.objs.size)
 ·rw [h.2];exact A9 _
 ·rw [h.2];exact A9 _
theorem K0S{α:Type}(M:D3)(Γ:Ctx)(n:Nat)(t:Sem α): ∀(Q:α→Pos→Ac→Prop) (E:Ab→Pos→Ac→Prop) (p:Pos) (s:Ac),n≤s.heap.objs.size→B0i M Γ t Q E p s→
  B0i M Γ t (λa p' s'=>n≤s'.heap.objs.size∧Q a p' s') (λe p' s'=>n≤s'.heap.objs.size∧E e p' s') p s:=by
 induction t with
 |pure a=>intro Q E p s hn h;exact ⟨hn,h⟩
 |raise e=>intro Q E p s hn h;exact ⟨hn,h⟩
 |unsupported _=>intro Q E p s _ h;exact h
 |finish _=>intro Q E p s _ h;exact h
 |rule _ k ih=>intro Q E p s hn h;exact ih () Q E p s hn h
 |«at» p' k ih=>intro Q E p s hn h;exact ih () Q E p' s hn h
 |load a _ k ih=>intro Q E p s hn h;obtain ⟨o,ho,h⟩:=h;exact ⟨o,ho,ih o Q E p s hn h⟩
 |update a _ f k ih=>intro Q E p s hn h;exact ⟨h.1,ih () Q E p _ (by rw [A0p];exact hn) h.2⟩
 |loadIfAlive a k ih=>intro Q E p s hn h;exact ih _ Q E p s hn h
 |point _ k ih=>intro Q E p s hn h;exact ih () Q E p s hn h
 |register _ _=>intro Q E p s _ h;exact h
 |alloc o k ih=>intro Q E p s hn h;exact ih _ Q E p _ (by simp only [CI];omega) h
 |fresh k ih=>intro Q E p s hn h;exact ih _ Q E p _ hn h
 |ask k ih=>intro Q E p s hn h;exact ih _ Q E p s hn h
 |choose src m k ih=>intro Q E p s hn h;exact ⟨h.1,ih _ Q E p _ hn h.2⟩
 |os q _ k ih=>intro Q E p s hn h;exact ih _ Q E p _ hn h
 |call c hd _ _ k ih=>intro Q E p s hn h;obtain ⟨r,s',hr,h⟩:=h;exact ⟨r,s',hr,ih r Q E p s' (A8 hn (Oc hr)) h⟩
 |handled own k ih=>intro Q E p s hn h;exact ih _ Q E p s hn h
 |genState g k ih=>intro Q E p s hn h;obtain ⟨st,hs,h⟩:=h;exact ⟨st,hs,ih _ Q E p s hn h⟩
 |newGen c k ih=>intro Q E p s hn h;exact ih _ Q E p _ hn h
 |resume g r _ k ih=>intro Q E p s hn h;obtain ⟨res,s',hw,h⟩:=h;exact ⟨res,s',hw,ih res Q E p s' (A8 hn (K08 hw)) h⟩
 |yield _ _ _ _=>intro Q E p s _ h;exact h
 |stack k ih=>intro Q E p s hn h;exact ih _ Q E p s hn h
 |fork _ _=>intro Q E p s _ h;exact h
 |thread k ih=>intro Q E p s hn h;exact ih _ Q E p s hn h
 |await _ _ _ _ _=>intro Q E p s _ h;exact h
section
variable{α:Type}{M:D3}{A:Aw}{s:Ac}
theorem K0H{t:Sem α}{Q:α→Ac→Prop}{E:Ab→Ac→Prop}{n:Nat}(hn:n≤s.heap.objs.size)(h:wpAny M A t Q E s):
  wpAny M A t (λa s'=>n≤s'.heap.objs.size∧Q a s') (λe s'=>n≤s'.heap.objs.size∧E e s') s:=
 λΓ p hΓ=>K0S M Γ n t _ _ p s hn (h Γ p hΓ)
theorem EF{t:Sem α}{Q:α→Ac→Prop}{E:Ab→Ac→Prop}(h:wpAny M A t (λa s'=>s.heap.objs.size≤s'.heap.objs.size→Q a s') (λe s'=>s.heap.objs.size≤s'.heap.objs.size→E e s') s):wpAny M A t Q E s:=Bo (K0H (A9 _) h) (λ_ _ x=>x.2 x.1) (λ_ _ x=>x.2 x.1)
theorem N02{c:Code}{R:BR→Ac→Prop}(h:Dw M A c (λr s'=>s.heap.objs.size≤s'.heap.objs.size→R r s') s):Dw M A c R s:=λΓ p hc hΓ=>by obtain ⟨r,s',hr,hR⟩:=h Γ p hc hΓ;exact ⟨r,s',hr,hR (Oc hr)⟩
end
theorem NS:Manifest.owners.lookup (N0z ['y','a','r','r','a','e','t','y','b'].reverse)=some Manifest.sig_bytearray:=by left
theorem J0K:Slot "bytearray" "__len__" "bytearray.__len__":=
 .of (owner:= "bytearray") (n:= "__len__") (by rw [GZ,GW];left) (by decide+kernel) (by decide+kernel) (by decide+kernel)
  (by first|exact .inl (by decide+kernel)|exact .inr (by decide+kernel)) (by rw [Pf];left)
theorem F0v:I6 Gu "bytearray.__len__"=some Dc.«bytearray.__len__»:=B01 (by left)
theorem D0B(a:Ab):HC "bytearray.__len__" ⟨[a],[]⟩:=by unfold HC;rw [U3 (id:= "bytearray.__len__") (n:=['_','_','n','e','l','_','_']) (o:=['y','a','r','r','a','e','t','y','b']) (by left) NS];left
theorem H0N(a:Addr)(b:Array UInt8):Meets (Dc.«bytearray.__len__» ⟨[.ref a],[]⟩) (λ_ R s=>s.heap.get? a=some (Cj b)∧R (.ok (.ret (.int b.size s.toks))) {s with toks:=s.toks+1}):=
 .of_wp λprog w A R s h=>by
  obtain ⟨hp,g,d,tk,os⟩:=s;obtain ⟨hl,h⟩:=h
  wp_walk using B0M hl
  exact ⟨_,rfl,h⟩
section
variable{w:A5}{h₀:Heap}{N:Names}{env:Env}{ω ω':Wd}{h h':Heap}{s s1 s2:St}{n:Nat}{A B:List Nat}{mg mb:Str→Option Ab}{K:Frag}
theorem Eu{p:St→V→Bool}{f:Ev}{v:V}(e:AH p f s=some (v,s2)):f s=some (v,s2)∧p s2 v=true:=BH e λa s1 e1 e2=>ifE e2 λh e=>(BM e).1▸(BM e).2▸⟨e1,h⟩
theorem K0y{op:St→V→V→V→Option V}{f g k:Ev}{v:V}{P:Prop}(e:IE op f g k s=some (v,s2))(q: ∀a sa b sb c,f s=some (a,sa)→g sa=some (b,sb)→k sb=some (c,s2)→op s2 a b c=some v→P):P:=BH e λa sa e1 e=>BH e λb sb e2 e=>BH e λc _ e3 e=>MR e λz e4=>q a sa b sb c e1 e2 (z▸e3) (z▸e4)
structure Blt(mg:Str→Option Ab)(gs:List Str)(nm:Str)(v:Ab):Prop where
 gs:nm∈gs
 miss:mg nm=none
 boot:M0P nm=some v
 name:nm≠ "__name__"
 dbg:(nm==("__debug__":Str))=false
theorem Gf{nm:Str}{v:Ab}{p:Pos}{R:Aw}{sh:Ac}{Q E:Ab→Ac→Prop}(B:Base h₀ mg mb)(b:Blt mg N.gs nm v)(S:SR w h₀ N env ω s sh.heap)(q:Q v sh):wpAny (Ag pg w) R (eval (.Name nm p) env) Q E sh:=A0X S.fr.ok.kind (S.fr.ok.gk nm b.gs) (loadGlobal_builtin (by rw [S.fr.ok.glob];exact B.g.keeps S.base) b.miss (by rw [S.fr.ok.bltn];exact B.b.keeps S.base) (by exact (B.blt nm b.name).symm▸b.boot) q) b.dbg
theorem Sound.call1{nm:Str}{id:String}{op:St→V→Option V}{e:Ak}{p pos:Pos}{f:Ev}(B:Base h₀ mg mb)(b:Blt mg N.gs nm (.builtin id))(ho:Op1 w h₀ n (λx=>call (.builtin id) [x]) op)(hf:Sound w h₀ n A N e f)
  (hs: ∀env,AR [e] env=[(false,eval e env)]):Sound w h₀ n A N (.Call (.Name nm p) [e] [] pos) (Al op f):=
 λR env ω s s' v sh Q E hR S e P=>Lg e λa e1 e2=>JE (Gf B b S (M0R (hf R env ω s s' a sh _ E hR S e1 λω' _ _ x S' st vx=>ho R N env ω' s' a v _ x Q E hR S' e2 vx (P.of_step st)))) (hs env)
theorem Sound.callT{nm:Str}{T:String}{op:St→V→Option V}{e:Ak}{p pos:Pos}{f:Ev}(B:Base h₀ mg mb)(b:Blt mg N.gs nm (.type T))(ho:Op1 w h₀ n (λx=>call (.type T) [x]) op)(hf:Sound w h₀ n A N e f)
  (hs: ∀env,AR [e] env=[(false,eval e env)]):Sound w h₀ n A N (.Call (.Name nm p) [e] [] pos) (Al op f):=
 λR env ω s s' v sh Q E hR S e P=>Lg e λa e1 e2=>JE (Gf B b S (Pb (hf R env ω s s' a sh _ E hR S e1 λω' _ _ x S' st vx=>ho R N env ω' s' a v _ x Q E hR S' e2 vx (P.of_step st)))) (hs env)
theorem Yn{R:Aw}{sh:Ac}{Q E:Ab→Ac→Prop}{c:Addr}{m:Nat}{r:V}{L:List Ab→Prop}(S:SR w h₀ N env ω s sh.heap)(hl:m<9223372036854775808)(e:some (V.f (.int m))=some r)(P:PostE w h₀ N env [] ω sh s r Q)(l:LstP sh.heap c L)(hz: ∀ys,L ys→m=ys.length):
  wpAny (Ag pg w) R (call (.builtin "len") [.ref c]) Q E sh:=l.casesOn λys k z z3=>
 have h:m=ys.size:=(hz _ z3).trans DB
 call_len_list ⟨_,z,rfl,_,rfl⟩ (h▸Gl.mpr hl) (P.ret S (h▸e) (EM _ _) _)
theorem Hv:Op1 w h₀ n (λx=>call (.builtin "len") [x]) Ei:= λR N env ω s a r sh x Q E _ S e va P=>by
 refine Ax e λo q e1=>Ax e1 λm hm e2=>ifE e2 λhl e3=>S.view (P:= λx=>wpAny _ _ (call (.builtin "len") [x]) Q E _) q va λc l=>?_
 clear e q e1 e2
 cases o with
 |list xs=>exact Yn S hl e3 P l λys z=>(An hm).symm.trans (RelL.len z)
 |list2 xs=>exact Yn S hl e3 P l λys z=>(An hm).symm.trans (RelI.len z)
 |ba n=>exact BaP.casesOn l λb z hb=>have hb:=hb.trans (An hm);call_len_meets (T:= "bytearray") (n:=(b.size:Int)) ⟨_,z,rfl⟩ J0K F0v (D0B _) (H0N c b) (L0k.mpr (Jz _)) (L0j.mpr (Gl.mpr (Au hb▸hl))) (λQ' h=>⟨z,h⟩) (P.ret S (Au hb▸e3) (EM _ _) _)
 |_=>exact noS hm
theorem I0A:Op1 w h₀ n (λx=>call (.type "int") [x]) SS:=λ_ _ _ _ _ _ _ sh _ Q E _ S e va P=>V.onFR e va λ_ f e=>FP (P:= λx=>wpAny _ _ (call (.type "int") [x]) Q E _) e f λ_ _ e=>call_int_int (P.ret S e (EM _ _) sh.toks)
theorem Zo: ∀(y x:Nm),(decide (y.length≤x.length)&&(x.take y.length==y))=y.isPrefixOf x
 |[],_=>by rfl
 |_::_,[]=>by rfl
 |b::y,a::x=>by
  have ih:=Zo y x
  simp only [List.isPrefixOf,Dm,List.take_succ_cons,Nat.add_le_add_iff_right]
  refine ih▸?_
  by_cases e:b=a
  ·subst e;simp
  ·have e': ¬a=b:= λq=>e q.symm
   have h1:(a==b)=false:=beq_eq_false_iff_ne.mpr e'
   have h2:(b==a)=false:=beq_eq_false_iff_ne.mpr e
   simp [h1,h2]
theorem J0Z(x y:Nm):M0F (S' x) (S' y)=y.isPrefixOf x:=by
 unfold M0F
 rw [StrLaws.subAt_eq,Cc,Hb,Hb]
 exact Zo y x
theorem I0E:Op2 w h₀ n (λx y=>call (.builtin "str.startswith") [x,y]) SW:=
 λ_ _ _ _ _ _ _ _ sh x y Q E _ S e va vb P=>V.onFR e va λ_ f e=>V.onFR e vb λ_ f' e=>EJ (P:= λx=>wpAny _ _ (call (.builtin "str.startswith") [x,y]) Q E _) e f λc _ e=>EJ (P:= λy=>wpAny _ _ (call (.builtin "str.startswith") [_,y]) Q E _) e f' λd _ e=>SC.startswith (Au (J0Z c d)▸P.ret S e (IS _) sh.toks)
theorem KS:Op2 w h₀ n (λx y=>call (.builtin "max") [x,y]) Il:=
 λ_ _ _ _ _ _ _ _ _ _ _ Q E hR S e va vb P=>V.intsR (P:= λx y=>wpAny _ _ (call (.builtin "max") [x,y]) Q E _) e va vb λi _ j _ e=>EF (max_two_ints hR.1 λh' tk k hs=>P.grow S (DP hs k) (by
  refine (An e)▸?_
  by_cases q:i<j
  ·rw [if_pos q,if_pos (by assumption)];exact EM _ _
  ·rw [if_neg q,if_neg (by assumption)];exact EM _ _) tk)
theorem F2{a:Addr}(G:Base h₀ mg mb)(S:SR w h₀ N env ω s h){t:Tag}(e:ω.ow a=some t):(a==Ec)=false:=beq_eq_false_iff_ne.mpr λq=>Bu _ (Bc (q▸G.sys:a<h₀.objs.size) (S.low a λz=>noS (z.symm.trans e)).1)
theorem C0O{a b:List (Nm×FV)}(e:O.dict a=.dict b):a=b:=by cases e;rfl
theorem SR.viewD{v:V}{es:List (Nm×FV)}{x:Ab}{P:Ab→Prop}(G:Base h₀ mg mb)(S:SR w h₀ N env ω s h)(e:Mine.view s v=some (.dict es))(vx:VR w ω h v x)(q: ∀a,(a==Ec)=false→DctP w h a (FRd w ω.fz h es)→P (.ref a)):P x:=by
 cases v with
 |f y=>cases y with
  |dct xs=>exact Dx vx λa _ l=>q a l.1 (C0O (An e)▸HK w ω.fz h xs▸l.2)
  |lst xs=>exact nomatch e
  |fba n=>exact nomatch e
  |_=>exact noS e
 |c k=>exact S.cell (b:=true) e vx λa _ t _ c=>q a (F2 G S t) c
 |g k=>exact S.cell (b:=false) e vx λa _ t _ c=>q a (F2 G S t) c
 |d k i=>exact noS e
noncomputable def O.cell:O→Bool
 |.tdict _=>true
 |.ddict _ _=>true
 |_=>false
theorem SR.viewX{v:V}{o:O}{x:Ab}{P:Ab→Prop}(G:Base h₀ mg mb)(S:SR w h₀ N env ω s h)(e:Mine.view s v=some o)(nf:o.cell=true)(vx:VR w ω h v x)(q: ∀a,(a==Ec)=false→CA w ω h v.k a o→P (.ref a)):P x:=by
 cases v with
 |f y=>cases y with
  |lst xs=>exact noT ((An e▸nf:(O.list xs).cell=true))
  |dct xs=>exact noT ((An e▸nf:(O.dict xs).cell=true))
  |fba xs=>exact noT ((An e▸nf:(O.ba xs).cell=true))
  |_=>exact noS e
 |c k=>exact S.cell (b:=true) e vx λa _ t _ c=>q a (F2 G S t) c
 |g k=>exact S.cell (b:=false) e vx λa _ t _ c=>q a (F2 G S t) c
 |d k i=>exact noS e
theorem G0g{R:Aw}{sh:Ac}{Q E:Ab→Ac→Prop}{d:Addr}{kvs:List (Str×Ab)}{x:Nm}{t:Tok}(hd:(d==Ec)=false)(hD:sh.heap.DictOf (strKind pg w) d kvs)(q:Q ((Fs kvs (S' x)).getD .none) {sh with toks:=sh.toks+1}):
  wpAny (Ag pg w) R (call (.builtin "dict.get") [.ref d,.str (S' x) t]) Q E sh:=
 JJ OQ hD.typeIs M01 (PySem.F.args_dict_get_2 _ _) (meets_dict_get _ d (Fq pg w _ _) hd) ⟨_,hD.mapOf,q⟩
theorem G0h{R:Aw}{sh:Ac}{Q E:Ab→Ac→Prop}{d:Addr}{kvs:List (Str×Ab)}{x:Nm}{t:Tok}{y:Ab}(hd:(d==Ec)=false)(hD:sh.heap.DictOf (strKind pg w) d kvs)(q:Q ((Fs kvs (S' x)).getD y) {sh with toks:=sh.toks+1}):
  wpAny (Ag pg w) R (call (.builtin "dict.get") [.ref d,.str (S' x) t,y]) Q E sh:=
 JJ OQ hD.typeIs M01 (PySem.F.args_dict_get_3 _ _ _) (meets_dict_get_default _ d (Fq pg w _ _) hd y) ⟨_,hD.mapOf,q⟩
theorem OptR.getD{α:Type}{R:α→Ab→Prop}{f:Option α→V}{o:Option α}{b:Option Ab}{y:Ab}(h:OptR R o b)(hn:VR w ω h' (f none) y)(hs: ∀a z,R a z→VR w ω h' (f (Uc a)) z):VR w ω h' (f o) (b.getD y):=by
 cases o with
 |none=>exact Au (h:b=none)▸hn
 |some a=>exact h.elim λz q=>Au q.1▸hs a z q.2
theorem I0C(G:Base h₀ mg mb):Op2 w h₀ n (λx y=>call (.builtin "dict.get") [x,y]) SQ:=
 λR N env ω s a b r sh x y Q E _ S e va vb P=>V.onGE e λk hk e=>V.onFR e vb λ_ f e=>EJ (P:= λy=>wpAny _ _ (call (.builtin "dict.get") [x,y]) Q E _) e f λc _ e=>Ax e λo q e=>M9 e λC es ho e=>S.cell (b:=false) (P:= λx=>wpAny _ _ (call (.builtin "dict.get") [x,_]) Q E _) q (hk▸va:VR w ω sh.heap (.g k) x) λb _ t _ c=>(c.ddict ho).casesOn λkvs ep z _ _ z3=>G0g (F2 G S t) z (P.ret S e ((RD.at z3).getD (f:=orD k) Rh λi y v=>(Cc i▸v:VR w ω sh.heap (.d k i) y)) _)
def Op3(w:A5)(h₀:Heap)(n:Nat)(t:Ab→Ab→Ab→Sem Ab)(op:St→V→V→V→Option V):Prop:=
 ∀(R:Aw) (N:Names) (env:Env) (ω:Wd) (s:St) (a b c r:V) (sh:Ac) (x y z:Ab) (Q E:Ab→Ac→Prop),Rm n R→SR w h₀ N env ω s sh.heap→op s a b c=some r→
  VR w ω sh.heap a x→VR w ω sh.heap b y→VR w ω sh.heap c z→PostE w h₀ N env [] ω sh s r Q→wpAny (Ag pg w) R (t x y z) Q E sh
theorem Zg(G:Base h₀ mg mb):Op3 w h₀ n (λx y z=>call (.builtin "dict.get") [x,y,z]) NO:=
 λR N env ω s a b c r sh x y z Q E _ S e va vb vc P=>V.onFR e vb λ_ f e=>EJ (P:= λy=>wpAny _ _ (call (.builtin "dict.get") [x,y,z]) Q E _) e f λk _ e=>Ax e λo q e=>HO e λes ho e=>S.viewD G (P:= λx=>wpAny _ _ (call (.builtin "dict.get") [x,_,z]) Q E _) (q.trans (congrArg some ho)) va λd hd l=>l.casesOn λkvs z z3=>G0h hd z (P.ret S e ((FRd.at z3).getD (f:= λo=>orV o c) vc λ_ _ v=>v) _)
theorem YZ(l:List Char):M0E (N0z l)=S' (l.map A02):=by rw [Str.ofString_eq_toList];simp [S']
theorem K0v(n:Nat):M0E (toString (O8 n))=S' (CS n):=by exact YZ _
theorem QT(x y:Nm):S' x++S' y=S' (x++y):=by
 show (⟨x.toArray++y.toArray⟩:Str)=⟨(x++y).toArray⟩
 simp
theorem H0w{n:Nat}(hn:n<1000000000):n.log2<1920:=by
 rcases L0Q n with z|z
 ·refine z.symm▸?_;decide
 ·exact (L0S (A0N z)).mpr (Bc hn (A8 (show 1000000000≤2^30 by decide) (Nat.pow_le_pow_right (by decide) (by decide))))
theorem NR:Op1 w h₀ n (λx=>call (.type "str") [x]) Im:=λ_ _ _ _ _ _ _ _ _ Q E _ S e va P=>V.onFR e va λ_ f e=>Q9 (P:= λx=>wpAny _ _ (call (.type "str") [x]) Q E _) e f λi _ e=>ifE e λhn e=>PySem.P.str_of_int (a:=O8 i) (H0w hn) (K0v i▸P.ret S e (IT _ _) _)
theorem XG(n:Nat):baseText "0x" 16 (O8 n)=S' ([48,120]++EP n):=by
 refine (PySem.baseText_nonneg (show 0≤O8 n from Jz n)).trans ?_
 refine (YZ (A0O 16 n)).symm▸?_;rw [←QT]
 rfl
theorem SX:Op1 w h₀ n (λx=>call (.builtin "hex") [x]) KP:=
 λ_ _ _ _ _ _ _ _ _ Q E _ S e va P=>V.onFR e va λ_ f e=>Q9 (P:= λx=>wpAny _ _ (call (.builtin "hex") [x]) Q E _) e f λi _ e=>ifE e λhn e=>PySem.P.hex_of_int (i:=O8 i) (XG i▸P.ret S e (IT _ _) _) (by
  have:=PySem.toDigits_len_pow (b:=16) (k:=9) (n:=i) (by decide) (by decide) (H9 hn (by decide))
  rw [XG,Hb,AU,EP,AD]
  exact A8 (OJ this 2) (by decide))
theorem Le: ∀{xs:List FV} {ys:List Nm} {vs:List Ab},E2 xs=some ys→FRs w ω.fz h xs vs→JF vs (ys.map S'):= λ{xs}=>by
 induction xs with
 |nil=>exact λe r=>RelL.nil r (P:= λvs=>JF vs _) (An e▸.nil)
 |cons x r ih=>exact λe q=>RelL.cons q (P:= λvs=>JF vs _) λv vs a b=>EJ (P:= λv=>JF (v::vs) _) e a λc t e=>AV e λys e1 e2=>e2▸.cons _ t (ih e1 b)
theorem Wj(ys:List Nm)(x:Nm):(ys.map S').any (· ==S' x)=He x ys:=by exact (List.any_map).trans (congrArg (L0s ys) (funext λy=>QU y x))
theorem XO{R:Aw}{r:Bool}{sh:Ac}{neg:Bool}{Q E:Ab→Ac→Prop}{d:Addr}{kvs:List (Str×Ab)}{z:Nm}{t:Tok}(hd:(d==Ec)=false)(hD:sh.heap.DictOf (strKind pg w) d kvs)(hr:(Fs kvs (S' z)).isSome=r)(P: ∀tk,Q (.bool (neg^^r)) {sh with toks:=tk}):
  wpAny (Ag pg w) R (B4 (cond neg .NotIn .In) (.str (S' z) t) (.ref d)) Q E sh:=by
 cases neg with
 |true=>exact wpAny_notIn_of (Fq pg w _ _) hd hD.mapOf (Au hr▸(O7 r▸P _))
 |false=>exact wpAny_in_of (Fq pg w _ _) hd hD.mapOf (Au hr▸(O5 r▸P _))
theorem N04{z:Nm}{es:List (Nm×List (Nat×FV))}:(Ay es z).isSome=(Ga es z).isSome:=by
 induction es with
 |nil=>rfl
 |cons p r ih=>
  show (if p.1=z then some p.2 else Ay r z).isSome=(if p.1=z then some 0 else (Ga r z).map (· +1)).isSome
  by_cases q:p.1=z
  ·rw [if_pos q,if_pos q];rfl
  ·rw [if_neg q,if_neg q,ih,L0Y]
theorem G0F{R:Aw}{r:Bool}{sh:Ac}{neg:Bool}{Q E:Ab→Ac→Prop}{c:Addr}{xs:List FV}{z:Nm}{t:Tok}(l:TupP sh.heap c (FRs w ω.fz sh.heap xs))(e:(E2 xs).map (He z)=some r)(P: ∀tk,Q (.bool (neg^^r)) {sh with toks:=tk}):
  wpAny (Ag pg w) R (B4 (cond neg .NotIn .In) (.str (S' z) t) (.ref c)) Q E sh:=
 AV e λys e1 e2=>l.casesOn λvs z2 z3=>by
  have e2:=(Wj ys z).trans e2
  cases neg with
  |true=>exact notin_tuple_strs z2 (Le e1 z3) (Au e2▸(O7 r▸P _))
  |false=>exact in_tuple_strs z2 (Le e1 z3) (Au e2▸(O5 r▸P _))
theorem G0C{R:Aw}{r:Bool}{sh:Ac}{neg:Bool}{Q E:Ab→Ac→Prop}{c:Addr}{xs:List FV}{z:Nm}{t:Tok}(l:LstP sh.heap c (FRs w ω.fz sh.heap xs))(e:(E2 xs).map (He z)=some r)(P: ∀tk,Q (.bool (neg^^r)) {sh with toks:=tk}):
  wpAny (Ag pg w) R (B4 (cond neg .NotIn .In) (.str (S' z) t) (.ref c)) Q E sh:=
 AV e λys e1 e2=>l.casesOn λvs m z2 z3=>by
  have e2:=(Wj ys z).trans e2
  cases neg with
  |true=>exact notin_list_strs ⟨_,z2,rfl,m,rfl⟩ (Le e1 z3) (Au e2▸(O7 r▸P _))
  |false=>exact in_list_strs ⟨_,z2,rfl,m,rfl⟩ (Le e1 z3) (Au e2▸(O5 r▸P _))
theorem G0E{R:Aw}{r:Bool}{sh:Ac}{neg:Bool}{Q E:Ab→Ac→Prop}{d ka:Addr}{es:List ((Int×Nm)×FV)}{ts:List FV}{p:Int×Nm}(hR:Rm n R)(hp:Ic ts=some p)(lk:TupP sh.heap ka (FRs w ω.fz sh.heap ts))(hd:(d==Ec)=false)(l:TdP w sh.heap d (FRt w ω sh.heap es))(e:(Ay es p).isSome=r)(P: ∀tk,Q (.bool (neg^^r)) {sh with toks:=tk}):
  wpAny (Ag pg w) R (B4 (cond neg .NotIn .In) (.ref ka) (.ref d)) Q E sh:=
 l.casesOn λxs z2 z3=>by
  have hroom:=DX (show R.units+1≤R.units+64*n+64 by lia) hR.2.2.1
  have hr:=(FRt.at (k:=p) z3).isSome.symm.trans e
  cases neg with
  |true=>exact wpAny_notIn_heap hroom (Ou hp lk) hd z2 (Au hr▸(O7 r▸P _))
  |false=>exact wpAny_in_heap hroom (Ou hp lk) hd z2 (Au hr▸(O5 r▸P _))
theorem G0D(G:Base h₀ mg mb){R:Aw}{b:V}{r:Bool}{sh:Ac}{z:Nm}{t:Tok}{y:Ab}{neg:Bool}{Q E:Ab→Ac→Prop}{o:O}(S:SR w h₀ N env ω s sh.heap)(q:Mine.view s b=some o)(e:inO z o=some r)
  (vb:VR w ω sh.heap b y) (P: ∀tk,Q (.bool (neg^^r)) {sh with toks:=tk}):wpAny (Ag pg w) R (B4 (cond neg .NotIn .In) (.str (S' z) t) y) Q E sh:=by
 cases o with
 |dict es=>exact S.viewD G (P:= λy=>wpAny _ _ (B4 _ _ y) Q E _) q vb λd hd l=>l.casesOn λkvs z2 z3=>XO hd z2 ((FRd.at z3).isSome.symm.trans (An e)) P
 |ddict C es=>exact S.viewX G (P:= λy=>wpAny _ _ (B4 _ _ y) Q E _) q rfl vb λd hd l=>DdP.casesOn l λkvs ep z2 _ _ z3=>XO hd z2 ((RD.at z3).isSome.symm.trans (N04.symm.trans (An e))) P
 |list xs=>exact S.view (P:= λy=>wpAny _ _ (B4 _ _ y) Q E _) q vb λc l=>G0C l e P
 |_=>exact noS e
theorem XQ(G:Base h₀ mg mb){R:Aw}{a b:V}{r:Bool}{sh:Ac}{x y:Ab}{neg:Bool}{Q E:Ab→Ac→Prop}(hR:Rm n R)(S:SR w h₀ N env ω s sh.heap)(e:F4 s a b=some r)
  (va:VR w ω sh.heap a x) (vb:VR w ω sh.heap b y) (P: ∀tk,Q (.bool (neg^^r)) {sh with toks:=tk}):wpAny (Ag pg w) R (B4 (cond neg .NotIn .In) x y) Q E sh:=
 V.onFR e va λy' f e=>IG (P:= λx=>wpAny _ _ (B4 (cond neg .NotIn .In) x y) Q E _) e f (λ_ _ e=>noS e)
  (λz t e=>VQ (P:= λy=>wpAny _ _ (B4 (cond neg .NotIn .In) _ y) Q E _) e vb (λxs c _ l e=>G0F l e P) (λ_ _ e=>noS e) λe=>Ax e λo q e=>G0D G S q e vb P)
  λts ka _ lk e=>Ax e λp hp e=>Ax e λo q e=>QR e λes ho e=>S.viewX G (P:= λy=>wpAny _ _ (B4 (cond neg .NotIn .In) _ y) Q E _) q (ho▸rfl) vb λd hd l=>G0E hR hp lk hd (l.tdict ho) (An e) P
theorem Ng(G:Base h₀ mg mb):Cp2 w h₀ n (B4 .In) F4:=λ_ _ _ _ _ _ _ _ _ _ _ _ _ hR S e va vb P=>AV e λv e1 e2=>XQ (neg:=false) G hR S e1 va vb λtk=>Au (O5 v)▸P.ret S (congrArg some e2) (IS v) tk
theorem Km(G:Base h₀ mg mb):Cp2 w h₀ n (B4 .NotIn) G6:=λ_ _ _ _ _ _ _ _ _ _ _ _ _ hR S e va vb P=>AV e λv e1 e2=>AV e1 λv' e3 e4=>XQ (neg:=true) G hR S e3 va vb λtk=>(O7 v').symm▸P.ret S (congrArg some (e4▸e2)) (IS (!v')) tk
theorem G0O(sep:Nm): ∀ys:List Nm,Txt.join (S' sep) (ys.map S')=S' (EC sep ys):=by
 intro ys
 show O0w _ _=_
 rw [StrLaws.glued_eq_join]
 induction ys with
 |nil=>rfl
 |cons x r ih=>
  cases r with
  |nil=>rfl
  |cons y r=>
   show S' x++S' sep++Str.join (S' sep) ((y::r).map S')=S' (x++sep++EC sep (y::r))
   rw [ih,QT,QT]
theorem Ta:Op2 w h₀ n (λx y=>call (.builtin "str.join") [x,y]) NP:=
 λ_ _ _ _ s _ b r _ _ y Q E _ S e va vb P=>V.onFR e va λ_ f e=>EJ (P:= λx=>wpAny _ _ (call (.builtin "str.join") [x,y]) Q E _) e f λsep t e=>Ax e λo q e=>HP e λxs ho e=>Ax e λys e1 e=>ifE e λe2 e=>
  S.view (P:= λy=>wpAny _ _ (call (.builtin "str.join") [_,y]) Q E _) q vb λc l=>(l.list ho).casesOn λvs m z z3=>join_list ⟨_,z,rfl,m,rfl⟩ (Le e1 z3) (by
   refine (show (ys.map S').map (·.length)=ys.map J0 from CP.trans (congrArg (J3 · ys) (funext Hb))).symm▸?_;rw [AD,Hb]
   exact A8 e2 (by decide)) λt' k=>Au (G0O sep ys)▸P.ret S e (IT _ _) _
theorem E0V:Cp2 w h₀ n (B4 .Is) RJ:=E0U
theorem H0p(l b:Addr)(items items2:Array Ab)(n n2:Nat)(hc0:(items.size !=items2.size)=true):
  Meets (Dc.«list.__ne__» ⟨[.ref l,.ref b],[]⟩)
   (λ_ R s=>s.heap.get? l=some (C5 items n)∧s.heap.get? b=some (C5 items2 n2)∧R (.ok (.ret (.bool true))) s):=
 .of_wp λpg w A R s h=>by
  obtain ⟨hp,g,d,tk,os⟩:=s;refine Np (h) λhl hb h=>?_
  have f3:=AutoSeq1.sub_list_list
  wp_walk using B0M hl,B0M hb
  exact ⟨_,rfl,h⟩
theorem I0p{R:Aw}{sh:Ac}{Q E:Ab→Ac→Prop}{a b:Addr}{vs:Array Ab}{m k:Nat}(hR:Rm n R)(h1:sh.heap.get? a=some (C5 vs m))(h2:sh.heap.get? b=some (C5 #[] k))(q:Q (.bool (!vs.toList.isEmpty)) sh):
  wpAny (Ag pg w) R (B4 .NotEq (.ref a) (.ref b)) Q E sh:=by
 rcases L0Q vs.size with z|z
 ·have:vs= #[]:=K0Y z
  subst this
  exact ke_ne_ints (xs:=[]) (ys:=[]) ⟨_,h1,rfl,m,rfl⟩ ⟨_,h2,rfl,k,rfl⟩ .nil .nil (by have:=hR.2.2.1;lia) (by simpa using q)
 ·have hne:vs.toList.isEmpty=false:=by
   cases e:vs.toList with
   |nil=>have:=congrArg J0 e;simp at this;subst this;contradiction
   |cons _ _=>rfl
  rw [hne] at q
  refine wpAny_richCompare_same_room (op:=.NotEq) ⟨_,h1,rfl⟩ ⟨_,h2,rfl⟩ M08 ?_ (by have:=hR.2.2.1;lia)
  exact Uy M08 ⟨_,h1,rfl⟩ PySem.F.entry_list_ne (PySem.F.args_list_ne_2 _ _) (H0p a b vs #[] m k (bne_iff_ne.mpr λq=>by have q':vs.size=0:=q;lia)) ⟨h1,h2,(by decide),q⟩
theorem F0e{R:Aw}{sh:Ac}{Q E:Ab→Ac→Prop}{a b:Addr}{kvs:List (Str×Ab)}(hR:Rm n R)(ha:(a==Ec)=false)(hb:(b==Ec)=false)(h1:sh.heap.DictOf (strKind pg w) a kvs)(h2:sh.heap.DictOf (strKind pg w) b [])
  (q:Q (.bool (!kvs.isEmpty)) sh):wpAny (Ag pg w) R (B4 .NotEq (.ref a) (.ref b)) Q E sh:=by
 refine keq_ne (r:=true) ha hb h1 h2 (by have:=hR.2.2.1;lia) (λe=>?_) ?_
 ·have:kvs=[]:=J1.mp e
  subst this;exact .nil
 ·cases kvs with
  |nil=>exact q
  |cons _ _=>exact q
theorem RelL.isEmpty{ι α:Type}{R:ι→α→Prop}{xs:List ι}{ys:List α}(h:RelL R xs ys):ys.isEmpty=xs.isEmpty:=by
 cases xs with
 |nil=>exact h.nil (P:= λys=>ys.isEmpty=true) rfl
 |cons _ _=>exact h.cons (P:= λys=>ys.isEmpty=false) λ_ _ _ _=>rfl
theorem IZ(G:Base h₀ mg mb):Cp2 w h₀ n (B4 .NotEq) E9:=.mk λR N env ω s a b r sh x y Q E hR S e va vb hq=>V.onFR e vb λy' f e=>by
 have nb: ∀{b b':Bool},b=b'→some (!b')=some r→Q (.bool (!b)) sh:= λh e=>Au h▸An e▸hq
 refine B0Y e (λem e=>Ax e λo q e=>HP e λxs ho e=>Dx (P:= λy=>wpAny _ _ (B4 .NotEq x y) Q E _) (em▸f:FR w ω.fz sh.heap (.lst []) y) λd _ l=>l.casesOn λvs' m' y2 y3=>S.view (P:= λx=>wpAny _ _ (B4 .NotEq x _) Q E _) q va λc l=>(l.list ho).casesOn λvs m z2 z3=>
   I0p hR z2 (Array.toList_eq_nil_iff.mp y3▸y2) (nb (RelL.isEmpty z3) e))
  (λem e=>V.onCE e λk hk e=>Ax e λo q e=>HO e λes ho e=>Dx (P:= λy=>wpAny _ _ (B4 .NotEq x y) Q E _) (em▸f:FR w ω.fz sh.heap (.dct []) y) λd _ l=>l.2.casesOn λkvs' y2 y3=>S.cell (b:=true) (P:= λx=>wpAny _ _ (B4 .NotEq x _) Q E _) q (hk▸va:VR w ω sh.heap (.c k) x) λc _ t _ c'=>(c'.dict ho).casesOn λkvs z2 z3=>F0e hR (F2 G S t) l.1 z2 ((y3:kvs'=[])▸y2) (nb (RelL.isEmpty z3) e))
  λe=>V.onFR e va λx' f' e=>AV e λv e e2=>IG (P:= λx=>wpAny _ _ (B4 .NotEq x y) Q E _) e f' (λi _ e=>FP (P:= λy=>wpAny _ _ (B4 .NotEq _ y) Q E _) e f λj _ e=>IsLeap.wpAny_ne_int ?_) (λi _ e=>EJ (P:= λy=>wpAny _ _ (B4 .NotEq _ y) Q E _) e f λj _ e=>O0j ?_) λ_ _ _ _ e=>noS e
 ·exact nb (An e) (congrArg some e2)
 ·rw [show (S' i !=S' j)= !decide (i=j) from congrArg not (QU i j)]
  exact nb (An e) (congrArg some e2)
theorem J0H{R:Aw}{sh:Ac}{E:Ab→Ac→Prop}{Q:Ab→Ac→Prop}{v:Ak}{u:Ak}{p':Pos}{l:Addr}{items:Array Ab}{xs:List FV}{i:Int}{t:Tok}{m:Nat}{r:V}
  (hl:sh.heap.get? l=some (C5 items m)) (h2:FRs w ω.fz sh.heap xs items.toList) (S:SR w h₀ N env ω s sh.heap) (e:Oy xs i=some r)
  (hs: ∀a b,IB (.Slice none (some u) none p') false (.ref a) (.ref b)=I9 [.ref b,.ref a] (HE (.ref a) (.ref b))) (ht: ∀o r,B03 v o r=pure ())
  (P:PostE w h₀ N env [] ω sh s r Q):
  wpAny (Ag pg w) R (Lx v (.Slice none (some u) none p') (.ref l) (.ref sh.heap.objs.size)) Q E {sh with heap:=sh.heap.push {cls:=.type "slice",data:=.fields #[.none,.int i t,.none]}}:=by
 refine ifE e λh0 e=>ifE e λhz e=>?_
 obtain ⟨k,rfl⟩:=A04 h0
 refine slice_listK ⟨_,hl,rfl,m,rfl⟩ .none (.int (k:Int) t) ?_ (hs _ _) (ht _) (by exact DB▸(h2.length▸(Co.symm▸hz)))
 refine (slicePick_upto' items k).symm▸?_
 have g1:Grow ω sh.heap ω (sh.heap.push {cls:=.type "slice",data:=.fields #[.none,.int (k:Int) t,.none]}):=DP (CI _ _▸CZ _) λa o' q=>Dd _ q
 have S1:=S.grow g1
 have g2:=Grow.push (o:=C5 (items.toList.take k).toArray 0) S1
 exact (show sh.heap.objs.size+1=(sh.heap.push {cls:=.type "slice",data:=.fields #[.none,.int (k:Int) t,.none]}).objs.size from (CI _ _).symm).symm▸(P _ _ _ _ (S1.grow g2) (g1.step.trans g2.step (λ_ q=>nomatch q) (λ_ q=>nomatch q)) (An e▸(⟨_,rfl,.inr rfl,_,0,BQ _ rfl,Au (Dh w _ _ _)▸RelL.take (FRs.mono (λa q=>g2.fz a (g1.fz a q)) (λa _ o q=>g2.keep a o (g1.keep a o q)) h2) k⟩:FR w _ _ (.lst _) _)))
theorem VH{v u:Ak}{p' pos:Pos}{f g:Ev}(hf:Sound w h₀ n A N v f)(hg:Sound w h₀ n [] N u g)
  (hs: ∀a b,IB (.Slice CE (Uc u) CE p') false (.ref a) (.ref b)=I9 [.ref b,.ref a] (HE (.ref a) (.ref b))) (ht: ∀o r,B03 v o r=pure ()):
  Sound w h₀ n A N (.Subscript v (.Slice CE (Uc u) CE p') pos) (Ao Ip f g):=
 λR env ω s s' r sh Q E hR S e P=>HU e λa s1 b e1 e2 e3=>Ud (hf R env ω s s1 a sh _ E hR S e1 λω1 h1 tk1 x S1 st1 vx=>wpAny_Slice (B0J (B0K (hg R env ω1 s1 s' b _ _ E hR S1 e2 λω2 h2 tk2 y S2 st2 vy=>
  B0J (V.onFR e3 vy λ_ f e=>IF e λi hv e=>FE (hv▸f:FR w ω2.fz h2 (.int i) y) λt hx=>Au hx▸Ax e λo q e=>HP e λxs ho e=>S2.view (P:= λx=>wpAny _ _ (Lx v _ x _) Q E _) q (vx.step st2 (BO _)) λc l=>(l.list ho).casesOn λvs m z z3=>J0H (sh:={sh with heap:=h2,toks:=tk2}) z z3 S2 e hs ht (P.of_step (tk:=tk2) (st1.trans st2 (λ_ q=>q) AY)))))))
end
section
variable{w:A5}{h₀:Heap}{N:Names}{env:Env}{ω ω':Wd}{h h':Heap}{s s1 s2:St}{n:Nat}{A B C:List Nat}{mg mb:Str→Option Ab}{K:Frag}
def IsT(sh:Ac)(x:Ab)(T:String):Prop:=sh.TypeIs x T∧∀a,x=.ref a→∃ob,sh.heap.get? a=some ob∧ob.dict=none
theorem N3{sh:Ac}{a:Addr}{ys:Array Ab}{m:Nat}(e:sh.heap.get? a=some (C5 ys m)):IsT sh (.ref a) "list":=⟨⟨_,e,rfl⟩,λb q=>by cases q;exact ⟨_,e,rfl⟩⟩
theorem I0w{K:Type}[DecidableEq K]{knd:KeyKind pg w K}{h:Heap}{a:Addr}{kvs:List (K×Ab)}(e:h.DictOf knd a kvs): ∃ob,h.get? a=some ob∧ob.dict=none:=e.imp λo r=>r.elim λ_ r=>r.elim λ_ r=>⟨r.1,r.2.1.2.1⟩
theorem I0x{K:Type}[DecidableEq K]{knd:HeapKind pg w K}{h:Heap}{a:Addr}{xs:List (K×Addr×Ab)}(e:h.DictOfH knd a xs): ∃ob,h.get? a=some ob∧ob.dict=none:=e.imp λo r=>r.elim λ_ r=>r.elim λ_ r=>⟨r.1,r.2.1.2.1⟩
theorem K0{K:Type}[DecidableEq K]{knd:KeyKind pg w K}{sh:Ac}{a:Addr}{kvs:List (K×Ab)}(e:sh.heap.DictOf knd a kvs):IsT sh (.ref a) "dict":=⟨e.typeIs,λb q=>by cases q;exact I0w e⟩
theorem G0I{K:Type}[DecidableEq K]{knd:HeapKind pg w K}{sh:Ac}{a:Addr}{xs:List (K×Addr×Ab)}(e:sh.heap.DictOfH knd a xs):IsT sh (.ref a) "dict":=⟨e.typeIs,λb q=>by cases q;exact I0x e⟩
theorem G0J{sh:Ac}{x:Str}{t:Tok}:IsT sh (.str x t) "str":=⟨typeIs_str _ _ _,λ_ q=>nomatch q⟩
theorem Rq{α:Type}{o:Option α}{p:α→Bool}{P:Prop}(e:o.any p=true)(k: ∀a,o=some a→p a=true→P):P:=by
 cases o with
 |none=>exact noT e
 |some a=>exact k a rfl e
theorem N1{sh:Ac}{v:V}{x:Ab}(S:SR w h₀ N env ω s sh.heap)(e:Gb s v=true)(vx:VR w ω sh.heap v x):IsT sh x "list":=Rq e λo q e=>S.view (P:= λx=>IsT sh x "list") q vx λa l=>by
 cases o with
 |list _=>exact LstP.casesOn l λ_ _ z _=>N3 z
 |jlist _=>exact LstP.casesOn l λ_ _ z _=>N3 z
 |list2 _=>exact LstP.casesOn l λ_ _ z _=>N3 z
 |_=>exact noT e
theorem Kz{sh:Ac}{v:V}{x:Ab}(S:SR w h₀ N env ω s sh.heap)(e:EA s v=true)(vx:VR w ω sh.heap v x):IsT sh x "dict":=Rq e λo q e=>S.view (P:= λx=>IsT sh x "dict") q vx λa l=>by
 cases o with
 |dict _=>exact DctP.casesOn l λ_ z _=>K0 z
 |tdict _=>exact TdP.casesOn l λ_ z _=>G0I z
 |ddict _ _=>exact DdP.casesOn l λ_ _ z _ _ _=>K0 z
 |_=>exact noT e
theorem VRs.one{b:V}{ys:List Ab}{P:List Ab→Prop}(e:VRs w ω h [b] ys)(k: ∀y,VR w ω h b y→P [y]):P ys:=RelL.cons e λy _ v r=>RelL.nil r (P:= λr=>P (y::r)) (k y v)
theorem Ri{b c:V}{ys:List Ab}{P:List Ab→Prop}(e:VRs w ω h [b,c] ys)(k: ∀y z,VR w ω h b y→VR w ω h c z→P [y,z]):P ys:=RelL.cons e λy _ v r=>VRs.one r (P:= λr=>P (y::r)) λz u=>k y z v u
theorem EW{f:Ev}{fs:List Ev}{v:V}{r:List V}(e1:f s=some (v,s1))(e2:Mine.DD fs s1=some (r,s2)):Mine.DD (f::fs) s=some (v::r,s2):=(congrArg (OP · _) e1).trans (congrArg (Fh _) e2)
theorem H2:Mine.DD [] s=some ([],s):=rfl
structure MCall(o:Ak)(nm:Str)(apos pos:Pos)(e:Ak)(rest:List Ak)(T id:String):Prop where
 base: ∀env,Uw o nm env (eval o env)=eval o env
 few: ∀env,((Cy pos (AR (e::rest) env)).all (λx=> !x.1)&&(backToKw pos (keywordEach [] env)).all (λx=>x.1.isSome)
   &&decide ((e::rest).length+([]:List Keyword).length+(if ([]:List Keyword).isEmpty then 0 else 1)<30))=true
 line:(apos.endLine==pos.line)=true
 star: ∀env,AR (e::rest) env=(false,eval e env)::AR rest env
 plain: ∀env,(Cy pos (AR rest env)).any (·.1)=false
 attrs:PlainAttrs T
 slot:Slot T nm id
 ty:typeOf (.builtin id)=pure (.type "method_descriptor")
theorem Ih{o e:Ak}{rest:List Ak}{nm:Str}{apos pos:Pos}{T id:String}{f:Ev}{fs:List Ev}{p:St→V→Bool}(M:MCall o nm apos pos e rest T id)
  (hT: ∀{ω:Wd} {s:St} {sh:Ac} {v:V} {x:Ab},SR w h₀ N env ω s sh.heap→p s v=true→VR w ω sh.heap v x→IsT sh x T)
  (hf:Sound w h₀ n A N o f) (hl:SoundL w h₀ n B N (e::rest) fs) {R:Aw} {a:V} {bs:List V} {sh:Ac} {Q E:Ab→Ac→Prop}
  (hR:Rm n R) (S:SR w h₀ N env ω s sh.heap) (e1:Mine.AH p f s=some (a,s1)) (e2:Mine.DD fs s1=some (bs,s2)) (hoff:a.off B) (hA: ∀k∈A,k∈C) (hB: ∀k∈B,k∈C)
  (k: ∀ω' h' tk x ys,SR w h₀ N env ω' s2 h'→StepE C ω sh.heap ω' h'→VR w ω' h' a x→VRs w ω' h' bs ys→wpAny (Ag pg w) R (call (.builtin id) (x::ys)) Q E {sh with heap:=h',toks:=tk}):
  wpAny (Ag pg w) R (eval (.Call (.Attribute o nm apos) (e::rest) [] pos) env) Q E sh:=
 LN (M.base env) (M.few env) M.line M.attrs M.slot M.ty (hf R env ω s s1 a sh _ E hR S (Eu e1).1 λω1 h1 tk1 x S1 st1 vx=>⟨(hT (sh:={sh with heap:=h1,toks:=tk1}) S1 (Eu e1).2 vx).1,(hT (sh:={sh with heap:=h1,toks:=tk1}) S1 (Eu e1).2 vx).2,A0R (hl R env pos ω1 s1 s2 bs _ _ E hR S1 e2 λω2 h2 tk2 ys S2 st2 vys=>k ω2 h2 tk2 x ys S2 (st1.trans st2 hA hB) (vx.step st2 hoff) vys) (M.star env) (M.plain env)⟩)
theorem Sound.meth1{o e:Ak}{nm:Str}{apos pos:Pos}{T id:String}{op:St→V→V→Option V}{f g:Ev}{p:St→V→Bool}(M:MCall o nm apos pos e [] T id)
  (hT: ∀{env:Env} {ω:Wd} {s:St} {sh:Ac} {v:V} {x:Ab},SR w h₀ N env ω s sh.heap→p s v=true→VR w ω sh.heap v x→IsT sh x T)
  (ho:Op2 w h₀ n (λx y=>call (.builtin id) [x,y]) op) (hf:Sound w h₀ n A N o f) (hg:Sound w h₀ n [] N e g):Sound w h₀ n A N (.Call (.Attribute o nm apos) [e] [] pos) (Ao op (AH p f) g):=
 λR env ω s s' v sh Q E hR S q P=>HU q λa s1 b e1 e2 e3=>Ih (C:=A) M hT hf (Ah hg A3 M.star) hR S e1 (bs:=[b]) (s2:=s') (EW e2 H2) (BO _) (λ_ q=>q) AY λω' h' tk x ys S' st vx vys=>VRs.one vys (P:= λys=>wpAny _ _ (call _ (x::ys)) Q E _) λy vy=>ho R N env ω' s' a b v _ x y Q E hR S' e3 vx vy (P.of_step st)
theorem Sound.meth2{o e e':Ak}{nm:Str}{apos pos:Pos}{T id:String}{op:St→V→V→V→Option V}{f g k:Ev}{p:St→V→Bool}(M:MCall o nm apos pos e [e'] T id)
  (hT: ∀{env:Env} {ω:Wd} {s:St} {sh:Ac} {v:V} {x:Ab},SR w h₀ N env ω s sh.heap→p s v=true→VR w ω sh.heap v x→IsT sh x T)
  (ho:Op3 w h₀ n (λx y z=>call (.builtin id) [x,y,z]) op) (hf:Sound w h₀ n A N o f) (hg:Sound w h₀ n [] N e g) (hk:Sound w h₀ n [] N e' k) (hs: ∀env,AR [e'] env=[(false,eval e' env)]):
  Sound w h₀ n A N (.Call (.Attribute o nm apos) [e,e'] [] pos) (IE op (AH p f) g k):=
 λR env ω s s' v sh Q E hR S q P=>K0y q λa sa b sb c e1 e2 e3 e4=>Ih (C:=A) M hT hf (Ah hg (Ah hk A3 hs) M.star) hR S e1 (bs:=[b,c]) (s2:=s') (EW e2 (EW e3 H2)) (BO _) (λ_ q=>q) AY λω' h' tk x ys S' st vx vys=>Ri vys (P:= λys=>wpAny _ _ (call _ (x::ys)) Q E _) λy z vy vz=>ho R N env ω' s' a b c v _ x y z Q E hR S' e4 vx vy vz (P.of_step st)
theorem Ku{a:Addr}{ys:Array Ab}{m:Nat}{f:Array Ab→Array Ab}(e:h.get? a=some (C5 ys m)): ∃m',(h.update a (Ep f)).get? a=some (C5 (f ys) m'):=by rw [JG _ e rfl];exact ⟨_,rfl⟩
theorem I0Z{o e:Ak}{nm:Str}{apos pos:Pos}{f g:Ev}(M:MCall o nm apos pos e [] "list" "list.pop")(hf:Sound w h₀ n A N o f)(hg:Sound w h₀ n [] N e g):
  Sound w h₀ n A N (.Call (.Attribute o nm apos) [e] [] pos) (Q6 (AH Gb f) g):=
 λR env ω s s' v sh Q E hR S q P=>BH q λa s1 e1 q=>BH q λb s2 e2 q=>Ih (C:=A) M N1 hf (Ah hg A3 M.star) hR S e1 (bs:=[b]) (s2:=s2) (EW e2 H2) (BO _) (λ_ q=>q) AY λω' h' tk x ys S' st vx vys=>
  VRs.one vys (P:= λys=>wpAny _ _ (call _ (x::ys)) Q E _) λy vy=>V.onCE q λk hk q=>V.onFR q vy λ_ f q=>FP (P:= λy=>wpAny _ _ (call _ [x,y]) Q E _) q f λi t q=>Ax q λo hq q=>HP q λxs ho q=>ifE q λh0 q=>AV q λu hy q=>
   S'.cell (b:=true) (P:= λx=>wpAny _ _ (call _ [x,_]) Q E _) hq (hk▸vx:VR w ω' h' (.c k) x) λc m t l c'=>(c'.list ho).casesOn λvs ep z2 z3=>by
    have hz:vs.size≤16777216:=by exact DB▸((RelL.len z3)▸h0.2)
    refine RelL.get z3 hy λz w1 w2=>?_
    have hlt:i.toNat<vs.size:=(DN.mp w1).1
    refine Uy (s:={sh with heap:=h',toks:=tk}) M09 ⟨_,z2,rfl⟩ PySem.F.entry_list_pop (PySem.F.args_list_pop_2 _ _) (O02 c vs ep i _ i.toNat z ?_ (Tj h0.1 hlt) (I0▸w1) (Co▸hz)) ⟨z2,(Ku (f:= λxs=>xs.eraseIdxIfInBounds i.toNat) z2).elim λm' hg'=>?_⟩
    ·unfold O0t
     rw [decide_eq_true (show -2^63≤i by lia),decide_eq_true (show i<2^63 by lia)]
     rfl
    ·have:=S'.wr (o':=.list (xs.eraseIdx i.toNat)) m t (Eo ..) trivial λfzk=>⟨_,m',hg',(show (vs.eraseIdxIfInBounds i.toNat).toList=vs.toList.eraseIdx i.toNat by simp [Array.eraseIdxIfInBounds,hlt])▸RelL.erase (FRs.mono (λ_ e=>e) fzk z3) _⟩
     exact P.eq q _ _ _ _ this.1 (st.trans this.2 (λ_ q=>q) AY) ((show VR w ω' h' (.f u) z from w2).step this.2 (BO _))
theorem K0D{k x:Nm}{y:Ab}{r:List (Str×Ab)}(hn:S' k∉r.map (·.1)):LM ((S' k,y)::r) (S' x)=if k=x then r else (S' k,y)::LM r (S' x):=by
 unfold LM
 refine (List.filter_cons).trans ?_
 by_cases q:k=x
 ·rw [if_pos q,←q,if_neg (by simp)];exact without_of_not_mem r (S' k) hn
 ·rw [if_neg q,show decide ((S' k,y).1≠S' x)=true from decide_eq_true λz=>q (N00.mp z)];rfl
theorem E0Z{x:Nm}: ∀{es:List (Nm×FV)} {kvs:List (Str×Ab)},FRd w ω.fz h es kvs→(kvs.map (·.1)).Nodup→FRd w ω.fz h (DF es x) (LM kvs (S' x)):= λ{es}=>by
 induction es with
 |nil=>exact λe=>RelL.nil e (P:= λkvs=>(kvs.map (·.1)).Nodup→FRd w ω.fz h [] (LM kvs _)) λ_=>rfl
 |cons p r ih=>
  refine λe=>RelL.cons e (P:= λkvs=>(kvs.map (·.1)).Nodup→FRd w ω.fz h _ (LM kvs _)) λkv ys q b=>q.casesOn λy e f=>Au e▸λhn=>?_
  refine (K0D (CQ.mp hn).1).symm▸?_
  show FRd w ω.fz h (if p.1=x then r else p::DF r x) _
  by_cases z:p.1=x
  ·rw [if_pos z,if_pos z];exact b
  ·rw [if_neg z,if_neg z];exact .mk ⟨y,rfl,f⟩ (ih b (CQ.mp hn).2)
theorem FRd.length{es:List (Nm×FV)}{kvs:List (Str×Ab)}(e:FRd w ω.fz h es kvs):es.length=kvs.length:=RelL.len e
theorem KO{a:Addr}{kvs:List (Str×Ab)}(e:h.DictOf (strKind pg w) a kvs):(kvs.map (·.1)).Nodup:=e.elim λ_ r=>r.elim λ_ r=>r.elim λ_ r=>r.2.2.2.2.2
theorem J0b{o e:Ak}{nm:Str}{apos pos:Pos}{f g:Ev}(M:MCall o nm apos pos e [] "dict" "dict.pop")(hf:Sound w h₀ n A N o f)(hg:Sound w h₀ n [] N e g):
  Sound w h₀ n A N (.Call (.Attribute o nm apos) [e] [] pos) (Q7 (AH EA f) g):=
 λR env ω s s' v sh Q E hR S q P=>BH q λa s1 e1 q=>BH q λb s2 e2 q=>Ih (C:=A) M Kz hf (Ah hg A3 M.star) hR S e1 (bs:=[b]) (s2:=s2) (EW e2 H2) (BO _) (λ_ q=>q) AY λω' h' tk x ys S' st vx vys=>
  VRs.one vys (P:= λys=>wpAny _ _ (call _ (x::ys)) Q E _) λy vy=>V.onCE q λk hk q=>V.onFR q vy λ_ f q=>EJ (P:= λy=>wpAny _ _ (call _ [x,y]) Q E _) q f λi t q=>Ax q λo hq q=>HO q λes ho q=>ifE q λhz q=>AV q λu hy q=>
   S'.cell (b:=true) (P:= λx=>wpAny _ _ (call _ [x,_]) Q E _) hq (hk▸vx:VR w ω' h' (.c k) x) λc m t l c'=>(c'.dict ho).casesOn λkvs z2 z3=>(FRd.at z3).some hy λz w1 w2=>
    JJ (s:={sh with heap:=h',toks:=tk}) M04 z2.typeIs PySem.F.entry_dict_pop (PySem.F.args_dict_pop_2 _ _) (meets_dict_pop_there _ c (Fq pg w _ _) [] (.inl rfl) rfl) ⟨kvs,z,z2,Co▸FRd.length z3▸hz,w1,λh2 hd hs=>
     have:=S'.wr (o':=.dict (DF es i)) m t hs trivial λfzk=>⟨_,hd,FRd.mono (λ_ e=>e) fzk (E0Z z3 (KO z2))⟩
     P.eq q _ _ _ _ this.1 (st.trans this.2 (λ_ q=>q) AY) (w2.step this.2 (BO _))⟩
end
section
variable(w:A5)(h₀:Heap)
def OR(ω:Wd)(h:Heap)(a:Addr)(o:O):Prop:=match o with
 |.list xs=>LstP h a (FRs w ω.fz h xs)
 |.jlist j=>LstP h a λys=>ys.length=j
 |.list2 xss=>xss=[]∧LstP h a λys=>ys=[]
 |.dict es=>DctP w h a (FRd w ω.fz h es)
 |.tdict es=>TdP w h a (FRt w ω h es)
 |.ddict _ es=>es=[]∧h.DictAt (strKind pg w) a [] 0
 |.inst _ _=>False
 |.ba j=>BaP h a j
structure Gh(b:Nat)(ω:Wd)(h:Heap)(a:Addr):Prop where
 new:b≤a
 lt:a<h.objs.size
 ow:ω.ow a=none
 fz: ¬ω.fz a
def PostA(N:Names)(env:Env)(A:List Nat)(ω:Wd)(sh:Ac)(s':St)(o:O)(Q:Ab→Ac→Prop):Prop:=∀ω' h' tk a,SR w h₀ N env ω' s' h'→StepE A ω sh.heap ω' h'→Gh sh.heap.objs.size ω' h' a→OR w ω' h' a o→Q (.ref a) {sh with heap:=h',toks:=tk}
def SoundA(n:Nat)(A:List Nat)(N:Names)(e:Ak)(f:Av):Prop:=
 ∀(R:Aw) (env:Env) (ω:Wd) (s s':St) (o:O) (sh:Ac) (Q E:Ab→Ac→Prop),Rm n R→SR w h₀ N env ω s sh.heap→f s=some (o,s')→PostA w h₀ N env A ω sh s' o Q→wpAny (Ag pg w) R (eval e env) Q E sh
end
section
variable{w:A5}{h₀:Heap}{N:Names}{env:Env}{ω ω':Wd}{h h':Heap}{s s1 s2:St}{n:Nat}{A B C:List Nat}{mg mb:Str→Option Ab}{K:Frag}
theorem PostA.of_step{sh:Ac}{v:O}{Q:Ab→Ac→Prop}{h':Heap}{tk:Nat}(P:PostA w h₀ N env A ω sh s v Q)(st:StepE A ω sh.heap ω' h'):PostA w h₀ N env [] ω' {sh with heap:=h',toks:=tk} s v Q:=λω2 h2 tk2 a S2 st2 g x=>P ω2 h2 tk2 a S2 (st.trans st2 (λ_ q=>q) AY) ⟨A8 st.size g.new,g.lt,g.ow,g.fz⟩ x
theorem PostA.of_step'{sh:Ac}{v:O}{Q:Ab→Ac→Prop}{h':Heap}{tk:Nat}(P:PostA w h₀ N env A ω sh s v Q)(st:StepE A ω sh.heap ω' h'):PostA w h₀ N env A ω' {sh with heap:=h',toks:=tk} s v Q:=λω2 h2 tk2 a S2 st2 g x=>P ω2 h2 tk2 a S2 (st.trans st2 (λ_ q=>q) (λ_ q=>q)) ⟨A8 st.size g.new,g.lt,g.ow,g.fz⟩ x
theorem Gh.push{o:Obj}(S:SR w h₀ N env ω s h):Gh h.objs.size ω (h.push o) h.objs.size:=⟨A9 _,CI h o▸C8 _,GG λz=>Bu _ (S.low _ z).2,λq=>Bu _ (S.fzlt _ q).1⟩
theorem DT(o:Obj):Grow ω h ω (h.push o):=DP (CI h o▸CZ _) λa o' q=>Dd _ q
theorem PostA.push{sh:Ac}{v:O}{Q:Ab→Ac→Prop}{o:Obj}(P:PostA w h₀ N env A ω sh s v Q)(S:SR w h₀ N env ω s sh.heap)(x:OR w ω (sh.heap.push o) sh.heap.objs.size v)(tk:Nat):Q (.ref sh.heap.objs.size) {sh with heap:=sh.heap.push o,toks:=tk}:=P ω _ tk _ (S.grow (DT o)) ((DT o).step.weak λ_ h=>nomatch h) (Gh.push S) x
theorem PostA.eq{sh:Ac}{o o':O}{s':St}{Q:Ab→Ac→Prop}(P:PostA w h₀ N env A ω sh s o Q)(e:(o',s')=(o,s)):PostA w h₀ N env A ω sh s' o' Q:=(BG e).1▸(BG e).2▸P
theorem SoundA.list{es:List Ak}{fs:List Ev}{pos:Pos}(hl:SoundL w h₀ n A N es fs)(hz:fs.length≤1000):SoundA w h₀ n A N (.List es pos) (Mine.A.list fs):=
 λR env ω s _ _ sh _ E hR S e P=>Ax e λp q e2=>AV e2 λxs q2 e3=>B0E (hl R env pos ω s p.2 p.1 sh _ E hR S q λω1 h1 tk1 ys S1 st1 vys=>⟨by refine vys.length▸?_;refine (Jr q).symm▸?_;refine Co.symm▸?_;exact A8 hz (by decide),
  have G:=DT (ω:=ω1) (h:=h1) (C5 ys.toArray 0)
  ((P.eq e3).of_step (tk:=tk1) st1).push (sh:={sh with heap:=h1,toks:=tk1}) S1 ⟨ys.toArray,0,BQ _ rfl,FRs.mono G.fz (λa _ o q=>G.keep a o q) (Wc q2 vys)⟩ tk1⟩)
theorem SoundA.list2{pos:Pos}:SoundA w h₀ n [] N (.List [] pos) Mine.A.list2:=λ_ _ _ _ _ _ sh _ _ _ S e P=>B0E (AJ ⟨by simp,(P.eq (An e)).push (o:=C5 #[] 0) S ⟨rfl,#[],0,BQ _ rfl,rfl⟩ sh.toks⟩)
theorem SoundA.jlist{pos:Pos}:SoundA w h₀ n [] N (.List [] pos) Mine.A.jlist:=λ_ _ _ _ _ _ sh _ _ _ S e P=>B0E (AJ ⟨by simp,(P.eq (An e)).push (o:=C5 #[] 0) S ⟨#[],0,BQ _ rfl,rfl⟩ sh.toks⟩)
theorem FU{pos:Pos}:SoundA w h₀ n [] N (.Dict [] [] pos) Mine.Gx:=λ_ _ _ _ _ _ sh _ _ _ S e P=>B0C ((P.eq (An e)).push S ⟨[],B0f _,rfl⟩ sh.toks)
theorem D0b{pos:Pos}:SoundA w h₀ n [] N (.Dict [] [] pos) Mine.B0P:=λ_ _ _ _ _ _ sh _ _ _ S e P=>B0C ((P.eq (An e)).push S ⟨[],O01 _,rfl⟩ sh.toks)
theorem B0T(h:Heap):Heap.DictAt (strKind pg w) (h.push {cls:=.type "dict",data:=.dict #[]}) h.objs.size [] 0:=⟨_,#[],BQ _ rfl,⟨rfl,rfl,rfl⟩,rfl,λ_ he=>by simp at he,Pairs.nil,L0D⟩
theorem C0Z{C:Nat}{pos:Pos}:SoundA w h₀ n [] N (.Dict [] [] pos) (Mine.B0O C):=λ_ _ _ _ _ _ sh _ _ _ S e P=>B0C ((P.eq (An e)).push S ⟨rfl,B0T _⟩ sh.toks)
theorem D0a{t b o:Ak}{p:Pos}{c:Cv}{f g:Av}(hc:SoundC w h₀ n A N t c)(hf:SoundA w h₀ n A N b f)(hg:SoundA w h₀ n A N o g):SoundA w h₀ n A N (.IfExp t b o p) (Mine.Pr c f g):=λR env ω _ s' v sh Q E hR S e P=>Ax e λp e1 e2=>wpAny_IfExp (hc R env ω _ p.2 p.1 sh _ E hR S e1 λω1 _ _ S1 st1=>Jg e2 (λ_ e=>hf R env ω1 _ s' v _ Q E hR S1 e (P.of_step' st1)) λ_ e=>hg R env ω1 _ s' v _ Q E hR S1 e (P.of_step' st1))
theorem SR.addFz{a:Addr}{b:Nat}(S:SR w h₀ N env ω s h)(g:Gh b ω h a)(hf: ¬FW env a):SR w h₀ N env (ω.addFz a) s h:=
 have hk: ∀v y,VR w ω h v y→VR w (ω.addFz a) h v y:= λv y e=>match v,e with
  |.f _,e=>FR.mono (λ_ q=>.inl q) (λ_ _ _ q=>q) e
  |.c _,e=>e
  |.g _,e=>e
  |.d _ _,e=>e
 have same: ∀c k,Same c k ω h (ω.addFz a) h:= λc k=>⟨λa t e _=>⟨e,λ_ q=>q⟩,λ_ q=>.inl q,λ_ _ _ q=>q,λ_ e=>e,λ_ _ _ e=>e⟩
 ⟨S.base,S.low,λc e=>e.elim (S.fzlt c) λ(q:c=a)=>Au q▸⟨g.lt,g.ow⟩,λc e=>.inl (S.fz0 c e),
  S.fr.mono (A9 _) (λ_ _ _ q=>q) (λv _=>hk v) λc e=>⟨(S.fr.off c e).1,λq=>q.elim (S.fr.off c e).2.1 λ(q:c=a)=>hf (q▸e)⟩,
  λb k o e=>(S.c b k o e).mono (same _ _) λ_ _ _ _ _ y z=>hk _ y z⟩
theorem StepE.addFz{a:Addr}(st:StepE A ω h ω' h')(ha:h.objs.size≤a):StepE A ω h (ω'.addFz a) h':=⟨⟨st.size,st.keep,λb e=>.inl (st.fz b e),st.fzk,λb e=>e.elim (st.fznew b) λq=>.inr (.inr (q▸ha)),st.ownew,st.g,st.d⟩,st.c⟩
theorem F0L{a:Addr}{o:O}{x:FV}(B:Base h₀ mg mb)(S:SR w h₀ N env ω s h)(ha:h₀.objs.size≤a)(r:OR w ω h a o)(e:o.freeze=some x):FR w (ω.addFz a).fz h x (.ref a):=by
 have hs:(a==Ec)=false:=beq_eq_false_iff_ne.mpr λq=>Bu _ (Bc (q▸B.sys:a<h₀.objs.size) ha)
 cases o with
 |list xs=>exact An e▸(⟨a,rfl,.inr rfl,LstP.mono r (λ_ e=>e) λ_ q=>Au (Dh w _ h xs)▸FRs.mono (λ_ q=>.inl q) (λ_ _ _ q=>q) q⟩:FR w (ω.addFz a).fz h (.lst xs) _)
 |list2 xss=>exact An e▸Au r.1▸(⟨a,rfl,.inr rfl,r.2⟩:FR w (ω.addFz a).fz h (.lst []) _)
 |dict es=>exact An e▸(⟨a,rfl,.inr rfl,hs,DctP.mono r (λ_ e=>e) λ_ q=>Au (HK w _ h es)▸FRd.mono (λ_ q=>.inl q) (λ_ _ _ q=>q) q⟩:FR w (ω.addFz a).fz h (.dct es) _)
 |ba j=>exact An e▸(⟨a,rfl,.inr rfl,r⟩:FR w (ω.addFz a).fz h (.fba j) _)
 |inst C fs=>exact r.elim
 |_=>exact noS e
theorem Gh.notFW{a:Addr}{b:Nat}(S:SR w h₀ N env ω s h)(g:Gh h.objs.size ω' h' a): ¬FW env a:= λe=>absurd (S.fr.off a e).2.2.2 (DY.mpr g.new)
theorem SR.lo(S:SR w h₀ N env ω s h):h₀.objs.size≤h.objs.size:=CY (DX (S.fr.off _ (.inl rfl)).2.2.1 (S.fr.off _ (.inl rfl)).2.2.2)
theorem DQ{e:Ak}{f:Av}(B:Base h₀ mg mb)(hf:SoundA w h₀ n A N e f):Sound w h₀ n A N e (Cf f):=
 λR env ω s _ _ sh Q E hR S q P=>Ax q λp q1 q=>AV q λx q2 q=>hf R env ω s p.2 p.1 sh Q E hR S q1 λω1 h1 tk1 a S1 st1 g1 r1=>P.eq q _ _ _ _ (S1.addFz g1 (g1.notFW (b:=0) S)) (st1.addFz g1.new) (F0L B S1 (A8 S.lo g1.new) r1 q2)
theorem N6{c:Addr}(S:SR w h₀ N env ω s h)(hc:FW env c)(hs:Ce c h h'): ∀a,ω.fz a→∀ob,h.get? a=some ob→h'.get? a=some ob:= λa e ob z=>(hs.2 a λq=>(S.fr.off c hc).2.1 (q▸e)).trans z
theorem T6{c:Addr}(S:SR w h₀ N env ω s h)(hc:FW env c)(hs:Ce c h h'): ∀v y,VR w ω h v y→VR w ω h' v y:= λv y e=>match v,e with
 |.f _,e=>FR.mono (λ_ q=>q) (N6 S hc hs) e
 |.c _,e=>e
 |.g _,e=>e
 |.d _ _,e=>e
theorem SR.frameChange{c:Addr}{m':List (Option V)}(S:SR w h₀ N env ω s h)(hc:FW env c)(hs:Ce c h h')(hf:FrameR w h₀ N env ω m' h'):SR w h₀ N env ω {s with m:=m'} h':=
 have same: ∀c k,Same c k ω h ω h':= λc' k=>⟨λa t e _=>⟨e,λob z=>(hs.2 a λq=>noZ ((q▸e:ω.ow c=some t).symm.trans (S.fr.off c hc).1)).trans z⟩,λ_ q=>q,N6 S hc hs,λ_ e=>e,λ_ _ _ e=>e⟩
 ⟨λb ob e=>(hs.2 b λq=>Bu _ (Bc (q▸Bz e) (S.fr.off c hc).2.2.1)).trans (S.base b ob e),λa e=>Au hs.1▸S.low a e,λa e=>Au hs.1▸S.fzlt a e,S.fz0,hf,λb k o e=>(S.c b k o e).mono (same _ _) λ_ _ _ _ _ y z=>T6 S hc hs _ y z⟩
theorem Tt{c:Addr}(S:SR w h₀ N env ω s h)(hc:FW env c)(hs:Ce c h h'):Step [] (FW env) ω h ω h':=⟨DC hs.1.symm,λa _ n ob e=>(hs.2 a λq=>n (q▸hc)).trans e,λ_ e=>e,N6 S hc hs,λ_ e=>.inl e,λ_ e=>.inl e,λ_ _ _ e=>e,λ_ _ _ _ e=>e⟩
theorem YY{i j:Nat}{x:Str}(F:EnvOK N env)(e1:N.ns[i]?=some x)(e2:N.ns[j]?=some x):i=j:=(DN.mp e1).elim λh1 z1=>(DN.mp e2).elim λh2 z2=>YV F.nodup h1 h2 (z1.trans z2.symm)
theorem La{m:List (Option V)}{k j:Nat}{v u:V}(e:(m.set k (some v))[j]?=some (some u)):(j=k∧v=u)∨(j≠k∧m[j]?=some (some u)):=by
 by_cases z:k=j
 ·have h:k<m.length:=by
   have:=(DN.mp e).1
   rw [H7] at this
   exact z▸this
  rw [←z,OF h] at e
  exact .inl ⟨z.symm,An (An e)⟩
 ·exact .inr ⟨λq=>z q.symm,(OE z).symm.trans e⟩
theorem FrameR.off'{c:Addr}{m:List (Option V)}(F:FrameR w h₀ N env ω m h)(hs:Ce c h h')(a:Addr)(e:FW env a):ω.ow a=none∧¬ω.fz a∧h₀.objs.size≤a∧a<h'.objs.size:=Au hs.1▸F.off a e
theorem FrameR.setL{m:List (Option V)}{k:Nat}{x:Str}{v:V}{y:Ab}{mm:Str→Option Ab}(F:FrameR w h₀ N env ω m h)(hx:N.ns[k]?=some x)(hl:env.kindOf x=some .local)(hs:Ce env.locals h h')(hm: ∀v y,VR w ω h v y→VR w ω h' v y)(hv:VR w ω h' v y)
  (n2: ∀(k:Nat) (x:Str) (v:V),N.ns[k]?=some x→m[k]?=some (some v)→env.kindOf x=some .local→∃y,mm x=some y∧VR w ω h v y) (hn:h'.Ns env.locals λz=>if z=x then some y else mm z):FrameR w h₀ N env ω (m.set k (some v)) h':=
 ⟨F.ok,H7.trans F.len,⟨_,hn,λj z u e1 e2 e3=>(La e2).elim (λq=>⟨y,if_pos (An (e1.symm.trans (q.1▸hx))),q.2▸hv⟩) λq=>(n2 j z u e1 q.2 e3).imp λu' r=>⟨(if_neg λz=>q.1 (YY F.ok (z▸e1) hx)).trans r.1,hm _ _ r.2⟩⟩,
  λz c e=>(F.cells z c e).imp λy' r=>⟨r.1.imp λo q=>q.imp_left (hs.2 c (F.lc z c e)).trans,λj u e1 e2 e3=>(La e2).elim (λq=>absurd (An ((q.1▸hx:N.ns[j]?=some x).symm.trans e1)▸hl) e3) λq=>(r.2 j u e1 q.2 e3).imp λz' r=>r.imp_right (hm _ _)⟩,
  F.off' hs,F.lc⟩
theorem FrameR.setC{m:List (Option V)}{k:Nat}{x:Str}{c:Addr}{v:V}{y:Ab}(F:FrameR w h₀ N env ω m h)(hx:N.ns[k]?=some x)(nl:env.kindOf x≠some .local)(hc:env.cells.lookup x=some c)(hs:Ce c h h')(hm: ∀v y,VR w ω h v y→VR w ω h' v y)(hv:VR w ω h' v y)(hcell:h'.IsCell c (some y)):
  FrameR w h₀ N env ω (m.set k (some v)) h':=
 ⟨F.ok,H7.trans F.len,F.ns.imp λmm r=>⟨r.1.sameBut hs λe=>F.lc x c hc e.symm,λj z u e1 e2 e3=>(La e2).elim (λq=>absurd (An (e1.symm.trans (q.1▸hx))▸e3) nl) λq=>(r.2 j z u e1 q.2 e3).imp λ_ r=>r.imp_right (hm _ _)⟩,
  λz c' e=>by
   by_cases hcc:c'=c
   ·exact Au hcc▸⟨some y,hcell,λj u e1 e2 _=>(La e2).elim (λq=>⟨y,rfl,q.2▸hv⟩) λq=>absurd (YY F.ok (F.ok.cinj z x c (hcc▸e) hc▸e1) hx) q.1⟩
   ·exact (F.cells z c' e).imp λy' r=>⟨r.1.imp λo q=>q.imp_left (hs.2 c' hcc).trans,λj u e1 e2 e3=>(La e2).elim (λq=>absurd (An (e.symm.trans (An ((q.1▸hx:N.ns[j]?=some x).symm.trans e1)▸hc))) hcc) λq=>(r.2 j u e1 q.2 e3).imp λ_ r=>r.imp_right (hm _ _)⟩,
  F.off' hs,F.lc⟩
theorem Oi{k:Nat}{x:Str}{v:V}{y:Ab}{R:Aw}{sh:Ac}{Q:Unit→Ac→Prop}{E:Ab→Ac→Prop}(S:SR w h₀ N env ω s sh.heap)(hx:N.ns[k]?=some x)(hl:env.kindOf x=some .local)(hv:VR w ω sh.heap v y)
  (q: ∀h' tk,SR w h₀ N env ω {s with m:=s.m.set k (some v)} h'→Ce env.locals sh.heap h'→VR w ω h' v y→Q () {sh with heap:=h',toks:=tk}):wpAny (Ag pg w) R (LH env x y) Q E sh:=
 S.fr.ns.elim λmm r=>wpAny_storeName_local hl r.1 (λh' hn hs=>
  have hm:=T6 S (.inl rfl) hs
  q h' _ (S.frameChange (.inl rfl) hs (S.fr.setL hx hl hs hm (hm _ _ hv) r.2 hn)) hs (hm _ _ hv)) (Au S.fr.ok.kind▸rfl)
theorem GK{k:Nat}{x:Str}{v:V}{y:Ab}{R:Aw}{sh:Ac}{Q:Unit→Ac→Prop}{E:Ab→Ac→Prop}(S:SR w h₀ N env ω s sh.heap)(hx:N.ns[k]?=some x)(hv:VR w ω sh.heap v y)
  (q: ∀h' tk,SR w h₀ N env ω {s with m:=s.m.set k (some v)} h'→Step [] (FW env) ω sh.heap ω h'→VR w ω h' v y→Q () {sh with heap:=h',toks:=tk}):wpAny (Ag pg w) R (LH env x y) Q E sh:=
 (S.fr.ok.slot x (As hx)).elim (λhl=>Oi S hx hl hv λh' tk S' hs v'=>q h' tk S' (Tt S (.inl rfl) hs) v') λhl=>(Lv.mp hl.2).elim λc hc=>(S.fr.cells x c hc).elim λy' r=>
  have nl:env.kindOf x≠some .local:=hl.1.elim (λe z=>nomatch e.symm.trans z) λe z=>nomatch e.symm.trans z
  have fin: ∀h',h'.IsCell c (some y)→Ce c sh.heap h'→Q () {sh with heap:=h',toks:=sh.toks}:= λh' hcell hs=>
   have hm:=T6 S (.inr ⟨x,hc⟩) hs
   q h' sh.toks (S.frameChange (.inr ⟨x,hc⟩) hs (S.fr.setC hx nl hc hs hm (hm _ _ hv) hcell)) (Tt S (.inr ⟨x,hc⟩) hs) (hm _ _ hv)
  hl.1.elim (λhl=>wpAny_storeName_cell S.fr.ok.kind hl hc r.1 fin) λhl=>PySem.W.storeName_free S.fr.ok.kind hl hc r.1 fin
inductive FlR(w:A5)(ω:Wd)(h:Heap):Fl→Flow→Prop
 |nx:FlR w ω h .nx .next
 |ct:FlR w ω h .ct .cont
 |rt {v:V} {x:Ab}:VR w ω h v x→FlR w ω h (.rt v) (.ret x)
end
section
variable(w:A5)(h₀:Heap)
def PostS(N:Names)(env:Env)(A:List Nat)(ω:Wd)(sh:Ac)(s':St)(fl:Fl)(Q:Flow→Ac→Prop):Prop:=∀ω' h' tk flow,SR w h₀ N env ω' s' h'→Step A (FW env) ω sh.heap ω' h'→FlR w ω' h' fl flow→Q flow {sh with heap:=h',toks:=tk}
def SoundS(n:Nat)(A:List Nat)(N:Names)(c:Bm)(f:Sv):Prop:=
 ∀(R:Aw) (env:Env) (ω:Wd) (s s':St) (fl:Fl) (sh:Ac) (Q:Flow→Ac→Prop) (E:Ab→Ac→Prop),Rm n R→SR w h₀ N env ω s sh.heap→f s=some (fl,s')→PostS w h₀ N env A ω sh s' fl Q→wpAny (Ag pg w) R (exec c env) Q E sh
def SoundB(n:Nat)(A:List Nat)(N:Names)(cs:List Bm)(f:Sv):Prop:=
 ∀(R:Aw) (env:Env) (ω:Wd) (s s':St) (fl:Fl) (sh:Ac) (Q:Flow→Ac→Prop) (E:Ab→Ac→Prop),Rm n R→SR w h₀ N env ω s sh.heap→f s=some (fl,s')→PostS w h₀ N env A ω sh s' fl Q→wpAny (Ag pg w) R (HD cs env) Q E sh
end
section
variable{w:A5}{h₀:Heap}{N:Names}{env:Env}{ω ω':Wd}{h h':Heap}{s s1 s2:St}{n:Nat}{A B C:List Nat}{mg mb:Str→Option Ab}{K:Frag}
theorem B5{W:Addr→Prop}(st:StepE A ω h ω' h'):Step A W ω h ω' h':=st.toStep.weak (λ_ q=>q) λ_ q=>q.elim
theorem PostS.of_step{sh:Ac}{fl:Fl}{Q:Flow→Ac→Prop}{h':Heap}{tk:Nat}(P:PostS w h₀ N env C ω sh s fl Q)(st:Step A (FW env) ω sh.heap ω' h')(hA: ∀k∈A,k∈C)(hB: ∀k∈B,k∈C):PostS w h₀ N env B ω' {sh with heap:=h',toks:=tk} s fl Q:=λω2 h2 tk2 flow S2 st2 x=>P ω2 h2 tk2 flow S2 (st.trans st2 hA hB) x
theorem FD{k:Nat}{v:V}{s':St}(e:E1 s k v=some s'):s'={s with m:=s.m.set k (some v)}:=ifE e λ_ e=>(An e).symm
theorem PostS.eq{sh:Ac}{fl fl':Fl}{s':St}{Q:Flow→Ac→Prop}(P:PostS w h₀ N env A ω sh s fl Q)(e:(fl',s')=(fl,s)):PostS w h₀ N env A ω sh s' fl' Q:=(BG e).1▸(BG e).2▸P
theorem D8{o:Option St}{fl:Fl}{s':St}{P:Prop}(e:nxt o=some (fl,s'))(q:o=some s'→(Fl.nx,s')=(fl,s')→P):P:=AV e λ_ e1 e2=>q (e1.trans (congrArg some (BG e2).2)) ((BG e2).2▸e2)
theorem BX{k:Nat}{x:Str}{e:Ak}{pos pos':Pos}{f:Ev}(hx:N.ns[k]?=some x)(hf:Sound w h₀ n A N e f)(hs: ∀env,Eb e (some (.Name x pos')) pos.line env=pure false:=by exact λ_=>by left):
  SoundS w h₀ n A N (.Assign [.Name x pos'] e pos) (Bp k f):=
 λR env ω s s' fl sh Q E hR S q P=>Ax q λp q1 q=>D8 q λq2 q3=>N0j (hf R env ω s p.2 p.1 sh _ E hR S q1 λω1 h1 tk1 y S1 st1 vy=>GK (sh:={sh with heap:=h1,toks:=tk1}) S1 hx vy λh2 tk2 S2 st2 _=>P.eq q3 _ _ _ _ (Au (FD q2)▸S2) ((B5 st1).trans st2 (λ_ q=>q) AY) .nx) (hs env)
theorem MH{e:Ak}{pos:Pos}{f:Ev}(hf:Sound w h₀ n A N e f)(hi: ∀env:Env,env.scope.kind=.function→HF env=false)(hs: ∀env,Eb e none pos.line env=pure false):SoundS w h₀ n A N (.Expr e pos) (Hc f):=λR env ω s s' fl sh Q E hR S q P=>AV q λp q1 q=>LO (hf R env ω s p.2 p.1 sh _ E hR S q1 λ_ _ _ _ S1 st1 _=>P.eq q _ _ _ _ S1 (B5 st1) .nx) (hi env S.fr.ok.kind) (hs env)
theorem Cr{e:Ak}{pos:Pos}{f:Ev}(hf:Sound w h₀ n A N e f):SoundS w h₀ n A N (.Return (some e) pos) (BN f):=λR env ω s s' fl sh Q E hR S q P=>AV q λp q1 q=>wpAny_Return_some (hf R env ω s p.2 p.1 sh _ E hR S q1 λ_ _ _ _ S1 st1 vy=>P.eq q _ _ _ _ S1 (B5 st1) (.rt vy))
theorem D0j{pos:Pos}:SoundS w h₀ n [] N (.Continue pos) VD:=λ_ _ ω _ _ _ sh _ _ _ S q P=>wpAny_Continue (P.eq (An q) ω sh.heap sh.toks .cont S Step.refl .ct)
theorem Ci{t:Ak}{body orelse:List Bm}{pos:Pos}{c:Cv}{a b:Sv}(hc:SoundC w h₀ n A N t c)(ha:SoundB w h₀ n A N body a)(hb:SoundB w h₀ n A N orelse b):SoundS w h₀ n A N (.If t body orelse pos) (BB c a b):=λR env ω s s' fl sh Q E hR S q P=>Ax q λp q1 q=>wpAny_If (hc R env ω s p.2 p.1 sh _ E hR S q1 λω1 _ _ S1 st1=>Jg q (λ_ q=>ha R env ω1 _ s' fl _ Q E hR S1 q (P.of_step (B5 st1) (λ_ q=>q) (λ_ q=>q))) λ_ q=>hb R env ω1 _ s' fl _ Q E hR S1 q (P.of_step (B5 st1) (λ_ q=>q) (λ_ q=>q)))
theorem A6:SoundB w h₀ n [] N [] Ar:=λ_ _ ω _ _ _ sh _ _ _ S q P=>LP (P.eq (An q) ω sh.heap sh.toks .next S Step.refl .nx)
theorem FlR.nxI{f:Flow}(e:FlR w ω h .nx f):f=.next:=by cases e;rfl
theorem FlR.ctI{f:Flow}(e:FlR w ω h .ct f):f=.cont:=by cases e;rfl
theorem FlR.rtI{v:V}{f:Flow}(e:FlR w ω h (.rt v) f): ∃x,f=.ret x:=by cases e;exact ⟨_,rfl⟩
theorem Ai{c:Bm}{cs:List Bm}{a b:Sv}(ha:SoundS w h₀ n A N c a)(hb:SoundB w h₀ n A N cs b):SoundB w h₀ n A N (c::cs) (Ae a b):=
 λR env ω s s' fl sh Q E hR S q P=>Ax q λp q1 q=>wpAny_execs_cons (ha R env ω s p.2 p.1 sh _ E hR S q1 λω1 h1 tk1 flow S1 st1 hfl=>by
  obtain ⟨f,s1⟩:=p
  cases f with
  |nx=>exact Au hfl.nxI▸hb R env ω1 s1 s' fl _ Q E hR S1 q (P.of_step st1 (λ_ q=>q) (λ_ q=>q))
  |ct=>exact Au hfl.ctI▸P.eq (An q) _ _ _ _ S1 st1 .ct
  |rt v=>exact hfl.rtI.elim λx e=>by rw [e] at hfl⊢;exact P.eq (An q) _ _ _ _ S1 st1 hfl)
theorem SoundS.weak{c:Bm}{f:Sv}(hf:SoundS w h₀ n A N c f)(hA: ∀k∈A,k∈B):SoundS w h₀ n B N c f:=λR env ω s s' fl sh Q E hR S q P=>hf R env ω s s' fl sh Q E hR S q λω1 h1 tk1 flow S1 st1 x=>P ω1 h1 tk1 flow S1 (st1.weak hA λ_ q=>q) x
theorem SoundB.weak{c:List Bm}{f:Sv}(hf:SoundB w h₀ n A N c f)(hA: ∀k∈A,k∈B):SoundB w h₀ n B N c f:=λR env ω s s' fl sh Q E hR S q P=>hf R env ω s s' fl sh Q E hR S q λω1 h1 tk1 flow S1 st1 x=>P ω1 h1 tk1 flow S1 (st1.weak hA λ_ q=>q) x
theorem X6{m:List (Option V)}{k j:Nat}{u:V}(e:(m.set k none)[j]?=some (some u)):m[j]?=some (some u):=by
 by_cases z:k=j
 ·rw [←z] at e;replace e:=(A0C)▸e
  cases q:m[k]? with
  |none=>replace e:=q▸e;exact noS e
  |some y=>rw [q] at e;exact nomatch e
 ·exact (OE z).symm.trans e
theorem SR.clear(S:SR w h₀ N env ω s h)(k:Nat):SR w h₀ N env ω {s with m:=s.m.set k none} h:=⟨S.base,S.low,S.fzlt,S.fz0,⟨S.fr.ok,H7.trans S.fr.len,S.fr.ns.imp λmm r=>r.imp_right λn2 j z u e1 e2=>n2 j z u e1 (X6 e2),λz c e=>(S.fr.cells z c e).imp λy r=>r.imp_right λo3 j u e1 e2=>o3 j u e1 (X6 e2),S.fr.off,S.fr.lc⟩,S.c⟩
noncomputable def T3(f:Nat→Option Addr)(k:Nat)(a:Addr)(j:Nat):Option Addr:=if j=k then some a else f j
noncomputable def Wd.put(ω:Wd)(b:Bool)(k:Nat)(a:Addr):Wd:={ω with c:=cond b (T3 ω.c k a) ω.c,g:=cond b ω.g (T3 ω.g k a),d:=cond b ω.d (λj i=>if j=k∧i=EPI then some 0 else ω.d j i),ow:= λx=>if x=a then some (tm b k) else ω.ow x}
noncomputable def V.onb(b:Bool)(k:Nat)(v:V):Bool:=cond b (v.isC k) (v.onG k)
section
variable{b b':Bool}{k k':Nat}{a x:Addr}
theorem NW:(ω.put b k a).m b k=some a:=by cases b<;>exact if_pos rfl
theorem NV(n:(b',k')≠(b,k))(e:ω.m b' k'=some x):(ω.put b k a).m b' k'=some x:=by
 cases b<;>cases b'
 ·exact (if_neg λq=>n (congrArg _ q)).trans e
 ·exact e
 ·exact e
 ·exact (if_neg λq=>n (congrArg _ q)).trans e
theorem Te{i:Nat}(n:b=false→k'≠k)(e:ω.d k' i=some x):(ω.put b k a).d k' i=some x:=by
 cases b
 ·exact (if_neg λq=>n rfl q.1).trans e
 ·exact e
theorem Jq(n:x≠a):(ω.put b k a).ow x=ω.ow x:=if_neg n
theorem Zr{v:V}{y:Ab}(n:v.onb b k=false)(e:VR w ω h v y):VR w (ω.put b k a) h v y:=by
 have no: ∀{j},B6 j k=false→j≠k:= λh q=>noT ((q▸h:B6 k k=false).symm.trans (J9 k))
 cases v with
 |f z=>exact e
 |c j=>exact e.imp λx r=>r.imp_left (NV (b':=true) λq=>by cases q;exact no n rfl)
 |g j=>exact e.imp λx r=>r.imp_left (NV (b':=false) λq=>by cases q;exact no n rfl)
 |d j i=>exact e.imp λx r=>r.imp_left (Te λq=>by subst q;exact no n)
end
theorem B0Q{b:Bool}{k:Nat}{a:Addr}{o:O}(r:OR w ω h a o)(hok:cond b o.okL o.okG=true):CR w (ω.put b k a) h b k o:=
 ⟨a,NW,if_pos rfl,by cases o<;>first|trivial|(cases b<;>first|rfl|exact noT hok),by
  cases o with
  |list2 xss=>
   cases b with
   |false=>exact noT hok
   |true=>exact Au r.1▸r.2
  |tdict es=>exact TdP.casesOn r λxs z1 z2=>⟨xs,z1,FRt.mono (ω:=ω) (ω':=ω.put b k a) (λ_ q=>q) (λ_ _ _ q=>q) z2⟩
  |ddict C es=>
   cases b with
   |true=>exact noT hok
   |false=>exact Au r.1▸⟨[],0,r.2.dictOf,if_pos ⟨rfl,rfl⟩,r.2,rfl⟩
  |inst C fs=>exact r.elim
  |_=>exact r⟩
theorem Yx{k:Nat}{o:O}(e:BI s k=some o):some o∈s.g:=As (JC.mp e)
theorem Kg{p:V→Bool}{m:List (Option V)}(e:m.any (BP p)=false){v:V}(hv:some v∈m):p v=false:=O4.mpr (Ll.mp e _ hv)
theorem NX{p:V→Bool}{g:List (Option O)}(e:g.any (Ey p)=false){C:Nat}{fs:List (Nat×V)}(hv:some (O.inst C fs)∈g): ∀q∈fs,p q.2=false:=λq hq=>O4.mpr (Ll.mp (O4.mpr (Ll.mp e _ hv):(fs.any λa=>p a.2)=false) q hq)
theorem I0v{v:V}{k:Nat}(h:v.noC=true):v.isC k=false:=by
 cases v with
 |c _=>exact noT h
 |_=>rfl
theorem J0k{b b':Bool}{k k':Nat}{a:Addr}{bnd:Nat}(g:Gh bnd ω h a)(n:(b',k')≠(b,k)):Same b' k' ω h (ω.put b k a) h:=⟨λx t e _=>⟨(Jq λ(q:x=a)=>noZ ((q▸e:ω.ow a=some t).symm.trans g.ow)).trans e,λ_ q=>q⟩,λ_ q=>q,λ_ _ _ q=>q,λ_ e=>NV n e,λhb i _ e=>Te (λq z=>n (by refine hb.symm▸?_;refine q.symm▸?_;rw [z])) e⟩
theorem SR.adopt{b:Bool}{k:Nat}{a:Addr}{o:O}{bnd:Nat}(S:SR w h₀ N env ω s h)(g:Gh bnd ω h a)(ha:h₀.objs.size≤a)(hf: ¬FW env a)(r:OR w ω h a o)(hok:cond b o.okL o.okG=true)
  (hm: ∀v,some v∈s.m→v.onb b k=false) (hg:b=false→∀C fs,some (O.inst C fs)∈s.g→∀p∈fs,p.2.onG k=false):
  SR w h₀ N env (ω.put b k a) (Jp b k o s) h:=by
 have hi: ∀b' j C fs,s.cell b' j=some (.inst C fs)→∀p∈fs,p.2.onb b k=false:= λb' j C fs e p hp=>by
  refine (S.c b' j _ e).casesOn λx _ _ l c=>?_
  obtain rfl:b'=false:=l
  cases b with
  |false=>exact hg rfl C fs (Yx e) p hp
  |true=>exact c.casesOn λ_ _ _ _ _ q=>I0v (q.2.2 p hp)
 refine ⟨S.base,λx e=>?_,λx e=>(S.fzlt x e).imp_right λz=>(Jq λ(q:x=a)=>g.fz (q▸e)).trans z,S.fz0,S.fr.mono (A9 _) (λ_ _ _ q=>q) (λv hv y e=>Zr (hm v hv) e) λx e=>⟨(Jq λ(q:x=a)=>hf (q▸e)).trans (S.fr.off x e).1,(S.fr.off x e).2.1⟩,λb' j o' e=>(WG e).elim (λz=>Eq.rec (motive:= λp _=>CR w (ω.put b k a) h p.1 p.2 o') (Au z.2▸B0Q r hok) z.1.symm) λz=>(S.c b' j o' z.2).mono (J0k g z.1) λC fs q p hp y=>Zr (hi b' j C fs (q▸z.2) p hp)⟩
 by_cases q:x=a
 ·exact q▸⟨ha,g.lt⟩
 ·exact S.low x (Jq (b:=b) (k:=k) q▸e)
theorem Step.put{W:Addr→Prop}{b:Bool}{k:Nat}{a:Addr}(st:Step A W ω h ω' h')(ha:h.objs.size≤a)(hA:b=false→k∈A):Step A W ω h (ω'.put b k a) h':=by
 refine ⟨st.size,st.keep,st.fz,st.fzk,st.fznew,λx e=>?_,λj hj x e=>NV (b':=false) (λq=>by cases q;exact hj (hA rfl)) (st.g j hj x e),λj hj i x e=>Te (λq z=>hj (z▸hA q)) (st.d j hj i x e)⟩
 by_cases q:x=a
 ·exact .inr (q▸ha)
 ·exact st.ownew x (Jq (b:=b) (k:=k) q▸e)
theorem I0s{k c:Nat}{o:O}{s':St}(e:SN k c o s=some s'):Se c {s with m:=s.m.set k none}=true∧o.okL=true∧s'={s with m:=s.m.set k (some (.c c)),l:=s.l.set c (some o)}:=ifE e λq e=>have q:=(Bv _ _).mp q;⟨((Bv _ _).mp ((Bv _ _).mp q.1).1).1,q.2,(An e).symm⟩
theorem YQ{k c:Nat}{x:Str}{a:Addr}{o:O}{R:Aw}{sh:Ac}{Q:Unit→Ac→Prop}{E:Ab→Ac→Prop}{s':St}{bnd:Nat}(S:SR w h₀ N env ω s sh.heap)(hx:N.ns[k]?=some x)(g:Gh bnd ω sh.heap a)(ha:h₀.objs.size≤a)(hf: ¬FW env a)
  (r:OR w ω sh.heap a o) (e:SN k c o s=some s') (q: ∀h' tk,SR w h₀ N env (ω.put true c a) s' h'→Step [] (FW env) (ω.put true c a) sh.heap (ω.put true c a) h'→Q () {sh with heap:=h',toks:=tk}):
  wpAny (Ag pg w) R (LH env x (.ref a)) Q E sh:=by
 refine byC λnk=>?_
 obtain ⟨e1,e2,rfl⟩:=I0s e
 refine nk ?_
 refine GK (v:=.c c) ((S.clear k).adopt (b:=true) (k:=c) g ha hf r e2 (λv hv=>Kg (DW _|>.mp e1) hv) nofun) hx ⟨a,NW (b:=true),rfl⟩ λh' tk S2 st2 _=>q h' tk ?_ st2
 exact (show (Jp true c o {s with m:=s.m.set k none}).m.set k (some (V.c c))=s.m.set k (some (.c c)) from L0J ..)▸S2
theorem Es{k c:Nat}{x:Str}{e:Ak}{pos pos':Pos}{f:Av}(hx:N.ns[k]?=some x)(hf:SoundA w h₀ n A N e f)(hs: ∀env,Eb e (some (.Name x pos')) pos.line env=pure false:=by exact λ_=>by left):
  SoundS w h₀ n A N (.Assign [.Name x pos'] e pos) (Dr k c f):=
 λR env ω s s' fl sh Q E hR S q P=>Ax q λp q1 q=>D8 q λq2 q3=>N0j (hf R env ω s p.2 p.1 sh _ E hR S q1 λω1 h1 tk1 a S1 st1 g1 r1=>YQ (sh:={sh with heap:=h1,toks:=tk1}) S1 hx g1 (A8 S.lo g1.new) (g1.notFW (b:=0) S) r1 q2 λh2 tk2 S2 st2=>P.eq q3 _ _ _ _ S2 (((B5 st1).put (b:=true) (k:=c) g1.new (λq=>noF q)).trans st2 (λ_ q=>q) AY) .nx) (hs env)
theorem Xu{k:Nat}(e:Nx k s=true):s.m.any (BP (V.onG k))=false∧s.g.any (Ey (V.onG k))=false:=((Bv _ _).mp e).imp (DW _).mp (DW _).mp
theorem EL{k:Nat}{e:Ak}{f:Av}(hf:SoundA w h₀ n A N e f)(hA: ∀j∈A,j∈C)(hk:k∈C):Sound w h₀ n C N e (Dq k f):=
 λR env ω s s' v sh Q E hR S q P=>Ax q λp q1 q=>ifE q λq2 q=>hf R env ω s p.2 p.1 sh Q E hR S q1 λω1 h1 tk1 a S1 st1 g1 r1=>
  have q2:=(Bv _ _).mp q2
  have q3:=Xu ((Bv _ _).mp q2.1).1
  P.eq (An q) _ _ _ _ (S1.adopt (b:=false) (k:=k) g1 (A8 S.lo g1.new) (g1.notFW (b:=0) S) r1 q2.2 (λv hv=>Kg q3.1 hv) λ_ C fs hv p hp=>NX q3.2 hv p hp) ⟨(st1.toStep.weak hA λ_ q=>q).put g1.new λ_=>hk,λj x e=>st1.c j x e⟩ ⟨a,NW (b:=false),rfl⟩
end
section
def Wd.inCell(ω:Wd)(b:Bool)(k:Nat)(a:Addr):Prop:= ∃t,ω.ow a=some t∧t.cell=(b,k)
open Classical in
noncomputable def Wd.frz(ω:Wd)(b:Bool)(k:Nat):Wd:={ω with ow:= λa=>if ω.inCell b k a then none else ω.ow a,fz:= λa=>ω.fz a∨ω.inCell b k a}
section
variable{w:A5}{h₀:Heap}{N:Names}{env:Env}{ω ω':Wd}{h h':Heap}{s s1 s2:St}{n:Nat}{A B C:List Nat}{mg mb:Str→Option Ab}{K:Frag}
theorem F0O{b:Bool}{k:Nat}{a:Addr}{t:Tag}(e:ω.ow a=some t)(hc:t.cell≠(b,k)):(ω.frz b k).ow a=some t:=(if_neg λ⟨_,e',q⟩=>hc (An (e'.symm.trans e)▸q)).trans e
theorem Xy{b:Bool}{k:Nat}{a:Addr}(e:ω.ow a=none): ¬ω.inCell b k a:= λ⟨_,e',_⟩=>noZ (e'.symm.trans e)
theorem Sf{b:Bool}{k:Nat}{a:Addr}(e:ω.ow a=none):(ω.frz b k).ow a=none:=(if_neg (Xy e)).trans e
theorem Xz{b:Bool}{k:Nat}{a:Addr}(e:(ω.frz b k).ow a≠none):ω.ow a≠none:= λq=>e (Sf q)
theorem Ks{b:Bool}{k:Nat}{v:V}{y:Ab}(e:VR w ω h v y):VR w (ω.frz b k) h v y:=match v,e with
 |.f _,e=>FR.mono (λ_ q=>.inl q) (λ_ _ _ q=>q) e
 |.c _,e=>e
 |.g _,e=>e
 |.d _ _,e=>e
theorem We: ∀{fs:List (Nat×V)} {xs:List (Nat×FV)} {es:List CF},MP fs=some xs→VRo w ω h fs es→FRo w ω.fz h xs es:= λ{fs}=>by
 induction fs with
 |nil=>exact λe r=>RelL.nil r (P:= λes=>FRo w ω.fz h _ es) (An e▸rfl)
 |cons p r ih=>exact λe q=>RelL.cons q (P:= λes=>FRo w ω.fz h _ es) λy ys a b=>V.onFE e λx hv e=>AV e λxs e1 e2=>e2▸.mk (a.mono λz u=>(hv▸u:VR w ω h (.f x) z)) (ih e1 b)
theorem C0R{k:Nat}: ∀{xss:List (List FV)} {i:Nat} {ys:List Ab},R2 w ω h (Tag.ci k) xss i ys→FRs w (ω.frz true k).fz h (xss.map FV.lst) ys:= λ{xss}=>by
 induction xss with
 |nil=>exact λe=>e
 |cons xs r ih=>exact λe=>RelI.cons e (P:=FRs w _ h _) λy ys q b=>.mk (EO q λa e1 e2 e3=>⟨a,e1,.inr ⟨_,e2,rfl⟩,e3.mono (λ_ e=>e) λ_ q=>Au (Dh w _ h xs)▸FRs.mono (λ_ q=>.inl q) (λ_ _ _ q=>q) q⟩) (ih b)
theorem Ql{b:Bool}{k:Nat}{o:O}{x:FV}(B:Base h₀ mg mb)(S:SR w h₀ N env ω s h)(r:CR w ω h b k o)(e:o.freeze=some x): ∃a,ω.m b k=some a∧FR w (ω.frz b k).fz h x (.ref a):=r.casesOn λa m t l c=>⟨a,m,by
 have cm:(ω.frz b k).fz a:=.inr ⟨_,t,Ot b k⟩
 have up: ∀a,ω.fz a→(ω.frz b k).fz a:= λ_ q=>.inl q
 cases o with
 |list xs=>exact An e▸(⟨a,rfl,cm,LstP.mono c (λ_ e=>e) λ_ q=>Au (Dh w _ h xs)▸FRs.mono up (λ_ _ _ q=>q) q⟩:FR w (ω.frz b k).fz h (.lst xs) _)
 |list2 xss=>exact (l:b=true)▸An e▸(⟨a,rfl,(l:b=true)▸cm,LstP.mono c (λ_ e=>e) λ_ q=>Au (Dh w _ h _)▸C0R q⟩:FR w (ω.frz true k).fz h (.lst (xss.map FV.lst)) _)
 |dict es=>exact An e▸(⟨a,rfl,cm,F2 B S t,DctP.mono c (λ_ e=>e) λ_ q=>Au (HK w _ h es)▸FRd.mono up (λ_ _ _ q=>q) q⟩:FR w (ω.frz b k).fz h (.dct es) _)
 |inst C fs=>exact AV e λfs' e1 e2=>e2▸(⟨a,rfl,cm,InP.mono c (λ_ e=>e) λd es q=>⟨λ_ e=>e,(l:b=false)▸.inr ⟨_,q.1,rfl⟩,Au (Q8 w _ h fs')▸FRo.mono up (λ_ _ _ q=>q) (We e1 q.2.1)⟩⟩:FR w (ω.frz b k).fz h (.obj C fs') _)
 |ba j=>exact An e▸(⟨a,rfl,cm,c⟩:FR w (ω.frz b k).fz h (.fba j) _)
 |_=>exact noS e⟩
noncomputable def Jw(b:Bool)(k:Nat)(x:FV)(v:V):V:=cond b (v.subC k x) (v.subG k x)
section
variable{b:Bool}{k:Nat}{a:Addr}{x:FV}(ha:ω.m b k=some a)(hx:FR w (ω.frz b k).fz h x (.ref a))
include ha hx
theorem A0b{v v':V}{p:Bool}{y:Ab}(hp:p=true→∃c,ω.m b k=some c∧y=.ref c)(e:VR w ω h v y):VR w (ω.frz b k) h (if p=true then .f x else v) y:=by
 by_cases q:p=true
 ·rw [if_pos q];exact (hp q).elim λc r=>Au (r.2.trans (congrArg OV (An (r.1.symm.trans ha))))▸hx
 ·rw [if_neg q];exact Ks e
theorem Tv{v:V}{y:Ab}(e:VR w ω h v y):VR w (ω.frz b k) h (Jw b k x v) y:=by
 have no: ∀{j},B6 j k=true→j=k:=GQ
 cases b with
 |true=>exact A0b (v':=v) ha hx (p:=v.isC k) (λq=>by cases v with
  |c j=>exact no q▸e
  |_=>exact noT q) e
 |false=>exact A0b (v':=v) ha hx (p:=v.isG k) (λq=>by cases v with
  |g j=>exact no q▸e
  |_=>exact noT q) e
theorem D0w{fs:List (Nat×V)}{es:List CF}(e:VRo w ω h fs es):VRo w (ω.frz b k) h (fs.map λp=>(p.1,Jw b k x p.2)) es:=by
 induction fs generalizing es with
 |nil=>exact e
 |cons p r ih=>exact RelL.cons e (P:=VRo w _ h _) λy ys q b=>.mk (q.mono λz u=>Tv ha hx u) (ih b)
theorem FrameR.frz{m:List (Option V)}(F:FrameR w h₀ N env ω m h):FrameR w h₀ N env (ω.frz b k) (m.map (·.map (Jw b k x))) h:=
 have back: ∀{j:Nat} {u:V} {P:Prop},(m.map (·.map (Jw b k x)))[j]?=some (some u)→(∀v,m[j]?=some (some v)→Jw b k x v=u→P)→P:= λe q=>AV (CH.symm.trans e) λo e1 e2=>AV e2 λv e3 e4=>q v (e1.trans (congrArg some e3)) e4
 ⟨F.ok,AD _|>.trans F.len,F.ns.imp λmm r=>r.imp_right λn2 j z u e1 e2 e3=>back e2 λv v1 e=>e▸(n2 j z v e1 v1 e3).imp λy r=>r.imp_right (Tv ha hx),
  λz c e=>(F.cells z c e).imp λy r=>r.imp_right λo3 j u e1 e2 e3=>back e2 λv v1 e=>e▸(o3 j v e1 v1 e3).imp λy r=>r.imp_right (Tv ha hx),
  λc e=>⟨Sf (F.off c e).1,λq=>q.elim (F.off c e).2.1 (Xy (F.off c e).1),(F.off c e).2.2⟩,F.lc⟩
end
theorem Nz{b b':Bool}{k k':Nat}(hne:(b',k')≠(b,k)):Same b' k' ω h (ω.frz b k) h:=⟨λ_ _ e q=>⟨F0O e (q▸hne),λ_ z=>z⟩,λ_ q=>.inl q,λ_ _ _ q=>q,λ_ e=>e,λ_ _ _ e=>e⟩
theorem Step.frz{W:Addr→Prop}(b:Bool)(k:Nat):Step [] W ω h (ω.frz b k) h:=⟨A9 _,λ_ _ _ _ e=>e,λ_ e=>.inl e,λ_ _ _ e=>e,λa e=>e.elim .inl λe=>e.elim λt q=>.inr (.inl λz=>noZ (q.1.symm.trans z)),λa e=>.inl (Xz e),λ_ _ _ e=>e,λ_ _ _ _ e=>e⟩
theorem F0N{b:Bool}{k:Nat}(S:SR w h₀ N env ω s h)(a:Addr)(e:(ω.frz b k).fz a):a<h.objs.size∧(ω.frz b k).ow a=none:=by
 by_cases q:ω.inCell b k a
 ·exact ⟨q.elim λt r=>(S.low a λz=>noZ (r.1.symm.trans z)).2,if_pos q⟩
 ·exact e.elim (λe=>⟨(S.fzlt a e).1,Sf (S.fzlt a e).2⟩) λe=>absurd e q
theorem Ju{l:List (Option O)}{k j:Nat}{o':O}(e:((l.set k none)[j]?).join=some o'):j≠k∧(l[j]?).join=some o':=by
 by_cases q:k=j
 ·rw [←q] at e;replace e:=(A0C)▸e
  cases z:l[k]? with
  |none=>replace e:=z▸e;exact noS e
  |some y=>replace e:=z▸e;exact noS e
 ·exact ⟨λz=>q z.symm,(congrArg Option.join (OE q)).symm.trans e⟩
theorem SR.frz{b:Bool}{k:Nat}{a:Addr}{x:FV}{s':St}(S:SR w h₀ N env ω s h)(ha:ω.m b k=some a)(hx:FR w (ω.frz b k).fz h x (.ref a))(hm:s.m.map (·.map (Jw b k x))=s'.m)(hc: ∀b' j o,s'.cell b' j=some o→CR w (ω.frz b k) h b' j o):SR w h₀ N env (ω.frz b k) s' h:=⟨S.base,λa e=>S.low a (Xz e),λa e=>F0N S a e,λa e=>.inl (S.fz0 a e),hm▸S.fr.frz ha hx,hc⟩
theorem F0M{k:Nat}{s':St}(B:Base h₀ mg mb)(S:SR w h₀ N env ω s h)(e:Xx k s=some s'): ∃ω',SR w h₀ N env ω' s' h∧Step [] (FW env) ω h ω' h:=by
 unfold Xx at e
 cases q:BY s k with
 |none=>replace e:=q▸e;exact ⟨ω,An e▸S,Step.refl⟩
 |some o=>
  rw [q] at e
  refine AV e λx q2 e=>Dt (Ql (b:=true) B S (S.l k o q) q2) λa ha hx=>⟨ω.frz true k,S.frz ha hx (e▸rfl) λb' j o' z=>?_,Step.frz true k⟩
  rw [←e] at z
  cases b' with
  |true=>exact (S.l j o' (Ju z).2).mono (Nz λq=>(Ju z).1 (BG q).2) λ_ _ _ _ _ _=>Ks
  |false=>exact (S.g j o' z).mono (Nz nofun) λ_ _ _ _ _ _=>Ks
theorem K0h{k:Nat}{x:FV}{v:V}(h:v.noC=true):(v.subG k x).noC=true:=by
 unfold V.subG
 by_cases q:v.isG k=true
 ·rw [if_pos q];rfl
 ·rw [if_neg q];exact h
theorem Xv{k a:Nat}{o:O}{x:FV}{s':St}(S:SR w h₀ N env ω s h)(q:BI s k=some o)(q2:o.freeze=some x)(ha:ω.m false k=some a)(hx:FR w (ω.frz false k).fz h x (.ref a))(e:Jd k s=some s'):SR w h₀ N env (ω.frz false k) s' h:=by
 unfold Jd at e
 rw [q] at e
 refine AV e λx' q3 e=>?_
 have e:_=s':=An (q3.symm.trans q2)▸e
 refine S.frz ha hx (e▸rfl) λb' j o' z=>?_
 rw [←e] at z
 cases b' with
 |true=>exact (S.l j o' z).mono (Nz nofun) λ_ _ _ _ _ _=>Ks
 |false=>
  refine AV (CH.symm.trans (JC.mp z)) λo1 e1 e2=>AV e2 λo2 e3 e4=>?_
  have z1:=Ju (JC.mpr (e1.trans (congrArg some e3)))
  have sm:Same false j ω h (ω.frz false k) h:=Nz λq=>z1.1 (BG q).2
  have cr:=S.g j o2 z1.2
  refine e4▸?_
  cases o2 with
  |inst C fs=>exact cr.casesOn λa m t l c=>⟨a,m,(sm.ow a _ t rfl).1,l,InP.mono c (λ_ e=>e) λd es r=>⟨λ_ e=>e,(sm.ow d _ r.1 rfl).1,D0w ha hx r.2.1,λp hp=>(BE.mp hp).elim λp0 h=>h.2▸K0h (r.2.2 p0 h.1)⟩⟩
  |_=>exact cr.mono sm λ_ _ _ _ _ _=>Ks
theorem Xw{k:Nat}{s':St}(B:Base h₀ mg mb)(S:SR w h₀ N env ω s h)(e:Jd k s=some s'): ∃ω',SR w h₀ N env ω' s' h∧Step [] (FW env) ω h ω' h:=by
 have e0:Jd k s=some s':=e
 unfold Jd at e
 cases q:BI s k with
 |none=>replace e:=q▸e;exact ⟨ω,An e▸S,Step.refl⟩
 |some o=>
  rw [q] at e
  exact AV e λx q2 _=>Dt (Ql (b:=false) B S (S.g k o q) q2) λa ha hx=>⟨ω.frz false k,Xv S q q2 ha hx e0,Step.frz false k⟩
theorem ZC{o:Option St}{b:Sv}{r:Fl×St}{P:Prop}{a:Sv}(ha:a s=nxt o)(e:Ae a b s=some r)(q: ∀s',o=some s'→b s'=some r→P):P:=Ax e λp e1 e2=>AV (ha.symm.trans e1) λs' e3 e4=>q s' e3 (by subst e4;exact e2)
theorem Fv{k:Nat}{cs:List Bm}{b:Sv}(B:Base h₀ mg mb)(hb:SoundB w h₀ n A N cs b):SoundB w h₀ n A N cs (Ae (Ee k) b):=λR env ω s s' fl sh Q E hR S q P=>ZC rfl q λs1 q1 q=>Dt (F0M B S q1) λω1 S1 st1=>hb R env ω1 s1 s' fl sh Q E hR S1 q λω2 h2 tk2 flow S2 st2 x=>P ω2 h2 tk2 flow S2 (st1.trans st2 AY (λ_ q=>q)) x
theorem FX{k:Nat}{cs:List Bm}{b:Sv}(B:Base h₀ mg mb)(hb:SoundB w h₀ n A N cs b):SoundB w h₀ n A N cs (Ae (D4 k) b):=λR env ω s s' fl sh Q E hR S q P=>ZC rfl q λs1 q1 q=>Dt (Xw B S q1) λω1 S1 st1=>hb R env ω1 s1 s' fl sh Q E hR S1 q λω2 h2 tk2 flow S2 st2 x=>P ω2 h2 tk2 flow S2 (st1.trans st2 AY (λ_ q=>q)) x
end
end
section
variable{w:A5}{h₀:Heap}{N:Names}{env:Env}{ω ω':Wd}{h h':Heap}{s s1 s2:St}{n:Nat}{A B C:List Nat}{mg mb:Str→Option Ab}{K:Frag}
theorem RelL.noref{α:Type}{R:α→Ab→Prop}: ∀{fs:List (Nat×α)} {es:List CF},RelL (λe=>AtE e.1 (R e.2)) fs es→(es.any (·.refKey))=false:= λ{fs}=>by
 induction fs with
 |nil=>exact λe=>RelL.nil e (P:= λes=>es.any (·.refKey)=false) rfl
 |cons p r ih=>exact λe=>RelL.cons e (P:= λes=>es.any (·.refKey)=false) λy ys q b=>q.casesOn λt h1 _=>by refine (OA).trans ?_;rw [ih b,O0y,h1];rfl
theorem RelL.nput{α:Type}{R:α→Ab→Prop}{a:Nat}{v:α}{y:Ab}{hsh:Int}{t:Tok}(hv:R v y): ∀{fs:List (Nat×α)} {es:List CF},RelL (λe=>AtE e.1 (R e.2)) fs es→RelL (λe=>AtE e.1 (R e.2)) (Ht fs a v) (putL (Bh a) hsh (.str (Bh a) t) y es):= λ{fs}=>by
 induction fs with
 |nil=>exact λe=>RelL.nil e (P:= λes=>RelL _ [(a,v)] (putL _ _ _ _ es)) (.mk ⟨t,rfl,hv⟩ rfl)
 |cons p r ih=>
  refine λe=>RelL.cons e (P:= λes=>RelL _ (Mine.Ht (p::r) a v) (putL _ _ _ _ es)) λz ys q b=>q.casesOn λt' h1 h2=>?_
  dsimp only [putL]
  refine h1.symm▸?_;refine G0H.symm▸?_
  show RelL _ (cond (B6 p.1 a) ((p.1,v)::r) (p::Mine.Ht r a v)) _
  cases q:B6 p.1 a with
  |true=>exact .mk ⟨t',GQ q▸rfl,hv⟩ b
  |false=>exact .mk ⟨t',h1,h2⟩ (ih b)
theorem Zq(nm:Str)(hsh:Int)(k v:Ab): ∀es:List CF,(putL nm hsh k v es).length≤es.length+1
 |[]=>by simp [putL]
 |e::r=>by
  dsimp only [putL]
  split
  ·simp
  ·have:=Zq nm hsh k v r
   simp only [Dm];lia
theorem ZH{sh:Ac}{R:Aw}{Q:Unit→Ac→Prop}{E:Ab→Ac→Prop}{x d:Addr}{C a:Nat}{es:List CF}{m:Nat}{y:Ab}(G:Gd K h₀ mg mb)(hb: ∀b o,h₀.get? b=some o→sh.heap.get? b=some o)(ho:okA C a=true)
  (h1:sh.heap.get? x=some (instObj C d)) (h2:sh.heap.get? d=some (Gr es m)) (hr:es.any (·.refKey)=false) (hz:es.length≤900)
  (q: ∀h' tk n' hsh t,Ce d sh.heap h'→h'.get? d=some (Gr (putL (Bh a) hsh (.str (Bh a) t) y es) n')→Q () {sh with heap:=h',toks:=tk}):
  wpAny (Ag pg w) R (B05 (.ref x) (Bh a) y) Q E sh:=by
 obtain ⟨hp,gg,dr,tk,os⟩:=sh
 dsimp only at hb h1 h2 q
 have c:=G.cls C a ho
 have X:K.In hp:=G.kin.keeps hb
 have I:W.InstAt hp x (instObj C d) C (some (Gr es m)):=⟨h1,rfl,rfl,h2⟩
 refine set_plain X I c.set ?_
 refine osa_open (s:=⟨hp,gg,dr,tk+1,os⟩) X I c.over c.taker λb=>?_
 obtain ⟨cd,hc,hd⟩:=any_some c.dict
 refine Aq (AJ (Aq (Aq (N0o h1 (Aq ((looks_clsIn X hc).here ?_))))))
 refine hd.symm▸?_
 refine AJ (a:=some d) (Aq (AJ (Aq ?_)))
 unfold nsSet
 refine Aq (Aq (N0k (AJ (Aq (wpAny_mkText (Aq (N0o h2 ?_)))))))
 dsimp only [Gr]
 have e0:aRefKeyMayBeTheName (Bh a) es.toArray=false:=by
  rw [aRefKeyMayBeTheName_at,←K0X,←K0X]
  rw [show es.toArray.toList=es from rfl,hr,A0z]
 rw [e0]
 refine wpAny_updatePart h2 ?_
 have hput:=putName_dict (Bh a) (Ul w.params (Bh a)) (.str (Bh a) (tk+1)) y es m
 have hD:(hp.update d (Obj.putName (Bh a) (Ul w.params (Bh a)) (.str (Bh a) (tk+1)) y)).get? d=some (Gr (putL (Bh a) (Ul w.params (Bh a)) (.str (Bh a) (tk+1)) y es) (putN (Bh a) es m)):=by refine (JG _ h2 (by rw [hput];rfl)).trans ?_;rw [hput]
 have hlen:=Zq (Bh a) (Ul w.params (Bh a)) (.str (Bh a) (tk+1)) y es
 refine Aq (N0p hD (pastItsLine_dict (by rw [Lq,Co];lia)) ?_)
 exact AJ (q _ _ _ _ _ (Eo ..) hD)
theorem Ge{d b:Addr}{t t':Tag}(hs:Ce d h h')(ho:ω.ow d=some t)(e:ω.ow b=some t')(n:t≠t')(o:Obj)(z:h.get? b=some o):h'.get? b=some o:=(hs.2 b λq=>n (An (ho.symm.trans (q▸e)))).trans z
theorem I00{a:Nat}{u:V}{fs:List (Nat×V)}(hu:u.noC=true)(h: ∀p∈fs,p.2.noC=true): ∀p∈Ht fs a u,p.2.noC=true:=by
 induction fs with
 |nil=>exact List.forall_mem_singleton.mpr hu
 |cons p r ih=>
  have h:=Fb.mp h
  show∀q∈cond (B6 p.1 a) ((p.1,u)::r) (p::Ht r a u),q.2.noC=true
  cases B6 p.1 a with
  |true=>exact Fb.mpr ⟨hu,h.2⟩
  |false=>exact Fb.mpr ⟨h.1,ih h.2⟩
theorem I06{u u':V}(e:u.offC?=some u'):u=u'∧u.noC=true:=by
 cases u with
 |f _=>exact ⟨An e,rfl⟩
 |g _=>exact ⟨An e,rfl⟩
 |_=>exact noS e
theorem ZD{sh:Ac}{R:Aw}{Q:Unit→Ac→Prop}{E:Ab→Ac→Prop}{a:Nat}{v u:V}{x y:Ab}{s':St}(G:Gd K h₀ mg mb)(S:SR w h₀ N env ω s sh.heap)(vx:VR w ω sh.heap v x)(vy:VR w ω sh.heap u y)(e:Mine.setAttr a v u s=some s')
  (q: ∀h' tk,SR w h₀ N env ω s' h'→StepE [] ω sh.heap ω h'→Q () {sh with heap:=h',toks:=tk}):wpAny (Ag pg w) R (B05 x (Bh a) y) Q E sh:=by
 have small: ∀{n:Nat} {c:Bool},(c&&decide (n<100))=true→n≤900:= λh=>A8 (CY (of_decide_eq_true ((Bv _ _).mp h).2)) (by decide)
 cases v with
 |g k=>
  refine Ax e λo hc e=>QQ e λC fs ho e=>Ax e λu' hu e=>ifE e λhk e=>S.cell (b:=false) (P:= λx=>wpAny _ _ (B05 x _ y) Q E _) hc vx λc m t _ c'=>(c'.inst ho).casesOn λd es n z3 z4 z5=>?_
  have hu:=I06 hu
  refine ZH G S.base ((Bv _ _).mp hk).1 z3 z4 (RelL.noref z5.2.1) (RelL.len z5.2.1▸small hk) λh' tk n' hsh t' hs hd=>?_
  have T:Turn false k ω sh.heap h':=MN hs z5.1 rfl
  have st:=IQ S T
  have vm: ∀v y,VR w ω sh.heap v y→VR w ω h' v y:= λv y e=>e.step st (BO v)
  exact q h' tk (An e▸S.turn (b:=false) T ⟨c,m,t,rfl,d,_,n',Ge hs z5.1 t nofun _ z3,hd,z5.1,RelL.nput (hu.1▸vm _ _ vy) (VRo.mono vm z5.2.1),I00 (hu.1▸hu.2) z5.2.2⟩) st
 |d k i=>
  refine Ax e λo hc e=>?_
  cases o with
  |ddict C es=>
   refine V.onFR e vy λu' vu e=>Ax e λen hi e=>ifE e λhk e=>(S.g k _ hc).casesOn λc m t l c'=>DdP.casesOn c' λkvs ep z2 z4 z5 z3=>RelI.get z3 hi λkv _ z=>z.casesOn λb _ zd zo zp=>zp.casesOn λd xs n z6 z7 z8=>?_
   rw [Cc] at zd z8
   refine vx.elim λb' r=>Au (r.2.trans (congrArg OV (An (r.1.symm.trans zd))))▸?_
   refine ZH G S.base ((Bv _ _).mp hk).1 z6 z7 (RelL.noref z8.2) (RelL.len z8.2▸small hk) λh' tk n' hsh t' hs hd=>?_
   have T:Turn false k ω sh.heap h':=MN hs z8.1 rfl
   have st:=IQ S T
   have kc:=Ge hs z8.1 t nofun
   refine q h' tk (An e▸S.turn (b:=false) T ⟨c,m,t,rfl,kvs,ep,HJ z2 kc,z4,z5.at' kc,RelI.upd z3 hi (λj p y ne z=>z.casesOn λb e1 e2 e3 e4=>⟨b,e1,e2,e3,e4.mono (Ge hs z8.1 e3 nofun) λd' _ r=>⟨Ge hs z8.1 r.1 λq=>ne (by cases q;rw [Cc]),r.1,FRo.mono st.fz st.fzk r.2⟩⟩)
    λy _ z=>z.casesOn λb1 e1 e2 e3 e4=>⟨b1,e1,e2,e3,e4.casesOn λd1 es1 n1 f1 f2 f3=>?_⟩⟩) st
   rw [Cc] at e2 e3 f3⊢
   obtain rfl:b=b1:=An (zd.symm.trans e2)
   obtain rfl:d=d1:=by replace f1:=z6▸f1;cases f1;rfl
   exact ⟨d,_,n',Ge hs z8.1 e3 nofun _ z6,hd,z8.1,RelL.nput (FR.mono st.fz st.fzk vu) (FRo.mono st.fz st.fzk z8.2)⟩
  |_=>exact noS e
 |_=>exact noS e
theorem SoundS.setAttr{a:Nat}{o e:Ak}{nm:Str}{pos pos':Pos}{f g:Ev}(G:Gd K h₀ mg mb)(hn:nm=Bh a)(hf:Sound w h₀ n A N e f)(ho:Sound w h₀ n [] N o g)(hs: ∀env,Eb e (some (.Attribute o nm pos')) pos.line env=pure false:=by exact λ_=>by left):
  SoundS w h₀ n A N (.Assign [.Attribute o nm pos'] e pos) (Ba g a f):=by
 subst hn
 exact λR env ω s s' fl sh Q E hR S q P=>BH q λu s1 q1 q=>BH q λv s2 q2 q=>D8 q λq3 q4=>plainObj_wpAny_Assign_Attribute (hf R env ω s s1 u sh _ E hR S q1 λω1 h1 tk1 y S1 st1 vy=>ho R env ω1 s1 s2 v {sh with heap:=h1,toks:=tk1} _ E hR S1 q2 λω2 h2 tk2 x S2 st2 vx=>ZD (sh:={sh with heap:=h2,toks:=tk2}) G S2 vx (vy.step st2 (BO _)) q3 λh3 tk3 S3 st3=>P.eq q4 _ _ _ _ S3 ((B5 (st1.trans st2 (λ_ q=>q) (λ_ q=>nomatch q))).trans (B5 st3) (λ_ q=>q) (λ_ q=>nomatch q)) .nx) (hs env)
theorem K0b{b k:Nm}{y z:Ab}{r:List (Str×Ab)}(hn:S' b∉r.map (·.1)):JM ((S' b,z)::r) (S' k) y=if b=k then (S' b,y)::r else (S' b,z)::JM r (S' k) y:=by
 unfold JM
 by_cases q:b=k
 ·subst q
  rw [if_pos rfl,OA,decide_eq_true rfl,Bool.true_or,if_pos rfl,Em,if_pos rfl,J5 (g:=id) λp hp=>if_neg λq:p.1=S' b=>hn (q▸GP hp),Fe]
 ·have hne: ¬S' b=S' k:= λz=>q (N00.mp z)
  rw [if_neg q,OA,decide_eq_false hne,Bool.false_or,Em,if_neg hne]
  split<;>rfl
theorem RU{k:Nm}{v:FV}{y:Ab}(hv:FR w ω.fz h v y): ∀{es:List (Nm×FV)} {kvs:List (Str×Ab)},FRd w ω.fz h es kvs→(kvs.map (·.1)).Nodup→FRd w ω.fz h (AE es k v) (JM kvs (S' k) y):= λ{es}=>by
 induction es with
 |nil=>exact λe=>RelL.nil e (P:= λkvs=>(kvs.map (·.1)).Nodup→FRd w ω.fz h _ (JM kvs _ _)) λ_=>RelL.one (x:=(k,v)) ⟨y,rfl,hv⟩
 |cons p r ih=>
  refine λe=>RelL.cons e (P:= λkvs=>(kvs.map (·.1)).Nodup→FRd w ω.fz h _ (JM kvs _ _)) λkv ys q b=>q.casesOn λz e f=>Au e▸λhn=>?_
  refine (K0b (CQ.mp hn).1).symm▸?_
  show FRd w ω.fz h (if p.1=k then (p.1,v)::r else p::AE r k v) _
  by_cases q:p.1=k
  ·rw [if_pos q,if_pos q];exact .mk ⟨y,rfl,hv⟩ b
  ·rw [if_neg q,if_neg q];exact .mk ⟨z,rfl,f⟩ (ih b (CQ.mp hn).2)
theorem K0a{k k':List (Int⊕Str)}{a c:Addr}{y z:Ab}{r:List (List (Int⊕Str)×Addr×Ab)}(hn:k∉r.map (·.1)):LK ((k,c,z)::r) k' a y=if k=k' then (k,c,y)::r else (k,c,z)::LK r k' a y:=by
 unfold LK
 refine D0F.symm▸?_
 by_cases q:k=k'
 ·subst q
  rw [if_pos rfl,if_pos rfl,Option.isSome_some,if_pos rfl,Em,J5 (g:=id) λp hp=>if_neg λq:p.1=k=>hn (q▸GP hp),Fe,putAt,if_pos rfl]
 ·rw [if_neg q,if_neg q,Em,putAt,if_neg q]
  split<;>rfl
theorem F0f{k:Int×Nm}{v:FV}{y:Ab}{a:Addr}(ha:ω.fz a)(hv:FR w ω.fz h v y): ∀{es:List ((Int×Nm)×FV)} {xs:List (List (Int⊕Str)×Addr×Ab)},FRt w ω h es xs→(xs.map (·.1)).Nodup→FRt w ω h (AE es k v) (LK xs [.inl k.1,.inr (S' k.2)] a y):= λ{es}=>by
 induction es with
 |nil=>exact λe=>RelL.nil e (P:= λxs=>(xs.map (·.1)).Nodup→FRt w ω h _ (LK xs _ _ _)) λ_=>RelL.one (x:=(k,v)) ⟨a,y,rfl,ha,hv⟩
 |cons p r ih=>
  refine λe=>RelL.cons e (P:= λxs=>(xs.map (·.1)).Nodup→FRt w ω h _ (LK xs _ _ _)) λkv ys q b=>q.casesOn λc z e f g=>Au e▸λhn=>?_
  refine (K0a (CQ.mp hn).1).symm▸?_
  show FRt w ω h (if p.1=k then (p.1,v)::r else p::AE r k v) _
  by_cases q:p.1=k
  ·rw [if_pos q,if_pos (G0Q.mpr q)];exact .mk ⟨c,y,rfl,f,hv⟩ b
  ·rw [if_neg q,if_neg λz=>q (G0Q.mp z)];exact .mk ⟨c,z,rfl,f,g⟩ (ih b (CQ.mp hn).2)
theorem I0y{a:Addr}{xs:List (List (Int⊕Str)×Addr×Ab)}(e:h.DictOfH (Pp (Jl w)) a xs):(xs.map (·.1)).Nodup:=e.elim λ_ r=>r.elim λ_ r=>r.elim λ_ r=>r.2.2.2.2.2
theorem SD{n m:Nat}(h:n<AM)(e:n=m):m≤JL:=Co▸e▸A8 (CY h) (by decide)
theorem J04{sh:Ac}{R:Aw}{Q:Unit→Ac→Prop}{E:Ab→Ac→Prop}{v i u:V}{x z y:Ab}{s':St}(hR:Rm n R)(S:SR w h₀ N env ω s sh.heap)(vx:VR w ω sh.heap v x)(vz:VR w ω sh.heap i z)(vy:VR w ω sh.heap u y)(e:Mine.setItem v i u s=some s')
  (q: ∀h' tk,SR w h₀ N env ω s' h'→StepE [] ω sh.heap ω h'→Q () {sh with heap:=h',toks:=tk}):wpAny (Ag pg w) R (Fo x z y) Q E sh:=
 V.onFR e vy λx' fy e=>V.onFR e vz λy' f e=>Ax e λo hc e=>S.deref (P:= λx=>wpAny _ _ (Fo x z y) Q E _) hc vx λb k c hw m t l ca=>IG (P:= λz=>wpAny _ _ (Fo _ z y) Q E _) e f
  (λj _ e=>V.onGE e λ_ _ e=>HP e λxs ho e=>ifE e λhk e=>(ca.list ho).casesOn λys ep z2 z3=>(Ku (f:= λxs=>xs.setIfInBounds j.toNat y) z2).elim λm' hg'=>
   have r:=S.wr (o':=.list (xs.set j.toNat x')) m t (Eo ..) trivial λfzk=>⟨_,m',hg',Au Array.toList_setIfInBounds▸FRs.mono (λ_ e=>e) fzk (RelL.set z3 fy)⟩
   have hlen:xs.length=ys.size:=(RelL.len z3).trans DB
   ki_setAt z2 hk.1 (by grind) (by lia) (q _ sh.toks (An e▸Au (hw _)▸r.1) r.2))
  (λk' _ e=>HO e λes ho e=>ifE e λhl e=>(ca.dict ho).casesOn λkvs z2 z3=>N0w (Fq pg w _ _) z2 (λh' hd hs=>
   have r:=S.wr (o':=.dict (AE es k' x')) m t hs trivial λfzk=>⟨_,hd,FRd.mono (λ_ e=>e) fzk (RU fy z3 (KO z2))⟩
   q _ _ (An e▸Au (hw _)▸r.1) r.2) (SD hl (RelL.len z3)))
  λts ka hfz lk e=>Ax e λp hp e=>V.onGE e λ_ _ e=>QR e λes ho e=>ifE e λhl e=>(ca.tdict ho).casesOn λxs z2 z3=>wpAny_setItem_heap (DX (show R.units+1≤R.units+64*n+64 by lia) hR.2.2.1) (Ou hp lk) z2 (λh' hd hs=>
   have r:=S.wr (o':=.tdict (AE es p x')) m t hs trivial λfzk=>⟨_,hd,FRt.mono (λ_ e=>e) fzk (F0f hfz fy z3 (I0y z2))⟩
   q _ _ (An e▸Au (hw _)▸r.1) r.2) (SD hl (RelL.len z3))
theorem SoundS.setItem{o i e:Ak}{pos pos':Pos}{f g k:Ev}(hf:Sound w h₀ n A N e f)(ho:Sound w h₀ n [] N o g)(hi:Sound w h₀ n [] N i k)(hs: ∀env,Eb e (some (.Subscript o i pos')) pos.line env=pure false:=by exact λ_=>by left):
  SoundS w h₀ n A N (.Assign [.Subscript o i pos'] e pos) (Di g k f):=
 λR env ω s s' fl sh Q E hR S q P=>BH q λu s1 q1 q=>BH q λv s2 q2 q=>BH q λj s3 q3 q=>D8 q λq4 q5=>B09 (hf R env ω s s1 u sh _ E hR S q1 λω1 h1 tk1 y S1 st1 vy=>ho R env ω1 s1 s2 v {sh with heap:=h1,toks:=tk1} _ E hR S1 q2 λω2 h2 tk2 x S2 st2 vx=>hi R env ω2 s2 s3 j {sh with heap:=h2,toks:=tk2} _ E hR S2 q3 λω3 h3 tk3 z S3 st3 vz=>
  J04 (sh:={sh with heap:=h3,toks:=tk3}) hR S3 (vx.step st3 (BO _)) vz ((vy.step st2 (BO _)).step st3 (BO _)) q4 λh4 tk4 S4 st4=>P.eq q5 _ _ _ _ S4 (B5 (((st1.trans st2 (C:=A) (λ_ q=>q) (λ_ q=>nomatch q)).trans st3 (C:=A) (λ_ q=>q) (λ_ q=>nomatch q)).trans st4 (C:=A) (λ_ q=>q) (λ_ q=>nomatch q))) .nx) (hs env)
noncomputable def Wd.take(ω:Wd)(k j i:Nat)(a d:Addr)(ep:Nat):Wd:={ω with d:= λk' i'=>if k'=k∧i'=i then some a else if k'=k∧i'=EPI then some ep else ω.d k' i',ow:= λx=>if x=a then some (.dm k i) else if x=d then some (.dd k i) else ω.ow x}
theorem K0c{kvs:List (Str×Ab)}{k:Str}{v:Ab}(e:Fs kvs k=none):JM kvs k v=kvs++[(k,v)]:=if_neg λq=>C3 ((Ll.mpr λx hx=>List.find?_eq_none.mp (Ua.mp e) x hx).symm.trans q)
theorem F0c{es:List (Nm×List (Nat×FV))}{y:Nm}(e:Ay es y=none):Ga es y=none:=Option.isSome_eq_false_iff.mp (N04.symm.trans (congrArg Lu e))|>A0P.mp
section
variable{k j i:Nat}{b d:Addr}{ep:Nat}
theorem A0g{x:Addr}(n1:x≠b)(n2:x≠d):(ω.take k j i b d ep).ow x=ω.ow x:=(if_neg n1).trans (if_neg n2)
theorem Oo{k' i' a:Nat}(n:k'=k→i'≠i∧i'≠EPI)(e:ω.d k' i'=some a):(ω.take k j i b d ep).d k' i'=some a:=(if_neg λq=>(n q.1).1 q.2).trans ((if_neg λq=>(n q.1).2 q.2).trans e)
variable(o1:ω.ow b=some (.gm j))(o2:ω.ow d=some (.gd j))
include o1 o2
theorem Oq{a:Addr}{t:Tag}(e:ω.ow a=some t)(n1:t≠.gm j)(n2:t≠.gd j):(ω.take k j i b d ep).ow a=some t:=(A0g (λq:a=b=>n1 (An (e.symm.trans (q▸o1)))) λq:a=d=>n2 (An (e.symm.trans (q▸o2)))).trans e
theorem Tz{a:Addr}(e:ω.ow a=none):(ω.take k j i b d ep).ow a=none:=(A0g (λq:a=b=>noS (e.symm.trans (q▸o1:ω.ow a=some _))) λq:a=d=>noS (e.symm.trans (q▸o2:ω.ow a=some _))).trans e
end
theorem A0h{k j i:Nat}{b d:Addr}{ep:Nat}(kf: ∀a,ω.fz a→∀o,h.get? a=some o→h'.get? a=some o){v:V}{y:Ab}(hv:v.onD k=false)(e:VR w ω h v y):VR w (ω.take k j i b d ep) h' v y:=by
 cases v with
 |f x=>exact FR.mono (λ_ q=>q) kf e
 |d k' i=>exact e.imp λa r=>r.imp_left (Oo λq=>noF ((J9 k).symm.trans (q▸hv:B6 k k=false)))
 |_=>exact e
theorem VP{k j:Nat}(e:Tag.gm k=.gm j):k=j:=by cases e;rfl
theorem SR.take{k j C:Nat}{c b:Addr}{x:Nm}{es:List (Nm×List (Nat×FV))}{fs':List (Nat×FV)}{kvs:List (Str×Ab)}{ep:Nat}(S:SR w h₀ N env ω s h)(hkj:k≠j)(hlen:es.length<16000000)(hc5:s.m.any (BP (V.onD k))=false)(hc6:s.g.any (Ey (V.onD k))=false)
  (m:ω.g k=some c) (t:ω.ow c=some (.gm k)) (z3:RD w ω h C k es 0 kvs) (tb:ω.ow b=some (.gm j)) (ib:InP h b C λd es=>ω.ow d=some (.gd j)∧FRo w ω.fz h fs' es) (hs:Ce c h h') (hd:h'.DictOf (strKind pg w) c (kvs++[(S' x,.ref b)])) (hde:h'.DictAt (strKind pg w) c (kvs++[(S' x,.ref b)]) ep):
  ∃ω',SR w h₀ N env ω' {s with g:=(s.g.set j none).set k (some (.ddict C (es++[(x,fs')])))} h'∧StepE [k] ω h ω' h':=ib.casesOn λd xs n w3 w4 w5=>by
 have kT: ∀{a t'},ω.ow a=some t'→Tag.gm k≠t'→∀o,h.get? a=some o→h'.get? a=some o:= λe n=>Ge hs t e n
 have kN: ∀{a},ω.ow a=none→∀o,h.get? a=some o→h'.get? a=some o:= λe o z=>(hs.2 _ λq=>noS ((q▸e:ω.ow c=none).symm.trans t)).trans z
 have kf: ∀a,ω.fz a→∀o,h.get? a=some o→h'.get? a=some o:= λa e=>kN (S.fzlt a e).2
 have o2:=w5.1
 have hl:es.length≠EPI:=by unfold EPI;lia
 have ln:=RelI.len z3
 have same: ∀b' k',(b',k')≠(false,k)→(b',k')≠(false,j)→Same b' k' ω h (ω.take k j es.length b d ep) h':= λb' k' n1 n2=>⟨λa t' e ht=>⟨Oq tb o2 e (λq=>n2 (ht.symm.trans (congrArg Tag.cell q))) λq=>n2 (ht.symm.trans (congrArg Tag.cell q)),kT e λq=>n1 (ht.symm.trans (congrArg Tag.cell q.symm))⟩,λ_ q=>q,kf,λ_ e=>e,λhb i a=>Oo λq=>absurd (by rw [hb,q]) n1⟩
 have nb: ∀{a},(ω.take k j es.length b d ep).ow a≠none→ω.ow a≠none:= λe q=>e (Tz tb o2 q)
 refine ⟨ω.take k j es.length b d ep,⟨λa o e=>(hs.2 a λq:a=c=>Bu _ (Bc (q▸Bz e) (S.low c λz=>noS (z.symm.trans t)).1)).trans (S.base a o e),λa e=>Au hs.1▸S.low a (nb e),λa e=>Au hs.1▸⟨(S.fzlt a e).1,Tz tb o2 (S.fzlt a e).2⟩,S.fz0,
  S.fr.mono (DC hs.1.symm) (λa e=>kN (S.fr.off a e).1) (λv hv y e=>A0h kf (Kg hc5 hv) e) λa e=>⟨Tz tb o2 (S.fr.off a e).1,(S.fr.off a e).2.1⟩,λb' i o e=>?_⟩,
  ⟨⟨DC hs.1.symm,λa e _=>kN e,λ_ e=>e,kf,λ_ e=>.inl e,λa e=>.inl (nb e),λ_ _ _ e=>e,λk' hk' i a=>Oo λq=>absurd (Bx.mpr q) hk'⟩,λ_ _ e=>e⟩⟩
 cases b' with
 |true=>exact (S.l i o e).mono (same true i nofun nofun) λC fs q p hp y=>(S.l i o e).casesOn λ_ _ _ l _=>noF ((q▸l:(O.inst C fs).inL true))
 |false=>
  refine (Od e).elim (λz=>Au z.1▸Au z.2▸⟨c,m,Oq tb o2 t (λq=>hkj (VP q)) nofun,rfl,_,ep,hd,(if_neg λq=>hl q.2.symm).trans (if_pos ⟨rfl,rfl⟩),hde,?_⟩) λz=>(S.g i o (Ju z.2).2).mono (same false i (λq=>z.1 (BG q).2) λq=>(Ju z.2).1 (BG q).2) λC fs q p hp y=>A0h kf (NX hc6 (Yx (q▸(Ju z.2).2)) p hp)
  refine RelI.snoc (RelI.upd' z3 λi' p y hi r=>r.casesOn λb1 e1 e2 e3 e4=>⟨b1,e1,Oo (λ_=>⟨by lia,by unfold EPI;lia⟩) e2,Oq tb o2 e3 nofun nofun,e4.mono (kT e3 nofun) λd1 _ r=>⟨kT r.1 nofun,Oq tb o2 r.1 nofun nofun,FRo.mono (λ_ q=>q) kf r.2⟩⟩) ⟨b,rfl,?_,?_,d,xs,n,kT tb (λq=>hkj (VP q)) _ w3,kT o2 nofun _ w4,?_,FRo.mono (λ_ q=>q) kf w5.2⟩
  ·rw [Cc];exact if_pos ⟨rfl,rfl⟩
  ·rw [Cc];exact if_pos rfl
  ·rw [Cc];exact (if_neg λq:d=b=>nomatch (q▸o2:ω.ow b=some (.gd j)).symm.trans tb).trans (if_pos rfl)
theorem J02{sh:Ac}{R:Aw}{Q:Unit→Ac→Prop}{E:Ab→Ac→Prop}{k:Nat}{v i u:V}{x z y:Ab}{s':St}(S:SR w h₀ N env ω s sh.heap)(vx:VR w ω sh.heap v x)(vz:VR w ω sh.heap i z)(vy:VR w ω sh.heap u y)(e:Mine.N0J k v i u s=some s')
  (q: ∀ω' h' tk,SR w h₀ N env ω' s' h'→StepE [k] ω sh.heap ω' h'→Q () {sh with heap:=h',toks:=tk}):wpAny (Ag pg w) R (Fo x z y) Q E sh:=by
 refine V.onGE e λk' hv e=>V.onFR e vz λ_ f e=>EJ (P:= λz=>wpAny _ _ (Fo x z y) Q E _) e f λky _ e=>V.onGE e λj hu e=>Ax e λo hk e=>?_
 cases o with
 |ddict C es=>
  refine Ax e λo' hj e=>QQ e λC' fs ho e=>?_
  cases hn:Ay es ky with
  |some _=>rw [hn] at e;exact noS e
  |none=>
   replace e:=hn▸e
   refine Ax e λfs' hF e=>ifE e λhc e=>?_
   have c5:=(Bv _ _).mp hc
   have c4:=(Bv _ _).mp c5.1
   have c3:=(Bv _ _).mp c4.1
   have c2:=(Bv _ _).mp c3.1
   have c1:=(Bv _ _).mp c2.1
   have hkj:k≠j:= λq=>noT (((DW _).mp c2.2).symm.trans (q▸J9 k:B6 k j=true))
   refine S.cell (b:=false) (P:= λx=>wpAny _ _ (Fo x _ y) Q E _) hk (GQ c1.1▸(hv▸vx:VR w ω sh.heap (.g k') x):VR w ω sh.heap (.g k) x) λc m t _ ca=>DdP.casesOn ca λkvs _ z2 _ _ z3=>S.cell (b:=false) (P:= λy=>wpAny _ _ (Fo _ _ y) Q E _) hj (hu▸vy:VR w ω sh.heap (.g j) y) λb _ tb _ cb=>N0w (Fq pg w _ _) z2 (λh' hd hs=>?_) (RelI.len z3▸Co▸CY (H9 (of_decide_eq_true c3.2) (by decide)))
   replace hd:=(K0c ((F0c hn▸RD.at z3:OptR _ none _)))▸hd
   exact hd.dictAt.elim λep hde=>(S.take hkj (of_decide_eq_true c3.2) ((DW _).mp c4.2) ((DW _).mp c5.2) m t z3 tb (InP.mono (GQ c1.2▸cb.inst ho) (λ_ e=>e) λd es r=>⟨λ_ e=>e,r.1,We hF r.2.1⟩) hs hd hde).elim λω' r=>q ω' h' _ (An e▸r.1) r.2
 |_=>exact noS e
theorem SoundS.setInst{c:Nat}{o i e:Ak}{pos pos':Pos}{f g k:Ev}(hf:Sound w h₀ n A N e f)(ho:Sound w h₀ n [] N o g)(hi:Sound w h₀ n [] N i k)(hs: ∀env,Eb e (some (.Subscript o i pos')) pos.line env=pure false)(hA:c∈A):
  SoundS w h₀ n A N (.Assign [.Subscript o i pos'] e pos) (QY c g k f):=
 λR env ω s s' fl sh Q E hR S q P=>BH q λu s1 q1 q=>BH q λv s2 q2 q=>BH q λj s3 q3 q=>D8 q λq4 q5=>B09 (hf R env ω s s1 u sh _ E hR S q1 λω1 h1 tk1 y S1 st1 vy=>ho R env ω1 s1 s2 v {sh with heap:=h1,toks:=tk1} _ E hR S1 q2 λω2 h2 tk2 x S2 st2 vx=>hi R env ω2 s2 s3 j {sh with heap:=h2,toks:=tk2} _ E hR S2 q3 λω3 h3 tk3 z S3 st3 vz=>
  J02 (sh:={sh with heap:=h3,toks:=tk3}) S3 (vx.step st3 (BO _)) vz ((vy.step st2 (BO _)).step st3 (BO _)) q4 λω4 h4 tk4 S4 st4=>P.eq q5 _ _ _ _ S4 (B5 (((st1.trans st2 (C:=A) (λ_ q=>q) (λ_ q=>nomatch q)).trans st3 (C:=A) (λ_ q=>q) (λ_ q=>nomatch q)).trans st4 (C:=A) (λ_ q=>q) (λ_ q=>Bx.mp q▸hA))) .nx) (hs env)
theorem NN{B:List Nat}{v:V}(e:Zc B v=true):v.off B:= λk hk=>
 have h:v.onG k=false:=(DW _).mp (D1.mp e k hk)
 ⟨λq=>(nomatch (J9 k).symm.trans (q▸h:(V.g k).onG k=false)),λi q=>(nomatch (J9 k).symm.trans (q▸h:(V.d k i).onG k=false))⟩
theorem G0G{B:List Nat}{sh:Ac}{v:V}{x:Ab}(S:SR w h₀ N env ω s sh.heap)(e:CK B s v=true)(vx:VR w ω sh.heap v x):IsT sh x "list":=N1 S ((Bv _ _).mp e).1 vx
theorem K2{R:Aw}{sh:Ac}{Q:Ab→Ac→Prop}{E:Ab→Ac→Prop}{c:Addr}{ys:Array Ab}{m:Nat}{y:Ab}(e:sh.heap.get? c=some (C5 ys m))(hz:ys.size≤16777216)
  (q: ∀m',(sh.heap.update c (Ep λxs=>xs.push y)).get? c=some (C5 (ys.push y) m')→Q .none {sh with heap:=sh.heap.update c (Ep λxs=>xs.push y)}):wpAny (Ag pg w) R (call (.builtin "list.append") [.ref c,y]) Q E sh:=by
 refine Xf (Ku (f:= λxs=>xs.push y) e) λm' hg=>?_
 exact Uy Dv ⟨_,e,rfl⟩ PySem.F.entry_list_append (PySem.F.args_list_append_2 _ _) (O0m c ys m y (by exact Co.symm▸hz)) ⟨e,q m' hg⟩
theorem N8{n m:Nat}(h:n<AM)(e:n=m):m≤16777216:=e▸A8 (CY h) (by decide)
theorem D08{sh:Ac}{R:Aw}{Q:Ab→Ac→Prop}{E:Ab→Ac→Prop}{v u:V}{x y:Ab}{s':St}(S:SR w h₀ N env ω s sh.heap)(vx:VR w ω sh.heap v x)(vy:VR w ω sh.heap u y)(e:Mine.append v u s=some s')
  (q: ∀h' tk,SR w h₀ N env ω s' h'→StepE [] ω sh.heap ω h'→Q .none {sh with heap:=h',toks:=tk}):wpAny (Ag pg w) R (call (.builtin "list.append") [x,y]) Q E sh:=by
 refine Ax e λo hc e=>S.deref (P:= λx=>wpAny _ _ (call _ [x,y]) Q E _) hc vx λb k c hw m t l ca=>?_
 cases o with
 |list xs=>exact V.onFR e vy λx' fy e=>ifE e λhl e=>LstP.casesOn ca λys ep z2 z3=>K2 z2 (N8 hl ((RelL.len z3).trans DB)) λm' hg=>have r:=S.wr (o':=.list (xs++[x'])) m t (Eo ..) trivial λfzk=>⟨_,m',hg,Au O3▸RelL.append (FRs.mono (λ_ e=>e) fzk z3) (RelL.one (FR.mono (λ_ e=>e) fzk fy))⟩;q _ sh.toks (An e▸Au (hw _)▸r.1) r.2
 |jlist j=>exact V.onGE e λ_ _ e=>ifE e λhl e=>LstP.casesOn ca λys ep z2 z3=>K2 z2 (N8 hl (z3.symm.trans DB)) λm' hg=>have r:=S.wr (o':=.jlist (j+1)) m t (Eo ..) trivial λ_=>⟨_,m',hg,by refine O3.symm▸?_;refine AU.symm▸?_;refine z3.symm▸?_;rfl⟩;q _ sh.toks (An e▸Au (hw _)▸r.1) r.2
 |_=>exact noS e
theorem SoundS.append{o e:Ak}{nm:Str}{apos pos pos':Pos}{f g:Ev}(M:MCall o nm apos pos e [] "list" "list.append")(hf:Sound w h₀ n A N o f)(hg:Sound w h₀ n B N e g)(hA: ∀k∈A,k∈C)(hB: ∀k∈B,k∈C)
  (hi: ∀env:Env,env.scope.kind=.function→HF env=false) (hs: ∀env,Eb (.Call (.Attribute o nm apos) [e] [] pos) none pos'.line env=pure false:=by exact λ_=>by left):
  SoundS w h₀ n C N (.Expr (.Call (.Attribute o nm apos) [e] [] pos) pos') (CJ (AH (CK B) f) g):=
 λR env ω s s' fl sh Q E hR S q P=>BH q λv s1 q1 q=>BH q λu s2 q2 q=>D8 q λq3 q4=>LO (Ih (C:=C) M G0G hf (Ah hg A3 M.star) hR S q1 (EW q2 H2) (NN ((Bv _ _).mp (Eu q1).2).2) hA hB λω' h' tk x ys S' st vx vys=>VRs.one vys (P:= λys=>wpAny _ _ (call _ (x::ys)) _ E _) λy vy=>D08 (sh:={sh with heap:=h',toks:=tk}) S' vx vy q3 λh2 tk2 S2 st2=>P.eq q4 _ _ _ _ S2 (B5 (st.trans st2 (λ_ q=>q) AY)) .nx) (hi env S.fr.ok.kind) (hs env)
theorem SoundS.extend{o e:Ak}{nm:Str}{apos pos pos':Pos}{f g:Ev}(M:MCall o nm apos pos e [] "list" "list.extend")(hf:Sound w h₀ n A N o f)(hg:Sound w h₀ n [] N e g)
  (hi: ∀env:Env,env.scope.kind=.function→HF env=false) (hs: ∀env,Eb (.Call (.Attribute o nm apos) [e] [] pos) none pos'.line env=pure false):
  SoundS w h₀ n A N (.Expr (.Call (.Attribute o nm apos) [e] [] pos) pos') (QW (AH Gb f) g):=
 λR env ω s s' fl sh Q E hR S q P=>BH q λv s1 q1 q=>BH q λu s2 q2 q=>D8 q λq3 q4=>LO (Ih (C:=A) M N1 hf (Ah hg A3 M.star) hR S q1 (EW q2 H2) (BO _) (λ_ q=>q) AY λω' h' tk x ys S' st vx vys=>
  VRs.one vys (P:= λys=>wpAny _ _ (call _ (x::ys)) _ E _) λy vy=>V.onCE q3 λk hk q=>V.onFR q vy λ_ f q=>Mi (P:= λy=>wpAny _ _ (call _ [x,y]) _ E _) q f λzs b _ lb q=>Ax q λo hc q=>HP q λxs ho q=>ifE q λhl q=>
   S'.cell (b:=true) (P:= λx=>wpAny _ _ (call _ [x,_]) _ E _) hc (hk▸vx:VR w ω' h' (.c k) x) λc m t _ ca=>(ca.list ho).casesOn λvs ep z2 z3=>lb.casesOn λws ep2 w2 w3=>by
    have l1:=(RelL.len z3).trans DB
    have l2:=(RelL.len w3).trans DB
    replace hl:=l1▸hl;replace hl:=l2▸hl
    unfold AM at hl
    refine Uy (s:={sh with heap:=h',toks:=tk}) M06 ⟨_,z2,rfl⟩ PySem.F.entry_list_extend (PySem.F.args_list_extend_2 _ _) (O0n c vs ep b ws ep2 ?_ (Co▸by lia) (Co▸by lia)) ⟨z2,w2,(Ku (f:= λxs=>xs++ws) z2).elim λm' hg'=>?_⟩
    ·unfold O0u
     rw [Co,decide_eq_false (show¬vs.size+ws.size>16777216 by lia),A0z]
     exact C3
    ·have r:=S'.wr (o':=.list (xs++zs)) m t (Eo ..) trivial λfzk=>⟨_,m',hg',Au Array.toList_append▸RelL.append (FRs.mono (λ_ e=>e) fzk z3) (FRs.mono (λ_ e=>e) fzk w3)⟩
     exact P.eq q4 _ _ _ _ (An q▸r.1) (B5 (st.trans r.2 (λ_ q=>q) AY)) .nx) (hi env S.fr.ok.kind) (hs env)
theorem F0h{es:List (Nm×FV)}{y:Nm}{x:FV}(h:Ay es y=none):AE es y x=es++[(y,x)]:=by
 induction es with
 |nil=>rfl
 |cons p r ih=>
  have h:(if p.1=y then some p.2 else Ay r y)=none:=h
  show (if p.1=y then (p.1,x)::r else p::AE r y x)=_
  by_cases q:p.1=y
  ·rw [if_pos q] at h;exact noZ h
  ·rw [if_neg q] at h⊢;rw [ih h];rfl
theorem SoundS.setdefault{o e e':Ak}{nm:Str}{apos pos pos':Pos}{f g k:Ev}(B:Base h₀ mg mb)(M:MCall o nm apos pos e [e'] "dict" "dict.setdefault")(hf:Sound w h₀ n A N o f)(hg:Sound w h₀ n [] N e g)(hk:Sound w h₀ n [] N e' k)
  (hs1: ∀env,AR [e'] env=[(false,eval e' env)]) (hi: ∀env:Env,env.scope.kind=.function→HF env=false) (hs: ∀env,Eb (.Call (.Attribute o nm apos) [e,e'] [] pos) none pos'.line env=pure false):
  SoundS w h₀ n A N (.Expr (.Call (.Attribute o nm apos) [e,e'] [] pos) pos') (Ra (AH EA f) g k):=
 λR env ω s s' fl sh Q E hR S q P=>BH q λv s1 q1 q=>BH q λu s2 q2 q=>BH q λu' s3 q3 q=>D8 q λq4 q5=>LO (Ih (C:=A) M Kz hf (Ah hg (Ah hk A3 hs1) M.star) hR S q1 (EW q2 (EW q3 H2)) (BO _) (λ_ q=>q) AY λω' h' tk x ys S' st vx vys=>
  Ri vys (P:= λys=>wpAny _ _ (call _ (x::ys)) _ E _) λy z vy vz=>V.onGE q4 λc hc q=>V.onFR q vy λ_ f q=>EJ (P:= λy=>wpAny _ _ (call _ [x,y,z]) _ E _) q f λky t q=>V.onFR q vz λx' fx q=>Ax q λo ho q=>HO q λes he q=>ifE q λhl q=>
   S'.cell (b:=false) (P:= λx=>wpAny _ _ (call _ [x,_,z]) _ E _) ho (hc▸vx:VR w ω' h' (.g c) x) λa m t _ ca=>(ca.dict he).casesOn λkvs z2 z3=>by
    have at3:=FRd.at (k:=ky) z3
    unfold Z8 at q
    refine JJ (s:={sh with heap:=h',toks:=tk}) A0Z z2.typeIs PySem.F.entry_dict_setdefault (PySem.F.args_dict_setdefault_3 _ _ _) (kt_meets_setdefault _ a (Fq pg w _ _) (F2 B S' t) z) ⟨kvs,z2,SD hl (RelL.len z3),λv hv=>?_,λhv h2 hd hs=>?_⟩
    ·cases hx:Ay es ky with
     |none=>rw [hx] at at3;exact noZ (hv.symm.trans (at3:_=none))
     |some u=>replace q:=hx▸q;exact P.eq q5 _ _ _ _ (An q▸S') (B5 st) .nx
    ·cases hx:Ay es ky with
     |some u=>rw [hx] at at3;exact at3.elim λ_ r=>noS (hv.symm.trans r.1)
     |none=>
      rw [hx] at q
      have r:=S'.wr (o':=.dict (AE es ky x')) m t hs trivial λfzk=>⟨_,hd,FRd.mono (λ_ e=>e) fzk (RU fx z3 (KO z2))⟩
      rw [F0h hx] at r
      exact P.eq q5 _ _ _ _ (An q▸r.1) (B5 (st.trans r.2 (λ_ q=>q) AY)) .nx) (hi env S.fr.ok.kind) (hs env)
noncomputable def Wd.own(ω:Wd)(a:Addr)(t:Tag):Wd:={ω with ow:= λx=>if x=a then some t else ω.ow x}
theorem KV{a x:Addr}{t:Tag}(n:x≠a):(ω.own a t).ow x=ω.ow x:=if_neg n
theorem Zh{a:Addr}{t:Tag}{v:V}{y:Ab}(e:VR w ω h v y):VR w (ω.own a t) h v y:=match v,e with
 |.f _,e=>e
 |.c _,e=>e
 |.g _,e=>e
 |.d _ _,e=>e
theorem SR.own{a:Addr}{t:Tag}{bnd:Nat}(S:SR w h₀ N env ω s h)(g:Gh bnd ω h a)(ha:h₀.objs.size≤a)(hf: ¬FW env a):SR w h₀ N env (ω.own a t) s h:=by
 have same: ∀b k,Same b k ω h (ω.own a t) h:= λb k=>⟨λx t' e _=>⟨(KV λq:x=a=>noZ ((q▸e:ω.ow a=some t').symm.trans g.ow)).trans e,λ_ q=>q⟩,λ_ q=>q,λ_ _ _ q=>q,λ_ e=>e,λ_ _ _ e=>e⟩
 refine ⟨S.base,λx e=>?_,λx e=>(S.fzlt x e).imp_right λz=>(KV λq:x=a=>g.fz (q▸e)).trans z,S.fz0,S.fr.mono (A9 _) (λ_ _ _ q=>q) (λv _ y=>Zh) λx e=>⟨(KV λq:x=a=>hf (q▸e)).trans (S.fr.off x e).1,(S.fr.off x e).2.1⟩,λb k o e=>(S.c b k o e).mono (same _ _) λ_ _ _ _ _ _=>Zh⟩
 by_cases q:x=a
 ·exact q▸⟨ha,g.lt⟩
 ·exact S.low x (KV (t:=t) q▸e)
theorem StepE.own{a:Addr}{t:Tag}(st:StepE A ω h ω' h')(ha:h.objs.size≤a):StepE A ω h (ω'.own a t) h':=
 ⟨⟨st.size,st.keep,st.fz,st.fzk,st.fznew,λx e=>by
  by_cases q:x=a
  ·exact .inr (q▸ha)
  ·exact st.ownew x (KV (t:=t) q▸e),st.g,st.d⟩,st.c⟩
theorem J0W{e:Ak}{f:Av}{R:Aw}{pos:Pos}{o:O}{sh:Ac}{Q:List Ab→Ac→Prop}{E:Ab→Ac→Prop}(hf:SoundA w h₀ n A N e f)(hs: ∀env,AR [e] env=[(false,eval e env)])(hR:Rm n R)(S:SR w h₀ N env ω s sh.heap)(e1:f s=some (o,s1))
  (P:PostA w h₀ N env A ω sh s1 o λx s'=>Q [x] s'):wpAny (Ag pg w) R (Er (Cy pos (AR [e] env))) Q E sh:=by
 rw [hs]
 show wpAny _ _ (eval e env>>= λv=>(pure [v]>>= λhere=>Ea here (Er (Cy pos []))>>= λrest=>pure (here++rest))) _ _ _
 refine Aq (hf R env ω s s1 o sh _ E hR S e1 λω1 h1 tk1 a S1 st1 g1 r1=>?_)
 exact Aq (AJ (Aq (Cp (AJ (AJ (P ω1 h1 tk1 a S1 st1 g1 r1))))))
theorem D0i{o:Ak}{nm:Str}{apos pos pos' p:Pos}{f:Ev}(M:MCall o nm apos pos (.List [] p) [] "list" "list.append")(hf:Sound w h₀ n A N o f)
  (hi: ∀env:Env,env.scope.kind=.function→HF env=false) (hs: ∀env,Eb (.Call (.Attribute o nm apos) [.List [] p] [] pos) none pos'.line env=pure false):
  SoundS w h₀ n A N (.Expr (.Call (.Attribute o nm apos) [.List [] p] [] pos) pos') (QV (AH Gb f)):=
 λR env ω s s' fl sh Q E hR S q P=>BH q λv s1 q1 q=>V.onCE q λk hk q=>Ax q λo hc q=>VC q λxss ho q=>ifE q λhl q=>LO (LN (M.base env) (M.few env) M.line M.attrs M.slot M.ty (hf R env ω s s1 v sh _ E hR S (Eu q1).1 λω1 h1 tk1 x S1 st1 vx=>
  have T:=N1 (sh:={sh with heap:=h1,toks:=tk1}) S1 (Eu q1).2 vx
  ⟨T.1,T.2,A0R (J0W (A:=[]) (s1:=s1) (o:=.list2 []) SoundA.list2 M.star hR S1 rfl λω2 h2 tk2 a S2 st2 g2 r2=>r2.2.casesOn λys0 m0 r3 r4=>
   have S3:=S2.own (t:=.ci k xss.length) g2 (A8 S1.lo g2.new) (g2.notFW (b:=0) S1)
   have st3:=StepE.own (a:=a) (t:=.ci k xss.length) st2 g2.new
   have own:(ω2.own a (.ci k xss.length)).ow a=some (.ci k xss.length):=if_pos rfl
   S3.cell (b:=true) (P:= λx=>wpAny _ _ (call _ [x,_]) _ E _) hc (hk▸vx.step st2 (BO _):VR w ω2 h2 (.c k) x) λc m t _ ca=>(ca.list2 ho).casesOn λys ep z2 z3=>K2 (sh:={sh with heap:=h2,toks:=tk2}) z2 (N8 hl ((RelI.len z3).trans DB)) λm' hg=>
    have hs:=Eo h2 c (Ep λxs=>xs.push (.ref a))
    have r:=S3.wr (o':=.list2 (xss++[[]])) m t hs rfl λfzk=>⟨_,m',hg,Au O3▸RelI.snoc (RelI.mono (λ_ _ _ _ q=>EO q λb e1 e2 e3=>⟨b,e1,e2,e3.mono (Ge hs t e2 nofun) λ_=>FRs.mono (λ_ e=>e) fzk⟩) z3) ⟨a,rfl,Au (Cc xss.length)▸own,ys0,m0,Ge hs t own nofun _ r3,Au r4▸rfl⟩⟩
    P.eq (An q) _ _ _ _ r.1 (B5 ((st1.trans st3 (C:=A) (λ_ q=>q) (λ_ q=>nomatch q)).trans r.2 (λ_ q=>q) (λ_ q=>nomatch q))) .nx) (M.star env) (M.plain env)⟩)) (hi env S.fr.ok.kind) (hs env)
theorem SR.pushAt{k j:Nat}{xss:List (List FV)}{xs:List FV}{x y:FV}{v1 v2:Ab}{b:Addr}(S:SR w h₀ N env ω s h)(hc:BY s k=some (.list2 xss))(hx:xss[j]?=some xs)(f1:FR w ω.fz h x v1)(f2:FR w ω.fz h y v2)(hb: ∀c ys ep,ω.c k=some c→h.get? c=some (C5 ys ep)→ys.toList[j]?=some (.ref b)):
  let h1:=h.push {cls:=.type "tuple",data:=.seq #[v1,v2]}
  let h2:=h1.update b (Ep λxs=>xs.push (.ref h.objs.size))
  SR w h₀ N env (ω.addFz h.objs.size) {s with l:=s.l.set k (some (.list2 (xss.set j (xs++[.tup [x,y]]))))} h2∧StepE [] ω h (ω.addFz h.objs.size) h2:=by
 intro h1 h2
 have G:Grow ω h (ω.addFz h.objs.size) h1:=Grow.push (o:={cls:=.type "tuple",data:=.seq #[v1,v2]}) S
 have S2:=S.grow G
 have hs:=Eo h1 b (Ep λxs=>xs.push (.ref h.objs.size))
 have vt:FR w (ω.addFz h.objs.size).fz h1 (.tup [x,y]) (.ref h.objs.size):=⟨_,rfl,Or.inr rfl,#[v1,v2],⟨_,BQ _ rfl,rfl,0,rfl⟩,Au (Dh w _ _ [x,y])▸RelL.mk (FR.mono G.fz (λa _ o q=>G.keep a o q) f1) (RelL.one (FR.mono G.fz (λa _ o q=>G.keep a o q) f2))⟩
 refine (S.l k _ hc).casesOn λc0 m0 _ _ ca0=>LstP.casesOn ca0 λys0 ep0 y0 _=>(S2.l k _ hc).casesOn λc m t l ca=>LstP.casesOn ca λys ep z2 z3=>?_
 refine byC λnk=>?_
 obtain rfl:c0=c:=An (m0.symm.trans m)
 have z2':=(G.keep _ _ y0).symm.trans z2
 cases z2'
 have hj:=hb c0 ys0 _ m0 y0
 refine nk ?_
 refine RelI.get z3 hx λyb e1 e2=>EO e2 λb' e3 ob lb=>?_
 obtain rfl:b'=b:=by have:=An (e1.symm.trans hj);replace this:=e3▸this;cases this;rfl
 have T:Turn true k (ω.addFz h.objs.size) h1 h2:=MN hs ob rfl
 have st:=IQ S2 T
 refine ⟨S2.turn (b:=true) (o:=.list2 (xss.set j (xs++[.tup [x,y]]))) T ⟨c0,m,t,l,ys0,_,Ge hs ob t nofun _ z2,RelI.upd z3 hx (λi z v ne r=>EO r λb1 g1 g2 g3=>⟨b1,g1,g2,g3.mono (Ge hs ob g2 λq=>ne (by cases q;rw [Cc])) λ_=>FRs.mono st.fz st.fzk⟩) λv hv r=>?_⟩,G.step.trans st (λ_ q=>nomatch q) (λ_ q=>nomatch q)⟩
 refine EO r λb1 g1 g2 g3=>?_
 obtain rfl:b1=b':=by have:=An (hv.symm.trans hj);replace this:=g1▸this;cases this;rfl
 exact g3.casesOn λzs mb q1 q2=>(Ku (f:= λxs=>xs.push (.ref h.objs.size)) q1).elim λm' hg=>⟨b1,g1,g2,_,m',hg,Au O3▸RelL.append (FRs.mono st.fz st.fzk q2) (RelL.one (FR.mono st.fz st.fzk vt))⟩
theorem SoundS.appendAt{o i:Ak}{nm n1 n2:Str}{spos apos pos pos' p p1 p2:Pos}{c1 c2 kd:Nat}{f g:Ev}(M:MCall (.Subscript o i spos) nm apos pos (.Tuple [.Name n1 p1,.Name n2 p2] kd p) [] "list" "list.append")(hf:Sound w h₀ n A N o f)(hg:Sound w h₀ n [] N i g)
  (x1:N.ns[c1]?=some n1) (x2:N.ns[c2]?=some n2) (d1:(n1==("__debug__":Str))=false) (d2:(n2==("__debug__":Str))=false) (k1:(n1==("__classdict__":Str))=false) (k2:(n2==("__classdict__":Str))=false)
  (hst: ∀env,AR [.Name n1 p1,.Name n2 p2] env=[(false,eval (.Name n1 p1) env),(false,eval (.Name n2 p2) env)])
  (hsub: ∀o j,IB i false o j=I9 [o,j] (HE o j))
  (hi: ∀env:Env,env.scope.kind=.function→HF env=false) (hs: ∀env,Eb (.Call (.Attribute (.Subscript o i spos) nm apos) [.Tuple [.Name n1 p1,.Name n2 p2] kd p] [] pos) none pos'.line env=pure false):
  SoundS w h₀ n A N (.Expr (.Call (.Attribute (.Subscript o i spos) nm apos) [.Tuple [.Name n1 p1,.Name n2 p2] kd p] [] pos) pos') (MB f g c1 c2):=
 λR env ω s s' fl sh Q E hR S q P=>BH q λv s1 q1 q=>BH q λj s2 q2 q=>Ax q λu1 gx q=>Ax q λu2 gy q=>D8 q λq q5=>LO (LN (M.base env) (M.few env) M.line M.attrs M.slot M.ty (Ud (Kd hf hg (K:= λx y=>Lx o i x y) hR S q1 q2 λω1 h1 tk1 vo vj S1 st1 vvo vvj=>
  V.onCE q λk hk q=>V.onFR q vvj λ_ fj q=>FP (P:= λvj=>wpAny _ _ (Lx o i vo vj) _ E _) q fj λj t q=>V.onFE q λx hx1 q=>V.onFE q λy hx2 q=>Ax q λob hc q=>VC q λxss ho q=>ifE q λh0 q=>Ax q λxs hx q=>ifE q λhl q=>
   S1.cell (b:=true) (P:= λvo=>wpAny _ _ (Lx o i vo _) _ E _) hc (hk▸vvo:VR w ω1 h1 (.c k) vo) λc m _ _ ca=>(ca.list2 ho).casesOn λys ep z2 z3=>RelI.get z3 hx λyb w0 w1=>EO w1 λb wb w1 w2=>w2.casesOn λzs mb w2 w3=>
    A0U (T:= "list") ⟨_,z2,rfl⟩ M07.lookup (N0l (x:=.ref b) ⟨_,z2,rfl,ep,rfl⟩ h0.1 h0.2 (I0▸wb▸w0) (
     have T:=N3 (sh:={sh with heap:=h1,toks:=tk1}) w2
     ⟨T.1,T.2,A0R (by
      rw [M.star]
      show wpAny _ _ (eval (.Tuple [.Name n1 p1,.Name n2 p2] kd p) env>>= λv=>(pure [v]>>= λhere=>Ea here (Er (Cy pos []))>>= λrest=>pure (here++rest))) _ _ _
      refine Aq (U5 ?_)
      rw [hst]
      show wpAny _ _ (eval (.Name n1 p1) env>>= λv=>(pure [v]>>= λhere=>Ea here (Er (Cy p [(false,eval (.Name n2 p2) env)]))>>= λrest=>pure (here++rest))) _ _ _
      refine Aq (IC (Hs (sh:={sh with heap:=h1,toks:=tk1}) S1 x1 gx k1 λv1 vv1=>?_) d1)
      refine Aq (AJ (Aq (Cp ?_)))
      show wpAny _ _ (eval (.Name n2 p2) env>>= λv=>(pure [v]>>= λhere=>Ea here (Er (Cy p []))>>= λrest=>pure (here++rest))) _ _ _
      refine Aq (IC (Hs (sh:={sh with heap:=h1,toks:=tk1}) S1 x2 gy k2 λv2 vv2=>?_) d2)
      refine Aq (AJ (Aq (Cp (AJ (AJ (AJ ⟨by rw [Co];simp,?_⟩))))))
      refine Aq (AJ (Aq (Cp (AJ (AJ ?_)))))
      refine K2 (sh:={sh with heap:=h1.push {cls:=.type "tuple",data:=.seq #[v1,v2]},toks:=tk1}) (Dd _ w2) (N8 (Bc hl (by decide)) ((RelL.len w3).trans DB)) λm' hg=>?_
      have r:=S1.pushAt (b:=b) (hc.trans (congrArg some ho)) hx (hx1▸vv1:VR w ω1 h1 (.f x) v1) (hx2▸vv2:VR w ω1 h1 (.f y) v2) λc' ys' ep' m' z'=>by
       obtain rfl:c=c':=An (m.symm.trans m')
       have:=z2.symm.trans z'
       cases this
       exact wb▸w0
      exact P.eq q5 _ _ _ _ (An q▸r.1) (B5 (st1.trans r.2 (C:=A) (λ_ q=>q) AY)) .nx) (M.star env) (M.plain env)⟩)) (hsub _ _)))) (hi env S.fr.ok.kind) (hs env)
end
noncomputable def gAt(g:List (Option O))(k:Nat):Option O:=(g[k]?).join
noncomputable abbrev Den:=List V→List (Option O)→Option (V×List (Option O))
structure GR(w:A5)(h₀:Heap)(ω:Wd)(g:List (Option O))(h:Heap):Prop where
 base: ∀b o,h₀.get? b=some o→h.get? b=some o
 lo:h₀.objs.size≤h.objs.size
 low: ∀a,ω.ow a≠none→h₀.objs.size≤a∧a<h.objs.size
 nl: ∀a t,ω.ow a=some t→t.cell.1=false
 fzlt: ∀a,ω.fz a→a<h.objs.size∧ω.ow a=none
 fz0: ∀a,a<h₀.objs.size→ω.fz a
 g: ∀k o,gAt g k=some o→CR w ω h false k o
def SoundF(w:A5)(h₀:Heap)(n np:Nat)(A:List Nat)(f:Addr)(den:Den):Prop:=
 ∀(R:Aw) (ω:Wd) (g g':List (Option O)) (vs:List V) (v:V) (xs:List Ab) (sh:Ac) (RR:BR→Ac→Prop),
  Rm n R→GR w h₀ ω g sh.heap→vs.length=np→(∀u∈vs,u.noC=true)→den vs g=some (v,g')→VRs w ω sh.heap vs xs→
  (v.noC=true→∀ω' h' tk x,GR w h₀ ω' g' h'→Step A (λ_=>False) ω sh.heap ω' h'→VR w ω' h' v x→RR (.ok (.ret x)) {sh with heap:=h',toks:=tk})→
  Dw (Ag pg w) R (.call (.ref f) ⟨xs,[]⟩) RR sh
structure Fn(h₀:Heap)(N:Names)(np:Nat)(f:Addr)(fd:Ly)(body:List Bm):Prop where
 at_: ∃o,h₀.get? f=some o∧o.data=.func fd
 code:h₀.CodeRec fd.code fd.qualname
 body:fd.body=.stmts body
 clo:fd.closure=[]
 glob:fd.globals=Fm
 bltn:fd.builtins=OZ
 kind:fd.scope.kind=.function
 co:fd.scope.isCoroutine=false
 gen:fd.scope.isGenerator=false
 bind: ∀xs:List Ab,xs.length=np→B0r fd ⟨xs,[]⟩=pure ((N.ns.take np).zip xs)
 gk: ∀x∈N.gs,fd.scope.names.lookup x=some .globalImplicit
 cel: ∀x∈N.cs,fd.scope.names.lookup x=some .cell
 nodup:N.ns.Nodup
 np:np≤N.ns.length
 lcl: ∀x∈N.ls,fd.scope.names.lookup x=some .local
section
variable{w:A5}{h₀:Heap}{N:Names}{env:Env}{ω ω':Wd}{h h':Heap}{s s1 s2:St}{n:Nat}{A B C:List Nat}{mg mb:Str→Option Ab}{K:Frag}
noncomputable def Tag.loc(t:Tag):Bool:=t.cell.1
noncomputable def Wd.shr(ω:Wd):Wd:={ω with ow:= λa=>(ω.ow a).bind λt=>cond t.loc none (some t)}
theorem J0D{a:Addr}{t:Tag}(e:ω.ow a=some t)(hl:t.loc=false):ω.shr.ow a=some t:=(congrArg (OP · _) e).trans (congrArg (cond · none (some t)) hl)
theorem To{a:Addr}{t:Tag}(e:ω.ow a=some t)(hl:t.loc=true):ω.shr.ow a=none:=(congrArg (OP · _) e).trans (congrArg (cond · none (some t)) hl)
theorem J0C{a:Addr}{t:Tag}(e:ω.shr.ow a=some t):t.loc=false:=Ax e λt' _ e2=>HV e2 (λ_ e=>noS e) λhl e=>An e▸hl
theorem Jv{a:Addr}(e:ω.ow a=none):ω.shr.ow a=none:=congrArg (OP · _) e
theorem Oe{a:Addr}(e:ω.shr.ow a≠none):ω.ow a≠none:= λq=>e (Jv q)
theorem T5{o:Addr→Option Tag}{v:V}{y:Ab}(e:VR w ω h v y):VR w {ω with ow:=o} h v y:=match v,e with
 |.f _,e=>e
 |.c _,e=>e
 |.g _,e=>e
 |.d _ _,e=>e
theorem B0R{k:Nat}{o:O}(e:CR w ω h false k o):CR w ω.shr h false k o:=e.mono ⟨λa t e ht=>⟨J0D e (congrArg Fi ht),λ_ q=>q⟩,λ_ q=>q,λ_ _ _ q=>q,λ_ e=>e,λ_ _ _ e=>e⟩ λ_ _ _ _ _ _=>T5
theorem SR.toGR(S:SR w h₀ N env ω s h):GR w h₀ ω.shr s.g h:=⟨S.base,S.lo,λa e=>S.low a (Oe e),λa t e=>J0C e,λa e=>⟨(S.fzlt a e).1,Jv (S.fzlt a e).2⟩,S.fz0,λk o e=>B0R (S.g k o e)⟩
theorem VRs.shr{vs:List V}{xs:List Ab}(e:VRs w ω h vs xs):VRs w ω.shr h vs xs:=RelL.mono (λ_ _ _=>T5) e
open Classical in
noncomputable def Wd.merge(ω ω':Wd):Wd:={ω' with c:=ω.c,ow:= λa=>if (∃t,ω.ow a=some t∧t.loc=true) then ω.ow a else ω'.ow a}
theorem H0S{a:Addr}{t:Tag}(e:ω.ow a=some t)(hl:t.loc=true):(ω.merge ω').ow a=some t:=(if_pos ⟨t,e,hl⟩).trans e
theorem NF{a:Addr}(hl: ¬∃t,ω.ow a=some t∧t.loc=true):(ω.merge ω').ow a=ω'.ow a:=if_neg hl
theorem Y0{v:V}{y:Ab}(hv:v.noC=true)(e:VR w ω' h v y):VR w (ω.merge ω') h v y:=by
 cases v with
 |c _=>exact nomatch hv
 |_=>exact e
theorem Step.old{W:Addr→Prop}{a:Addr}(st:Step A W ω h ω' h')(e:ω.ow a=none)(l:a<h.objs.size):ω'.ow a=none:=GG λz=>(st.ownew a z).elim (λq=>q e) λq=>Bu _ (Bc l q)
theorem Step.oldf{W:Addr→Prop}{a:Addr}(st:Step A W ω h ω' h')(e:ω.ow a=none)(l:a<h.objs.size)(n: ¬ω.fz a): ¬ω'.fz a:= λq=>(st.fznew a q).elim n λq=>q.elim (λq=>q e) λq=>Bu _ (Bc l q)
theorem Yz{g':List (Option O)}(S:SR w h₀ N env ω s h)(G:GR w h₀ ω' g' h')(st:Step A (λ_=>False) ω.shr h ω' h')(hoff: ∀v,some v∈s.m→v.off A):
  SR w h₀ N env (ω.merge ω') {s with g:=g'} h'∧StepE A ω h (ω.merge ω') h'∧∀v y,v.noC=true→VR w ω' h' v y→VR w (ω.merge ω') h' v y:=by
 have lt: ∀{a t},ω.ow a=some t→a<h.objs.size:= λe=>(S.low _ λz=>nomatch z.symm.trans e).2
 have nf: ∀{a t},ω.ow a=some t→¬ω.fz a:= λe z=>nomatch (S.fzlt _ z).2.symm.trans e
 have own: ∀a,¬(∃t,ω.ow a=some t∧t.loc=true)→(ω.merge ω').ow a≠none→ω'.ow a≠none:= λa n e=>NF n▸e
 have owOf: ∀a t,ω'.ow a=some t→(ω.merge ω').ow a=some t:= λa t e=>(NF λz=>z.elim λt' r=>nomatch (st.old (To r.1 r.2) (lt r.1)).symm.trans e).trans e
 have stE:StepE A ω h (ω.merge ω') h':=⟨⟨st.size,λa e _=>st.keep a (Jv e) λz=>z,st.fz,st.fzk,λa e=>(st.fznew a e).imp_right λz=>z.imp_left Oe,λa e=>by
   by_cases q: ∃t,ω.ow a=some t∧t.loc=true
   ·exact .inl (q.elim λt r z=>nomatch z.symm.trans r.1)
   ·exact (st.ownew a (own a q e)).imp_left Oe,st.g,st.d⟩,λ_ _ e=>e⟩
 refine ⟨⟨G.base,λa e=>?_,λa e=>⟨(G.fzlt a e).1,(NF λz=>z.elim λt r=>st.oldf (To r.1 r.2) (lt r.1) (nf r.1) e).trans (G.fzlt a e).2⟩,G.fz0,S.fr.mono st.size (λa e=>st.keep a (Jv (S.fr.off a e).1) λz=>z) (λv hv y e=>e.step stE (hoff v hv)) λa e=>
   have o:=S.fr.off a e
   ⟨(NF λz=>z.elim λt r=>nomatch o.1.symm.trans r.1).trans (st.old (Jv o.1) o.2.2.2),st.oldf (Jv o.1) o.2.2.2 o.2.1⟩,λb k o e=>?_⟩,stE,λ_ _=>Y0⟩
 ·by_cases q: ∃t,ω.ow a=some t∧t.loc=true
  ·exact q.elim λt r=>(S.low a λz=>nomatch z.symm.trans r.1).imp_right λl=>Bc l st.size
  ·exact G.low a (own a q e)
 ·cases b with
  |true=>exact (S.l k o e).mono ⟨λa t e ht=>⟨H0S e (congrArg Fi ht),st.keep a (To e (congrArg Fi ht)) λz=>z⟩,st.fz,st.fzk,λ_ e=>e,nofun⟩ λC fs q p hp y _=>(S.l k _ e).casesOn λ_ _ _ l _=>nomatch (q▸l:(O.inst C fs).inL true)
  |false=>exact (G.g k o e).mono ⟨λa t e _=>⟨owOf a t e,λ_ q=>q⟩,λ_ q=>q,λ_ _ _ q=>q,λ_ e=>e,λ_ _ _ e=>e⟩ λC fs q p hp y=>Y0 ((G.g k o e).casesOn λa _ _ _ c=>(c.inst q).casesOn λ_ _ _ _ _ r=>r.2.2 p hp)
theorem N0B{β:Type}{x a:Str}{b:β}{r:List (Str×β)}:((a,b)::r).lookup x=if x=a then some b else r.lookup x:=by
 by_cases q:x=a
 ·rw [if_pos q,L08,beq_iff_eq.mpr q]
 ·rw [if_neg q,L08,beq_eq_false_iff_ne.mpr q]
theorem K0V{x:Str}{y:Ab}: ∀{ns:List Str} {xs:List Ab} {k:Nat},ns.Nodup→ns[k]?=some x→xs[k]?=some y→((ns.zip xs).lookup x)=some y:= λ{ns}=>by
 induction ns with
 |nil=>exact λ_ e _=>noS e
 |cons a r ih=>
  intro xs k hn e1 e2
  cases xs with
  |nil=>exact noS e2
  |cons b t=>
   refine N0B.trans ?_
   cases k with
   |zero=>exact (if_pos (An e1).symm).trans e2
   |succ k=>exact (if_neg λq:x=a=>(CQ.mp hn).1 (q▸As e1)).trans (ih (CQ.mp hn).2 e1 e2)
theorem VRs.get{vs:List V}{xs:List Ab}{k:Nat}{v:V}(e:VRs w ω h vs xs)(q:vs[k]?=some v): ∃y,xs[k]?=some y∧VR w ω h v y:=RelL.get e q λy a b=>⟨y,a,b⟩
end
section
variable{w:A5}{h₀:Heap}{N:Names}{env:Env}{ω ω':Wd}{h h':Heap}{s s1 s2:St}{n np:Nat}{A B C:List Nat}{mg mb:Str→Option Ab}{K:Frag}
theorem Rm.mono{m n:Nat}{R:Aw}(hm:m≤n)(h:Rm n R):Rm m R:=⟨h.1,DX (A0I (OJ (L0W 4 hm) _) 4) h.2.1,DX (A0I (OJ (L0W 64 hm) _) 64) h.2.2.1,h.2.2.2⟩
theorem SoundF.lift{m:Nat}{f:Addr}{den:Den}(hm:m≤n)(hf:SoundF w h₀ m np A f den):SoundF w h₀ n np A f den:=λR ω g g' vs v xs sh RR hR=>hf R ω g g' vs v xs sh RR (hR.mono hm)
theorem Ze{A:List Nat}{m:List (Option V)}(hc:(A.all λj=> !(m.any (BP (V.onG j))))=true)(u:V)(hu:some u∈m):u.off A:=NN (D1.mpr λk hk=>(DW _).mpr (Kg ((DW _).mp (D1.mp hc k hk)) hu))
theorem Hi{den:Den}{fs:List Ev}{v:V}{s':St}{P:Prop}(e:AB A den fs s=some (v,s'))
  (q: ∀vs s1 g',Mine.DD fs s=some (vs,s1)→(∀u∈vs,u.noC=true)→(∀u,some u∈s1.m→u.off A)→den vs s1.g=some (v,g')→s'={s1 with g:=g'}→P):P:=
 Ax e λp e1 e=>ifE e λhc e=>AV e λr e2 e3=>q p.1 p.2 r.2 e1 (D1.mp ((Bv _ _).mp hc).1) (Ze ((Bv _ _).mp hc).2) ((BG e3).1▸e2) (BG e3).2.symm
theorem MX{f:Addr}{den:Den}{vs:List V}{v:V}{xs:List Ab}{g':List (Option O)}{R:Aw}{sh:Ac}{Q:Ab→Ac→Prop}{E:Ab→Ac→Prop}(hF:SoundF w h₀ n np A f den)(hR:Rm n R)(S:SR w h₀ N env ω s sh.heap)
  (hnp:vs.length=np) (hnc: ∀u∈vs,u.noC=true) (hoff: ∀u,some u∈s.m→u.off A) (hd:den vs s.g=some (v,g')) (hv:VRs w ω sh.heap vs xs) (P:PostE w h₀ N env A ω sh {s with g:=g'} v Q):wpAny (Ag pg w) R (call (.ref f) xs) Q E sh:=
 B0F (hF R ω.shr s.g g' vs v xs sh _ hR S.toGR hnp hnc hd hv.shr λhvc _ _ _ _ G st vx=>have r:=Yz S G st hoff;P _ _ _ _ r.1 r.2.1 (r.2.2 _ _ hvc vx))
structure Glb(K:Frag)(mg:Str→Option Ab)(gs:List Str)(nm:Str)(f:Addr):Prop where
 gs:nm∈gs
 val:mg nm=some (.ref f)
 keep:I2 K (.ref f)=true
 dbg:(nm==("__debug__":Str))=false
theorem NA{nm:Str}{f:Addr}{p:Pos}{R:Aw}{sh:Ac}{Q E:Ab→Ac→Prop}(G:Gd K h₀ mg mb)(b:Glb K mg N.gs nm f)(S:SR w h₀ N env ω s sh.heap)(q:Q (.ref f) sh):wpAny (Ag pg w) R (eval (.Name nm p) env) Q E sh:=A0X S.fr.ok.kind (S.fr.ok.gk nm b.gs) (M0t (by exact S.fr.ok.glob.symm▸(G.g.keeps S.base)) b.val q) b.dbg
theorem BS{nm:Str}{f:Addr}{den:Den}{e:Ak}{rest:List Ak}{fs:List Ev}{p pos:Pos}(G:Gd K h₀ mg mb)(b:Glb K mg N.gs nm f)(hF:SoundF w h₀ n np A f den)(hl:SoundL w h₀ n B N (e::rest) fs)(hnp:fs.length=np)
  (hA: ∀k∈A,k∈C) (hB: ∀k∈B,k∈C) (hs: ∀env,AR (e::rest) env=(false,eval e env)::AR rest env:=by exact λ_=>by left) (hp: ∀env,(Cy pos (AR rest env)).any (·.1)=false:=by exact λ_=>by left):
  Sound w h₀ n C N (.Call (.Name nm p) (e::rest) [] pos) (AB A den fs):=
 λR env ω s s' v sh Q E hR S q P=>Hi q λvs s1 g' q1 q2 q3 q4 q5=>B0A (NA G b S (callWith_K (h₀:=sh.heap) (first:=[]) (G.kin.keeps S.base) b.keep (hl R env pos ω s s1 vs sh _ E hR S q1 λω1 h1 tk1 xs S1 st1 vxs=>⟨G.kin.keeps S1.base,MX (sh:={sh with heap:=h1,toks:=tk1}) hF hR S1 ((Jr q1).trans hnp) q2 q3 q4 vxs λω2 h2 tk2 x S2 st2 vx=>P _ _ _ _ (q5▸S2) (st1.trans st2 hB hA) vx⟩) (hs env) (hp env)))
theorem C0W{nm:Str}{f:Addr}{den:Den}{p pos:Pos}(G:Gd K h₀ mg mb)(b:Glb K mg N.gs nm f)(hF:SoundF w h₀ n 0 A f den)(hA: ∀k∈A,k∈C):Sound w h₀ n C N (.Call (.Name nm p) [] [] pos) (AB A den []):=
 λR env ω s s' v sh Q E hR S q P=>Hi q λvs s1 g' q1 q2 q3 q4 q5=>B0A (NA G b S (callWith_K0 (first:=[]) (G.kin.keeps S.base) b.keep (
  MX hF hR ((BM q1).2▸S) ((BM q1).1▸rfl) q2 q3 q4 ((BM q1).1▸rfl) λω2 h2 tk2 x S2 st2 vx=>P _ _ _ _ (q5▸S2) (st2.weak hA) vx)))
structure MthA(K:Frag)(C:Nat)(nm:Str)(f:Addr):Prop where
 ga:EI K (.ref C) "__getattribute__"=some (some (.builtin "object.__getattribute__"))
 gt:EI K (.ref C) "__getattr__"=some none
 fnd:EI K (.ref C) nm=some (some (.ref f))
 ty:L2 K (.ref f)=some (.type "function")
 keep:I2 K (.ref f)=true
 off: ∀a,okA C a=true→Bh a≠nm
theorem J0A{nm:Str}{fs:List (Nat×V)}{es:List CF}(e:VRo w ω h fs es)(hn: ∀p∈fs,Bh p.1≠nm):es.find? (·.key.isStr nm)=none:=by
 induction fs generalizing es with
 |nil=>exact RelL.nil e (P:= λes=>es.find? _=none) rfl
 |cons p r ih=>exact RelL.cons e (P:= λes=>es.find? _=none) λy ys q b=>q.casesOn λt h1 _=>by refine (TK).trans ?_;rw [h1,show (B0l (Bh p.1) t).isStr nm=false from beq_eq_false_iff_ne.mpr (hn _ (.head _))];exact ih b λp hp=>hn p (.tail _ hp)
theorem Y5{C C' a d:Nat}{nm:Str}{f:Addr}{es:List CF}{m:Nat}{fs:List (Nat×V)}{R:Aw}{sh:Ac}{pl:Sem Bool}{Q:Ab×List Ab→Ac→Prop}{E:Ab→Ac→Prop}(G:Gd K h₀ mg mb)(M:MthA K C nm f)(S:SR w h₀ N env ω s sh.heap)(q:Q (.ref f,[.ref a]) sh)
  (h1:sh.heap.get? a=some (instObj C' d)) (h2:sh.heap.get? d=some (Gr es m)) (hr:VRo w ω sh.heap fs es) (hk:N0 C C' fs=true):wpAny (Ag pg w) R (I7 (.ref a) nm pl) Q E sh:=by
 have hk:=(Bv _ _).mp hk
 refine method_fn (G.kin.keeps S.base) (ox:=instObj C d) (od:=some (Gr es m)) ⟨GQ hk.1▸h1,rfl,rfl,h2⟩ M.ga M.gt M.fnd M.ty ?_ q
 show (lookIn nm (Gr es m)).map (·.isSome)=some false
 rw [lookIn_dict,getL];refine (J0A hr λp hp=>M.off _ (D1.mp hk.2 p hp)).symm▸?_;refine (RelL.noref hr).symm▸?_
 rfl
theorem G06{C:Nat}{o:O}{P:Prop}(e:XM C o=true)(k: ∀C' fs,o=.inst C' fs→N0 C C' fs=true→P):P:=by
 cases o with
 |inst C' fs=>exact k C' fs rfl e
 |_=>exact noT e
theorem NG{C:Nat}{nm:Str}{f:Addr}{v:V}{x:Ab}{R:Aw}{sh:Ac}{pl:Sem Bool}{Q:Ab×List Ab→Ac→Prop}{E:Ab→Ac→Prop}(G:Gd K h₀ mg mb)(M:MthA K C nm f)(S:SR w h₀ N env ω s sh.heap)(e:XR C s v=true)(vx:VR w ω sh.heap v x)
  (q:Q (.ref f,[x]) sh):wpAny (Ag pg w) R (I7 x nm pl) Q E sh:=by
 cases v with
 |f y=>cases y with
  |obj C' fs=>exact Dx (P:= λx=>Q (.ref f,[x]) sh→wpAny _ _ (I7 x nm pl) Q E sh) vx (λa _ l q=>InP.casesOn l λd es m z3 z4 z5=>Y5 G M S q z3 z4 (B0W (Q8 w _ _ fs▸z5.2)) ((congrArg (B6 C' C&& ·) List.all_map).trans e)) q
  |_=>exact noT e
 |g k=>exact Rq e λo hc e=>S.cell (b:=false) (P:= λx=>Q (.ref f,[x]) sh→wpAny _ _ (I7 x nm pl) Q E sh) hc vx (λa _ _ _ l q=>G06 e λC' fs ho e=>(l.inst ho).casesOn λd es m z3 z4 z5=>Y5 G M S q z3 z4 z5.2.1 e) q
 |_=>exact noT e
theorem FT{o e:Ak}{rest:List Ak}{nm:Str}{apos pos:Pos}{cl:Nat}{f:Addr}{den:Den}{r:Ev}{fs:List Ev}{D:List Nat}{pl:Env→Sem Bool}(G:Gd K h₀ mg mb)(M:MthA K cl nm f)(hF:SoundF w h₀ n np A f den)(ho:Sound w h₀ n D N o r)(hl:SoundL w h₀ n B N (e::rest) fs)(hnp:fs.length+1=np)
  (hA: ∀k∈A,k∈C) (hB: ∀k∈B,k∈C) (hD: ∀k∈D,k∈C) (hs: ∀env,AR (e::rest) env=(false,eval e env)::AR rest env) (hp: ∀env,(Cy pos (AR rest env)).any (·.1)=false)
  (he: ∀env,eval (.Call (.Attribute o nm apos) (e::rest) [] pos) env=(do let ov←eval o env;Fp apos.atName;let (f,first)←Ea [ov] (I7 ov nm (pl env));FK pos f first (Cy pos (AR (e::rest) env)) [])):
  Sound w h₀ n C N (.Call (.Attribute o nm apos) (e::rest) [] pos) (AB A den (AH (BL cl B) r::fs)):=
 λR env ω s s' v sh Q E hR S q P=>Hi q λvs s1 g' q1 q2 q3 q4 q5=>It q1 λu s0 ws p1 p2 p5=>have p4:=(Bv _ _).mp (Eu p1).2
  MethodCall_ (pl:=pl env) (ho R env ω s s0 u sh _ E hR S (Eu p1).1 λω0 h0 tk0 y S0 st0 vy=>NG (sh:={sh with heap:=h0,toks:=tk0}) G M S0 p4.1 vy (callWith_K (h₀:=h0) (first:=[y]) (G.kin.keeps S0.base) M.keep (hl R env pos ω0 s0 s1 ws {sh with heap:=h0,toks:=tk0} _ E hR S0 p2 λω1 h1 tk1 xs S1 st1 vxs=>⟨G.kin.keeps S1.base,MX (sh:={sh with heap:=h1,toks:=tk1}) hF hR S1 (by refine p5.symm▸?_;refine (Dm).trans ?_;rw [Jr p2,hnp]) q2 q3 q4 (p5▸RelL.mk (vy.step st1 (NN p4.2)) vxs) λω2 h2 tk2 x S2 st2 vx=>P _ _ _ _ (q5▸S2) ((st0.trans st1 hD hB).trans st2 (λ_ q=>q) hA) vx⟩) (hs env) (hp env))) (he env)
theorem EK{o:Ak}{nm:Str}{apos pos:Pos}{cl:Nat}{f:Addr}{den:Den}{r:Ev}{D:List Nat}{pl:Env→Sem Bool}(G:Gd K h₀ mg mb)(M:MthA K cl nm f)(hF:SoundF w h₀ n 1 A f den)(ho:Sound w h₀ n D N o r)
  (hA: ∀k∈A,k∈C) (hD: ∀k∈D,k∈C)
  (he: ∀env,eval (.Call (.Attribute o nm apos) [] [] pos) env=(do let ov←eval o env;Fp apos.atName;let (f,first)←Ea [ov] (I7 ov nm (pl env));FK pos f first (Cy pos (AR [] env)) [])):
  Sound w h₀ n C N (.Call (.Attribute o nm apos) [] [] pos) (AB A den [AH (BL cl B) r]):=
 λR env ω s s' v sh Q E hR S q P=>Hi q λvs s1 g' q1 q2 q3 q4 q5=>It q1 λu s0 ws p1 p2 p5=>have p4:=(Bv _ _).mp (Eu p1).2
  MethodCall_ (pl:=pl env) (ho R env ω s s0 u sh _ E hR S (Eu p1).1 λω0 h0 tk0 y S0 st0 vy=>NG (sh:={sh with heap:=h0,toks:=tk0}) G M S0 p4.1 vy (callWith_K0 (first:=[y]) (G.kin.keeps S0.base) M.keep (
   MX (sh:={sh with heap:=h0,toks:=tk0}) hF hR ((BM p2).2▸S0) (p5▸(BM p2).1▸rfl) q2 q3 q4 (p5▸(BM p2).1▸RelL.one vy) λω2 h2 tk2 x S2 st2 vx=>P _ _ _ _ (q5▸S2) (st0.trans st2 hD hA) vx))) (he env)
theorem Z0{m:Nat}{R:Aw}{c:Addr}{rest:List Ab}(hR:Rm (m+1) R):Rm m (R.under (.builtin "type.__call__" ⟨.ref c::rest,[]⟩)):=⟨hR.1,DX (show R.depth+1+4*m+4≤R.depth+4*(m+1)+4 by lia) hR.2.1,DX (show R.units+1+64*m+64≤R.units+64*(m+1)+64 by lia) hR.2.2.1,by show pushGuards (Code.builtin "type.__call__" ⟨.ref c::rest,[]⟩).guards R.guards=some [];rw [hR.2.2.2];rfl⟩
noncomputable def Wd.mkI(ω:Wd)(k:Nat)(a d:Addr):Wd:={ω with g:=T3 ω.g k a,ow:= λx=>if x=a then some (.gm k) else if x=d then some (.gd k) else ω.ow x}
theorem H0R{g:List (Option O)}{k:Nat}{o:O}(e:gAt g k=some o):some o∈g:=As (JC.mp e)
theorem GR.new{g:List (Option O)}{a:Addr}(G:GR w h₀ ω g h)(l:h.objs.size≤a):ω.ow a=none:=GG λz=>Bu _ (Bc (G.low a z).2 l)
noncomputable def mkH(h:Heap)(cl:Nat):Heap:=(h.push JH).push (JI cl h.objs.size)
theorem Jm{cl:Nat}(b:Addr)(o:Obj)(e:h.get? b=some o):(mkH h cl).get? b=some o:=Dd _ (Dd _ e)
theorem KG{cl:Nat}:(mkH h cl).objs.size=h.objs.size+2:=(CI ..).trans (congrArg (· +1) (CI ..))
section
variable{k cl:Nat}{g:List (Option O)}
theorem KH{x:Addr}(n:x<h.objs.size):(ω.mkI k (h.objs.size+1) h.objs.size).ow x=ω.ow x:=(if_neg (C4 (FG n))).trans (if_neg (C4 n))
theorem YD{v:V}{y:Ab}(hv:v.onG k=false)(e:VR w ω h v y):VR w (ω.mkI k (h.objs.size+1) h.objs.size) (mkH h cl) v y:=by
 cases v with
 |f z=>exact FR.mono (λ_ q=>q) (λa _=>Jm a) e
 |g j=>exact e.imp λa r=>r.imp_left λe1=>(if_neg λq:j=k=>noF ((J9 k).symm.trans (q▸hv:B6 k k=false))).trans e1
 |_=>exact e
theorem I0g{x:Addr}(n: ¬x<h.objs.size)(e:(ω.mkI k (h.objs.size+1) h.objs.size).ow x≠none)(z:ω.ow x=none):x=h.objs.size+1∧(ω.mkI k (h.objs.size+1) h.objs.size).ow x=some (.gm k)∨x=h.objs.size∧(ω.mkI k (h.objs.size+1) h.objs.size).ow x=some (.gd k):=by
 by_cases q:x=h.objs.size+1
 ·exact .inl ⟨q,if_pos q⟩
 ·by_cases q2:x=h.objs.size
  ·exact .inr ⟨q2,(if_neg q).trans (if_pos q2)⟩
  ·exact absurd (((if_neg q).trans (if_neg q2)).trans z) e
theorem YA(G0:GR w h₀ ω g h)(hc2:g.any (Ey (V.onG k))=false):GR w h₀ (ω.mkI k (h.objs.size+1) h.objs.size) (g.set k (some (.inst cl []))) (mkH h cl):=by
 have ow1: ∀x t,ω.ow x=some t→(ω.mkI k (h.objs.size+1) h.objs.size).ow x=some t:= λx t e=>(KH (G0.low x λz=>noS (z.symm.trans e)).2).trans e
 have ow2: ∀x t,(ω.mkI k (h.objs.size+1) h.objs.size).ow x=some t→ω.ow x=some t∨(h.objs.size≤x∧x<h.objs.size+2∧t.cell.1=false):= λx t e=>by
  by_cases l:x<h.objs.size
  ·exact .inl ((KH l).symm.trans e)
  ·refine .inr ((I0g l (λz=>noS (z.symm.trans e)) (G0.new (GS l))).elim (λq=>?_) λq=>?_)
   ·exact Au q.1▸⟨CZ _,C8 _,An (q.2.symm.trans e)▸rfl⟩
   ·exact Au q.1▸⟨A9 _,FG (C8 _),An (q.2.symm.trans e)▸rfl⟩
 refine ⟨λb o e=>Jm b o (G0.base b o e),KG▸Nat.le_add_right_of_le G0.lo,λa e=>?_,λa t e=>(ow2 a t e).elim (G0.nl a t) λq=>q.2.2,λa e=>(G0.fzlt a e).imp (λq=>KG▸L0T 2 q) (KH (G0.fzlt a e).1).trans,G0.fz0,λj o e=>?_⟩
 ·rw [KG]
  cases z:(ω.mkI k (h.objs.size+1) h.objs.size).ow a with
  |none=>exact absurd z e
  |some t=>exact (ow2 a t z).elim (λq=>(G0.low a λz=>noS (z.symm.trans q)).imp_right (L0T 2)) λq=>⟨A8 G0.lo q.1,q.2.1⟩
 ·refine (Od e).elim (λq=>Au q.1▸Au q.2▸⟨h.objs.size+1,if_pos rfl,if_pos rfl,rfl,h.objs.size,[],0,?_,Dd _ (BQ h (o:=JH) rfl),(if_neg (C4 (C8 _))).trans (if_pos rfl),rfl,λ_ h=>nomatch h⟩) λq=>(G0.g j o q.2).mono ⟨λa t e _=>⟨ow1 a t e,Jm a⟩,λ_ q=>q,λa _=>Jm a,λa e=>(if_neg q.1).trans e,λ_ _ _ e=>e⟩ λC fs z p hp y=>YD (NX hc2 (H0R (z▸q.2)) p hp)
  have:=BQ (h.push JH) (o:=JI cl h.objs.size) rfl
  rw [CI] at this
  exact this
theorem YE{vs:List V}{xs:List Ab}(hc3:vs.any (V.onG k)=false)(e:VRs w ω h vs xs):VRs w (ω.mkI k (h.objs.size+1) h.objs.size) (mkH h cl) (.g k::vs) (.ref (h.objs.size+1)::xs):=.mk ⟨_,if_pos rfl,rfl⟩ (RelL.mono (λv hv _=>YD (O4.mpr (Ll.mp hc3 v hv))) e)
theorem YB{h3:Heap}{ω3:Wd}(G0:GR w h₀ ω g h)(hk:k∉A)(st:Step A (λ_=>False) (ω.mkI k (h.objs.size+1) h.objs.size) (mkH h cl) ω3 h3):Step (k::A) (λ_=>False) ω h ω3 h3∧ω3.g k=some (h.objs.size+1):=by
 have big: ∀a,(mkH h cl).objs.size≤a→h.objs.size≤a:= λa z=>A8 (E4 _ 2) (KG (h:=h) (cl:=cl)▸z)
 have old: ∀a,(ω.mkI k (h.objs.size+1) h.objs.size).ow a≠none→ω.ow a≠none∨h.objs.size≤a:= λa z=>by
  by_cases l:a<h.objs.size
  ·exact .inl (KH l▸z)
  ·exact .inr (GS l)
 exact ⟨⟨A8 (KG (h:=h) (cl:=cl)▸E4 _ 2) st.size,λa e _ o q=>st.keep a ((KH (Bz q)).trans e) (λz=>z) o (Jm a o q),st.fz,λa e o q=>st.fzk a e o (Jm a o q),λa e=>(st.fznew a e).imp_right λz=>z.elim (old a) λz=>.inr (big a z),λa e=>(st.ownew a e).elim (old a) λz=>.inr (big a z),λj hj a e=>st.g j (λq=>hj (.tail _ q)) a ((if_neg λq:j=k=>hj (q▸.head _)).trans e),λj hj=>st.d j λq=>hj (.tail _ q)⟩,st.g k hk _ (if_pos rfl)⟩
end
theorem YF{k cl:Nat}{init:Den}{vs:List V}{g g':List (Option O)}{v:V}{P:Prop}(e:mk k cl init vs g=some (v,g'))(q:k<g.length→g.any (Ey (V.onG k))=false→vs.any (V.onG k)=false→init (.g k::vs) (g.set k (some (.inst cl [])))=some (.f .none,g')→V.g k=v→P):P:=
 ifE e λhc e=>Ax e λp e1 e2=>V.onFE e2 λx hx e2=>UK e2 λhx2 e2=>have h1:=(Bv _ _).mp hc;have h2:=(Bv _ _).mp h1.1
  q (of_decide_eq_true h2.1) ((DW _).mp h2.2) ((DW _).mp h1.2) (e1.trans (congrArg some (JD (hx.trans (congrArg V.f hx2)) (BM e2).2))) (BM e2).1
theorem SoundF.mk{m:Nat}{k cl:Nat}{fI:Addr}{init:Den}(G:Gd K h₀ mg mb)(hm:Us K cl=true)(hi:EI K (.ref cl) "__init__"=some (some (.ref fI)))(hf:L2 K (.ref fI)=some (.type "function"))(hI:SoundF w h₀ m (np+1) A fI init)(hk:k∉A):
  SoundF w h₀ (m+1) np (k::A) cl (mk k cl init):=
 λR ω g g' vs v xs sh RR hR G0 hnp hnc e hvs kk=>YF e λ_ hc2 hc3 hinit hv=>have X:K.In sh.heap:=G.kin.keeps G0.base
  make_core (makes_of X hm) (M0M X hi) (λself=>bind_fn X self hf) (.inl rfl) (hI _ _ _ _ (.g k::vs) _ (.ref (sh.heap.objs.size+1)::xs) ⟨_,sh.gens,sh.drawn,sh.toks,sh.os⟩ _ (Z0 hR) (YA G0 hc2) (congrArg (· +1) hnp) (Fb.mpr ⟨rfl,hnc⟩) hinit (YE hc3 hvs) λ_ ω3 h3 tk3 x G3 st3 vx=>
   have r:=YB G0 hk st3
   ⟨vx.toNone▸rfl,kk (hv▸rfl) ω3 h3 tk3 _ G3 r.1 (hv▸⟨sh.heap.objs.size+1,r.2,rfl⟩)⟩)
theorem Rz{x:Str}: ∀{l:List (Str×EG)} {n:Nat} {acc:List (Str×Addr)},(acc.lookup x).isSome=true→((L8 n l acc).lookup x).isSome=true
 |[],_,_,h=>h
 |(a,kd)::r,n,acc,h=>by
  unfold L8
  split
  ·refine Rz ?_
   simp only [E3]
   split
   ·rfl
   ·exact h
  ·exact Rz h
theorem IX{x:Str}: ∀{l:List (Str×EG)} {n:Nat} {acc:List (Str×Addr)},l.lookup x=some .cell→((L8 n l acc).lookup x).isSome=true
 |[],_,_,h=>by cases h
 |(a,kd)::r,n,acc,h=>by
  simp only [E3] at h
  unfold L8
  split at h
  ·rename_i q
   cases h
   simp only [beq_self_eq_true,if_true]
   refine Rz ?_
   simp only [E3,q]
   rfl
  ·split
   ·exact IX h
   ·exact IX h
theorem W9{kindOf:Str→Option EG}{x:Str}: ∀{l:List (Str×Ab)} {m:Str→Option Ab},x∉l.map (·.1)→L7 kindOf l m x=m x
 |[],_,_=>rfl
 |(a,b)::r,m,h=>by
  simp only [Em,AW,not_or] at h
  unfold L7
  rw [W9 h.2]
  split
  ·simp [h.1]
  ·rfl
theorem W8{kindOf:Str→Option EG}{x:Str}: ∀{l:List (Str×Ab)} {m:Str→Option Ab},x∉l.map (·.1)→L6 kindOf l m x=m x
 |[],_,_=>rfl
 |(a,b)::r,m,h=>by
  simp only [Em,AW,not_or] at h
  unfold L6
  rw [W8 h.2]
  split
  ·rfl
  ·simp [h.1]
theorem E0k{kindOf:Str→Option EG}{x:Str}{y:Ab}(hk:kindOf x=some .local){l:List (Str×Ab)}{m:Str→Option Ab}(hn:(l.map (·.1)).Nodup)(h:l.lookup x=some y):L7 kindOf l m x=some y:=by
 induction l generalizing m with
 |nil=>exact noS h
 |cons p r ih=>
  have h:=N0B.symm.trans h
  have hn:=CQ.mp hn
  unfold L7
  by_cases q:x=p.1
  ·rw [if_pos q] at h;rw [W9 (q▸hn.1)];simp [←q,hk,An h]
  ·rw [if_neg q] at h;exact ih hn.2 h
theorem E0j{kindOf:Str→Option EG}{x:Str}{y:Ab}(hk:kindOf x≠some .local){l:List (Str×Ab)}{m:Str→Option Ab}(hn:(l.map (·.1)).Nodup)(h:l.lookup x=some y):L6 kindOf l m x=some y:=by
 induction l generalizing m with
 |nil=>exact noS h
 |cons p r ih=>
  have h:=N0B.symm.trans h
  have hn:=CQ.mp hn
  unfold L6
  by_cases q:x=p.1
  ·rw [if_pos q] at h;rw [W8 (q▸hn.1)];simp [←q,hk,An h]
  ·rw [if_neg q] at h;exact ih hn.2 h
theorem ND{x:Str}{c:Addr}{l:List (Str×Addr)}(h:l.lookup x=some c):(x,c)∈l:=by
 induction l with
 |nil=>exact noS h
 |cons p r ih=>
  have h:=N0B.symm.trans h
  by_cases q:x=p.1
  ·rw [if_pos q] at h;exact (JD q (An h).symm:(x,c)=p)▸List.mem_cons_self
  ·rw [if_neg q] at h;exact .tail _ (ih h)
theorem D05{l:List (Str×Addr)}(h:l.Pairwise λx y=>x.2≠y.2){x y:Str}{c:Addr}(e1:l.lookup x=some c)(e2:l.lookup y=some c):x=y:=by
 have a:=ND e1
 have b:=ND e2
 clear e1 e2
 induction l with
 |nil=>exact nomatch a
 |cons p r ih=>
  have h:=En.mp h
  rcases AW.mp a with a|a<;>rcases AW.mp b with b|b
  ·exact congrArg Fi (a.trans b.symm)
  ·exact absurd (congrArg HA a).symm (h.1 (y,c) b)
  ·exact absurd (congrArg HA b).symm (h.1 (x,c) a)
  ·exact ih h.2 a b
theorem Zw{v u:V}(e:v.ret?=some u):v=u∧u.noC=true:=by
 cases v with
 |c _=>exact noS e
 |_=>exact ⟨An e,An e▸rfl⟩
theorem WH{np nl q:Nat}{f:Addr}{fd:Ly}{body:List Bm}{b:Sv}{R:Aw}{g g':List (Option O)}{vs:List V}{v:V}{xs:List Ab}{sh s₁:Ac}{RR:BR→Ac→Prop}{T:Ac→Prop}(F:Fn h₀ N np f fd body)(hnl:N.ns.length=nl)
  (hloc: ∀x∈N.ns,fd.scope.names.lookup x=some .local∨fd.scope.names.lookup x=some .cell) (hR:Rm (n+1) R) (G:GR w h₀ ω g sh.heap) (hnp:vs.length=np) (e:run nl q b vs g=some (v,g')) (hvs:VRs w ω sh.heap vs xs)
  (k:v.noC=true→∀ω' h' tk x,GR w h₀ ω' g' h'→Step A (λ_=>False) ω sh.heap ω' h'→VR w ω' h' v x→RR (.ok (.ret x)) {sh with heap:=h',toks:=tk})
  (X:InCallC sh (Dg fd sh.heap.objs.size f).locals (L7 (Dg fd sh.heap.objs.size f).kindOf ((N.ns.take np).zip xs) λ_=>none) (Dg fd sh.heap.objs.size f).cells (L6 (Dg fd sh.heap.objs.size f).kindOf ((N.ns.take np).zip xs) λ_=>none) s₁)
  (K: ∀(h1:Heap) (tk1:Nat) (p:Fl×St),Rm n (R.deeper (Dg fd sh.heap.objs.size f))→SR w h₀ N (Dg fd sh.heap.objs.size f) ω ⟨vs.map some++BW (nl - vs.length) none,BW q none,g⟩ h1→b ⟨vs.map some++BW (nl - vs.length) none,BW q none,g⟩=some p→
   PostS w h₀ N (Dg fd sh.heap.objs.size f) A ω {sh with heap:=h1,toks:=tk1} p.2 p.1 (λf s'=>RR (.ok (.ret (match f with|.ret v=>v|_=>.none))) s')→T {sh with heap:=h1,toks:=tk1}):T s₁:=by
 have hnpl:=F.np
 have hns:(((N.ns.take np).zip xs).map (·.1))=N.ns.take np:=by rw [List.map_fst_zip];rw [TM,←hvs.length];omega
 have hnd:(((N.ns.take np).zip xs).map (·.1)).Nodup:=by rw [hns];exact F.nodup.sublist (A0H ..)
 obtain ⟨⟨⟨h1,tk1,rfl⟩,n1,keep,fresh⟩,cel,apart,above⟩:=X
 dsimp only at n1 keep cel
 have hcells:(Dg fd sh.heap.objs.size f).cells=L8 (sh.heap.objs.size+1) fd.scope.names []:=rfl
 have hloc':(Dg fd sh.heap.objs.size f).locals=sh.heap.objs.size:=rfl
 have hL:sh.heap.objs.size<h1.objs.size:=by
  obtain ⟨o,es,_,e1,_⟩:=n1
  exact Bz e1
 have hR':Rm n (R.deeper (Dg fd sh.heap.objs.size f)):=⟨hR.1,by have:=hR.2.1;show R.depth+1+4*n+4<_;omega,by have:=hR.2.2.1;show R.units+3+64*n+64<_;omega,hR.2.2.2⟩
 have hm: ∀{j:Nat} {u:V},(vs.map some++BW (nl - vs.length) none)[j]?=some (some u)→vs[j]?=some u:= λ{j u} e=>by
  by_cases q:j<vs.length
  ·rw [L0z (by simpa using q),CH] at e
   cases z:vs[j]? with
   |none=>rw [z] at e;cases e
   |some y=>rw [z] at e;simpa using e
  ·rw [A0B (by simpa using q)] at e
   have:=As e
   simp at this
 have G1:Grow ω sh.heap ω h1:=DP (CY hL) keep
 have look: ∀{j:Nat} {x:Str} {u:V},N.ns[j]?=some x→vs[j]?=some u→∃y,((N.ns.take np).zip xs).lookup x=some y∧VR w ω h1 u y:= λ{j x u} e1 hv=>by
  obtain ⟨y,y1,y2⟩:=hvs.get hv
  refine ⟨y,K0V (k:=j) (F.nodup.sublist (A0H ..)) ?_ y1,y2.grow G1⟩
  have:j<np:=by rw [←hnp];exact (DN.mp hv).1
  rw [List.getElem?_take];simp [this,e1]
 have fwNew: ∀a,FW (Dg fd sh.heap.objs.size f) a→sh.heap.objs.size≤a:= λa e=>by
  rcases e with e|⟨x,e⟩
  ·exact DC e.symm
  ·exact CY (above x a (ND e))
 have fwLt: ∀a,FW (Dg fd sh.heap.objs.size f) a→a<h1.objs.size:= λa e=>by
  rcases e with e|⟨x,e⟩
  ·rw [e];exact hL
  ·obtain ⟨o,e1,_⟩:=cel x a e
   exact Bz e1
 have S1:SR w h₀ N (Dg fd sh.heap.objs.size f) ω ⟨vs.map some++BW (nl - vs.length) none,BW q none,g⟩ h1:=by
  refine ⟨λc o e=>keep c o (G.base c o e),λa e=>⟨(G.low a e).1,Bc (G.low a e).2 (CY hL)⟩,λa e=>⟨Bc (G.fzlt a e).1 (CY hL),(G.fzlt a e).2⟩,G.fz0,?_,λb j o e=>?_⟩
  ·refine ⟨⟨F.kind,F.glob,F.bltn,λx hx=>?_,F.gk,F.nodup,λx y c e1 e2=>D05 apart e1 e2,λx hx=>⟨.inl (F.cel x hx),IX (F.cel x hx)⟩,λx hx=>F.lcl x hx⟩,?_,⟨_,n1,λj x u e1 e2 e3=>?_⟩,λx c e=>?_,λa e=>?_,λx c e=>?_⟩
   ·exact (hloc x hx).imp_right λz=>⟨.inl z,IX z⟩
   ·simp;omega
   ·obtain ⟨y,y1,y2⟩:=look e1 (hm e2)
    exact ⟨y,E0k e3 hnd y1,y2⟩
   ·refine ⟨_,cel x c e,λj u e1 e2 e3=>?_⟩
    obtain ⟨y,y1,y2⟩:=look e1 (hm e2)
    exact ⟨y,E0j e3 hnd y1,y2⟩
   ·have h1:=fwNew a e
    refine ⟨?_,λz=>absurd (G.fzlt _ z).1 (DY.mpr h1),A8 G.lo h1,fwLt a e⟩
    cases z:ω.ow a with
    |none=>rfl
    |some t=>exact absurd (G.low a (by rw [z];simp)).2 (DY.mpr h1)
   ·exact λz=>Bu _ (by have:=above x c (ND e);rw [z] at this;exact this)
  ·cases b with
   |true=>
    have:=As (JC.mp e)
    exact noS (List.eq_of_mem_replicate this).symm
   |false=>exact (G.g j o e).mono (G1.same false j) λ_ _ _ _ _ y z=>z.grow G1
 have fin: ∀{s2:St} {ω2:Wd} {h2:Heap} {tk2:Nat} {x:Ab},SR w h₀ N (Dg fd sh.heap.objs.size f) ω2 s2 h2→Step A (FW (Dg fd sh.heap.objs.size f)) ω h1 ω2 h2→VR w ω2 h2 v x→v.noC=true→s2.g=g'→RR (.ok (.ret x)) {sh with heap:=h2,toks:=tk2}:=by
  intro s2 ω2 h2 tk2 x S2 st2 vx hv hg
  refine k hv ω2.shr h2 tk2 x (by rw [←hg];exact S2.toGR) ?_ (T5 vx)
  refine ⟨A8 G1.size st2.size,λa e _ o q=>st2.keep a e (λz=>absurd (Bz q) (DY.mpr (fwNew a z))) o (keep a o q),st2.fz,λa e o q=>st2.fzk a e o (keep a o q),λa e=>?_,λa e=>?_,st2.g,st2.d⟩
  ·exact (st2.fznew a e).elim .inl λz=>.inr (z.elim .inl λz=>.inr (A8 G1.size z))
  ·exact (st2.ownew a (Oe e)).elim .inl λz=>.inr (A8 G1.size z)
 refine Ax e λp hrun e=>K h1 tk1 p hR' S1 hrun λω2 h2 tk2 flow S2 st2 hfl=>?_
 obtain ⟨fl,s2⟩:=p
 cases hfl with
 |nx=>exact fin S2 st2 ((BM e).1▸Rh) ((BM e).1▸rfl) (BM e).2
 |ct=>exact noS e
 |rt vx=>exact AV e λu e1 e2=>fin S2 st2 ((Zw e1).1.trans (BG e2).1▸vx) ((BG e2).1▸(Zw e1).2) (BG e2).2
theorem SoundF.of_cells{np nl q:Nat}{f:Addr}{fd:Ly}{body:List Bm}{b:Sv}(B:Base h₀ mg mb)(F:Fn h₀ N np f fd body)(hb:SoundB w h₀ n A N body b)(hnl:N.ns.length=nl)
  (hloc: ∀x∈N.ns,fd.scope.names.lookup x=some .local∨fd.scope.names.lookup x=some .cell):SoundF w h₀ (n+1) np A f (run nl q b):=by
 intro R ω g g' vs v xs sh RR hR G hnp hnc e hvs k
 obtain ⟨o,ho,hd⟩:=F.at_
 exact codeAny_call_cells (o:=o) (fd:=fd) (body:=body) (binds:=(N.ns.take np).zip xs) (by have:=hR.2.1;omega) (G.base _ _ ho) hd (B.lim.keeps G.base) (F.code.keeps G.base) F.body (F.bind xs (hvs.length▸hnp)) F.clo (λx hx=>(hloc _ (TP (A0F hx).1)).imp_right λz=>⟨z,IX z⟩) (λs₁ X=>WH F hnl hloc hR G hnp e hvs k X λh1 tk1 p hR' S1 hrun P=>hb _ _ ω _ p.2 p.1 {sh with heap:=h1,toks:=tk1} _ _ hR' S1 hrun P) F.co F.gen F.kind
theorem G0P{b:Addr}(hb:h.objs.size≤b)(e:Heap.ExtBut b h h'): ∀a o,h.get? a=some o→h'.get? a=some o:= λa o q=>e a o (λz=>absurd (Bz q) (DY.mpr (z▸hb))) q
theorem VR.tup{xs:List FV}{x:Ab}{P:Ab→Prop}(e:VR w ω h (.f (.tup xs)) x)(k: ∀a,ω.fz a→TupP h a (FRs w ω.fz h xs)→P (.ref a)):P x:=Dx e λa f l=>k a f (Dh w ω.fz h xs▸l)
theorem Ov{a:Addr}{items:Array Ab}{k:Nat}{R:Aw}{sh:Ac}{Q:List Ab→Ac→Prop}{E:Ab→Ac→Prop}(hR:Rm n R)(S:SR w h₀ N env ω s sh.heap)(ht:sh.heap.IsTuple a items)(hk:k=items.size)
  (q: ∀h' tk,SR w h₀ N env ω s h'→Grow ω sh.heap ω h'→Q items.toList {sh with heap:=h',toks:=tk}):wpAny (Ag pg w) R (unpackItems (.ref a) k none) Q E sh:=
 Au hk▸EF (unpackItems_tuple hR.1 ht λh' he hs=>have G:Grow ω sh.heap ω h':=DP hs (G0P (A9 _) he);q h' sh.toks (S.grow G) G)
theorem J0j{R:Aw}{Q:Unit→Ac→Prop}{E:Ab→Ac→Prop}{mk:Str→Ab→Sem Unit}(hmk: ∀(x:Str) (v:Ab) (s:Ac) (Q:Unit→Ac→Prop),wpAny (Ag pg w) R (LH env x v) Q E s→wpAny (Ag pg w) R (mk x v) Q E s):
  ∀{ks:List Nat} {ns:List Str} {xs:List FV} {ys:List Ab} {s s':St} {sh:Ac},(∀(i k:Nat),ks[i]?=some k→∃x,ns[i]?=some x∧N.ns[k]?=some x)→ns.length=ks.length→Hx ks xs s=some s'→SR w h₀ N env ω s sh.heap→FRs w ω.fz sh.heap xs ys→
   (∀h' tk,SR w h₀ N env ω s' h'→Step [] (FW env) ω sh.heap ω h'→Q () {sh with heap:=h',toks:=tk})→wpAny (Ag pg w) R (L3 (ns.map mk) ys) Q E sh:= λ{ks}=>by
 induction ks with
 |nil=>
  intro ns xs ys s s' sh _ hl e S hx q
  cases xs with
  |cons x r=>exact noS e
  |nil=>exact J1.mp hl▸AJ (q _ sh.toks (An e▸S) Step.refl)
 |cons k ks ih=>
  intro ns xs ys s s' sh hn hl e S hx q
  cases xs with
  |nil=>exact noS e
  |cons x r=>
   cases ns with
   |nil=>exact nomatch hl
   |cons nm ns'=>
    exact Ax e λs1 e1 e=>RelL.cons hx (P:= λys=>wpAny _ _ (L3 ((nm::ns').map mk) ys) Q E sh) λy ys' hx1 hx2=>Dt (hn 0 k rfl) λx' z1 z2=>Aq (Cp (hmk _ _ _ _ (GK (v:=.f x) S (An z1▸z2) hx1 λh' tk S1 st1 _=>ih (λi k' hk=>hn (i+1) k' hk) (I1 hl) e (FD e1▸S1) (FRs.mono st1.fz st1.fzk hx2) λh2 tk2 S2 st2=>q h2 tk2 S2 (st1.trans st2 (λ_ q=>q) (λ_ q=>q)))))
structure TgtT(N:Names)(elts:List Ak)(ks:List Nat)(ns:List Str)(ps:Str→Pos):Prop where
 each: ∀env,(OY elts env).map (·.2)=ns.map λx v=>De (.Name x (ps x)) env v
 len: ∀env,(OY elts env).length=ks.length
 star: ∀env,(OY elts env).findIdx? (·.1)=none
 nlen:ns.length=ks.length
 at_: ∀(i k:Nat),ks[i]?=some k→∃x,ns[i]?=some x∧N.ns[k]?=some x
theorem Zp: ∀{ks:List Nat} {xs:List FV} {s s':St},Hx ks xs s=some s'→ks.length=xs.length:= λ{ks}=>by
 induction ks with
 |nil=>
  intro xs s s' e
  cases xs with
  |nil=>rfl
  |cons _ _=>exact noS e
 |cons k ks ih=>
  intro xs s s' e
  cases xs with
  |nil=>exact noS e
  |cons x r=>exact Ax e λ_ _ e=>congrArg (· +1) (ih e)
theorem Ws{elts:List Ak}{kd:Nat}{tp:Pos}{ks:List Nat}{ns:List Str}{ps:Str→Pos}{xs:List FV}{y:Ab}{s':St}{R:Aw}{sh:Ac}{Q:Unit→Ac→Prop}{E:Ab→Ac→Prop}(T:TgtT N elts ks ns ps)(hR:Rm n R)(S:SR w h₀ N env ω s sh.heap)
  (hy:VR w ω sh.heap (.f (.tup xs)) y) (e:Hx ks xs s=some s') (q: ∀h' tk,SR w h₀ N env ω s' h'→Step [] (FW env) ω sh.heap ω h'→Q () {sh with heap:=h',toks:=tk}):wpAny (Ag pg w) R (De (.Tuple elts kd tp) env y) Q E sh:=
 hy.tup (P:= λy=>wpAny _ _ (De (.Tuple elts kd tp) env y) Q E sh) λa _ l=>l.casesOn λitems z2 z3=>by
  rw [Ue]
  unfold U4
  rw [T.star,T.each,T.len]
  exact Aq (Gw (Aq (Cp (Ov hR S z2 ((Zp e).trans ((RelL.len z3).trans DB)) λh' tk S1 G=>J0j (mk:= λx v=>De (.Name x (ps x)) env v) (λx v s Q h=>assign_Name h) T.at_ T.nlen e S1 (FRs.mono G.fz (λa _ o q=>G.keep a o q) z3) λh2 tk2 S2 st2=>q h2 tk2 S2 ((B5 G.step).trans st2 (λ_ q=>q) (λ_ q=>q))))))
theorem MK{elts:List Ak}{kd:Nat}{tp pos:Pos}{ks:List Nat}{ns:List Str}{ps:Str→Pos}{e:Ak}{f:Ev}(T:TgtT N elts ks ns ps)(hf:Sound w h₀ n A N e f)(hs: ∀env,B06 [.Tuple elts kd tp] e pos.line env=pure false)(hw: ∀env,Pm [.Tuple elts kd tp] e env=pure none):
  SoundS w h₀ n A N (.Assign [.Tuple elts kd tp] e pos) (IK ks f):=
 λR env ω s s' fl sh Q E hR S q P=>Ax q λp q1 q=>V.onFE q λx hx q=>UL q λxs hxs q=>D8 q λq2 q3=>M0c (hf R env ω s p.2 p.1 sh _ E hR S q1 λω1 h1 tk1 y S1 st1 vy=>Ws (sh:={sh with heap:=h1,toks:=tk1}) T hR S1 (hxs▸hx▸vy) q2 λh2 tk2 S2 st2=>P.eq q3 _ _ _ _ S2 ((B5 st1).trans st2 (λ_ q=>q) AY) .nx) (hs env) (hw env)
end
section
variable(w:A5)(h₀:Heap)
def GotR(ω:Wd)(h:Heap)(b:Nat)(g:Got)(y:Ab):Prop:=match g with
 |.v x=>VR w ω h x y
 |.o _ o=> ∃a,y=.ref a∧Gh b ω h a∧OR w ω h a o
noncomputable def XC(p:Got×Ab):Option Addr:=match p.1 with
 |.v _=>none
 |.o _ _=>match p.2 with
  |.ref a=>some a
  |_=>none
noncomputable def Et(gs:List Got)(ys:List Ab):List Addr:=(gs.zip ys).filterMap XC
def GotsR(ω:Wd)(h:Heap)(b:Nat)(gs:List Got)(ys:List Ab):Prop:=RelL (GotR w ω h b) gs ys∧(Et gs ys).Nodup
def SoundM(n:Nat)(A:List Nat)(N:Names)(es:List Ak)(fs:List Src):Prop:=
 ∀(R:Aw) (env:Env) (pos:Pos) (ω:Wd) (s s':St) (vs:List Got) (sh:Ac) (Q:List Ab→Ac→Prop) (E:Ab→Ac→Prop) (b:Nat),
  Rm n R→SR w h₀ N env ω s sh.heap→EZ fs s=some (vs,s')→b≤sh.heap.objs.size→
  (∀ω' h' tk xs,SR w h₀ N env ω' s' h'→StepE A ω sh.heap ω' h'→GotsR w ω' h' b vs xs→Q xs {sh with heap:=h',toks:=tk})→
  wpAny (Ag pg w) R (Er (Cy pos (AR es env))) Q E sh
end
section
variable{w:A5}{h₀:Heap}{N:Names}{env:Env}{ω ω':Wd}{h h':Heap}{s s1 s2:St}{n np:Nat}{A B C:List Nat}{mg mb:Str→Option Ab}{K:Frag}
theorem Gh.weak{b c:Nat}{a:Addr}(g:Gh c ω h a)(hb:b≤c):Gh b ω h a:=⟨A8 hb g.new,g.lt,g.ow,g.fz⟩
theorem Gh.step{b:Nat}{a:Addr}(g:Gh b ω h a)(st:StepE A ω h ω' h'):Gh b ω' h' a:=⟨g.new,Bc g.lt st.size,st.toStep.old g.ow g.lt,st.toStep.oldf g.ow g.lt g.fz⟩
theorem OR.mono{a:Addr}{o:O}(r:OR w ω h a o)(hf: ∀x,ω.fz x→ω'.fz x)(hk: ∀x,ω.fz x→∀o,h.get? x=some o→h'.get? x=some o)(ha: ∀o,h.get? a=some o→h'.get? a=some o):OR w ω' h' a o:=by
 cases o with
 |list xs=>exact LstP.mono r ha λ_=>FRs.mono hf hk
 |jlist j=>exact LstP.mono r ha λ_ q=>q
 |list2 xss=>exact r.imp_right λr=>LstP.mono r ha λ_ q=>q
 |dict es=>exact DctP.mono r ha λ_=>FRd.mono hf hk
 |tdict es=>exact TdP.casesOn r λxs z1 z2=>⟨xs,UD z1 ha λx hx=>hk _ (UG z2 x hx),FRt.mono hf hk z2⟩
 |ddict C es=>exact r.imp_right λz=>z.at' ha
 |inst C fs=>exact r.elim
 |ba j=>exact BaP.mono r ha
theorem OR.step{a:Addr}{o:O}{b:Nat}(r:OR w ω h a o)(g:Gh b ω h a)(st:StepE A ω h ω' h'):OR w ω' h' a o:=r.mono st.fz st.fzk λo q=>st.keep a g.ow (λz=>z) o q
theorem GotR.mono{b c:Nat}{g:Got}{y:Ab}(e:GotR w ω h b g y)(hv: ∀x,g=.v x→VR w ω h x y→VR w ω' h' x y)(hg: ∀a o,XC (g,y)=some a→Gh b ω h a→OR w ω h a o→Gh c ω' h' a∧OR w ω' h' a o):GotR w ω' h' c g y:=by
 cases g with
 |v x=>exact hv x rfl e
 |o c o=>exact EO e λa z1 z2 z3=>⟨a,z1,hg a o (z1▸rfl) z2 z3⟩
theorem RelL.zip{ι α:Type}{R R':ι→α→Prop}: ∀{xs:List ι} {ys:List α},(∀p∈xs.zip ys,R p.1 p.2→R' p.1 p.2)→RelL R xs ys→RelL R' xs ys:= λ{xs}=>by
 induction xs with
 |nil=>exact λ_ e=>e
 |cons x xs ih=>exact λk e=>e.cons (P:= λys=>(∀p∈(x::xs).zip ys,R p.1 p.2→R' p.1 p.2)→RelL R' (x::xs) ys) (λy r a b k=>.mk (k (x,y) (.head _) a) (ih (λp h=>k p (.tail _ h)) b)) k
theorem Ro{x:V}{y:Ab}{gs:List Got}{ys:List Ab}:Et (.v x::gs) (y::ys)=Et gs ys:=List.filterMap_cons_none rfl
theorem Rn{c a:Nat}{o:O}{gs:List Got}{ys:List Ab}:Et (.o c o::gs) (.ref a::ys)=a::Et gs ys:=L0u rfl
theorem D02{b:Nat}: ∀{gs:List Got} {ys:List Ab},RelL (GotR w ω h b) gs ys→∀a∈Et gs ys,b≤a:= λ{gs}=>by
 induction gs with
 |nil=>exact λ_ a h=>nomatch h
 |cons g gs ih=>
  refine λe=>e.cons (P:= λys=> ∀a∈Et (g::gs) ys,b≤a) λy r q e'=>?_
  cases g with
  |v x=>exact (Ro (x:=x) (y:=y)▸ih e': ∀a∈Et (.v x::gs) (y::r),b≤a)
  |o c o=>exact EO q λa z1 z2 _=>Au z1▸Rn▸Fb.mpr ⟨z2.new,ih e'⟩
theorem SoundM.nil:SoundM w h₀ n [] N [] []:=λ_ _ _ ω _ _ _ sh _ _ _ _ S e _ k=>AJ (k ω sh.heap sh.toks [] ((BM e).2▸S) StepE.refl ((BM e).1▸⟨rfl,.nil⟩))
theorem ZX{x:Ak}{r:List Ak}{pos:Pos}{R:Aw}{sh:Ac}{Q:List Ab→Ac→Prop}{E:Ab→Ac→Prop}(hs: ∀env,AR (x::r) env=(false,eval x env)::AR r env)
  (k:wpAny (Ag pg w) R (eval x env) (λv s=>wpAny (Ag pg w) R (Er (Cy pos (AR r env))) (λvs s=>Q (v::vs) s) E s) E sh):wpAny (Ag pg w) R (Er (Cy pos (AR (x::r) env))) Q E sh:=by
 rw [hs]
 show wpAny _ _ (eval x env>>= λv=>(pure [v]>>= λhere=>Ea here (Er (Cy pos (AR r env)))>>= λrest=>pure (here++rest))) _ _ _
 exact Aq (Bo k (λv s k=>Aq (AJ (Aq (Cp (Bo k (λ_ _ k=>AJ k) λ_ _ k=>k))))) λ_ _ k=>k)
theorem SoundM.e{x:Ak}{r:List Ak}{f:Ev}{fs:List Src}(hf:Sound w h₀ n A N x f)(hr:SoundM w h₀ n [] N r fs)(hs: ∀env,AR (x::r) env=(false,eval x env)::AR r env):SoundM w h₀ n A N (x::r) (.e f::fs):=
 λR env pos ω s s' vs sh Q E b hR S e hb k=>Ax e λp e1 e=>AV e λq e2 e3=>AV e1 λu e4 e5=>ZX hs (hf R env ω s u.2 u.1 sh _ E hR S e4 λω1 h1 tk1 y S1 st1 vy=>
  hr R env pos ω1 _ s' q.1 {sh with heap:=h1,toks:=tk1} _ E b hR S1 ((congrArg (EZ fs) (congrArg HA e5)).trans (e2.trans (congrArg (λz=>some (q.1,z)) (BG e3).2))) (A8 hb st1.size) λω2 h2 tk2 ys S2 st2 vys=>k ω2 h2 tk2 (y::ys) S2 (st1.trans st2 (λ_ q=>q) AY) ((BG e3).1▸(congrArg Fi e5)▸⟨.mk (vy.step st2 (BO _)) vys.1,(Ro (x:=u.1) (y:=y)▸vys.2:(Et (.v u.1::q.1) (y::ys)).Nodup)⟩))
theorem SoundM.a{x:Ak}{r:List Ak}{f:Av}{c:Nat}{fs:List Src}(hf:SoundA w h₀ n A N x f)(hr:SoundM w h₀ n [] N r fs)(hs: ∀env,AR (x::r) env=(false,eval x env)::AR r env):SoundM w h₀ n A N (x::r) (.a c f::fs):=
 λR env pos ω s s' vs sh Q E b hR S e hb k=>Ax e λp e1 e=>AV e λq e2 e3=>AV e1 λu e4 e5=>ZX hs (hf R env ω s u.2 u.1 sh _ E hR S e4 λω1 h1 tk1 a S1 st1 g1 r1=>
  hr R env pos ω1 _ s' q.1 {sh with heap:=h1,toks:=tk1} _ E (a+1) hR S1 ((congrArg (EZ fs) (congrArg HA e5)).trans (e2.trans (congrArg (λz=>some (q.1,z)) (BG e3).2))) g1.lt λω2 h2 tk2 ys S2 st2 vys=>k ω2 h2 tk2 (.ref a::ys) S2 (st1.trans st2 (λ_ q=>q) AY) ((BG e3).1▸(congrArg Fi e5)▸⟨.mk ⟨a,rfl,(g1.step st2).weak hb,r1.step g1 st2⟩ (RelL.mono (λ_ _ _ e=>e.mono (λ_ _ z=>z) λa' o _ g r=>⟨g.weak (A8 hb (Gm g1.new)),r⟩) vys.1),Rn▸CQ.mpr ⟨λz=>Bu a (D02 vys.1 a z),vys.2⟩⟩))
theorem Sm: ∀{ks:List Nat} {gs:List Got} {s s':St},Ia ks gs s=some s'→∀g∈gs,∀x,g=.v x→x.noC=true:= λ{ks}=>by
 induction ks with
 |nil=>
  intro gs s s' e
  cases gs with
  |nil=>exact λ_ h=>nomatch h
  |cons _ _=>exact noS e
 |cons k ks ih=>
  intro gs s s' e
  cases gs with
  |nil=>exact noS e
  |cons g r=>
   refine Ax e λs1 e1 e=>Fb.mpr ⟨λx hx=>?_,ih e⟩
   rw [hx] at e1
   exact ifE e1 λh _=>h
theorem G0l: ∀{ks:List Nat} {gs:List Got} {s s':St},Ia ks gs s=some s'→ks.length=gs.length:= λ{ks}=>by
 induction ks with
 |nil=>
  intro gs s s' e
  cases gs with
  |nil=>rfl
  |cons _ _=>exact noS e
 |cons k ks ih=>
  intro gs s s' e
  cases gs with
  |nil=>exact noS e
  |cons g r=>exact Ax e λ_ _ e=>congrArg (· +1) (ih e)
theorem Tr: ∀{fs:List Src} {s s':St} {vs:List Got},EZ fs s=some (vs,s')→vs.length=fs.length:= λ{fs}=>by
 induction fs with
 |nil=>exact λe=>(BM e).1▸rfl
 |cons f fs ih=>exact λe=>Ax e λp _ e=>AV e λq e1 e2=>(BG e2).1▸congrArg (· +1) (ih e1)
theorem A0s{v:V}{y:Ab}(hf: ∀a,ω.fz a→ω'.fz a)(hk: ∀a,ω.fz a→∀o,h.get? a=some o→h'.get? a=some o)(hg:ω.g=ω'.g)(hd:ω.d=ω'.d)(hv:v.noC=true)(e:VR w ω h v y):VR w ω' h' v y:=by
 cases v with
 |f _=>exact FR.mono hf hk e
 |c _=>exact noT hv
 |g k=>exact e.imp λa r=>r.imp_left λz=>(congrArg (· k) hg).symm.trans z
 |d k i=>exact e.imp λa r=>r.imp_left λz=>(congrArg (· k i) hd).symm.trans z
theorem XE{b:Nat}{R:Aw}{Q:Unit→Ac→Prop}{E:Ab→Ac→Prop}{mk:Str→Ab→Sem Unit}(hmk: ∀(x:Str) (v:Ab) (s:Ac) (Q:Unit→Ac→Prop),wpAny (Ag pg w) R (LH env x v) Q E s→wpAny (Ag pg w) R (mk x v) Q E s)(hb:h₀.objs.size≤b)(hFW: ∀a,b≤a→¬FW env a):
  ∀{ks:List Nat} {ns:List Str} {gs:List Got} {ys:List Ab} {ω:Wd} {s s':St} {sh:Ac},(∀(i k:Nat),ks[i]?=some k→∃x,ns[i]?=some x∧N.ns[k]?=some x)→ns.length=ks.length→Ia ks gs s=some s'→SR w h₀ N env ω s sh.heap→GotsR w ω sh.heap b gs ys→
   (∀ω' h' tk,SR w h₀ N env ω' s' h'→(∀(ωa:Wd) (ha:Heap),ha.objs.size≤b→Step A (FW env) ωa ha ω sh.heap→Step A (FW env) ωa ha ω' h')→Q () {sh with heap:=h',toks:=tk})→wpAny (Ag pg w) R (L3 (ns.map mk) ys) Q E sh:= λ{ks}=>by
 induction ks with
 |nil=>
  intro ns gs ys ω s s' sh _ hl e S hx q
  cases gs with
  |nil=>exact J1.mp hl▸AJ (q ω _ sh.toks (An e▸S) λ_ _ _ st=>st)
  |cons x r=>exact noS e
 |cons k ks ih=>
  intro ns gs ys ω s s' sh hn hl e S hx q
  cases gs with
  |nil=>exact noS e
  |cons gg r=>
   cases ns with
   |nil=>exact nomatch hl
   |cons nm ns'=>
    have hnc:=Fb.mp (Sm e)
    have hn':= λi k' hk=>hn (i+1) k' hk
    refine Ax e λs1 e1 e'=>Dt (hn 0 k rfl) λx' z1 z2=>?_
    have z2:N.ns[k]?=some nm:=An z1▸z2
    refine RelL.cons hx.1 (P:= λys=>(Et (gg::r) ys).Nodup→wpAny _ _ (L3 ((nm::ns').map mk) ys) Q E sh) (λy ys' hx1 hx2 hap=>Aq (Cp (hmk _ _ _ _ ?_))) hx.2
    cases gg with
    |v x=>exact ifE e1 λ_ e1=>GK S z2 hx1 λh' tk S1 st1 _=>ih hn' (I1 hl) e' (FD e1▸S1) ⟨RelL.mono (λg hg _ z=>z.mono (λx hx=>A0s st1.fz st1.fzk rfl rfl (hnc.2 g hg x hx)) λa o _ g r=>⟨⟨g.new,Bc g.lt st1.size,g.ow,g.fz⟩,r.mono st1.fz st1.fzk (st1.keep a g.ow (hFW a g.new))⟩) hx2,Ro▸hap⟩ λω2 h2 tk2 S2 st2=>q ω2 h2 tk2 S2 λωa ha hl st=>st2 ωa ha hl (st.trans st1 (λ_ q=>q) AY)
    |o c o=>
     refine EO hx1 λa hy g1 r1=>Au hy▸YQ S z2 g1 (A8 hb g1.new) (hFW a g1.new) r1 e1 λh' tk S1 st1=>?_
     have hap:=CQ.mp (Rn▸hy▸hap:(a::Et r ys').Nodup)
     refine ih hn' (I1 hl) e' S1 ⟨RelL.zip (λp hp z=>z.mono (λx hx=>A0s (ω:=ω) (ω':=ω.put true c a) st1.fz st1.fzk rfl rfl (hnc.2 p.1 (A0F hp).1 x hx)) λa' o ha' g r=>?_) hx2,hap.2⟩ λω2 h2 tk2 S2 st2=>q ω2 h2 tk2 S2 λωa ha hl st=>st2 ωa ha hl ((st.put (b:=true) (k:=c) (A8 hl g1.new) nofun).trans st1 (λ_ q=>q) AY)
     have ho:(ω.put true c a).ow a'=none:=(Jq λq:a'=a=>hap.1 (q▸List.mem_filterMap.mpr ⟨p,hp,ha'⟩)).trans g.ow
     exact ⟨⟨g.new,Bc g.lt st1.size,ho,g.fz⟩,r.mono st1.fz st1.fzk (st1.keep a' ho (hFW a' g.new))⟩
theorem XD{b k:Nat}{gs:List Got}{ys:List Ab}{R:Aw}{sh:Ac}{Q:List Ab→Ac→Prop}{E:Ab→Ac→Prop}(hR:Rm n R)(S1:SR w h₀ N env ω s sh.heap)(gr:GotsR w ω sh.heap b gs ys)(hk:k=gs.length)(hnc: ∀g∈gs,∀x,g=.v x→x.noC=true)
  (q: ∀h' tk,SR w h₀ N env ω s h'→StepE [] ω sh.heap ω h'→GotsR w ω h' b gs ys→Q ys {sh with heap:=h',toks:=tk}):wpAny (Ag pg w) R (unpackItems (.ref sh.heap.objs.size) k none) Q E {sh with heap:=sh.heap.push (T1 ys.toArray 0)}:=
 have G:=DT (ω:=ω) (h:=sh.heap) (T1 ys.toArray 0)
 Ov (sh:={sh with heap:=sh.heap.push (T1 ys.toArray 0)}) hR (S1.grow G) ⟨_,BQ _ rfl,rfl,0,rfl⟩ (hk.trans (RelL.len gr.1)) λh3 tk3 S3 G3=>
  have g13:Grow ω sh.heap ω h3:=DP (A8 G.size G3.size) λa o e=>G3.keep a o (G.keep a o e)
  q h3 tk3 S3 g13.step ⟨RelL.mono (λg _ _ z=>z.mono (λx _ z=>z.grow g13) λa o _ g r=>⟨g.step g13.step,r.step g g13.step⟩) gr.1,gr.2⟩
theorem D0l{elts es:List Ak}{kd kd':Nat}{tp pos p':Pos}{ks:List Nat}{ns:List Str}{ps:Str→Pos}{fs:List Src}(T:TgtT N elts ks ns ps)(hf:SoundM w h₀ n A N es fs)(hz:fs.length≤1000)(hs: ∀env,B06 [.Tuple elts kd tp] (.Tuple es kd' p') pos.line env=pure false)
  (hw: ∀env,Pm [.Tuple elts kd tp] (.Tuple es kd' p') env=pure none):SoundS w h₀ n A N (.Assign [.Tuple elts kd tp] (.Tuple es kd' p') pos) (VE ks fs):=
 λR env ω s s' fl sh Q E hR S q P=>Ax q λp q1 q=>D8 q λq2 q3=>M0c (U5 (hf R env p' ω s p.2 p.1 sh _ E sh.heap.objs.size hR S q1 (A9 _) λω1 h1 tk1 ys S1 st1 gr=>⟨by rw [←RelL.len gr.1,Tr q1,Co];exact A8 hz (by decide),by
  rw [Ue]
  unfold U4
  rw [T.star,T.each,T.len]
  exact Aq (Gw (Aq (Cp (XD hR S1 gr (G0l q2) (Sm q2) λh3 tk3 S3 G3 gr3=>
   XE (A:=A) (b:=sh.heap.objs.size) (mk:= λx v=>De (.Name x (ps x)) env v) (λx v s Q h=>assign_Name h) S.lo (λa ha e=>Bu _ (Bc (S.fr.off a e).2.2.2 ha)) T.at_ T.nlen q2 S3 gr3 λω4 h4 tk4 S4 st4=>P.eq q3 _ _ _ _ S4 (st4 ω sh.heap (A9 _) ((B5 st1).trans (B5 G3) (λ_ q=>q) AY)) .nx))))⟩)) (hs env) (hw env)
theorem RelL.snoc{ι α:Type}{R:ι→α→Prop}{x:ι}{y:α}{xs:List ι}{ys:List α}(h:RelL R xs ys)(a:R x y):RelL R (xs++[x]) (ys++[y]):=RelL.append h (RelL.one a)
theorem RelL.rev{ι α:Type}{R:ι→α→Prop}: ∀{xs:List ι} {ys:List α},RelL R xs ys→RelL R xs.reverse ys.reverse:= λ{xs}=>by
 induction xs with
 |nil=>exact λe=>e.nil (P:= λys=>RelL R [] ys.reverse) rfl
 |cons x xs ih=>exact λe=>e.cons (P:= λys=>RelL R (x::xs).reverse ys.reverse) λy r a b=>Au L0H▸Au L0H▸(ih b).snoc a
theorem GotsR.rev{b:Nat}{gs:List Got}{ys:List Ab}(H:GotsR w ω h b gs ys):GotsR w ω h b gs.reverse ys.reverse:=
 ⟨H.1.rev,by
  have:Et gs.reverse ys.reverse=(Et gs ys).reverse:=by
   unfold Et
   rw [←List.filterMap_reverse,L0M,L0M,List.reverse_zipWith (RelL.len H.1)]
  rw [this]
  exact (List.reverse_perm _).nodup_iff.mpr H.2⟩
theorem SoundS.multiR{elts:List Ak}{e1 e2:Ak}{n1 n2:Str}{kd kd':Nat}{tp pos p':Pos}{k1 k2:Nat}{f1 f2:Src}(x1:N.ns[k1]?=some n1)(x2:N.ns[k2]?=some n2)(hf:SoundM w h₀ n A N [e1,e2] [f1,f2])(hs: ∀env,B06 [.Tuple elts kd tp] (.Tuple [e1,e2] kd' p') pos.line env=pure false)
  (l1:n1∈N.ls) (l2:n2∈N.ls) (hw: ∀env:Env,env.scope.kind=.function→env.kindOf n1=some .local→env.kindOf n2=some .local→Pm [.Tuple elts kd tp] (.Tuple [e1,e2] kd' p') env=pure (some [n1,n2])):SoundS w h₀ n A N (.Assign [.Tuple elts kd tp] (.Tuple [e1,e2] kd' p') pos) (IJ [k1,k2] [f1,f2]):=
 λR env ω s s' fl sh Q E hR S q P=>Ax q λp q1 q=>D8 q λq2 q3=>N0W (names:=[n1,n2]) (U5 (hf R env p' ω s p.2 p.1 sh _ E sh.heap.objs.size hR S q1 (A9 _) λω1 h1 tk1 ys S1 st1 gr=>⟨by rw [←RelL.len gr.1,Tr q1,Co];show 2≤16777216;decide,
  XD hR S1 gr ((Tr q1).symm) (λg hg=>Sm q2 g (L0B.mpr hg)) λh3 tk3 S3 G3 gr3=>
   XE (A:=A) (b:=sh.heap.objs.size) (ns:=[n2,n1]) (ks:=[k2,k1]) (mk:= λx v=>bindName env x v) (λx v s Q h=>bindName_ h) S.lo (λa ha e=>Bu _ (Bc (S.fr.off a e).2.2.2 ha)) (λi k hk=>match i,hk with
    |0,hk=>⟨n2,rfl,An hk▸x2⟩
    |1,hk=>⟨n1,rfl,An hk▸x1⟩
    |_+2,hk=>noS hk) rfl q2 S3 gr3.rev λω4 h4 tk4 S4 st4=>P.eq q3 _ _ _ _ S4 (st4 ω sh.heap (A9 _) ((B5 st1).trans (B5 G3) (λ_ q=>q) AY)) .nx⟩)) (hs env) (hw env S.fr.ok.kind (S.fr.ok.lcl _ l1) (S.fr.ok.lcl _ l2))
end
structure Wk0(w:A5)(R:Aw)(target:Ak)(I:Addr)(wr fr:List Addr)(items:List FV)(Src:(Addr→Prop)→Heap→Prop)(St:Nat→Heap→Prop):Prop where
 frame: ∀i h h',St i h→(∀b,b∈wr∨b∈fr→∀o,h.get? b=some o→h'.get? b=some o)→St i h'
 src: ∀fz fz' h h',Src fz h→(∀a,fz a→fz' a)→(∀a,fz a→∀o,h.get? a=some o→h'.get? a=some o)→Src fz' h'
 turn: ∀(fz:Addr→Prop) (i:Nat) (x:FV) (sh:Ac) (Q:Ab→Ac→Prop) (E:Ab→Ac→Prop),items[i]?=some x→Src fz sh.heap→(∀b∈wr,¬fz b)→St i sh.heap→
  (∀v h' tk (new:Addr→Prop),(∀a,new a→sh.heap.objs.size≤a∧a<h'.objs.size)→sh.heap.objs.size≤h'.objs.size→(∀b o,b∉wr→sh.heap.get? b=some o→h'.get? b=some o)→FR w (λa=>fz a∨new a) h' x v→St (i+1) h'→Q v {sh with heap:=h',toks:=tk})→
  wpAny (Ag pg w) R (pyNext (.ref I)) (λr s₁=>match r with
   |none=>False
   |some v=>wpAny (Ag pg w) R (I8 target (.ref I) v) (λ_ s₂=>Q v s₂) E s₁) E sh
 done: ∀(sh:Ac) (Q:Option Ab→Ac→Prop) (E:Ab→Ac→Prop),St items.length sh.heap→
  (∀h' tk,sh.heap.objs.size≤h'.objs.size→(∀b o,b∉wr→sh.heap.get? b=some o→h'.get? b=some o)→Q none {sh with heap:=h',toks:=tk})→wpAny (Ag pg w) R (pyNext (.ref I)) Q E sh
 self: ∀(i:Nat) (sh:Ac) (Q:Ab→Ac→Prop) (E:Ab→Ac→Prop),St i sh.heap→Q (.ref I) sh→wpAny (Ag pg w) R (GY (.ref I)) Q E sh
structure Wk(w:A5)(R:Aw)(target:Ak)(I:Addr)(wr fr:List Addr)(items:List FV)(Src:(Addr→Prop)→Heap→Prop)(St:Nat→Heap→Prop):Prop extends Wk0 w R target I wr fr items Src St where
 own: ∀fz h,Src fz h→∀b∈fr,fz b
def Ed(w:A5)(R:Aw)(tg:Ak)(it:Ab)(env:Env)(E:Ab→Ac→Prop)(end_ rest:Ac→Prop)(s:Ac):Prop:=
 wpAny (Ag pg w) R (pyNext it) (λr s₁=>match r with
  |none=>end_ s₁
  |some v=>wpAny (Ag pg w) R (I8 tg it v) (λ_ s₁'=>wpAny (Ag pg w) R (De tg env v) (λ_ s₂=>rest s₂) E s₁') E s₁) E s
section
variable{w:A5}{h₀:Heap}{N:Names}{env:Env}{ω ω':Wd}{h h':Heap}{s s1 s2:St}{n np:Nat}{A B C:List Nat}{mg mb:Str→Option Ab}{K:Frag}
def Ghs(h₀:Heap)(env:Env)(ω:Wd)(h:Heap)(wr:List Addr):Prop:= ∀a∈wr,ω.ow a=none∧¬ω.fz a∧h₀.objs.size≤a∧a<h.objs.size∧¬FW env a
theorem Ghs.step{W:Addr→Prop}{wr:List Addr}(g:Ghs h₀ env ω h wr)(st:Step A W ω h ω' h'):Ghs h₀ env ω' h' wr:=λa ha=>Xe (g a ha) λg1 g2 g3 g4 g5=>⟨st.old g1 g4,st.oldf g1 g4 g2,g3,Bc g4 st.size,g5⟩
theorem SR.ghosts{wr:List Addr}{new:Addr→Prop}(S:SR w h₀ N env ω s h)(g:Ghs h₀ env ω h wr)(hs:h.objs.size≤h'.objs.size)(k: ∀b o,b∉wr→h.get? b=some o→h'.get? b=some o)(hn: ∀a,new a→h.objs.size≤a∧a<h'.objs.size):
  SR w h₀ N env {ω with fz:= λa=>ω.fz a∨new a} s h'∧Step [] (λa=>a∈wr) ω h {ω with fz:= λa=>ω.fz a∨new a} h':=
 have kf: ∀a,ω.fz a→∀o,h.get? a=some o→h'.get? a=some o:= λa e o q=>k a o (λz=>(g a z).2.1 e) q
 have vk: ∀v y,VR w ω h v y→VR w {ω with fz:= λa=>ω.fz a∨new a} h' v y:= λv y e=>match v,e with
  |.f _,e=>FR.mono (λ_ q=>.inl q) kf e
  |.c _,e=>e
  |.g _,e=>e
  |.d _ _,e=>e
 have same: ∀b k,Same b k ω h {ω with fz:= λa=>ω.fz a∨new a} h':= λb k'=>⟨λa t e _=>⟨e,λo q=>k a o (λz=>noS ((g a z).1.symm.trans e)) q⟩,λ_ q=>.inl q,kf,λ_ e=>e,λ_ _ _ e=>e⟩
 ⟨⟨λb o e=>k b o (λz=>Bu _ (Bc (Bz e) (g b z).2.2.1)) (S.base b o e),λa e=>(S.low a e).imp_right λq=>Bc q hs,λa e=>e.elim (λe=>(S.fzlt a e).imp_left λq=>Bc q hs) λe=>⟨(hn a e).2,GG λz=>Bu _ (Bc (S.low a z).2 (hn a e).1)⟩,λa e=>.inl (S.fz0 a e),
  S.fr.mono hs (λa e o q=>k a o (λz=>(g a z).2.2.2.2 e) q) (λv _ y e=>vk v y e) λa e=>⟨(S.fr.off a e).1,λq=>q.elim (S.fr.off a e).2.1 λq=>Bu _ (Bc (S.fr.off a e).2.2.2 (hn a q).1)⟩,
  λb j o e=>(S.c b j o e).mono (same _ _) λ_ _ _ _ _ y z=>vk _ y z⟩,
  hs,λa _ n o q=>k a o n q,λ_ e=>.inl e,kf,λa e=>e.imp_right λz=>.inr (hn a z).1,λ_ e=>.inl e,λ_ _ _ e=>e,λ_ _ _ _ e=>e⟩
inductive TgR(N:Names):Ak→Tg→Prop
 |one {x:Str} {p:Pos} {k:Nat}:N.ns[k]?=some x→TgR N (.Name x p) (.one k)
 |many {elts:List Ak} {kd:Nat} {tp:Pos} {ks:List Nat} {ns:List Str} {ps:Str→Pos}:TgtT N elts ks ns ps→TgR N (.Tuple elts kd tp) (.many ks)
theorem K0r{tg:Ak}{t:Tg}{x:FV}{y:Ab}{s':St}{R:Aw}{sh:Ac}{Q:Unit→Ac→Prop}{E:Ab→Ac→Prop}(T:TgR N tg t)(hR:Rm n R)(S:SR w h₀ N env ω s sh.heap)(hy:VR w ω sh.heap (.f x) y)(e:t.put x s=some s')
  (q: ∀h' tk,SR w h₀ N env ω s' h'→Step [] (FW env) ω sh.heap ω h'→Q () {sh with heap:=h',toks:=tk}):wpAny (Ag pg w) R (De tg env y) Q E sh:=by
 cases T with
 |one hx=>exact assign_Name (GK S hx hy λh' tk S' st' _=>q h' tk (FD e▸S') st')
 |many hT=>
  cases x with
  |tup xs=>exact Ws hT hR S hy e q
  |_=>exact noS e
structure LI(h₀:Heap)(env:Env)(A:List Nat)(W:Addr→Prop)(gs:List Addr)(Src:(Addr→Prop)→Heap→Prop)(St:Nat→Heap→Prop)(ω:Wd)(h:Heap)(i:Nat)(ω':Wd)(h':Heap):Prop where
 st:Step A W ω h ω' h'
 g:Ghs h₀ env ω' h' gs
 src:Src ω'.fz h'
 cur:St i h'
variable{W Z:Addr→Prop}{gs wr fr:List Addr}{items:List FV}{Src:(Addr→Prop)→Heap→Prop}{St:Nat→Heap→Prop}{R:Aw}{tg:Ak}{I:Addr}{i:Nat}{ω₁ ω₂:Wd}{h₁ h₂:Heap}{sh:Ac}{tk:Nat}{E:Ab→Ac→Prop}{en rest:Ac→Prop}
theorem LI.start(g:Ghs h₀ env ω h gs)(a:Src ω.fz h)(b:St 0 h):LI h₀ env A W gs Src St ω h 0 ω h:=⟨Step.refl.weak (λ_ h=>nomatch h) λ_ h=>h,g,a,b⟩
theorem LI.step(K:Wk0 w R tg I wr fr items Src St)(J:LI h₀ env A W gs Src St ω h i ω₁ h₁)(st:Step B Z ω₁ h₁ ω₂ h₂)(hB: ∀k∈B,k∈A)(hV: ∀a,Z a→W a)(hw: ∀a∈wr,a∈gs∧¬Z a)(hf: ∀b∈fr,∀o,h₁.get? b=some o→h₂.get? b=some o):LI h₀ env A W gs Src St ω h i ω₂ h₂:=⟨J.st.trans (st.weak hB hV) (λ_ q=>q) (λ_ q=>q),J.g.step st,K.src _ _ _ _ J.src st.fz st.fzk,K.frame _ _ _ J.cur λb hb=>hb.elim (λq=>st.keep b (J.g b (hw b q).1).1 (hw b q).2) (hf b)⟩
theorem Wk.keeps(K:Wk w R tg I wr fr items Src St)(J:LI h₀ env A W gs Src St ω h i ω₁ h₁)(st:Step B Z ω₁ h₁ ω₂ h₂): ∀b∈fr,∀o,h₁.get? b=some o→h₂.get? b=some o:= λb hb=>st.fzk b (K.own _ _ J.src b hb)
def Asg(w:A5)(h₀:Heap)(N:Names)(env:Env)(R:Aw)(Z:Addr→Prop)(Src:(Addr→Prop)→Heap→Prop)(fr:List Addr)(tg:Ak)(x:FV)(s s':Mine.St):Prop:=
 ∀(ω:Wd) (sh:Ac) (y:Ab) (Q:Unit→Ac→Prop) (E:Ab→Ac→Prop),SR w h₀ N env ω s sh.heap→Src ω.fz sh.heap→FR w ω.fz sh.heap x y→
  (∀h' tk,SR w h₀ N env ω s' h'→Step [] Z ω sh.heap ω h'→(∀b∈fr,∀o,sh.heap.get? b=some o→h'.get? b=some o)→Q () {sh with heap:=h',toks:=tk})→wpAny (Ag pg w) R (De tg env y) Q E sh
theorem LI.turn(K:Wk0 w R tg I wr fr items Src St)(J:LI h₀ env A W gs Src St ω h i ω₁ h₁)(S:SR w h₀ N env ω₁ s1 h₁){x:FV}(hx:items[i]?=some x)(a:Asg w h₀ N env R Z Src fr tg x s1 s2)(hV: ∀a,Z a→W a∧FW env a)(hw: ∀a∈wr,a∈gs∧W a)
  (k: ∀ω₂ h₂ tk,SR w h₀ N env ω₂ s2 h₂→LI h₀ env A W gs Src St ω h (i+1) ω₂ h₂→Step [] (λa=>Z a∨a∈wr) ω₁ h₁ ω₂ h₂→ω₂.c=ω₁.c→rest {sh with heap:=h₂,toks:=tk}):
  Ed w R tg (.ref I) env E en rest {sh with heap:=h₁,toks:=tk}:=
 have gw:Ghs h₀ env ω₁ h₁ wr:= λa ha=>J.g a (hw a ha).1
 Bo (K.turn ω₁.fz i x {sh with heap:=h₁,toks:=tk} (λv s=>wpAny (Ag pg w) R (De tg env v) (λ_ s=>rest s) E s) E hx J.src (λb hb=>(gw b hb).2.1) J.cur λv h2 tk2 new hn hs2 k2 fr2 st2=>Ja (S.ghosts gw hs2 k2 hn) λS2 p=>
  have J2:LI h₀ env A W gs Src St ω h (i+1) _ h2:=⟨J.st.trans (p.weak (C:=A) AY λa q=>(hw a q).2) (λ_ q=>q) (λ_ q=>q),J.g.step p,K.src _ _ _ _ J.src p.fz p.fzk,st2⟩
  a _ {sh with heap:=h2,toks:=tk2} v _ E S2 J2.src fr2 λh3 tk3 S3 st3 kf=>k _ h3 tk3 S3 (J2.step K st3 AY (λa q=>(hV a q).1) (λa q=>⟨(hw a q).1,λz=>(gw a q).2.2.2.2 (hV a z).2⟩) kf) ((p.weak (C:=[]) (λ_ q=>q) λ_ q=>.inr q).trans (st3.weak (C:=[]) (λ_ q=>q) λ_ q=>.inl q) (λ_ q=>q) (λ_ q=>q)) rfl)
  (λr=>by
   cases r with
   |none=>exact λ_ z=>z.elim
   |some v=>exact λ_ z=>z) (λ_ _ z=>z)
theorem LI.done(K:Wk0 w R tg I wr fr items Src St)(J:LI h₀ env A W gs Src St ω h items.length ω₁ h₁)(S:SR w h₀ N env ω₁ s1 h₁)(hw: ∀a∈wr,a∈gs∧W a)
  (k: ∀ω₂ h₂ tk,SR w h₀ N env ω₂ s1 h₂→Step A W ω h ω₂ h₂→Ghs h₀ env ω₂ h₂ gs→Step [] (λa=>a∈wr) ω₁ h₁ ω₂ h₂→ω₂.c=ω₁.c→en {sh with heap:=h₂,toks:=tk}):
  Ed w R tg (.ref I) env E en rest {sh with heap:=h₁,toks:=tk}:=
 K.done {sh with heap:=h₁,toks:=tk} _ _ J.cur λh2 tk2 hs2 k2=>Ja (S.ghosts (new:= λ_=>False) (λa ha=>J.g a (hw a ha).1) hs2 k2 (λ_ z=>z.elim)) λS2 p=>k _ h2 tk2 S2 (J.st.trans (p.weak (C:=A) AY λa q=>(hw a q).2) (λ_ q=>q) (λ_ q=>q)) (J.g.step p) p rfl
inductive ForI(w:A5)(h₀:Heap)(N:Names)(env:Env)(A:List Nat)(wr:List Addr)(Src:(Addr→Prop)→Heap→Prop)(St:Nat→Heap→Prop)(ω:Wd)(sh:Ac)(items:List FV)(Run:List FV→Mine.St→Prop)(m:Nat):Ac→Prop
 |mk {i:Nat} {ω₁:Wd} {σ:Mine.St} {h₁:Heap} {tk:Nat}:i+m=items.length→SR w h₀ N env ω₁ σ h₁→LI h₀ env A (λa=>FW env a∨a∈wr) wr Src St ω sh.heap i ω₁ h₁→Run (items.drop i) σ→ForI w h₀ N env A wr Src St ω sh items Run m {sh with heap:=h₁,toks:=tk}
def Ha(RR:BR→Ac→Prop)(again:Ac→Prop)(f:Flow)(s:Ac):Prop:=match f with
 |.next|.cont=>again s
 |.brk=>RR (.ok .next) s
 |.ret v=>RR (.ok (.ret v)) s
theorem RV{α:Type}{l:List α}{i m:Nat}(h:i+(m+1)=l.length): ∃x,l[i]?=some x∧l.drop i=x::l.drop (i+1):=
 have hi:i<l.length:=by rw [←h];exact H8 (FH _)
 ⟨_,Fc hi,L0t hi⟩
theorem A0i{t:Tg}{x:FV}(T:TgR N tg t)(hR:Rm n R)(K:Wk w R tg I wr fr items Src St)(e:t.put x s1=some s2):Asg w h₀ N env R (FW env) Src fr tg x s1 s2:=λ_ _ _ _ _ S a hy q=>K0r T hR S hy e λh' tk S' st=>q h' tk S' st λb hb=>st.fzk b (K.own _ _ a b hb)
inductive ForC(t:Tg)(b:Sv)(x:FV)(r:List FV)(s:Mine.St):Fl→Mine.St→Prop
 |rt {s2 s':Mine.St} {fl:Fl}:t.put x s=some s2→b s2=some (fl,s')→fl.isRt=true→ForC t b x r s fl s'
 |go {s2 s3 s':Mine.St} {f fl:Fl}:t.put x s=some s2→b s2=some (f,s3)→f.isRt=false→CB t b r s3=some (fl,s')→ForC t b x r s fl s'
theorem F0G{t:Tg}{b:Sv}{x:FV}{r:List FV}{fl:Fl}{s':Mine.St}(e:CB t b (x::r) s=some (fl,s')):ForC t b x r s fl s':=Ax e λp h e=>Ax (o:=t.put x s) (f:=b) h λ_ h1 h2=>HV e (λq e=>.rt h1 (h2.trans e) ((Dk e).1▸q)) λq e=>.go h1 h2 q e
theorem UQ{P:Flow→Prop}{fl:Fl}{f:Flow}(e:FlR w ω h fl f)(r:fl.isRt=true)(p: ∀x,FlR w ω h fl (.ret x)→P (.ret x)):P f:=by
 cases e with
 |rt e=>exact p _ (.rt e)
 |_=>exact noT r
theorem UP{P:Flow→Prop}{fl:Fl}{f:Flow}(e:FlR w ω h fl f)(r:fl.isRt=false)(p:P .next)(q:P .cont):P f:=by
 cases e with
 |nx=>exact p
 |ct=>exact q
 |rt e=>exact noF r
variable{t:Tg}{b:Sv}{X:(Flow→Ac→Prop)→Ac→Prop}{RR:BR→Ac→Prop}{s':Mine.St}{fl:Fl}{m:Nat}
section
variable(T:TgR N tg t)(hR:Rm n R)(Y:Wk w R tg I wr fr items Src St)
 (hb: ∀ω s s' fl sh Q,SR w h₀ N env ω s sh.heap→b s=some (fl,s')→PostS w h₀ N env A ω sh s' fl Q→X Q sh)
 (q: ∀ω' h' tk flow,SR w h₀ N env ω' s' h'→Step A (λa=>FW env a∨a∈wr) ω sh.heap ω' h'→FlR w ω' h' fl flow→RR (.ok flow) {sh with heap:=h',toks:=tk})
include T hR Y hb q
theorem F0K{x:FV}{r:List FV}(again:Ac→Prop)(hg: ∀ω₂ s2 h₂ tk,SR w h₀ N env ω₂ s2 h₂→LI h₀ env A (λa=>FW env a∨a∈wr) wr Src St ω sh.heap (i+1) ω₂ h₂→CB t b r s2=some (fl,s')→again {sh with heap:=h₂,toks:=tk})
  (S:SR w h₀ N env ω₁ s1 h₁) (J:LI h₀ env A (λa=>FW env a∨a∈wr) wr Src St ω sh.heap i ω₁ h₁) (hx:items[i]?=some x) (e:ForC t b x r s1 fl s'):
  Ed w R tg (.ref I) env E en (X (Ha RR again)) {sh with heap:=h₁,toks:=tk}:=by
 cases e with
 |rt e1 e2 r=>
  exact J.turn Y.toWk0 S hx (A0i T hR Y e1) (λ_ q=>⟨.inl q,q⟩) (λ_ q=>⟨q,.inr q⟩) λω2 h2 tk2 S2 J2 _ _=>hb ω2 _ _ _ {sh with heap:=h2,toks:=tk2} _ S2 e2 λω4 h4 tk4 flow S4 st4 hfl=>UQ (P:= λf=>Ha RR again f _) hfl r λ_ hfl=>q ω4 h4 tk4 _ S4 (J2.st.trans (st4.weak (λ_ q=>q) λ_ q=>.inl q) (λ_ q=>q) (λ_ q=>q)) hfl
 |go e1 e2 nr e3=>
  exact J.turn Y.toWk0 S hx (A0i T hR Y e1) (λ_ q=>⟨.inl q,q⟩) (λ_ q=>⟨q,.inr q⟩) λω2 h2 tk2 S2 J2 _ _=>hb ω2 _ _ _ {sh with heap:=h2,toks:=tk2} _ S2 e2 λω4 h4 tk4 flow S4 st4 hfl=>
   have fin:=hg ω4 _ h4 tk4 S4 (J2.step Y.toWk0 st4 (λ_ q=>q) (λ_ q=>.inl q) (λa q=>⟨q,(J2.g a q).2.2.2.2⟩) (Y.keeps J2 st4)) e3
   UP (P:= λf=>Ha RR again f _) hfl nr fin fin
theorem Xs{s₁:Ac}(J:ForI w h₀ N env A wr Src St ω sh items (λl σ=>CB t b l σ=some (fl,s')) m s₁):
  Ed w R tg (.ref I) env E (RR (.ok .next)) (X (Ha RR λs=> ∃m',m'<m∧ForI w h₀ N env A wr Src St ω sh items (λl σ=>CB t b l σ=some (fl,s')) m' s)) s₁:=by
 obtain @⟨i,_,_,_,_,hi,S,J,e⟩:=J
 cases m with
 |zero=>
  have hi:=(TX _).symm.trans hi
  rw [A07 (DC hi.symm)] at e
  have e:=BG (An e)
  exact (hi▸J).done Y.toWk0 S (λ_ q=>⟨q,.inr q⟩) λω₂ h₂ tk S2 st _ _ _=>q ω₂ h₂ tk .next (e.2▸S2) st (e.1▸.nx)
 |succ m=>exact (RV hi).elim λx hx=>F0K T hR Y hb q (r:=items.drop (i+1)) _ (λ_ _ _ _ S J e=>⟨m,C8 _,.mk (by rw [←hi,TS,J8 1]) S J e⟩) S J hx.1 (F0G (hx.2▸e))
end
theorem F0H{body:List Bm}(T:TgR N tg t)(hb:SoundB w h₀ n A N body b)(hR:Rm n R)
  (K:Wk w R tg I wr fr items Src St) (S:SR w h₀ N env ω s sh.heap) (g:Ghs h₀ env ω sh.heap wr) (hsrc:Src ω.fz sh.heap) (hst:St 0 sh.heap) (e:CB t b items s=some (fl,s'))
  (q: ∀ω' h' tk flow,SR w h₀ N env ω' s' h'→Step A (λa=>FW env a∨a∈wr) ω sh.heap ω' h'→FlR w ω' h' fl flow→RR (.ok flow) {sh with heap:=h',toks:=tk}):
  Dw (Ag pg w) R (.forLoop tg (.ref I) body [] env) RR sh:=
 B0x (ForI w h₀ N env A wr Src St ω sh items λl σ=>CB t b l σ=some (fl,s')) (λ_ _ J=>Bo (Xs (E:=Ph (Ag pg w) R env λe s'=>RR (.error e) s') (X:= λQ s=>wpAny (Ag pg w) R (HD body env) Q (Ph (Ag pg w) R env λe s'=>RR (.error e) s') s) T hR K (λ_ _ _ _ _ _ S e p=>hb R env _ _ _ _ _ _ _ hR S e p) q J) (λr s z=>by
  cases r with
  |none=>exact LP z
  |some v=>exact Bo z (λ_ _ z=>Bo z (λ_ _ z=>Bo z (λf _ z=>by cases f<;>exact z) λ_ _ z=>z) λ_ _ z=>z) λ_ _ z=>z) λ_ _ z=>z) items.length (.mk (Cc _) S (.start g hsrc hst) e)
end
section
variable{w:A5}{h₀:Heap}{N:Names}{env:Env}{ω ω':Wd}{h h':Heap}{s s1 s2:St}{n np:Nat}{A B C:List Nat}{mg mb:Str→Option Ab}{K:Frag}
theorem G00{α:Type}{c d:Bool}{x y:α}{P:α→Prop}(h:c=false)(q:P y):P (if (c&&d)=true then x else y):=by
 subst h
 exact q
theorem X8{elts:List Ak}{kd:Nat}{p:Pos}{I:Addr}{v:Ab}{o:Obj}{T:String}{R:Aw}{sh:Ac}{Q:Unit→Ac→Prop}{E:Ab→Ac→Prop}(ho:sh.heap.get? I=some o)(hc:o.cls=.type T)
  (hT:["enumerate","zip","dict_itemiterator","dict_reverseitemiterator","odict_iterator","itertools.zip_longest","itertools.pairwise"].contains T=false) (q:Q () sh):wpAny (Ag pg w) R (I8 (.Tuple elts kd p) (.ref I) v) Q E sh:=by
 cases v with
 |ref a=>
  refine Aq (JO ho ?_)
  cases o with
  |mk c d dat sl=>
   refine (hc:c=_)▸?_
   cases dat with
   |fields vs=>exact G00 (P:= λx=>wpAny (Ag pg w) R x Q E sh) hT (AJ q)
   |_=>exact AJ q
 |_=>exact AJ q
theorem X9{target:Ak}{I:Addr}{v:Ab}{o:Obj}{T:String}{R:Aw}{sh:Ac}{Q:Unit→Ac→Prop}{E:Ab→Ac→Prop}(ho:sh.heap.get? I=some o)(hc:o.cls=.type T)
  (hT:["enumerate","zip","dict_itemiterator","dict_reverseitemiterator","odict_iterator","itertools.zip_longest","itertools.pairwise"].contains T=false) (q:Q () sh):wpAny (Ag pg w) R (I8 target (.ref I) v) Q E sh:=by
 cases target with
 |Tuple elts kd p=>exact X8 ho hc hT q
 |List elts p=>exact X8 (elts:=elts) (kd:=0) (p:=p) ho hc hT q
 |_=>exact AJ q
theorem Wk0.of_walks{R:Aw}{target:Ak}{I:Addr}{fp wr fr:List Addr}{m:Nat}{P:Nat→Ab→Prop}{St:Nat→Heap→Prop}{items:List FV}{Src:(Addr→Prop)→Heap→Prop}(W:Walks pg w R I fp wr m P St)(hfp: ∀b∈fp,b∈wr∨b∈fr)(hlen:items.length=m)
  (hsrc: ∀fz fz' h h',Src fz h→(∀a,fz a→fz' a)→(∀a,fz a→∀o,h.get? a=some o→h'.get? a=some o)→Src fz' h')
  (hP: ∀fz h i x v,Src fz h→items[i]?=some x→P i v→FR w fz h x v)
  (hgo: ∀i (sh:Ac) (Q:Unit→Ac→Prop) (E:Ab→Ac→Prop) v,St i sh.heap→Q () sh→wpAny (Ag pg w) R (I8 target (.ref I) v) Q E sh):
  Wk0 w R target I wr fr items Src St where
 frame:= λi h h' st k=>W.frame i h h' st λb hb o e=>k b (hfp b hb) o e
 src:=hsrc
 turn:= λfz i x sh Q E hx hs hw hst q=>EF (W.item i sh _ _ (hlen▸(DN.mp hx).1) hst λv h' tk hp hst' k hsz=>hgo (i+1) {sh with heap:=h',toks:=tk} _ _ v hst'
  (q v h' tk (λ_=>False) (λ_ z=>z.elim) hsz k (FR.mono (λ_ z=>.inl z) (λa z o e=>k a o (λy=>hw a y z) e) (hP fz sh.heap i x v hs hx hp)) hst'))
 done:= λsh Q E hst q=>EF (W.done sh _ _ (hlen▸hst) λh' tk k hsz=>q h' tk hsz k)
 self:= λi sh Q E st q=>W.self i sh Q E st q
theorem Wk.of_walks{R:Aw}{target:Ak}{I:Addr}{fp wr fr:List Addr}{m:Nat}{P:Nat→Ab→Prop}{St:Nat→Heap→Prop}{items:List FV}{Src:(Addr→Prop)→Heap→Prop}(W:Walks pg w R I fp wr m P St)(hfp: ∀b∈fp,b∈wr∨b∈fr)(hlen:items.length=m)
  (hsrc: ∀fz fz' h h',Src fz h→(∀a,fz a→fz' a)→(∀a,fz a→∀o,h.get? a=some o→h'.get? a=some o)→Src fz' h') (hown: ∀fz h,Src fz h→∀b∈fr,fz b)
  (hP: ∀fz h i x v,Src fz h→items[i]?=some x→P i v→FR w fz h x v)
  (hgo: ∀i (sh:Ac) (Q:Unit→Ac→Prop) (E:Ab→Ac→Prop) v,St i sh.heap→Q () sh→wpAny (Ag pg w) R (I8 target (.ref I) v) Q E sh):
  Wk w R target I wr fr items Src St:=
 ⟨.of_walks W hfp hlen hsrc hP hgo,hown⟩
def PostI(w:A5)(h₀:Heap)(N:Names)(env:Env)(A:List Nat)(R:Aw)(tg:Ak)(ω:Wd)(sh:Ac)(s':St)(xs:List FV)(Q:Ab→Ac→Prop):Prop:=∀ω' h' tk I wr fr Src St,SR w h₀ N env ω' s' h'→StepE A ω sh.heap ω' h'→Wk w R tg I wr fr xs Src St→(∀a∈wr,sh.heap.objs.size≤a)→Ghs h₀ env ω' h' wr→Src ω'.fz h'→St 0 h'→Q (.ref I) {sh with heap:=h',toks:=tk}
def SoundI(w:A5)(h₀:Heap)(n:Nat)(A:List Nat)(N:Names)(tg e:Ak)(it:Iv):Prop:=
 ∀(R:Aw) (env:Env) (ω:Wd) (s s':St) (xs:List FV) (sh:Ac) (Q E:Ab→Ac→Prop),Rm n R→SR w h₀ N env ω s sh.heap→it s=some (xs,s')→PostI w h₀ N env A R tg ω sh s' xs Q→
  wpAny (Ag pg w) R (eval e env) (λx s₁=>wpAny (Ag pg w) R (GY x) Q E s₁) E sh
theorem PostI.of_step{R:Aw}{tg:Ak}{sh:Ac}{xs:List FV}{Q:Ab→Ac→Prop}{tk:Nat}(P:PostI w h₀ N env A R tg ω sh s xs Q)(st:StepE A ω sh.heap ω' h'):PostI w h₀ N env [] R tg ω' {sh with heap:=h',toks:=tk} s xs Q:=λω2 h2 tk2 I wr fr Src St S2 st2 W hw g hsrc hst=>P ω2 h2 tk2 I wr fr Src St S2 (st.trans st2 (λ_ q=>q) AY) W (λa ha=>A8 st.size (hw a ha)) g hsrc hst
theorem PostI.eq{R:Aw}{tg:Ak}{sh:Ac}{xs ys:List FV}{Q:Ab→Ac→Prop}(P:PostI w h₀ N env A R tg ω sh s1 xs Q)(e:(ys,s2)=(xs,s1)):PostI w h₀ N env A R tg ω sh s2 ys Q:=(BG e).1▸(BG e).2▸P
theorem FA{a:Addr}{P:Addr→Prop}(h:P a): ∀b∈[a],P b:= λ_ q=>(Bx.mp q).symm▸h
theorem Kv{o:Obj}{b:Nat}(S:SR w h₀ N env ω s h)(hb: ∀a,FW env a→a<h.objs.size):Ghs h₀ env ω (h.push o) [h.objs.size]:=
 have g:=Gh.push (o:=o) S
 FA ⟨g.ow,g.fz,S.lo,g.lt,λe=>Bu _ (hb _ e)⟩
theorem SR.fwlt(S:SR w h₀ N env ω s h): ∀a,FW env a→a<h.objs.size:= λa e=>(S.fr.off a e).2.2.2
theorem Ss{R:Aw}{tg:Ak}{sh:Ac}{Q:Ab→Ac→Prop}{a:Addr}{m tk:Nat}{o:Obj}{xs:List FV}{Rf:(Addr→Prop)→Heap→Prop}{P:Nat→Ab→Prop}{St:Nat→Heap→Prop}{T:String}(S:SR w h₀ N env ω s sh.heap)(hfz:ω.fz a)
  (W:Walks pg w R sh.heap.objs.size [sh.heap.objs.size,a] [sh.heap.objs.size] m P St) (hlen:xs.length=m) (mono: ∀fz fz' h h',(∀a,fz a→fz' a)→(∀a,fz a→∀o,h.get? a=some o→h'.get? a=some o)→Rf fz h→Rf fz' h')
  (hP: ∀fz h i x v,Rf fz h→xs[i]?=some x→P i v→FR w fz h x v) (hT:["enumerate","zip","dict_itemiterator","dict_reverseitemiterator","odict_iterator","itertools.zip_longest","itertools.pairwise"].contains T=false)
  (hgo: ∀i h,St i h→∃o,h.get? sh.heap.objs.size=some o∧o.cls=.type T) (r:Rf ω.fz sh.heap) (st0:St 0 (sh.heap.push o)) (q:PostI w h₀ N env [] R tg ω sh s xs Q):Q (.ref sh.heap.objs.size) {sh with heap:=sh.heap.push o,toks:=tk}:=
 have G:=DT (ω:=ω) (h:=sh.heap) o
 q ω _ tk sh.heap.objs.size [sh.heap.objs.size] [a] (λfz h=>fz a∧Rf fz h) St (S.grow G) G.step (Wk.of_walks W (λb hb=>(AW.mp hb).imp_left λ(z:b=sh.heap.objs.size)=>Bx.mpr z) hlen (λfz fz' h h' e hf hk=>⟨hf _ e.1,mono fz fz' h h' hf hk e.2⟩) (λfz h e=>FA e.1) (λfz h i x v e=>hP fz h i x v e.2)
  λi sh' Q E v st hq=>Dt (hgo i _ st) λo o1 o2=>X9 o1 o2 hT hq) (FA (A9 _)) (Kv (b:=0) S S.fwlt) ⟨hfz,mono _ _ _ _ G.fz (λa _ o q=>G.keep a o q) r⟩ st0
theorem Z9{fz:Addr→Prop}{ys:Array Ab}{xs:List FV}{i:Nat}{x:FV}{v:Ab}(r:FRs w fz h xs ys.toList)(hx:xs[i]?=some x)(hp:ys[i]?=some v):FR w fz h x v:=RelL.get r hx λy e q=>An (e.symm.trans (I0.trans hp))▸q
theorem G0L{R:Aw}{tg:Ak}{sh:Ac}{Q:Ab→Ac→Prop}{E:Ab→Ac→Prop}{a:Addr}{ys:Array Ab}{m:Nat}{xs:List FV}(hR:Rm n R)(S:SR w h₀ N env ω s sh.heap)(hfz:ω.fz a)(h1:sh.heap.get? a=some (C5 ys m))(h2:FRs w ω.fz sh.heap xs ys.toList)
  (q:PostI w h₀ N env [] R tg ω sh s xs Q):wpAny (Ag pg w) R (GY (.ref a)) Q E sh:=
 have hl:sh.heap.IsList a ys:=⟨_,h1,rfl,m,rfl⟩
 N0t hl (Ss (Rf:= λfz h=>FRs w fz h xs ys.toList) S hfz (M0O hR.1 _ a (λz=>Bu _ (z▸Bz h1)) ys) (h2.length.trans DB) (λ_ _ _ _=>FRs.mono) (λ_ _ _ _ _=>Z9) (T:= "list_iterator") (by decide) (λ_ _ st=>st.1.imp λo r=>⟨r.1,r.2.1⟩) h2 ⟨⟨_,BQ _ rfl,rfl,rfl⟩,hl.push _⟩ q)
theorem G0M{R:Aw}{tg:Ak}{sh:Ac}{Q:Ab→Ac→Prop}{E:Ab→Ac→Prop}{a:Addr}{ys:Array Ab}{xs:List FV}(hR:Rm n R)(S:SR w h₀ N env ω s sh.heap)(hfz:ω.fz a)(h1:sh.heap.IsTuple a ys)(h2:FRs w ω.fz sh.heap xs ys.toList)
  (q:PostI w h₀ N env [] R tg ω sh s xs Q):wpAny (Ag pg w) R (GY (.ref a)) Q E sh:=
 wpAny_pyIter_tuple h1 (Ss (Rf:= λfz h=>FRs w fz h xs ys.toList) S hfz (Walks.tuple hR.1 _ a (λz=>h1.elim λ_ r=>Bu _ (z▸Bz r.1)) ys) (h2.length.trans DB) (λ_ _ _ _=>FRs.mono) (λ_ _ _ _ _=>Z9) (T:= "tuple_iterator") (by decide) (λ_ _ st=>st.1.imp λo r=>⟨r.1,r.2.1⟩) h2 ⟨⟨_,BQ _ rfl,rfl,rfl⟩,h1.imp λ_ r=>r.imp_left (Dd _)⟩ q)
theorem SoundI.of{tg e:Ak}{f:Ev}(hf:Sound w h₀ n A N e f):SoundI w h₀ n A N tg e (I.of f):=
 λR env ω s s' xs sh Q E hR S q k=>Ax q λp e1 e=>hf R env ω s p.2 p.1 sh _ E hR S e1 λω1 h1 tk1 y S1 st1 vy=>V.onFR e vy λx f e=>by
  cases x with
  |lst zs=>exact Dx (P:= λy=>wpAny _ _ (GY y) Q E _) f λa z r=>r.casesOn λys m r1 r2=>G0L (sh:={sh with heap:=h1,toks:=tk1}) hR S1 z r1 (Dh w _ h1 zs▸r2) ((k.of_step st1).eq (An e))
  |tup zs=>exact Dx (P:= λy=>wpAny _ _ (GY y) Q E _) f λa z r=>r.casesOn λys r1 r2=>G0M (sh:={sh with heap:=h1,toks:=tk1}) hR S1 z r1 (Dh w _ h1 zs▸r2) ((k.of_step st1).eq (An e))
  |_=>exact noS e
theorem Step.drop{W W':Addr→Prop}(st1:Step A W' ω h ω' h'){ω₂:Wd}{h₂:Heap}{wr:List Addr}(st2:Step B (λa=>W a∨a∈wr) ω' h' ω₂ h₂)(hw: ∀a∈wr,h.objs.size≤a)(hW: ∀a,W' a→W a)(hA: ∀k∈A,k∈C)(hB: ∀k∈B,k∈C):Step C W ω h ω₂ h₂:=by
 have st:=(st1.weak hA (W':= λa=>W a∨a∈wr) λa e=>.inl (hW a e)).trans (st2.weak hB λ_ q=>q) (C:=C) (λ_ q=>q) (λ_ q=>q)
 exact ⟨st.size,λa e n o q=>st.keep a e (λz=>z.elim n λz=>absurd (Bz q) (DY.mpr (hw a z))) o q,st.fz,st.fzk,st.fznew,st.ownew,st.g,st.d⟩
theorem SoundS.for{tg iter:Ak}{t:Tg}{body:List Bm}{b:Sv}{it:Iv}{pos:Pos}(T:TgR N tg t)(hi:SoundI w h₀ n A N tg iter it)(hb:SoundB w h₀ n A N body b)(hfs: ∀env x,FL iter env x=pure x:=by exact λ_ _=>by left):SoundS w h₀ n A N (.For tg iter body [] pos) (Bn t it b):=
 λR env ω s s' fl sh Q E hR S q P=>Ax q λp e1 e=>B0D (hi R env ω s p.2 p.1 sh _ _ hR S e1 λω1 h1 tk1 I wr fr Src St S1 st1 W hw g hsrc hst=>F0H (sh:={sh with heap:=h1,toks:=tk1}) T hb hR W S1 g hsrc hst e λω2 h2 tk2 flow S2 st2 hfl=>P _ _ _ _ S2 (Step.drop (W:=FW env) (B5 st1 (W:=FW env)) st2 hw (λ_ q=>q) (λ_ q=>q) (λ_ q=>q)) hfl) (hfs env)
theorem J0L{i:Int}(h:small i=true):M0q 0 i 1=true:=by
 unfold small lim at h
 simp only [Bv,decide_eq_true_eq] at h
 unfold M0q O0v
 rw [N0e]
 have h0:(1:Int)>0:=by decide
 simp only [Bv,O6,decide_eq_true_eq,if_pos h0,beq_iff_eq]
 refine ⟨⟨⟨⟨⟨by omega,by omega⟩,⟨by omega,by omega⟩⟩,⟨by omega,by omega⟩⟩,?_⟩,.inr ⟨by omega,by omega⟩⟩
 split<;>exact ⟨by omega,by omega⟩
theorem J0m(i:Int)(j:Nat)(x:FV)(h:((FF i.toNat).map λj=>FV.int (j:Nat))[j]?=some x):x=.int (j:Nat):=AV (CH.symm.trans h) λk h1 h2=>(DN.mp h1).elim λ_ q=>h2▸congrArg (λz:Nat=>FV.int z) ((Au q).trans (List.getElem_range ..))
theorem J0E(i:Int):M0p 0 i 1=((i.toNat:Nat):Int):=by
 rw [N0e]
 split<;>omega
theorem MG{tg e:Ak}{nm:Str}{p pos:Pos}{f:Ev}(B:Base h₀ mg mb)(b:Blt mg N.gs nm (.type "range"))(hf:Sound w h₀ n A N e f)(hs: ∀env,AR [e] env=[(false,eval e env)]):SoundI w h₀ n A N tg (.Call (.Name nm p) [e] [] pos) (I.range f):=
 λR env ω s s' xs sh Q E hR S q k=>Ax q λp e1 q=>JE (Gf B b S (Pb (hf R env ω s p.2 p.1 sh _ E hR S e1 λω1 h1 tk1 y S1 st1 vy=>
  V.onFR q vy λx f q=>FP (P:= λy=>wpAny _ _ (call (.type "range") [y]) _ E _) q f λi t q=>ifE q λhsm q=>call_range_1 (by
   have G1:=DT (ω:=ω1) (h:=h1) {cls:=.type "range",data:=.fields #[.int 0 tk1,.int i t,.int 1 (tk1+1)]}
   refine wpAny_pyIter_range (s:={sh with heap:=h1.push {cls:=.type "range",data:=.fields #[.int 0 tk1,.int i t,.int 1 (tk1+1)]},toks:=tk1+1+1}) (a:=0) (b:=i) (c:=1) (t:=tk1) (u:=t) (v:=tk1+1) (BQ _ rfl) (J0L hsm) ?_
   have S2:=S1.grow G1
   have G2:=DT (ω:=ω1) (h:=h1.push {cls:=.type "range",data:=.fields #[.int 0 tk1,.int i t,.int 1 (tk1+1)]}) {cls:=.type "range_iterator",data:=.fields #[IA 0,IA (M0p 0 i 1),IA 1]}
   exact (k.eq (An q)) ω1 _ (tk1+1+1) _ [(h1.push {cls:=.type "range",data:=.fields #[.int 0 tk1,.int i t,.int 1 (tk1+1)]}).objs.size] [] (λ_ _=>True) _ (S2.grow G2) ((st1.trans G1.step (λ_ q=>q) AY (C:=A)).trans G2.step (λ_ q=>q) AY)
    (Wk.of_walks (Walks.range hR.1 _ 0 1 i.toNat) (λb hb=>.inl hb) (by rw [AD,A0E]) (λ_ _ _ _ _ _ _=>trivial) (λ_ _ _ _ h=>(Lp h).elim) (λfz h j x v _ hx hp=>Au (J0m i j x hx)▸hp.imp λt e=>e.trans (by rw [L0o,Int.mul_one])) (λj sh' Q E v st hq=>X9 (T:= "range_iterator") (st:sh'.heap.get? _=some _) rfl (by decide) hq)) (FA (A8 st1.size G1.size)) (Kv (b:=0) S2 S2.fwlt) trivial
    (by show Heap.get? _ _=some _;rw [BQ _ rfl,J0E];simp))))) (hs env)
theorem G0K{R:Aw}{tg:Ak}{sh:Ac}{Q:Ab→Ac→Prop}{E:Ab→Ac→Prop}{a:Addr}{kvs:List (Str×Ab)}{es:List (Nm×FV)}(hR:Rm n R)(S:SR w h₀ N env ω s sh.heap)(hfz:ω.fz a)(hs:(a==Ec)=false)(h1:sh.heap.DictOf (strKind pg w) a kvs)(h2:FRd w ω.fz sh.heap es kvs)
  (q:PostI w h₀ N env [] R tg ω sh s (es.map λe=>.str e.1) Q):wpAny (Ag pg w) R (GY (.ref a)) Q E sh:=
 h1.dictAt.elim λep hd=>F5 (id hd) λoo ees h1' h1''=>N0r hs hd (Ss (Rf:= λfz h=>FRd w fz h es kvs) S hfz (M0N (knd:=strKind pg w) hR.1 sh.heap.objs.size a (λz=>Bu _ (z▸Bz h1')) kvs ep) ((AD ..).trans (RelL.len h2)) (λ_ _ _ _=>FRd.mono)
  (λfz h i x v e hx hp=>AV (CH.symm.trans hx) λen h1 h2=>RelL.get e h1 λy hy r=>r.casesOn λz e1 _=>F5 hp λk z' p1 p2=>h2▸(HB p2).imp λt ht=>ht.trans (congrArg (λk=>B0l k t) (BG ((An (p1.symm.trans hy)).trans e1)).1)) (T:= "dict_keyiterator") (by decide) (λ_ _ st=>st.1.imp λo r=>⟨r.1,r.2.1⟩) h2 ⟨⟨_,BQ _ rfl,rfl,rfl⟩,oo,ees,Dd _ h1',h1''⟩ q)
theorem D0g{tg e:Ak}{f:Ev}(hf:Sound w h₀ n A N e f):SoundI w h₀ n A N tg e (UT f):=
 λR env ω s s' xs sh Q E hR S q k=>Ax q λp e1 q=>hf R env ω s p.2 p.1 sh _ E hR S e1 λω1 h1 tk1 y S1 st1 vy=>V.onFR q vy λx f q=>UJ (P:= λy=>wpAny _ _ (GY y) Q E _) q f λes a z g r q=>r.casesOn λkvs r1 r2=>G0K (sh:={sh with heap:=h1,toks:=tk1}) hR S1 z g r1 r2 ((k.of_step st1).eq (An q))
theorem Wk.of_walksT{R:Aw}{elts:List Ak}{kd:Nat}{tp:Pos}{I:Addr}{fp wr fr:List Addr}{m:Nat}{Pt:Nat→Array Ab→Prop}{St:Nat→Heap→Prop}{Mid:Nat→Addr→Heap→Prop}{items:List FV}{Src:(Addr→Prop)→Heap→Prop}(W:WalksT pg w R I fp wr m Pt St Mid)(hfp: ∀b∈fp,b∈wr∨b∈fr)(hlen:items.length=m)
  (hsrc: ∀fz fz' h h',Src fz h→(∀a,fz a→fz' a)→(∀a,fz a→∀o,h.get? a=some o→h'.get? a=some o)→Src fz' h') (hown: ∀fz h,Src fz h→∀b∈fr,fz b)
  (hP: ∀fz h i x vals T,Src fz h→fz T→items[i]?=some x→Pt i vals→h.IsTuple T vals→FR w fz h x (.ref T)):
  Wk w R (.Tuple elts kd tp) I wr fr items Src St where
 frame:= λi h h' st k=>W.frame i h h' st λb hb o e=>k b (hfp b hb) o e
 src:=hsrc
 own:=hown
 turn:= λfz i x sh Q E hx hs hw hst q=>EF (W.item i sh _ _ (hlen▸(DN.mp hx).1) hst λT vals h' tk hp hT hTt hmid k hsz=>
  EF (W.go elts kd tp i T {sh with heap:=h',toks:=tk} _ _ hmid λh2 hst2 k2 hsz2=>hTt.elim λoo e=>
   have kk: ∀b o,b∉wr→sh.heap.get? b=some o→h2.get? b=some o:= λb o hb e=>k2 b o hb (k b o hb e)
   have e1':=k2 T oo (W.apart i T h' hmid) e.1
   q (.ref T) h2 tk (λa=>a=T) (λa (ha:a=T)=>Au ha▸⟨hT,Bz e1'⟩) (A8 hsz hsz2) kk
    (hP (λa=>fz a∨a=T) h2 i x vals T (hsrc _ _ _ _ hs (λ_ z=>.inl z) (λa z o e=>kk a o (λy=>hw a y z) e)) (.inr rfl) hx hp ⟨oo,e1',e.2⟩) hst2))
 done:= λsh Q E hst q=>EF (W.done sh _ _ (hlen▸hst) λh' tk k hsz=>q h' tk hsz k)
 self:= λi sh Q E st q=>W.self i sh Q E st q
theorem F0y: ∀(xs:List FV) (k:Nat),(Hl k xs).length=xs.length:= λxs=>by
 induction xs with
 |nil=>exact λ_=>rfl
 |cons x r ih=>exact λk=>congrArg (· +1) (ih (k+1))
theorem F0x{P:FV→Prop}: ∀(xs:List FV) (k i:Nat) (x:FV),(Hl k xs)[i]?=some x→(∀y,xs[i]?=some y→P (.tup [.int ((k+i:Nat):Int),y]))→P x:= λxs=>by
 induction xs with
 |nil=>exact λ_ _ _ h _=>noS h
 |cons a r ih=>
  intro k i x
  cases i with
  |zero=>exact λh q=>(An h:_=x)▸q a rfl
  |succ i=>exact λh q=>ih (k+1) i x h λy e=>Au (Fg k i)▸q y e
theorem IP{elts:List Ak}{kd:Nat}{tp:Pos}{e:Ak}{nm:Str}{p pos:Pos}{f:Ev}(B:Base h₀ mg mb)(b:Blt mg N.gs nm (.type "enumerate"))(hf:Sound w h₀ n A N e f)(hs: ∀env,AR [e] env=[(false,eval e env)]):
  SoundI w h₀ n A N (.Tuple elts kd tp) (.Call (.Name nm p) [e] [] pos) (Gy f):=
 λR env ω s s' xs sh Q E hR S q k=>Ax q λp e1 q=>JE (Gf B b S (Pb (hf R env ω s p.2 p.1 sh _ E hR S e1 λω1 h1 tk1 y S1 st1 vy=>
  V.onFR q vy λx f q=>Mi (P:= λy=>wpAny _ _ (call (.type "enumerate") [y]) _ E _) q f λxs' a z1 l q=>l.casesOn λys m z2 z3=>by
   have hl:h1.IsList a ys:=⟨_,z2,rfl,m,rfl⟩
   refine call_enumerate_list (s:={sh with heap:=h1,toks:=tk1}) hl λh2 he hi hsz keep=>?_
   have hsz:h2.objs.size=h1.objs.size+2:=hsz
   have ha:a<h1.objs.size:=Bz z2
   have G:Grow ω1 h1 ω1 h2:=DP (hsz▸E4 _ 2) keep
   have new: ∀b,h1.objs.size≤b→b<h2.objs.size→ω1.ow b=none∧¬ω1.fz b∧h₀.objs.size≤b∧b<h2.objs.size∧¬FW env b:= λb hb hlt=>⟨GG λz=>Bu _ (Bc (S1.low b z).2 hb),λz=>Bu _ (Bc (S1.fzlt b z).1 hb),A8 S1.lo hb,hlt,λz=>Bu _ (Bc (S1.fwlt b z) hb)⟩
   exact wpAny_pyIter_enum (s:={sh with heap:=h2,toks:=tk1}) he ((k.eq (An q)) ω1 h2 tk1 (h1.objs.size+1) [h1.objs.size+1,h1.objs.size] [a] (λfz h=>fz a∧FRs w fz h xs' ys.toList) _ (S1.grow G) (st1.trans G.step (λ_ q=>q) AY)
    (Wk.of_walksT (WalksT.enumerate hR.1 (h1.objs.size+1) h1.objs.size a (TZ _) (C4 (FG ha)) (C4 ha) ys) (λb hb=>(C7 (s:=[h1.objs.size+1,h1.objs.size]) (t:=[a])).mp hb) ((F0y ..).trans (z3.length.trans DB)) (λfz fz' h h' e hf hk=>⟨hf _ e.1,FRs.mono hf hk e.2⟩) (λfz h e=>FA e.1)
     (λfz h i x vals T e hT hx hp ht=>F0x (P:= λx=>FR w fz h x (.ref T)) xs' 0 i x hx λy y1=>F5 hp λt v p1 p2=>RelL.get e.2 y1 λv' v1 v2=>⟨T,rfl,hT,vals,ht,(congrArg L0a p2).symm▸(Dh w fz h _).symm▸RelL.mk ⟨t,by rw [Cc]⟩ (RelL.one (An (v1.symm.trans (I0.trans p1))▸v2))⟩))
    (Fb.mpr ⟨A8 st1.size (CZ _),FA st1.size⟩) (Fb.mpr ⟨new _ (CZ _) (hsz▸C8 _),FA (new _ (A9 _) (hsz▸FG (C8 _)))⟩) ⟨z1,FRs.mono G.fz (λa _ o q=>G.keep a o q) z3⟩ ⟨⟨_,he⟩,hi,⟨_,keep _ _ z2,rfl,m,rfl⟩⟩)))) (hs env)
theorem Wk.items{R:Aw}{elts:List Ak}{kd:Nat}{tp:Pos}{it d:Addr}{es:List (Nm×FV)}{kvs:List (Str×Ab)}{ep:Nat}(hh:R.handled=none)(hne:d≠it)(hl:es.length=kvs.length):
  Wk w R (.Tuple elts kd tp) it [it] [d] (es.map λe=>.tup [.str e.1,e.2]) (λfz h=>fz d∧FRd w fz h es kvs) (λi h=>(∃ok ov,Lz h it d i kvs.length ep ok ov)∧h.DictAt (strKind pg w) d kvs ep) where
 frame:= λi h h' st k=>⟨st.1.imp λok r=>r.imp λov e=>k it (.inl (.head _)) _ e,F5 st.2 λo ees e2 e3=>⟨o,ees,k d (.inr (.head _)) _ e2,e3⟩⟩
 src:= λfz fz' h h' e hf hk=>⟨hf _ e.1,FRd.mono hf hk e.2⟩
 own:= λfz h e=>FA e.1
 turn:= λfz i x sh Q E hx hs hw hst q=>Nq hst.1 λok ov e1=>AV (CH.symm.trans hx) λen hx1 hx2=>RelL.get hs.2 hx1 λy y1 r=>r.casesOn λy ye y2=>F5 hst.2 λo ees e3 e4=>
  N0v e1 hst.2 (y1.trans (congrArg some ye)) λkey h2 hk hout hT hsz keep=>N0n (s:={sh with heap:=h2}) hout λh3 hi hsb=>
   have k3: ∀b o,b≠it→sh.heap.get? b=some o→h3.get? b=some o:= λb o hb e=>(hsb.2 b hb).trans (keep b o hb e)
   have hT3:h3.get? sh.heap.objs.size=some {cls:=.type "tuple",data:=.seq #[key,y]}:=(hsb.2 _ λz=>Bu _ (z▸Bz e1)).trans hT
   have ni: ∀{b:Addr},b∉[it]→b≠it:= λn z=>n (Bx.mpr z)
   q (.ref sh.heap.objs.size) h3 sh.toks (λa=>a=sh.heap.objs.size) (λa (ha:a=sh.heap.objs.size)=>Au ha▸⟨A9 _,Bz hT3⟩) (A8 (hsz▸CZ _:sh.heap.objs.size≤h2.objs.size) (DC hsb.1.symm)) (λb o hb e=>k3 b o (ni hb) e)
    (hx2▸⟨_,rfl,.inr rfl,#[key,y],⟨_,hT3,rfl,0,rfl⟩,(Dh w _ h3 _).symm▸RelL.mk (HB hk) (RelL.one (FR.mono (λ_ z=>.inl z) (λa z o e=>k3 a o (λy=>hw it (.head _) (y▸z)) e) y2))⟩) ⟨⟨_,_,hi⟩,o,ees,k3 d o hne e3,e4⟩
 done:= λsh Q E hst q=>Nq hst.1 λok ov e1=>EF (N0u hh ((AD ..).trans hl▸e1) hst.2 (GN (A9 _)) λh' he hsz=>q h' sh.toks hsz λb o hb e=>he b o (λz=>hb (Bx.mpr z)) e)
 self:= λi sh Q E st q=>Nq st.1 λok ov e1=>
  have hT:sh.TypeIs (.ref it) "dict_itemiterator":=⟨_,e1,rfl⟩
  wpAny_pyIter_slot hT M03 (B0G M03 hT kcp_entry (by
   show wpAny _ _ (ret (.ref it)) _ _ sh
   exact AJ ⟨_,rfl,"dict_itemiterator",_,hT,PySem.F.slot_dict_itemiterator_next.lookup,q⟩) (PySem.F.args_dict_itemiterator_iter_1 _))
structure MCall0(o:Ak)(nm:Str)(apos pos:Pos)(T id:String):Prop where
 base: ∀env,Uw o nm env (eval o env)=eval o env
 line:(apos.endLine==pos.line)=true
 attrs:PlainAttrs T
 slot:Slot T nm id
 ty:typeOf (.builtin id)=pure (.type "method_descriptor")
theorem VM{elts:List Ak}{kd:Nat}{tp:Pos}{o:Ak}{nm:Str}{apos pos:Pos}{f:Ev}(M:MCall0 o nm apos pos "dict" "dict.items")(hf:Sound w h₀ n A N o f):
  SoundI w h₀ n A N (.Tuple elts kd tp) (.Call (.Attribute o nm apos) [] [] pos) (I.items f):=
 λR env ω s s' xs sh Q E hR S q k=>Ax q λp e1 q=>LN (args:=[]) (M.base env) rfl M.line M.attrs M.slot M.ty (hf R env ω s p.2 p.1 sh _ E hR S e1 λω1 h1 tk1 y S1 st1 vy=>V.onFR q vy λx f q=>UH q λes hx q=>Fz.casesOn (hx▸f:FR w ω1.fz h1 (.dct es) y) λd hy z1 z=>z.2.casesOn λkvs z2 z3=>Au hy▸by
  have z3:FRd w ω1.fz h1 es kvs:=HK w _ h1 es▸z3
  refine ⟨z2.typeIs (s:={sh with heap:=h1,toks:=tk1}),(K0 (sh:={sh with heap:=h1,toks:=tk1}) z2).2,A0Q (JJ (s:={sh with heap:=h1,toks:=tk1}) OS z2.typeIs M02 (M00 _) (N0c (strKind pg w) d z.1) ⟨⟨kvs,z2⟩,?_⟩)⟩
  have G1:=DT (ω:=ω1) (h:=h1) {cls:=.type "dict_items",data:=.fields #[.ref d]}
  have S2:=S1.grow G1
  refine (z2.push {cls:=.type "dict_items",data:=.fields #[.ref d]}).dictAt.elim λep hd=>F5 (id hd) λoo ees d1 d2=>N0s (s:={sh with heap:=h1.push {cls:=.type "dict_items",data:=.fields #[.ref d]},toks:=tk1}) ⟨_,BQ _ rfl,rfl,rfl⟩ hd ?_
  have G2:=DT (ω:=ω1) (h:=h1.push {cls:=.type "dict_items",data:=.fields #[.ref d]}) {cls:=.type "dict_itemiterator",data:=.fields #[.none,.bool false,.ref d,.int 0 0,.int kvs.length 0,.int ep 0,.none,.none]}
  exact (k.eq (An q)) ω1 _ tk1 _ [(h1.push {cls:=.type "dict_items",data:=.fields #[.ref d]}).objs.size] [d] _ _ (S2.grow G2) ((st1.trans G1.step (C:=A) (λ_ q=>q) AY).trans G2.step (λ_ q=>q) AY) (Wk.items (es:=es) (kvs:=kvs) (ep:=ep) hR.1 (λe=>Bu _ (Bc (S1.fzlt d z1).1 (A8 G1.size (DC e.symm)))) (RelL.len z3))
   (FA (A8 st1.size G1.size)) (Kv (b:=0) S2 S2.fwlt) ⟨z1,FRd.mono (λ_ q=>q) (λa _ o q=>G2.keep a o (G1.keep a o q)) z3⟩ ⟨⟨.none,.none,BQ _ rfl⟩,oo,ees,G2.keep _ _ d1,d2⟩)
inductive WhI(w:A5)(h₀:Heap)(N:Names)(env:Env)(A:List Nat)(ω:Wd)(sh:Ac)(Run:Nat→Mine.St→Prop)(m:Nat):Ac→Prop
 |mk {ω₁:Wd} {σ:Mine.St} {h₁:Heap} {tk:Nat}:SR w h₀ N env ω₁ σ h₁→Step A (FW env) ω sh.heap ω₁ h₁→Run m σ→WhI w h₀ N env A ω sh Run m {sh with heap:=h₁,toks:=tk}
theorem VN{t:Ak}{body:List Bm}{pos:Pos}{fuel:Nat}{c:Cv}{b:Sv}(hc:SoundC w h₀ n A N t c)(hb:SoundB w h₀ n A N body b):SoundS w h₀ n A N (.While t body [] pos) (Rb fuel c b):=
 λR env ω s s' fl sh Q E hR S q P=>wpAny_While (codeAny_whileLoop (WhI w h₀ N env A ω sh λm σ=>GL c b m σ=some (fl,s')) (λm s₁ I=>by
  cases I with
  | @mk ω₁ σ h₁ tk₁ S₁ st₁ e=>
   cases m with
   |zero=>exact noS e
   |succ m=>
    refine Ax e λp e1 e=>hc R env ω₁ σ p.2 p.1 {sh with heap:=h₁,toks:=tk₁} _ _ hR S₁ e1 λω2 h2 tk2 S2 st2=>?_
    have st2:=st₁.trans (B5 st2) (C:=A) (λ_ q=>q) (λ_ q=>q)
    refine Jg e (λ_ e=>?_) λ_ e=>LP (P.eq (An e) _ _ _ _ S2 st2 .nx)
    refine Ax e λr e1 e=>?_
    cases r with
    |mk f σ3=>
     refine hb R env ω2 p.2 σ3 f {sh with heap:=h2,toks:=tk2} _ _ hR S2 e1 λω3 h3 tk3 flow S3 st3 hfl=>?_
     have st3:=st2.trans st3 (C:=A) (λ_ q=>q) (λ_ q=>q)
     refine HV e (λz e=>?_) λz e=>?_
     ·cases hfl with
      |rt vx=>exact P.eq (An e) _ _ _ _ S3 st3 (.rt vx)
      |_=>exact noT z
     ·cases hfl with
      |rt=>exact noF z
      |_=>exact ⟨m,C8 _,.mk S3 st3 e⟩) fuel (.mk S (Step.refl.weak AY λ_ h=>h) q))
theorem SoundS.forNever{tg iter:Ak}{t:Tg}{body:List Bm}{it:Iv}{pos:Pos}(T:TgR N tg t)(hi:SoundI w h₀ n A N tg iter it)(hfs: ∀env x,FL iter env x=pure x):SoundS w h₀ n A N (.For tg iter body [] pos) (MC it):=
 λR env ω s s' fl sh Q E hR S q P=>Ax q λp q1 q=>B0D (hi R env ω s p.2 p.1 sh _ _ hR S q1 λω1 h1 tk1 I wr fr Src St S1 st1 W hw g hsrc hst=>B0x (λm s₁=>s₁={sh with heap:=h1,toks:=tk1}) (λm s₁ hI=>by
  rw [hI]
  cases z:p.1 with
  |nil=>exact (z▸W).done {sh with heap:=h1,toks:=tk1} _ _ hst λh2 tk2 hs2 k2=>Ja (S1.ghosts (new:= λ_=>False) g hs2 k2 (λ_ z=>z.elim)) λS2 stp2=>LP ((P.eq (by rw [z] at q;exact An q)) _ _ _ _ S2 (Step.drop (W:=FW env) (B5 st1 (W:=FW env)) (stp2.weak (C:=A) AY λ_ q=>.inr q) hw (λ_ q=>q) (λ_ q=>q) (λ_ q=>q)) .nx)
  |cons x r=>rw [z] at q;exact noS q) 0 rfl) (hfs env)
theorem D0m{c:Bm}:SoundS w h₀ n A N c FQ:= λ_ _ _ _ _ _ _ _ _ _ _ q _=>noS q
theorem IM{c:List Bm}:SoundB w h₀ n A N c FQ:= λ_ _ _ _ _ _ _ _ _ _ _ q _=>noS q
theorem VG{k:Nat}{e:Ak}{f:Ev}(B:Base h₀ mg mb)(hf:Sound w h₀ n A N e f):Sound w h₀ n A N e (JW k f):=
 λR env ω s s' v sh Q E hR S q P=>Ax q λp q1 q=>V.onGE q λj hj q=>ifE q λhk q=>Ax q λo hc q=>Ax q λx hx q=>AV q λs2 hz q=>
  hf R env ω s p.2 p.1 sh _ E hR S q1 λω1 h1 tk1 y S1 st1 vy=>Dt (Ql (b:=false) B S1 (S1.g k o hc) hx) λa ha hfr=>Dt (hj▸vy:VR w ω1 h1 (.g j) y) λa' y1 y2=>
   have st:StepE A ω sh.heap (ω1.frz false k) h1:=⟨st1.toStep.trans (Step.frz false k) (λ_ q=>q) AY,st1.c⟩
   P.eq q _ _ _ _ (Xv S1 hc hx ha hfr hz) st (Au (y2.trans (congrArg OV (An (y1.symm.trans (GQ hk▸ha)))))▸hfr)
end
noncomputable def F3(env:Env):List (Str×EG)→List (Str×Addr)→List (Str×Addr)
 |[],acc=>acc
 |(x,k)::r,acc=>if k==.free then F3 env r ((x,(env.cells.lookup x).getD 0)::acc) else F3 env r acc
theorem R4{env:Env}{f:Str×EG→List (Str×Addr)→Sem (ForInStep (List (Str×Addr)))}(hf: ∀x k acc,f (x,k) acc=if k==.free then (do let a←Uz env x;pure (.yield ((x,a)::acc))) else pure (.yield acc)):
  ∀(l:List (Str×EG)) (acc:List (Str×Addr)),(∀p∈l,p.2=.free→(env.cells.lookup p.1).isSome=true)→forIn l acc f=(pure (F3 env l acc):Sem _)
 |[],acc,_=>rfl
 |(x,k)::r,acc,h=>by
  rw [List.forIn_cons,hf]
  unfold F3
  by_cases q:(k==DZ)=true
  ·rw [if_pos q,if_pos q]
   obtain ⟨a,ha⟩:=Lv.mp (h (x,k) (.head _) (by simpa using q))
   have hc:Uz env x=pure a:=by unfold Uz;rw [ha]
   rw [hc,ha]
   exact R4 hf r _ λp hp=>h p (.tail _ hp)
  ·rw [if_neg q,if_neg q]
   exact R4 hf r _ λp hp=>h p (.tail _ hp)
theorem E0y{env:Env}{scope:Cn}(h: ∀p∈scope.names,p.2=.free→(env.cells.lookup p.1).isSome=true):B0w scope env=pure (F3 env scope.names []):=by
 have:=R4 (env:=env) (f:= λx s=>match x with|(name,kind)=>if (kind==DZ)=true then (do let a←Uz env name;pure (.yield ((name,a)::s))) else pure (.yield s)) (λx k acc=>rfl) scope.names [] h
 exact (congrArg (λt:Sem (List (Str×Addr))=>t>>= λs=>pure s) this).trans rfl
theorem R0{env:Env}{x:Str}: ∀{l:List (Str×EG)} {acc:List (Str×Addr)},(acc.lookup x).isSome=true→((F3 env l acc).lookup x).isSome=true
 |[],_,h=>h
 |(y,k)::r,acc,h=>by
  unfold F3
  split
  ·refine R0 ?_
   simp only [E3]
   split
   ·rfl
   ·exact h
  ·exact R0 h
theorem R3{env:Env}{x:Str}: ∀{l:List (Str×EG)} {acc:List (Str×Addr)},(x,DZ)∈l→((F3 env l acc).lookup x).isSome=true
 |[],_,h=>nomatch h
 |(y,k)::r,acc,h=>by
  unfold F3
  rcases AW.mp h with q|q
  ·cases q
   simp only [beq_self_eq_true,if_true]
   refine R0 ?_
   simp [E3]
  ·split
   ·exact R3 q
   ·exact R3 q
theorem R1{env:Env}{x:Str}{c:Addr}: ∀{l:List (Str×EG)} {acc:List (Str×Addr)},(∀p∈l,p.2=.free→(env.cells.lookup p.1).isSome=true)→(∀c,acc.lookup x=some c→env.cells.lookup x=some c)→(F3 env l acc).lookup x=some c→env.cells.lookup x=some c
 |[],_,_,ha,h=>ha c h
 |(y,k)::r,acc,hl,ha,h=>by
  unfold F3 at h
  split at h
  ·rename_i q
   refine R1 (λp hp=>hl p (.tail _ hp)) (λc' hc=>?_) h
   simp only [E3] at hc
   split at hc
   ·rename_i e
    have e':x=y:=by simpa using e
    subst e'
    obtain ⟨a,ha'⟩:=Lv.mp (hl (x,k) (.head _) (by simpa using q))
    rw [ha'] at hc⊢
    simpa using hc
   ·exact ha c' hc
  ·exact R1 (λp hp=>hl p (.tail _ hp)) ha h
section
variable{w:A5}{h₀:Heap}{N M:Names}{env:Env}{ω ω':Wd}{h h':Heap}{s s1 s2:St}{n np:Nat}{A B C:List Nat}{mg mb:Str→Option Ab}{K:Frag}
structure Blk(N M:Names)(scope:Cn)(fr:List (Nat×Nat)):Prop where
 kind:scope.kind=.function
 noCell: ∀y∈scope.names,y.2≠.cell
 first: ∀y∈scope.names,y.2=.local→scope.names.lookup y.1=some .local
 free: ∀y∈scope.names,y.2=.free→y.1∈N.cs
 nodup:M.ns.Nodup
 nocs:M.cs=[]
 nols:M.ls=[]
 ns: ∀x∈M.ns,scope.names.lookup x=some .local∨(x,DZ)∈scope.names
 fst: ∀x,(x,DZ)∈scope.names→scope.names.lookup x=some .free
 gk: ∀x∈M.gs,scope.names.lookup x=some .globalImplicit
 fr: ∀p∈fr,∃x,M.ns[p.1]?=some x∧N.ns[p.2]?=some x∧(x,DZ)∈scope.names
theorem J0p{sc:Cn}{x:Str}(h:sc.names.lookup x=some .globalImplicit):(Gs sc env).names.lookup x=some .globalImplicit:=by
 have key: ∀{names:List (Str×EG)},names.lookup x=some .globalImplicit→
   (names.map λ(n,k)=>if (k==DZ&&env.scope.kind==.function&&env.kindOf n==some .cell) then (n,B0g) else (n,k)).lookup x=some .globalImplicit:=by
  intro names
  induction names with
  |nil=>intro h;cases h
  |cons p r ih=>
   obtain ⟨y,k⟩:=p
   intro h
   simp only [E3] at h
   simp only [Em]
   split at h
   ·rename_i q
    cases h
    have:(NameKind.globalImplicit==DZ)=false:=rfl
    simp only [this,L0c,A00,if_false,E3,q]
   ·rename_i q
    split<;>(simp only [E3,q];exact ih h)
 exact key h
theorem Zu{sc:Cn}{x:Str}(h:sc.names.lookup x=some .free):(Gs sc env).names.lookup x=some .cell∨(Gs sc env).names.lookup x=some .free:=by
 have key: ∀{names:List (Str×EG)},names.lookup x=some .free→
   (names.map λ(n,k)=>if (k==DZ&&env.scope.kind==.function&&env.kindOf n==some .cell) then (n,B0g) else (n,k)).lookup x=some .cell∨
   (names.map λ(n,k)=>if (k==DZ&&env.scope.kind==.function&&env.kindOf n==some .cell) then (n,B0g) else (n,k)).lookup x=some .free:=by
  intro names
  induction names with
  |nil=>intro h;cases h
  |cons p r ih=>
   obtain ⟨y,k⟩:=p
   intro h
   simp only [E3] at h
   simp only [Em]
   split at h
   ·rename_i q
    cases h
    split
    ·left;simp only [E3,q]
    ·right;simp only [E3,q]
   ·rename_i q
    split<;>(simp only [E3,q];exact ih h)
 exact key h
theorem MW{scope:Cn}{fr:List (Nat×Nat)}(Bk:Blk N M scope fr)(ok:EnvOK N env): ∃cl,B0w scope env=pure cl∧(∀x c,cl.lookup x=some c→env.cells.lookup x=some c)∧∀x,(x,DZ)∈scope.names→(cl.lookup x).isSome=true:=by
 have hf: ∀p∈scope.names,p.2=.free→(env.cells.lookup p.1).isSome=true:= λp hp hk=>(ok.cel _ (Bk.free p hp hk)).2
 exact ⟨_,E0y hf,λx c e=>R1 hf (λc q=>by cases q) e,λx hx=>R3 hx⟩
theorem E0m{scope:Cn}{fr:List (Nat×Nat)}{cl:List (Str×Addr)}{Cd:Addr}(Bk:Blk N M scope fr)(ok:EnvOK N env)(h1: ∀x c,cl.lookup x=some c→env.cells.lookup x=some c)(h2: ∀x,(x,DZ)∈scope.names→(cl.lookup x).isSome=true):EnvOK M (GX scope cl Cd env):=by
 refine ⟨?_,ok.glob,ok.bltn,λx hx=>?_,λx hx=>J0p (Bk.gk x hx),Bk.nodup,λx y c e1 e2=>ok.cinj x y c (h1 _ _ e1) (h1 _ _ e2),λx hx=>(by rw [Bk.nocs] at hx;cases hx),λx hx=>(by rw [Bk.nols] at hx;cases hx)⟩
 ·show (Gs scope env).kind=.function
  exact Bk.kind
 ·rcases Bk.ns x hx with q|q
  ·exact .inl (LD q)
  ·exact .inr ⟨Zu (Bk.fst x q),h2 x q⟩
theorem J07{m:List (Option V)}{o:Option V}{k i:Nat}{v:V}(e:(m.set i o)[k]?=some (some v)):m[k]?=some (some v)∨(i=k∧o=some v):=by
 by_cases z:i=k
 ·have h:k<m.length:=by
   have:=(DN.mp e).1
   rw [H7] at this
   exact this
  rw [z,OF h] at e
  exact .inr ⟨z,An e⟩
 ·exact .inl ((OE z).symm.trans e)
theorem F08{m:List (Option V)}{k:Nat}{v:V}: ∀{fr:List (Nat×Nat)} {acc:List (Option V)},(fr.foldl (λacc p=>acc.set p.1 ((m[p.2]?).join)) acc)[k]?=some (some v)→acc[k]?=some (some v)∨∃p∈fr,p.1=k∧m[p.2]?=some (some v):= λ{fr}=>by
 induction fr with
 |nil=>exact λe=>.inl e
 |cons p r ih=>exact λe=>(ih e).elim (λq=>(J07 q).imp_right λq=>⟨p,.head _,q.1,JC.mp q.2⟩) λq=>.inr (q.imp λp' h=>h.imp_left (.tail _))
theorem N07{m:List (Option V)}: ∀{fr:List (Nat×Nat)} {acc:List (Option V)},(fr.foldl (λacc p=>acc.set p.1 ((m[p.2]?).join)) acc).length=acc.length:= λ{fr}=>by
 induction fr with
 |nil=>exact rfl
 |cons p r ih=>exact ih.trans H7
theorem E0p{k nl:Nat}{fr:List (Nat×Nat)}{m:List (Option V)}{v:V}(e:(F0 nl fr m)[k]?=some (some v)): ∃p∈fr,p.1=k∧m[p.2]?=some (some v):=(F08 e).elim (λq=>nomatch (List.mem_replicate.mp (As q)).2) λq=>q
theorem E0n{scope:Cn}{fr:List (Nat×Nat)}{cl:List (Str×Addr)}{Cd:Addr}{mm:Str→Option Ab}{nl:Nat}(Bk:Blk N M scope fr)(S:SR w h₀ N env ω s h)(h1: ∀x c,cl.lookup x=some c→env.cells.lookup x=some c)(h2: ∀x,(x,DZ)∈scope.names→(cl.lookup x).isSome=true)
  (hn:h.Ns Cd mm) (hC:ω.ow Cd=none∧¬ω.fz Cd∧h₀.objs.size≤Cd∧¬FW env Cd) (hnl:M.ns.length=nl):SR w h₀ M (GX scope cl Cd env) ω {s with m:=F0 nl fr s.m} h:=
 have free: ∀{k:Nat} {x:Str} {v:V} {P:Prop},M.ns[k]?=some x→(F0 nl fr s.m)[k]?=some (some v)→(∀j,N.ns[j]?=some x→s.m[j]?=some (some v)→(x,DZ)∈scope.names→P)→P:= λ{k x v P} e1 e2 q=>(E0p e2).elim λp r=>EO (Bk.fr p r.1) λy y1 y2 y3=>have e:y=x:=An ((r.2.1▸y1).symm.trans e1);q p.2 (e▸y2) r.2.2 (e▸y3)
 ⟨S.base,S.low,S.fzlt,S.fz0,⟨E0m Bk S.fr.ok h1 h2,(N07.trans List.length_replicate).trans hnl.symm,⟨mm,hn,λk x v e1 e2 e3=>free e1 e2 λj _ _ y3=>(Zu (env:=env) (Bk.fst x y3)).elim (λq=>nomatch q.symm.trans e3) λq=>nomatch q.symm.trans e3⟩,
  λx c e=>(S.fr.cells x c (h1 x c e)).imp λy r=>r.imp_right λo3 k v e1 e2 _=>free e1 e2 λj z2 p3 y3=>o3 j v z2 p3 ((S.fr.ok.cel x (Bk.free _ y3 rfl)).1.elim (λq z=>nomatch q.symm.trans z) λq z=>nomatch q.symm.trans z),
  λa e=>e.elim (λ(e:a=Cd)=>Au e▸⟨hC.1,hC.2.1,hC.2.2.1,hn.elim λo r=>Nq r λ_ _ q=>Bz q.1⟩) λe=>e.elim λx e=>S.fr.off a (.inr ⟨x,h1 x a e⟩),
  λx c e (q:c=Cd)=>hC.2.2.2 (q▸.inr ⟨x,h1 x c e⟩)⟩,S.c⟩
noncomputable def Tg.ks:Tg→List Nat
 |.one k=>[k]
 |.many ks=>ks
def HR(M:Names)(env:Env)(t:Tg):Prop:= ∀k∈t.ks,∀x,M.ns[k]?=some x→env.kindOf x=some .local
theorem J0i{R:Aw}{Q:Unit→Ac→Prop}{E:Ab→Ac→Prop}{mk:Str→Ab→Sem Unit}(hmk: ∀(x:Str) (v:Ab) (s:Ac) (Q:Unit→Ac→Prop),wpAny (Ag pg w) R (LH env x v) Q E s→wpAny (Ag pg w) R (mk x v) Q E s):
  ∀{ks:List Nat} {ns:List Str} {xs:List FV} {ys:List Ab} {s s':St} {sh:Ac},(∀(i k:Nat),ks[i]?=some k→∃x,ns[i]?=some x∧N.ns[k]?=some x)→(∀k∈ks,∀x,N.ns[k]?=some x→env.kindOf x=some .local)→ns.length=ks.length→Hx ks xs s=some s'→SR w h₀ N env ω s sh.heap→FRs w ω.fz sh.heap xs ys→
   (∀h' tk,SR w h₀ N env ω s' h'→Ce env.locals sh.heap h'→Q () {sh with heap:=h',toks:=tk})→wpAny (Ag pg w) R (L3 (ns.map mk) ys) Q E sh:= λ{ks}=>by
 induction ks with
 |nil=>
  intro ns xs ys s s' sh _ _ hl e S hx q
  cases xs with
  |cons x r=>exact noS e
  |nil=>exact J1.mp hl▸AJ (q _ sh.toks (An e▸S) (.refl ..))
 |cons k ks ih=>
  intro ns xs ys s s' sh hn hk hl e S hx q
  cases xs with
  |nil=>exact noS e
  |cons x r=>
   cases ns with
   |nil=>exact nomatch hl
   |cons nm ns'=>
    exact Ax e λs1 e1 e=>Dt (hn 0 k rfl) λx' z1 z2=>RelL.cons hx (P:= λys=>wpAny _ _ (L3 ((nm::ns').map mk) ys) Q E sh) λy ys' hx1 hx2=>
     have z2:N.ns[k]?=some nm:=z2.trans z1.symm
     Aq (Cp (hmk _ _ _ _ (Oi (v:=.f x) S z2 (hk k (.head _) nm z2) hx1 λh' tk S1 hs1 _=>
      have stf:=Tt S (.inl rfl) hs1
      ih (λi k' hk=>hn (i+1) k' hk) (λk' hk'=>hk k' (.tail _ hk')) (I1 hl) e (FD e1▸S1) (FRs.mono stf.fz stf.fzk hx2) λh2 tk2 S2 hs2=>q h2 tk2 S2 ⟨hs2.1.trans hs1.1,λb hb=>(hs2.2 b hb).trans (hs1.2 b hb)⟩)))
theorem S8(S:SR w h₀ N env ω s h)(hs:Ce env.locals h h'):Step [] (λa=>a=env.locals) ω h ω h':=⟨DC hs.1.symm,λa _ n ob e=>(hs.2 a n).trans e,λ_ e=>e,N6 S (.inl rfl) hs,λ_ e=>.inl e,λ_ e=>.inl e,λ_ _ _ e=>e,λ_ _ _ _ e=>e⟩
theorem K0q{tg:Ak}{t:Tg}{x:FV}{y:Ab}{s':St}{R:Aw}{sh:Ac}{Q:Unit→Ac→Prop}{E:Ab→Ac→Prop}(T:TgR N tg t)(L:HR N env t)(hR:Rm n R)(S:SR w h₀ N env ω s sh.heap)(hy:VR w ω sh.heap (.f x) y)(e:t.put x s=some s')
  (q: ∀h' tk,SR w h₀ N env ω s' h'→Step [] (λa=>a=env.locals) ω sh.heap ω h'→Q () {sh with heap:=h',toks:=tk}):wpAny (Ag pg w) R (De tg env y) Q E sh:=by
 cases T with
 |one hx=>exact assign_Name (Oi S hx (L _ (.head _) _ hx) hy λh' tk S' hs _=>q h' tk (FD e▸S') (S8 S hs))
 | @many elts kd tp ks ns ps hT=>
  cases x with
  |tup xs=>
   refine Dx (P:= λy=>wpAny _ _ (De _ _ y) Q E _) hy λt _ z=>z.casesOn λitems z2 z3=>?_
   have z3:FRs w ω.fz sh.heap xs items.toList:=Dh w _ sh.heap xs▸z3
   rw [Ue]
   unfold U4
   rw [hT.star,hT.each,hT.len]
   exact Aq (Gw (Aq (Cp (Ov hR S z2 ((Zp e).trans (z3.length.trans DB)) λh' tk S1 G=>J0i (mk:= λx v=>De (.Name x (ps x)) env v) (λx v s Q h=>assign_Name h) hT.at_ (λk hk=>L k hk) hT.nlen e S1 (FRs.mono G.fz (λa _ o q=>G.keep a o q) z3) λh2 tk2 S2 hs2=>q h2 tk2 S2 ((B5 G.step).trans (S8 S1 hs2) (λ_ q=>q) (λ_ q=>q))))))
  |_=>exact noS e
end
section
variable{w:A5}{R:Aw}{RR:BR→Ac→Prop}{s:Ac}
noncomputable def Rx(env:Env)(ifs:List Ak):Sem Bool:=forIn ifs true λc r=>if r=true then do let ok←U1 c env (eval c env);pure (L0f ok) else pure (L0f r)
def nA(w:A5)(R:Aw)(env:Env)(RR:BR→Ac→Prop):Ab→Ac→Prop:=Ph (Ag pg w) R env λe s'=>RR (.error e) s'
def HI(w:A5)(R:Aw)(env:Env)(ifs:List Ak)(E:Ab→Ac→Prop)(X:(Ac→Prop)→Ac→Prop)(again:Ac→Prop):Ac→Prop:=wpAny (Ag pg w) R (Rx env ifs) (λok s=>cond ok (X again s) (again s)) E
theorem WT{elt target iter:Ak}{ifs:List Ak}{scope:Cn}{pos:Pos}{it acc:Ab}{env:Env}(I:Nat→Ac→Prop)
  (turn: ∀n s,I n s→Ed w R target it env (nA w R env RR) (RR (.ok .next)) (HI w R env ifs (nA w R env RR) (λK=>wpAny (Ag pg w) R (eval elt env) (λx=>wpAny (Ag pg w) R (call (.builtin "list.append") [acc,x]) (λ_=>K) (nA w R env RR)) (nA w R env RR)) λs=> ∃m,m<n∧I m s) s)
  (n:Nat) (h:I n s):Dw (Ag pg w) R (.compLoop (.ListComp elt [⟨target,iter,ifs,0⟩] scope pos) 0 it acc env) RR s:=by
 refine M0V rfl I (λn s hI=>?_) n h
 show wpAny _ R ((B0z (.ListComp elt [⟨target,iter,ifs,0⟩] scope pos) 0 it acc env).onRaise (λx=>do JK x env;Pn x)) _ _ s
 refine wpAny_noted ?_
 rw [M0W]
 refine Aq (Gw (Aq (Bo (turn n s hI) (λr s₁ h₁=>?_) λ_ _ h'=>h')))
 cases r with
 |none=>exact AJ h₁
 |some v=>
  refine Aq (Bo h₁ (λ_ s₁' h₁'=>Aq (Bo h₁' (λ_ s₂ h₂=>Aq (Bo h₂ (λok s₃ h₃=>?_) λ_ _ h'=>h')) λ_ _ h'=>h')) λ_ _ h'=>h')
  cases ok with
  |false=>exact AJ ⟨rfl,h₃⟩
  |true=>exact Aq (Aq (Bo h₃ (λx s₄ h₄=>Aq (Bo h₄ (λ_ s₅ h₅=>AJ (AJ ⟨rfl,h₅⟩)) λ_ _ h'=>h')) λ_ _ h'=>h'))
end
section
variable{w:A5}{h₀:Heap}{N M:Names}{env:Env}{ω ω':Wd}{h h':Heap}{s s1 s2:St}{n np:Nat}{A B C:List Nat}{mg mb:Str→Option Ab}{K:Frag}
def SoundT(w:A5)(h₀:Heap)(n:Nat)(A:List Nat)(N:Names)(ifs:List Ak)(c:Cv):Prop:=
 ∀(R:Aw) (env:Env) (ω:Wd) (s s':St) (b:Bool) (sh:Ac) (Q:Bool→Ac→Prop) (E:Ab→Ac→Prop),
  Rm n R→SR w h₀ N env ω s sh.heap→c s=some (b,s')→PostC w h₀ N env A ω sh s' b Q→
  wpAny (Ag pg w) R (Rx env ifs) Q E sh
theorem Rg:SoundT w h₀ n [] N [] Mine.HH:=λR env ω s s' b sh Q E hR S e P=>wpAny_tests_nil ((BM e).1.symm▸P ω sh.heap sh.toks ((BM e).2▸S) StepE.refl:Q true sh)
theorem MM{x:Ak}{c:Cv}(hc:SoundC w h₀ n A N x c):SoundT w h₀ n A N [x] c:=λR env ω s s' b sh Q E hR S e P=>N0x (hc R env ω s s' b sh Q _ hR S e P)
theorem SoundT.weak{ifs:List Ak}{c:Cv}(hf:SoundT w h₀ n A N ifs c)(hA: ∀k∈A,k∈B):SoundT w h₀ n B N ifs c:=λR env ω s s' b sh Q E hR S q P=>hf R env ω s s' b sh Q E hR S q λω1 h1 tk1 S1 st1=>P ω1 h1 tk1 S1 (st1.weak hA)
structure StepW(A:List Nat)(W:Addr→Prop)(ω:Wd)(h:Heap)(ω':Wd)(h':Heap):Prop extends Step A W ω h ω' h' where
 c: ∀k a,ω.c k=some a→ω'.c k=some a
theorem VO{W:Addr→Prop}(st:StepE A ω h ω' h'):StepW A W ω h ω' h':=⟨B5 st,st.c⟩
theorem StepW.trans{W:Addr→Prop}{ω₁:Wd}{h₁:Heap}(x:StepW A W ω h ω₁ h₁)(y:StepW B W ω₁ h₁ ω' h')(hA: ∀k∈A,k∈C)(hB: ∀k∈B,k∈C):StepW C W ω h ω' h':=⟨x.toStep.trans y.toStep hA hB,λk a e=>y.c k a (x.c k a e)⟩
inductive CompC{τ:Type}(t:Tg)(c:Cv)(Elt:τ→Mine.St→τ→Mine.St→Prop)(Run:List FV→τ→Mine.St→Prop)(x:FV)(r:List FV)(a:τ)(s:Mine.St):Prop
 |yes {s2 s3 s4:Mine.St} {a':τ}:t.put x s=some s2→c s2=some (true,s3)→Elt a s3 a' s4→Run r a' s4→CompC t c Elt Run x r a s
 |no {s2 s3:Mine.St}:t.put x s=some s2→c s2=some (false,s3)→Run r a s3→CompC t c Elt Run x r a s
structure Accu{τ:Type}(w:A5)(h₀:Heap)(N:Names)(env:Env)(A:List Nat)(D:Addr)(Elt:τ→Mine.St→τ→Mine.St→Prop)(Acc:Nat→(Addr→Prop)→Heap→τ→Prop)(X:(Ac→Prop)→Ac→Prop):Prop where
 mono: ∀i fz fz' h h' a,Acc i fz h a→(∀a,fz a→fz' a)→(∀a,fz a→∀o,h.get? a=some o→h'.get? a=some o)→(∀o,h.get? D=some o→h'.get? D=some o)→Acc i fz' h' a
 skip: ∀i fz h a,Acc i fz h a→Acc (i+1) fz h a
 elt: ∀i ω s s' a a' sh K,i<16777216→SR w h₀ N env ω s sh.heap→Ghs h₀ env ω sh.heap [D]→Acc i ω.fz sh.heap a→Elt a s a' s'→
  (∀ω' h' tk,SR w h₀ N env ω' s' h'→StepW A (λa=>a=D) ω sh.heap ω' h'→Acc (i+1) ω'.fz h' a'→K {sh with heap:=h',toks:=tk})→X K sh
inductive CompI{τ:Type}(w:A5)(h₀:Heap)(N:Names)(env:Env)(A:List Nat)(D:Addr)(wr:List Addr)(Src:(Addr→Prop)→Heap→Prop)(St:Nat→Heap→Prop)(ω:Wd)(sh:Ac)(items:List FV)(Acc:Nat→(Addr→Prop)→Heap→τ→Prop)(Run:List FV→τ→Mine.St→Prop)(m:Nat):Ac→Prop
 |mk {i:Nat} {ω₁:Wd} {σ:Mine.St} {a:τ} {h₁:Heap} {tk:Nat}:i+m=items.length→SR w h₀ N env ω₁ σ h₁→LI h₀ env A (λa=>a=env.locals∨a∈D::wr) (D::wr) Src St ω sh.heap i ω₁ h₁→(∀k a,ω.c k=some a→ω₁.c k=some a)→Acc i ω₁.fz h₁ a→Run (items.drop i) a σ→CompI w h₀ N env A D wr Src St ω sh items Acc Run m {sh with heap:=h₁,toks:=tk}
variable{τ:Type}{Elt:τ→Mine.St→τ→Mine.St→Prop}{Run:List FV→τ→Mine.St→Prop}{Acc:Nat→(Addr→Prop)→Heap→τ→Prop}{X:(Ac→Prop)→Ac→Prop}{D I:Addr}{wr fr:List Addr}{items:List FV}{Src:(Addr→Prop)→Heap→Prop}{St:Nat→Heap→Prop}{R:Aw}{sh:Ac}{RR:BR→Ac→Prop}{tg:Ak}{ifs:List Ak}{t:Tg}{c:Cv}{i m tk:Nat}{ω₁:Wd}{σ:Mine.St}{h₁:Heap}{x:FV}{r:List FV}{a:τ}{E:Ab→Ac→Prop}{again:Ac→Prop}{en:Ac→Prop}
theorem K0p(T:TgR N tg t)(L:HR N env t)(hR:Rm n R)(K:Wk w R tg I wr fr items Src St)(e:t.put x s1=some s2):Asg w h₀ N env R (λa=>a=env.locals) Src fr tg x s1 s2:=λ_ _ _ _ _ S a hy q=>K0q T L hR S hy e λh' tk S' st=>q h' tk S' st λb hb=>st.fzk b (K.own _ _ a b hb)
theorem E0P(T:TgR N tg t)(L:HR N env t)(hc:SoundT w h₀ n A N ifs c)(hR:Rm n R)(Y:Wk w R tg I wr fr items Src St)(Z:Accu w h₀ N env A D Elt Acc X)(hD:D∉wr)(hi:i<16777216)
  (hg: ∀ω₂ a s2 h₂ tk,SR w h₀ N env ω₂ s2 h₂→LI h₀ env A (λa=>a=env.locals∨a∈D::wr) (D::wr) Src St ω sh.heap (i+1) ω₂ h₂→(∀k a,ω.c k=some a→ω₂.c k=some a)→Acc (i+1) ω₂.fz h₂ a→Run r a s2→again {sh with heap:=h₂,toks:=tk})
  (S:SR w h₀ N env ω₁ σ h₁) (J:LI h₀ env A (λa=>a=env.locals∨a∈D::wr) (D::wr) Src St ω sh.heap i ω₁ h₁) (cc: ∀k a,ω.c k=some a→ω₁.c k=some a) (ac:Acc i ω₁.fz h₁ a) (hx:items[i]?=some x) (e:CompC t c Elt Run x r a σ):
  Ed w R tg (.ref I) env E en (HI w R env ifs E X again) {sh with heap:=h₁,toks:=tk}:=by
 have up: ∀{s2 s3:Mine.St} {b:Bool},t.put x σ=some s2→c s2=some (b,s3)→(∀ω4 h4 tk4,SR w h₀ N env ω4 s3 h4→LI h₀ env A (λa=>a=env.locals∨a∈D::wr) (D::wr) Src St ω sh.heap (i+1) ω4 h4→(∀k a,ω.c k=some a→ω4.c k=some a)→Acc i ω4.fz h4 a→cond b (X again {sh with heap:=h4,toks:=tk4}) (again {sh with heap:=h4,toks:=tk4}))→
   Ed w R tg (.ref I) env E en (HI w R env ifs E X again) {sh with heap:=h₁,toks:=tk}:= λ{s2 s3 b} e1 e2 k=>
  J.turn Y.toWk0 S hx (K0p T L hR Y e1) (λ_ q=>⟨.inl q,.inl q⟩) (λ_ q=>⟨.tail _ q,.inr (.tail _ q)⟩) λω2 h2 tk2 S2 J2 st hcc=>
   hc R env ω2 s2 s3 b {sh with heap:=h2,toks:=tk2} _ E hR S2 e2 λω4 h4 tk4 S4 st4=>
    have gD:=J2.g D (.head _)
    k ω4 h4 tk4 S4 (J2.step Y.toWk0 st4.toStep (λ_ q=>q) (λ_ q=>q.elim) (λa q=>⟨.tail _ q,λz=>z⟩) (Y.keeps J2 st4.toStep)) (λk a e=>st4.c k a (hcc▸cc k a e))
     (Z.mono _ _ _ _ _ _ (Z.mono _ _ _ _ _ _ ac st.fz st.fzk (st.keep D (J.g D (.head _)).1 λz=>z.elim (λz=>gD.2.2.2.2 (.inl z)) hD)) st4.fz st4.fzk (st4.keep D gD.1 λz=>z))
 cases e with
 |yes e1 e2 e3 e4=>
  exact up e1 e2 λω4 h4 tk4 S4 J4 c4 ac4=>Z.elt i ω4 _ _ a _ {sh with heap:=h4,toks:=tk4} _ hi S4 (λb q=>J4.g b (Bx.mp q▸.head _)) ac4 e3 λω5 h5 tk5 S5 st5 ac5=>hg ω5 _ _ h5 tk5 S5 (J4.step Y.toWk0 st5.toStep (λ_ q=>q) (λ_ e=>.inr (e▸.head _)) (λ_ q=>⟨.tail _ q,λz=>hD (z▸q)⟩) (Y.keeps J4 st5.toStep)) (λk a e=>st5.c k a (c4 k a e)) ac5 e4
 |no e1 e2 e3=>exact up e1 e2 λω4 h4 tk4 S4 J4 c4 ac4=>hg ω4 _ _ h4 tk4 S4 J4 c4 (Z.skip _ _ _ _ ac4) e3
theorem RF{s₁:Ac}(T:TgR N tg t)(L:HR N env t)(hc:SoundT w h₀ n A N ifs c)(hR:Rm n R)(Y:Wk w R tg I wr fr items Src St)(Z:Accu w h₀ N env A D Elt Acc X)(hD:D∉wr)(hlen:items.length≤16777216)(hr: ∀x r a s,Run (x::r) a s→CompC t c Elt Run x r a s)
  (q: ∀ω' h' tk i a s',SR w h₀ N env ω' s' h'→StepW A (λa=>a=env.locals∨a∈D::wr) ω sh.heap ω' h'→Ghs h₀ env ω' h' (D::wr)→Acc i ω'.fz h' a→Run [] a s'→RR (.ok .next) {sh with heap:=h',toks:=tk})
  (J:CompI w h₀ N env A D wr Src St ω sh items Acc Run m s₁):
  Ed w R tg (.ref I) env E (RR (.ok .next)) (HI w R env ifs E X λs=> ∃m',m'<m∧CompI w h₀ N env A D wr Src St ω sh items Acc Run m' s) s₁:=by
 obtain @⟨i,_,_,_,_,_,hi,S,J,cc,ac,e⟩:=J
 cases m with
 |zero=>
  have hi:=(TX _).symm.trans hi
  rw [A07 (DC hi.symm)] at e
  exact (hi▸J).done Y.toWk0 S (λ_ q=>⟨.tail _ q,.inr (.tail _ q)⟩) λω₂ h₂ tk S2 st g2 p hcc=>q ω₂ h₂ tk i _ _ S2 ⟨st,λk a e=>hcc▸cc k a e⟩ g2 (Z.mono _ _ _ _ _ _ ac p.fz p.fzk (p.keep D (J.g D (.head _)).1 hD)) e
 |succ m=>exact (RV hi).elim λx hx=>E0P T L hc hR Y Z hD (Bc (by rw [←hi];exact H8 (FH m)) hlen) (r:=items.drop (i+1)) (λ_ _ _ _ _ S J cc ac e=>⟨m,C8 _,.mk (by rw [←hi,TS,J8 1]) S J cc ac e⟩) S J cc ac hx.1 (hr _ _ _ _ (hx.2▸e))
structure LAcc(w:A5)(D:Addr)(i:Nat)(fz:Addr→Prop)(h:Heap)(done:List FV):Prop where
 len:done.length≤i
 at_: ∃zs m,h.get? D=some (C5 zs m)∧FRs w fz h done zs.toList
def LRun(t:Tg)(c:Cv)(f:Ev)(ys:List FV)(s':Mine.St)(l:List FV)(done:List FV)(s:Mine.St):Prop:= ∃rest,DE t c f l s=some (rest,s')∧ys=done++rest
def UW(f:Ev)(done:List FV)(s:Mine.St)(done':List FV)(s':Mine.St):Prop:= ∃y,f s=some (.f y,s')∧done'=done++[y]
theorem LRun.cons{f:Ev}{ys:List FV}{s':Mine.St}(x:FV)(r:List FV)(a:List FV)(s:Mine.St)(e:LRun t c f ys s' (x::r) a s):CompC t c (UW f) (LRun t c f ys s') x r a s:=
 e.elim λrest e=>Ax e.1 λ_ h1 e1=>Ax e1 λp h2 e1=>HV e1
  (λhb e1=>Ax e1 λp h3 e1=>V.onFE e1 λy h4 e1=>Ax e1 λz h5 e1=>
   have e1:=Dk e1
   .yes h1 (h2.trans (hb▸rfl)) ⟨y,h3.trans (h4▸rfl),rfl⟩ ⟨z.1,h5.trans (e1.2▸rfl),e.2.trans (e1.1▸(CO a [y] z.1).symm)⟩)
  λhb e1=>.no h1 (h2.trans (hb▸rfl)) ⟨rest,e1,e.2⟩
theorem LAcc.push{y:FV}{z:Ab}{done:List FV}{ω':Wd}{Q:Unit→Ac→Prop}(S:SR w h₀ N env ω' s sh.heap)(st:StepE A ω h ω' sh.heap)(g:Ghs h₀ env ω h [D])(ac:LAcc w D i ω.fz h done)(hi:i<16777216)(vz:FR w ω'.fz sh.heap y z)
  (k: ∀ω₂ h' tk,SR w h₀ N env ω₂ s h'→StepW A (λa=>a=D) ω h ω₂ h'→LAcc w D (i+1) ω₂.fz h' (done++[y])→(∀b,b≠D→∀o,sh.heap.get? b=some o→h'.get? b=some o)→ω₂.c=ω'.c→Q () {sh with heap:=h',toks:=tk}):
  wpAny (Ag pg w) R (call (.builtin "list.append") [.ref D,z]) (λ_=>Q ()) E sh:=
 F5 ac.at_ λzs m e1 e2=>
  have e2:=FRs.mono st.fz st.fzk e2
  have sb:=Eo sh.heap D (Ep λxs=>xs.push z)
  K2 (st.keep D (g D (.head _)).1 (λz=>z) _ e1) ((e2.length.trans DB:done.length=zs.size)▸A8 ac.len (CY hi)) λm' hg=>Ja (S.ghosts (wr:=[D]) (new:= λ_=>False) (g.step st.toStep) (DC sb.1.symm) (λb o hb z=>(sb.2 b λq=>hb (q▸.head _)).trans z) (λ_ z=>z.elim)) λS6 p=>k _ _ sh.toks S6 ((VO st).trans ⟨p.weak (λ_ q=>q) λ_ q=>Bx.mp q,λ_ _ e=>e⟩ (λ_ q=>q) AY) ⟨AU.symm▸Gn ac.len,_,m',hg,O3.symm▸RelL.append (FRs.mono p.fz p.fzk e2) (RelL.one (FR.mono p.fz p.fzk vz))⟩ (λb hb o e=>(sb.2 b hb).trans e) rfl
theorem UU{f:Ev}{X':(Ab→Ac→Prop)→Ac→Prop}(hX: ∀ω s s' v sh Q,SR w h₀ N env ω s sh.heap→f s=some (v,s')→PostE w h₀ N env A ω sh s' v Q→X' Q sh):
  Accu w h₀ N env A D (UW f) (LAcc w D) λK=>X' λx=>wpAny (Ag pg w) R (call (.builtin "list.append") [.ref D,x]) (λ_=>K) E where
 mono:= λ_ _ _ _ _ _ ac hf hk hD=>⟨ac.len,ac.at_.elim λzs q=>q.elim λm q=>⟨zs,m,hD _ q.1,FRs.mono hf hk q.2⟩⟩
 skip:= λ_ _ _ _ ac=>⟨Gm ac.len,ac.at_⟩
 elt:= λ_ ω s s' _ _ sh K hi S g ac e k=>e.elim λy e=>hX ω s s' _ sh _ S e.1 λω5 h5 tk5 x S5 st5 vx=>LAcc.push (sh:={sh with heap:=h5,toks:=tk5}) (Q:= λ_=>K) S5 st5 g ac hi vx λω6 h6 tk6 S6 st6 ac6 _ _=>k ω6 h6 tk6 S6 st6 (e.2▸ac6)
theorem UX{f:Ev}{ys:List FV}{s':Mine.St}(q: ∀ω' h' tk m' zs,SR w h₀ N env ω' s' h'→StepW A (λa=>a=env.locals∨a∈D::wr) ω h ω' h'→Ghs h₀ env ω' h' (D::wr)→h'.get? D=some (C5 zs m')→FRs w ω'.fz h' ys zs.toList→en {sh with heap:=h',toks:=tk}):
  ∀ω' h' tk i a s'',SR w h₀ N env ω' s'' h'→StepW A (λa=>a=env.locals∨a∈D::wr) ω h ω' h'→Ghs h₀ env ω' h' (D::wr)→LAcc w D i ω'.fz h' a→LRun t c f ys s' [] a s''→en {sh with heap:=h',toks:=tk}:=
 λω' h' tk i a s'' S st g ac r=>Dt r λrest e hy=>F5 ac.at_ λzs m e1 e2=>have z:=BM e;q ω' h' tk m zs (z.2▸S) st g e1 (hy.trans ((congrArg (a++ ·) z.1.symm).trans (CX a))▸e2)
theorem E0M{elt iter:Ak}{scope:Cn}{pos:Pos}{f:Ev}{ys:List FV}{s':Mine.St}
  (T:TgR N tg t) (L:HR N env t) (hc:SoundT w h₀ n A N ifs c) (hf:Sound w h₀ n A N elt f) (hR:Rm n R) (Y:Wk w R tg I wr fr items Src St) (S:SR w h₀ N env ω s sh.heap) (g:Ghs h₀ env ω sh.heap (D::wr)) (hD:D∉wr) (hsrc:Src ω.fz sh.heap) (hst:St 0 sh.heap)
  (hacc:sh.heap.get? D=some (C5 #[] m)) (hlen:items.length≤16777216) (e:DE t c f items s=some (ys,s'))
  (q: ∀ω' h' tk m' zs,SR w h₀ N env ω' s' h'→StepW A (λa=>a=env.locals∨a∈D::wr) ω sh.heap ω' h'→Ghs h₀ env ω' h' (D::wr)→h'.get? D=some (C5 zs m')→FRs w ω'.fz h' ys zs.toList→RR (.ok .next) {sh with heap:=h',toks:=tk}):
  Dw (Ag pg w) R (.compLoop (.ListComp elt [⟨tg,iter,ifs,0⟩] scope pos) 0 (.ref I) (.ref D) env) RR sh:=
 WT (CompI w h₀ N env A D wr Src St ω sh items (LAcc w D) (LRun t c f ys s')) (λ_ _ J=>RF T L hc hR Y (UU (λ_ _ _ _ _ _ S e p=>hf R env _ _ _ _ _ _ _ hR S e p)) hD hlen LRun.cons (UX q) J) items.length (.mk (Cc _) S (.start g hsrc hst) (λ_ _ e=>e) ⟨A9 _,#[],m,hacc,(show FRs w ω.fz sh.heap [] [] from rfl)⟩ ⟨ys,e,rfl⟩)
end
section
variable{w:A5}{h₀:Heap}{N M:Names}{env env':Env}{ω ω' ω₁ ω₃:Wd}{h h' h₁ h₃:Heap}{s s1 s2 σ:St}{n np:Nat}{A B C:List Nat}{mg mb:Str→Option Ab}{K:Frag}
theorem C0U{Cd:Addr}(S₁:SR w h₀ N env ω₁ s1 h₁)(S₃:SR w h₀ M env' ω₃ σ h₃)(hs:Ce Cd h₃ h')(hC:ω₃.ow Cd=none∧¬ω₃.fz Cd∧h₀.objs.size≤Cd)(hsz:h₁.objs.size≤h₃.objs.size)(hfz: ∀a,ω₁.fz a→ω₃.fz a)(hfk: ∀a,ω₁.fz a→∀o,h₁.get? a=some o→h'.get? a=some o)
  (hFW: ∀a,FW env a→(∀o,h₁.get? a=some o→h'.get? a=some o)∧ω₃.ow a=none∧¬ω₃.fz a) (hc: ∀k a,ω₁.c k=some a→ω₃.c k=some a) (hg: ∀k,k∉A→∀a,ω₁.g k=some a→ω₃.g k=some a) (hd: ∀k,k∉A→∀i a,ω₁.d k i=some a→ω₃.d k i=some a)
  (hoff: ∀v,some v∈s1.m→v.off A):SR w h₀ N env ω₃ {σ with m:=s1.m} h':=
 have keep: ∀a,a≠Cd→∀o,h₃.get? a=some o→h'.get? a=some o:= λa n o e=>(hs.2 a n).trans e
 have kf: ∀a,ω₃.fz a→∀o,h₃.get? a=some o→h'.get? a=some o:= λa e=>keep a λq=>hC.2.1 (q▸e)
 have same: ∀b k,Same b k ω₃ h₃ ω₃ h':= λb k=>⟨λa t e _=>⟨e,keep a λq=>noS (hC.1.symm.trans (q▸e))⟩,λ_ q=>q,kf,λ_ e=>e,λ_ _ _ e=>e⟩
 ⟨λb o e=>keep b (λq=>Bu _ (Bc (Bz e) (q▸hC.2.2))) o (S₃.base b o e),λa e=>hs.1.symm▸S₃.low a e,λa e=>hs.1.symm▸S₃.fzlt a e,S₃.fz0,
  S₁.fr.mono (hs.1.symm▸hsz) (λa e=>(hFW a e).1) (λv hv y=>match v,hoff v hv with
   |.f x,_=>FR.mono hfz hfk
   |.c k,_=> λe=>e.imp λa e=>e.imp_left (hc k a)
   |.g k,ho=> λe=>e.imp λa e=>e.imp_left (hg k (λq=>(ho k q).1 rfl) a)
   |.d k i,ho=> λe=>e.imp λa e=>e.imp_left (hd k (λq=>(ho k q).2 i rfl) i a)) λa e=>(hFW a e).2,
  λb k o e=>(S₃.c b k o e).mono (same _ _) λ_ _ _ p _ y=>match p.2 with
   |.f _=>FR.mono (λ_ q=>q) kf
   |.c _=> λe=>e
   |.g _=> λe=>e
   |.d _ _=> λe=>e⟩
theorem SR.unseen{b:Addr}(S:SR w h₀ N env ω s h)(hb:h.objs.size≤b):ω.ow b=none∧¬ω.fz b∧h₀.objs.size≤b∧¬FW env b:=⟨GG λz=>Bu _ (Bc (S.low b z).2 hb),λz=>Bu _ (Bc (S.fzlt b z).1 hb),A8 S.lo hb,λz=>Bu _ (Bc (S.fwlt b z) hb)⟩
theorem Nc{T:String}{data:Data}{newAcc:Sem Ab}{scope:Cn}{fr:List (Nat×Nat)}{cl:List (Str×Addr)}{wr fr':List Addr}{nl:Nat}{tg:Ak}{I:Addr}{xs:List FV}{Src:(Addr→Prop)→Heap→Prop}{St:Nat→Heap→Prop}{R:Aw}{sh:Ac}{tk:Nat}{E:Ab→Ac→Prop}{Q:Ab→Env→Ac→Prop}
  (hn:newAcc=newObj (.type T) data) (hd:sizeOk data) (hp:Obj.isFreed {cls:=.type T,data}=false) (Bk:Blk N M scope fr) (S1:SR w h₀ N env ω s h) (g:Ghs h₀ env ω h wr) (c1: ∀x c,cl.lookup x=some c→env.cells.lookup x=some c) (c2: ∀x,(x,DZ)∈scope.names→(cl.lookup x).isSome=true) (hnl:M.ns.length=nl)
  (W:Wk0 w R tg I wr fr' xs Src St) (hsrc:Src ω.fz h) (hst:St 0 h)
  (k: ∀h' tk,h.objs.size≤h'.objs.size→(∀a o,h.get? a=some o→h'.get? a=some o)→h'.get? h.objs.size=some {cls:=.type T,data}→SR w h₀ M (GX scope cl (h.objs.size+1) env) ω {s with m:=F0 nl fr s.m} h'→Ghs h₀ (GX scope cl (h.objs.size+1) env) ω h' (h.objs.size::wr)→h.objs.size∉wr→Src ω.fz h'→St 0 h'→Q (.ref h.objs.size) (GX scope cl (h.objs.size+1) env) {sh with heap:=h',toks:=tk}):
  wpAny (Ag pg w) R newAcc (λacc s₃=>wpAny (Ag pg w) R (N0d scope env.globals cl [] env.qual none .none (some env)) (λcenv s₄=>Q acc {cenv with scope:=Gs scope env} s₄) E s₃) E {sh with heap:=h,toks:=tk}:=by
 subst hn
 refine wpAny_newObj_type (wpAny_newFunctionEnv Bk.noCell (λ_ z=>nomatch z) (λh' hns hsb=>?_) Bk.kind) hd
 dsimp only at hns hsb⊢
 rw [CI] at hns hsb⊢
 have ne: ∀{a:Nat},a<h.objs.size→a≠h.objs.size+1∧a≠h.objs.size:= λq=>⟨C4 (FG q),C4 q⟩
 have hsz:h'.objs.size=h.objs.size+2:=by rw [hsb.1,CI,CI]
 have keep: ∀a o,h.get? a=some o→h'.get? a=some o:= λa o e=>(hsb.2 a (ne (Bz e)).1).trans (Dd _ (Dd _ e))
 have G12:Grow ω h ω h':=DP (by rw [hsz];exact E4 _ 2) keep
 have hC:=S1.unseen (CZ h.objs.size)
 have hD:=S1.unseen (A9 h.objs.size)
 have fw: ∀a,FW (GX scope cl (h.objs.size+1) env) a→a=h.objs.size+1∨FW env a:= λa e=>e.elim .inl λ⟨x,e⟩=>.inr (.inr ⟨x,c1 x a e⟩)
 refine k h' _ G12.size keep ((hsb.2 _ (C4 (C8 _))).trans (Dd _ (BQ _ hp))) (E0n Bk (S1.grow G12) c1 c2 hns hC hnl) (λa ha=>?_) (λz=>Bu _ (g _ z).2.2.2.1) (W.src _ _ _ _ hsrc (λ_ z=>z) λa _ o e=>keep a o e) (W.frame _ _ _ hst λb _ o e=>keep b o e)
 rcases AW.mp ha with rfl|ha
 ·exact ⟨hD.1,hD.2.1,hD.2.2.1,by rw [hsz];exact H8 (by decide),λz=>(fw _ z).elim (λz=>TZ _ z.symm) hD.2.2.2⟩
 ·have ga:=g a ha
  exact ⟨ga.1,ga.2.1,ga.2.2.1,Bc ga.2.2.2.1 G12.size,λz=>(fw _ z).elim (ne ga.2.2.2.1).1 ga.2.2.2.2⟩
theorem Nd{cenv:Env}{ω0:Wd}{h0 h1 h2:Heap}{wr:List Addr}(S1:SR w h₀ N env ω s1 h1)(st1:StepE B ω0 h0 ω h1)(g:Ghs h₀ env ω h1 wr)(hw: ∀a∈wr,h0.objs.size≤a)(hloc:cenv.locals=h1.objs.size+1)(hsz:h1.objs.size≤h2.objs.size)(keep2: ∀a o,h1.get? a=some o→h2.get? a=some o)
  (S3:SR w h₀ M cenv ω₃ s2 h₃) (st3:StepW A (λa=>a=cenv.locals∨a∈h1.objs.size::wr) ω h2 ω₃ h₃) (g3:Ghs h₀ cenv ω₃ h₃ (h1.objs.size::wr)) (hoff: ∀u,some u∈s1.m→u.off A) (hA: ∀k∈A,k∈C) (hB: ∀k∈B,k∈C):
  Ghs h₀ env (ω₃.addFz h1.objs.size) h₃ [h1.objs.size+1]∧∀h',Ce (h1.objs.size+1) h₃ h'→SR w h₀ N env (ω₃.addFz h1.objs.size) {s2 with m:=s1.m} h'∧StepE C ω0 h0 (ω₃.addFz h1.objs.size) h':=by
 have o3:=S3.fr.off _ (.inl rfl)
 rw [hloc] at o3
 have hlt: ∀{a},a<h1.objs.size→a≠h1.objs.size+1∧a≠h1.objs.size:= λ{a} ha=>⟨C4 (FG ha),C4 ha⟩
 have hnf: ¬FW env h1.objs.size:=(S1.unseen (A9 _)).2.2.2
 have hD3:=g3 h1.objs.size (.head _)
 refine ⟨λa ha=>?_,λh' hs'=>?_⟩
 ·simp only [Bx] at ha
  subst ha
  exact ⟨o3.1,λz=>z.elim o3.2.1 (TZ _),o3.2.2.1,o3.2.2.2,(S1.unseen (CZ _)).2.2.2⟩
 have kst: ∀a,ω.ow a=none→a≠h1.objs.size+1→a∉h1.objs.size::wr→∀o,h1.get? a=some o→h'.get? a=some o:= λa ho hn hm o e=>by
  rw [hs'.2 a hn]
  exact st3.keep a ho (λz=>z.elim (λz=>hn (z.trans hloc)) hm) o (keep2 a o e)
 have kfz: ∀a,ω.fz a→∀o,h1.get? a=some o→h'.get? a=some o:= λa z o e=>by
  rw [hs'.2 a (hlt (Bz e)).1]
  exact st3.fzk a z o (keep2 a o e)
 have S4:SR w h₀ N env ω₃ {s2 with m:=s1.m} h':=by
  refine C0U (A:=A) S1 S3 hs' ⟨o3.1,o3.2.1,o3.2.2.1⟩ (A8 hsz st3.size) st3.fz kfz (λa e=>?_) st3.c st3.g st3.d hoff
  have oa:=S1.fr.off a e
  have hm:a∉h1.objs.size::wr:= λz=>by
   rcases AW.mp z with z|z
   ·exact (hlt oa.2.2.2).2 z
   ·exact (g a z).2.2.2.2 e
  refine ⟨kst a oa.1 (hlt oa.2.2.2).1 hm,?_,λz=>?_⟩
  ·cases z:ω₃.ow a with
   |none=>rfl
   |some t=>
    exfalso
    rcases st3.ownew a (by rw [z];simp) with y|y
    ·exact y oa.1
    ·exact absurd (Bc oa.2.2.2 hsz) (DY.mpr y)
  ·rcases st3.fznew a z with y|y|y
   ·exact oa.2.1 y
   ·exact y oa.1
   ·exact absurd (Bc oa.2.2.2 hsz) (DY.mpr y)
 have gD:Gh h1.objs.size ω₃ h' h1.objs.size:=⟨A9 _,by rw [hs'.1];exact hD3.2.2.2.1,hD3.1,hD3.2.1⟩
 have stF:StepE C ω0 h0 ω₃ h':=by
  refine ⟨⟨A8 st1.size (A8 hsz (by rw [hs'.1];exact st3.size)),λa ho _ o e=>?_,λa z=>st3.fz a (st1.fz a z),λa z o e=>kfz a (st1.fz a z) o (st1.fzk a z o e),λa z=>?_,λa z=>?_,λk hk a e=>st3.g k (λz=>hk (hA k z)) a (st1.g k (λz=>hk (hB k z)) a e),λk hk i a e=>st3.d k (λz=>hk (hA k z)) i a (st1.d k (λz=>hk (hB k z)) i a e)⟩,λk a e=>st3.c k a (st1.c k a e)⟩
  ·have e1:=st1.keep a ho (λz=>z) o e
   have ha:=Bz e
   have ho1:ω.ow a=none:=by
    cases z:ω.ow a with
    |none=>rfl
    |some t=>
     exfalso
     rcases st1.ownew a (by rw [z];simp) with y|y
     ·exact y ho
     ·exact absurd ha (DY.mpr y)
   refine kst a ho1 (hlt (Bz e1)).1 (λz=>?_) o e1
   rcases AW.mp z with z|z
   ·exact (hlt (Bz e1)).2 z
   ·exact absurd ha (DY.mpr (hw a z))
  ·rcases st3.fznew a z with y|y|y
   ·exact st1.fznew a y
   ·rcases st1.ownew a y with y|y
    ·exact .inr (.inl y)
    ·exact .inr (.inr y)
   ·exact .inr (.inr (A8 st1.size (A8 hsz y)))
  ·rcases st3.ownew a z with y|y
   ·exact st1.ownew a y
   ·exact .inr (A8 st1.size (A8 hsz y))
 exact ⟨S4.addFz gD hnf,stF.addFz st1.size⟩
theorem WR{y:Str}{py:Pos}{k:Nat}{v:V}{x:Ab}{Cd:Addr}{mm:Str→Option Ab}{R:Aw}{sh:Ac}{tk:Nat}{E:Ab→Ac→Prop}{Q:Flow→Ac→Prop}(hx:N.ns[k]?=some y)(hv:VR w ω' h₃ v x)(hns:h₃.Ns Cd mm)(gC:Ghs h₀ env ω' h₃ [Cd])(hC:sh.heap.objs.size≤Cd)
  (fin:SR w h₀ N env ω' s h₃∧StepE C ω sh.heap ω' h₃) (P:PostS w h₀ N env C ω sh {s with m:=s.m.set k (some v)} .nx Q):
  wpAny (Ag pg w) R (De (.Name y py) env x) (λ_ s''=> ∃m,s''.heap.Ns Cd m∧∀h',Ce Cd s''.heap h'→Q .next {s'' with heap:=h'}) E {sh with heap:=h₃,toks:=tk}:=by
 obtain ⟨S,st⟩:=fin
 refine assign_Name (GK (sh:={sh with heap:=h₃,toks:=tk}) S hx hv λh5 tk5 S5 st5 _=>?_)
 have c0:=gC Cd (by simp)
 refine ⟨mm,hns.at' (st5.keep Cd c0.1 c0.2.2.2.2),λh6 hs=>?_⟩
 obtain ⟨S6,stp6⟩:=S5.ghosts (wr:=[Cd]) (new:= λ_=>False) (gC.step st5) (DC hs.1.symm) (λb o hb e=>by rw [hs.2 b (by simpa using hb)];exact e) (λ_ z=>z.elim)
 refine P _ h6 tk5 .next S6 (Step.drop (wr:=[Cd]) (W:=FW env) (C:=C) (B5 st (W:=FW env)) (((st5.weak (C:=[]) (λ_ q=>q) λ_ q=>.inl q)).trans (stp6.weak (C:=[]) (λ_ q=>q) λ_ q=>.inr q) (C:=[]) (λ_ q=>q) (λ_ q=>q)) (λa ha=>by simp only [Bx] at ha;subst ha;exact hC) (λ_ q=>q) (λ_ q=>q) (λ_ q=>nomatch q)) .nx
end
section
variable{w:A5}{h₀:Heap}{N M:Names}{env env':Env}{ω ω':Wd}{h h':Heap}{s s1 s2:St}{n np:Nat}{A B C:List Nat}{mg mb:Str→Option Ab}{K:Frag}
theorem Zd{A:List Nat}{m:List (Option V)}{n:Nat}(h:(decide (n≤16777216)&&A.all λj=> !(m.any (BP (V.onG j))))=true):n≤16777216∧∀u,some u∈m→u.off A:=
 have h:=(Bv _ _).mp h
 ⟨of_decide_eq_true h.1,Ze h.2⟩
theorem SA{h3:Heap}{D C:Addr}{zs:Array Ab}{m:Nat}{ys:List FV}(hC: ¬ω.fz C)(hs:Ce C h3 h')(ha:h3.get? D=some (C5 zs m))(hne:D≠C)(hd:FRs w ω.fz h3 ys zs.toList):VR w (ω.addFz D) h' (.f (.lst ys)) (.ref D):=⟨D,rfl,.inr rfl,zs,m,(hs.2 _ hne).trans ha,(Dh w _ h' ys).symm▸FRs.mono (λ_ z=>.inl z) (λa z o e=>(hs.2 a λy=>hC (y▸z)).trans e) hd⟩
theorem E0L{tg elt iter:Ak}{ifs:List Ak}{scope:Cn}{pos:Pos}{nl:Nat}{fr:List (Nat×Nat)}{it:Iv}{t:Tg}{c:Cv}{f:Ev}{use:Option (Ab→Sem Unit)}{R:Aw}{v:V}{s':St}{sh:Ac}{Q:Ab→Ac→Prop}{E:Ab→Ac→Prop}{p:Pos}(Bk:Blk N M scope fr)(hnl:M.ns.length=nl)(T:TgR M tg t)(L: ∀k∈t.ks,∀x,M.ns[k]?=some x→scope.names.lookup x=some .local)
  (hi:SoundI w h₀ n B N tg iter it) (hc:SoundT w h₀ n A M ifs c) (hf:Sound w h₀ n A M elt f) (hA: ∀k∈A,k∈C) (hB: ∀k∈B,k∈C) (hfs: ∀env x,FL iter env x=pure x)
  (hR:Rm n R) (S:SR w h₀ N env ω s sh.heap) (q:Mine.Ft A nl fr it t c f s=some (v,s'))
  (P: ∀ω' h3 tk D Cd mm,sh.heap.objs.size≤Cd→h3.Ns Cd mm→Ghs h₀ env ω' h3 [Cd]→(∀h',Ce Cd h3 h'→SR w h₀ N env ω' s' h'∧StepE C ω sh.heap ω' h'∧VR w ω' h' v (.ref D))→I5 (Ag pg w) R E use Q (.ref D) Cd (.ok .next) {sh with heap:=h3,toks:=tk}):
  wpAny (Ag pg w) R (L9 (.ListComp elt [⟨tg,iter,ifs,0⟩] scope pos) scope env p (B04 []) false (eval iter env) use) Q E sh:=by
 refine Ax q λp q1 q=>ifE q λhoff q=>Ax q λr q2 q=>?_
 have hoff:=Zd hoff
 have q:=Dk q
 obtain ⟨cl,hcl,c1,c2⟩:=MW Bk S.fr.ok
 refine B0I (use:=use) rfl (hfs env) hcl Bk.kind Bk.first (hi R env ω s p.2 p.1 sh _ _ hR S q1 λω1 h1 tk1 I wr fr' Src St S1 st1 W hw g hsrc hst=>Nc (T:= "list") (data:=.seq #[]) (Q:= λacc cenv s=>Dw (Ag pg w) R (.compStart (.ListComp elt [⟨tg,iter,ifs,0⟩] scope pos) 0 (.ref I) acc cenv) (I5 (Ag pg w) R E use Q acc cenv.locals) s) rfl (C9 _) rfl Bk S1 g c1 c2 hnl W.toWk0 hsrc hst λh2 tk2 hsz keep hD Sb g2 hDw hsrc2 hst2=>?_)
 have loop:Dw (Ag pg w) R (.compLoop (.ListComp elt [⟨tg,iter,ifs,0⟩] scope pos) 0 (.ref I) (.ref h1.objs.size) (GX scope cl (h1.objs.size+1) env))
   (I5 (Ag pg w) R E use Q (.ref h1.objs.size) (h1.objs.size+1)) {sh with heap:=h2,toks:=tk2}:=
  E0M (sh:={sh with heap:=h2,toks:=tk2}) T (λk hk x hx=>LD (L k hk x hx)) hc hf hR W Sb g2 hDw hsrc2 hst2 hD hoff.1 q2 λω3 h3 tk3 m3 zs S3 st3 g3 ha3 hd3=>by
   obtain ⟨mm3,n3,_⟩:=S3.fr.ns
   have co:=Nd S1 st1 g hw rfl hsz keep S3 st3 g3 hoff.2 hA hB
   exact P _ h3 tk3 _ _ mm3 (A8 st1.size (CZ _)) n3 co.1 λh' hs'=>⟨q.2▸(co.2 h' hs').1,(co.2 h' hs').2,q.1▸SA (S3.fr.off _ (.inl rfl)).2.1 hs' ha3 (C4 (C8 _)) hd3⟩
 exact M0U loop (W.self 0 _ _ _ hst2 loop)
theorem Lb{tg elt iter:Ak}{ifs:List Ak}{scope:Cn}{pos:Pos}{nl:Nat}{fr:List (Nat×Nat)}{it:Iv}{t:Tg}{c:Cv}{f:Ev}(_B':Base h₀ mg mb)(Bk:Blk N M scope fr)(hnl:M.ns.length=nl)(T:TgR M tg t)(L: ∀k∈t.ks,∀x,M.ns[k]?=some x→scope.names.lookup x=some .local)
  (hi:SoundI w h₀ n B N tg iter it) (hc:SoundT w h₀ n A M ifs c) (hf:Sound w h₀ n A M elt f) (hA: ∀k∈A,k∈C) (hB: ∀k∈B,k∈C) (hfs: ∀env x,FL iter env x=pure x):
  Sound w h₀ n C N (.ListComp elt [⟨tg,iter,ifs,0⟩] scope pos) (Ft A nl fr it t c f):=
 λR env ω s s' v sh Q E hR S q P=>M0Y ..▸E0L (use:=CE) Bk hnl T L hi hc hf hA hB hfs hR S q λω' h3 tk D Cd mm _ hns _ fin=>⟨mm,hns,λh' hs=>Np (fin h' hs) (P _ _ tk _)⟩
theorem NC(S:SR w h₀ N env ω s h){a:Addr}(ha:h.objs.size≤a):ω.ow a=none∧¬ω.fz a:=⟨(S.unseen ha).1,(S.unseen ha).2.1⟩
theorem H0H{nm:Str}{e:Ak}{p pos:Pos}{f:Ev}(B':Base h₀ mg mb)(b:Blt mg N.gs nm (.type "list"))(hf:Sound w h₀ n A N e f)(hs: ∀env,AR [e] env=[(false,eval e env)]):SoundA w h₀ n A N (.Call (.Name nm p) [e] [] pos) (Mine.Pu f):=
 λR env ω s s' o sh Q E hR S q P=>Ax q λp q1 q=>JE (Gf B' b S (Pb (hf R env ω s p.2 p.1 sh _ E hR S q1 λω1 h1 tk1 y S1 st1 vy=>V.onFR q vy λx f q=>Mi (P:= λy=>wpAny _ _ (call (.type "list") [y]) Q E _) q f λxs a z l q=>ifE q λhl q=>l.casesOn λys m z2 z3=>
  EF (call_list_seq (s:={sh with heap:=h1,toks:=tk1}) (hsz:=Co.symm▸A8 (DC (z3.length.trans DB).symm) hl) a (.inl rfl) z2 rfl rfl λh2 c' hk hD hsz=>
   have G:Grow ω1 h1 ω1 h2:=DP hsz hk
   have nw:=NC S1 (A9 _)
   P.eq (An q) ω1 h2 tk1 h1.objs.size (S1.grow G) (st1.trans G.step (λ_ q=>q) AY) ⟨st1.size,Bz hD,nw.1,nw.2⟩ ⟨ys,c',hD,FRs.mono G.fz (λa _ o q=>G.keep a o q) z3⟩)))) (hs env)
theorem H0G{nm:Str}{e:Ak}{p pos:Pos}{f:Ev}(B':Base h₀ mg mb)(b:Blt mg N.gs nm (.type "dict"))(hf:Sound w h₀ n A N e f)(hs: ∀env,AR [e] env=[(false,eval e env)]):SoundA w h₀ n A N (.Call (.Name nm p) [e] [] pos) (Mine.A.dictOf f):=
 λR env ω s s' o sh Q E hR S q P=>Ax q λp q1 q=>JE (Gf B' b S (Pb (hf R env ω s p.2 p.1 sh _ E hR S q1 λω1 h1 tk1 y S1 st1 vy=>V.onFR q vy λx f q=>UJ (P:= λy=>wpAny _ _ (call (.type "dict") [y]) Q E _) q f λes a z g l q=>ifE q λhl q=>l.casesOn λkvs z2 z3=>
  kt_call_dict (s:={sh with heap:=h1,toks:=tk1}) (knd:=strKind pg w) g z2 (Co.symm▸A8 (DC (RelL.len z3).symm) hl) λh2 hd hsb=>
   have hsz:h2.objs.size=h1.objs.size+1:=hsb.1.trans (CI ..)
   have G:Grow ω1 h1 ω1 h2:=DP (hsz▸CZ _) λa o e=>(hsb.2 a (C4 (Bz e))).trans (Dd _ e)
   have nw:=NC S1 (A9 _)
   P.eq (An q) ω1 h2 _ h1.objs.size (S1.grow G) (st1.trans G.step (λ_ q=>q) AY) ⟨st1.size,hsz▸C8 _,nw.1,nw.2⟩ ⟨kvs,hd,FRd.mono G.fz (λa _ o q=>G.keep a o q) z3⟩))) (hs env)
end
noncomputable def ES{α:Type}(lt:α→α→Bool):α→List α→α
 |x,[]=>x
 |x,y::r=>ES lt (if lt y x then y else x) r
theorem H0W(x:Nm)(r:List Nm):Gg x r=ES C6 x r:=by
 induction r generalizing x with
 |nil=>rfl
 |cons y r ih=>exact ih _
theorem H0U(x:Int)(r:List Int):G9 x r=ES (λa b=>decide (a<b)) x r:=by
 induction r generalizing x with
 |nil=>rfl
 |cons y r ih=>exact (ih _).trans (congrArg (ES _ · r) (by by_cases h:y<x<;>simp [h]))
theorem Yl{α:Type}(lt:α→α→Bool)(y:α): ∀(x:α) (r:List α),ES lt x (r++[y])=if lt y (ES lt x r) then y else ES lt x r
 |x,[]=>rfl
 |x,z::r=>by
  show ES lt (if lt z x then z else x) (r++[y])=_
  rw [Yl lt y _ r];rfl
noncomputable def E8{α:Type}(lt:α→α→Bool)(xs:List α)(i j:Nat):Bool:=match xs[i]?,xs[j]? with
 |some a,some b=>lt a b
 |_,_=>false
theorem Wn{α:Type}(lt:α→α→Bool)(xs:List α)(x:α)(hx:xs[0]?=some x): ∀(k:Nat),k<xs.length→xs[I3 (E8 lt xs) k]?=some (ES lt x ((xs.drop 1).take k))∧I3 (E8 lt xs) k≤k
 |0,_=>by
  refine ⟨?_,A9 _⟩
  show xs[0]?=_
  rw [hx];rfl
 |k+1,hk=>by
  obtain ⟨ih1,ih2⟩:=Wn lt xs x hx k (by omega)
  have hy:xs[k+1]?=some xs[k+1]:=Fc hk
  have ht:(xs.drop 1).take (k+1)=(xs.drop 1).take k++[xs[k+1]]:=by
   rw [List.take_add_one]
   congr 1
   rw [List.getElem?_drop,J8,hy]
   rfl
  rw [ht,Yl]
  unfold I3
  have hb:E8 lt xs (k+1) (I3 (E8 lt xs) k)=lt xs[k+1] (ES lt x ((xs.drop 1).take k)):=by unfold E8;rw [hy];show (match some xs[k+1],xs[I3 (E8 lt xs) k]? with|some a,some b=>lt a b|_,_=>false)=_;rw [ih1]
  rw [hb]
  split
  ·exact ⟨hy,A9 _⟩
  ·exact ⟨ih1,by omega⟩
theorem Ex: ∀(a b:Nm),C6 a b=decide (a<b)
 |[],[]=>by simp [C6]
 |[],_::_=>by simp [C6]
 |_::_,[]=>by simp [C6]
 |x::a,y::b=>by
  have ih:=Ex a b
  unfold C6
  by_cases h1:x<y
  ·rw [if_pos h1]
   exact (decide_eq_true (OC.mpr (.inl h1))).symm
  ·rw [if_neg h1]
   by_cases h2:y<x
   ·rw [if_pos h2]
    refine (decide_eq_false λq=>?_).symm
    rcases OC.mp q with q|⟨q,_⟩
    ·exact h1 q
    ·omega
   ·have:x=y:=by omega
    subst this
    rw [if_neg h2,ih]
    have:(a<b)↔(x::a<x::b):=⟨λq=>OC.mpr (.inr ⟨rfl,q⟩),λq=>(OC.mp q).elim (λz=>absurd z (Bu _)) λz=>z.2⟩
    exact decide_eq_decide.mpr this
section
variable{w:A5}{h₀:Heap}{N M:Names}{env env':Env}{ω ω':Wd}{h h':Heap}{s s1 s2:St}{n np:Nat}{A B C:List Nat}{mg mb:Str→Option Ab}{K:Frag}
theorem RelL.flip{ι α:Type}{R:ι→α→Prop}: ∀{xs:List ι} {ys:List α},RelL R xs ys→RelL (λy x=>R x y) ys xs:= λ{xs}=>by
 induction xs with
 |nil=>exact λe=>RelL.nil e (P:= λys=>RelL _ ys []) rfl
 |cons x xs ih=>exact λe=>RelL.cons e (P:= λys=>RelL _ ys (x::xs)) λy r a b=>.mk a (ih b)
theorem K0f{α:Type}{R:FV→α→Prop}: ∀{xs:List FV} {ys:List Nm} {vs:List α},E2 xs=some ys→RelL R xs vs→RelL (λy v=>R (.str y) v) ys vs:= λ{xs}=>by
 induction xs with
 |nil=>exact λe r=>An e▸r
 |cons x xs ih=>exact λe r=>Mj e λy hx e=>AV e λl e1 e2=>RelL.cons r (P:= λvs=>RelL _ _ vs) λv vs a b=>e2▸RelL.mk (hx▸a) (ih e1 b)
section
variable{α:Type}{lt:α→α→Bool}{y:α}{ys:List α}{vs:List Ab}{Rv:α→Ab→Prop}(Rl:RelL Rv (y::ys) vs)
include Rl
theorem Y7{v:Ab}(hv:vs[I3 (E8 lt (y::ys)) (vs.length - 1)]?=some v):Rv (ES lt y ys) v:=RelL.get Rl ((Wn lt (y::ys) y rfl ys.length (C8 _)).1.trans (congrArg (λl=>some (ES lt y l)) List.take_length)) λv' e r=>An (e.symm.trans ((congrArg (λn=>vs[I3 (E8 lt (y::ys)) (n - 1)]?) (RelL.len Rl)).trans hv))▸r
theorem Y6{i j:Nat}{vi vj:Ab}{P:Bool→Prop}(hi:vs[i]?=some vi)(hj:vs[j]?=some vj)(k: ∀a b,Rv a vi→Rv b vj→P (lt a b)):P (E8 lt (y::ys) i j):=
 RelL.get Rl.flip hi λa ha ra=>RelL.get Rl.flip hj λb hb rb=>by
  unfold E8
  rw [ha,hb]
  exact k a b ra rb
end
theorem I0B:Op1 w h₀ n (λx=>call (.builtin "min") [x]) SU:=
 λR N env ω s a r sh x Q E hR S e va P=>V.onFR e va λv f e=>Mi (P:= λx=>wpAny _ _ (call (.builtin "min") [x]) Q E _) e f λxs c z l e=>Ax e λl' hs e=>l.casesOn λvs m z2 z3=>by
  cases l' with
  |nil=>exact noS e
  |cons y ys=>
   have Rl:=K0f (R:=FR w ω.fz sh.heap) hs z3
   have hl:sh.heap.IsList c vs:=⟨_,z2,rfl,m,rfl⟩
   have G:=DT (ω:=ω) (h:=sh.heap) {cls:=.type "list_iterator",data:=.fields #[.ref c,.int 0 0]}
   have tl: ∀{i:Nat} {v:Ab},vs[i]?=some v→vs.toList[i]?=some v:= λe=>I0.trans e
   exact EF (M0S (N0t hl ⟨sh.heap.objs.size,[sh.heap.objs.size,c],[sh.heap.objs.size],vs.size,(λi v=>vs[i]?=some v),(λi h=>h.IsListIter sh.heap.objs.size c i∧h.IsList c vs),E8 C6 (y::ys),rfl,M0O (A:=R.in1) hR.1 sh.heap.objs.size c (λz=>Bu _ (z▸Bz z2)) vs,⟨⟨_,BQ _ rfl,rfl,rfl⟩,hl.push _⟩,
    CI ..▸Fb.mpr ⟨C8 _,FA (FG (Bz z2))⟩,(RelL.len Rl).trans DB▸FH _,
    λi j vi vj s' Q' E' hi hj=>Y6 Rl (tl hi) (tl hj) (P:= λb=>Q' (.bool b) s'→wpAny _ _ _ Q' E' s') λa b ra rb hq=>ra.elim λt e=>rb.elim λu e'=>Au e▸Au e'▸M0f (Ex a b▸hq),
    λv h' tk hp hk hsz=>
     have G2:Grow ω sh.heap ω h':=DP hsz λb o e=>hk b o (λz=>Bu _ (Bx.mp z▸Bz e)) (G.keep b o e)
     P.grow S G2 (An e▸H0W y ys▸FR.mono G2.fz (λa _ o q=>G2.keep a o q) (Y7 Rl (tl hp))) tk⟩))
theorem G08{α:Type}{R:FV→α→Prop}: ∀{xs:List FV} {ys:List Int} {vs:List α},Ib xs=some ys→RelL R xs vs→RelL (λy v=>R (.int y) v) ys vs:= λ{xs}=>by
 induction xs with
 |nil=>exact λe r=>An e▸r
 |cons x xs ih=>exact λe r=>IF e λy hx e=>AV e λl e1 e2=>RelL.cons r (P:= λvs=>RelL _ _ vs) λv vs a b=>e2▸RelL.mk (hx▸a) (ih e1 b)
theorem RelL.maps{ι α κ β:Type}{R:ι→α→Prop}{R':κ→β→Prop}{f:ι→κ}{g:α→β}(k: ∀x y,R x y→R' (f x) (g y)): ∀{xs:List ι} {ys:List α},RelL R xs ys→RelL R' (xs.map f) (ys.map g):= λ{xs}=>by
 induction xs with
 |nil=>exact λe=>RelL.nil e (P:= λys=>RelL R' [] (ys.map g)) rfl
 |cons x xs ih=>exact λe=>RelL.cons e (P:= λys=>RelL R' (f x::xs.map f) (ys.map g)) λy r a b=>.mk (k x y a) (ih b)
theorem J0U{nm vn:Str}{o:Ak}{p pos apos vpos:Pos}{f:Ev}(B':Base h₀ mg mb)(b:Blt mg N.gs nm (.builtin "min"))(Mc:MCall0 o vn apos vpos "dict" "dict.values")(hf:Sound w h₀ n A N o f)
  (hs: ∀env,AR [.Call (.Attribute o vn apos) [] [] vpos] env=[(false,eval (.Call (.Attribute o vn apos) [] [] vpos) env)]):Sound w h₀ n A N (.Call (.Name nm p) [.Call (.Attribute o vn apos) [] [] vpos] [] pos) (Al SV f):=
 λR env ω s s' v sh Q E hR S q P=>Lg q λa e1 e2=>JE (Gf B' b S (M0R (LN (args:=[]) (Mc.base env) rfl Mc.line Mc.attrs Mc.slot Mc.ty (hf R env ω s s' a sh _ E hR S e1 λω1 h1 tk1 x S1 st1 vx=>
  V.onCE e2 λk ha e2=>Ax e2 λo hc e2=>HO e2 λes ho e2=>Ax e2 λl hi e2=>(S1.l k o hc).casesOn λc mc tc _ ca=>(ca.dict ho).casesOn λkvs z2 z3=>Dt (ha▸vx:VR w ω1 h1 (.c k) x) λc' y1 y2=>by
   cases l with
   |nil=>exact noS e2
   |cons y ys=>
    cases y2
    cases An (y1.symm.trans mc)
    have Rl:=G08 (R:=FR w ω1.fz h1) hi (RelL.maps (f:= λe:Nm×FV=>e.2) (g:= λe:Str×Ab=>e.2) (λp e r=>r.casesOn λu e1 e2=>Au e1▸e2) z3)
    refine ⟨z2.typeIs (s:={sh with heap:=h1,toks:=tk1}),(K0 (sh:={sh with heap:=h1,toks:=tk1}) z2).2,A0Q (JJ (s:={sh with heap:=h1,toks:=tk1}) M05 z2.typeIs PySem.F.entry_dict_values (PySem.F.args_dict_values_1 _) (meets_dict_values (strKind pg w) c (F2 B' S1 tc)) ⟨⟨kvs,z2⟩,?_⟩)⟩
    have G1:=DT (ω:=ω1) (h:=h1) {cls:=.type "dict_values",data:=.fields #[.ref c]}
    refine (z2.push {cls:=.type "dict_values",data:=.fields #[.ref c]}).dictAt.elim λep hd=>F5 (id hd) λoo ees d1 d2=>?_
    have hclt:c<(h1.push {cls:=.type "dict_values",data:=.fields #[.ref c]}).objs.size:=Bz d1
    have G2:=DT (ω:=ω1) (h:=h1.push {cls:=.type "dict_values",data:=.fields #[.ref c]}) {cls:=.type "dict_valueiterator",data:=.fields #[.ref c,.int 0 0,.int kvs.length 0,.int ep 0]}
    have tl: ∀{i:Nat} {v:Ab},(∃k,kvs[i]?=some (k,v))→(kvs.map λe=>e.2)[i]?=some v:= λe=>e.elim λk e=>CH.trans (congrArg (Fh _) e)
    exact EF (M0S (s:={sh with heap:=h1.push {cls:=.type "dict_values",data:=.fields #[.ref c]},toks:=tk1}) (wpAny_pyIter_values ⟨_,BQ _ rfl,rfl,rfl⟩ hd ⟨_,[_,c],[_],kvs.length,(λi v=> ∃k,kvs[i]?=some (k,v)),_,E8 (λa b=>decide (a<b)) (y::ys),rfl,Walks.dictValues (A:=R.in1) (knd:=strKind pg w) hR.1 _ c (C4 hclt) kvs ep,⟨⟨_,BQ _ rfl,rfl,rfl⟩,oo,ees,G2.keep _ _ d1,d2⟩,
     Fb.mpr ⟨Bz (BQ _ rfl),FA (Bc hclt G2.size)⟩,(RelL.len Rl).trans (AD ..)▸FH _,
     λi j vi vj s' Q' E' hi hj=>Y6 Rl (tl hi) (tl hj) (P:= λb=>Q' (.bool b) s'→wpAny _ _ _ Q' E' s') λa b ra rb hq=>ra.elim λt e=>rb.elim λu e'=>Au e▸Au e'▸M0e hq,
     λv h' tk hp hk hsz=>
      have G3:Grow ω1 h1 ω1 h':=DP (A8 G1.size hsz) λb o e=>hk b o (λz=>Bu _ (Bx.mp z▸Bz (G1.keep b o e))) (G2.keep b o (G1.keep b o e))
      P _ _ tk _ (S1.grow G3) (st1.trans G3.step (λ_ q=>q) AY) (An e2▸H0U y ys▸Y7 Rl ((congrArg (λm=>(kvs.map λe=>e.2)[I3 (E8 (λa b=>decide (a<b)) (y::ys)) (m - 1)]?) (AD ..)).trans (tl hp)))⟩)))))) (hs env)
end
noncomputable def G0k:List String:=["type.__call__","bytearray.__init__","claim.caller"]
noncomputable def Fu:Code→Bool
 |.builtin id _=>G0k.contains id
 |_=>true
def Ml(l:List (Code×Pos)):Prop:= ∀x∈l,Fu x.1=true
def wpG{α:Type}(M:D3)(A:Aw)(t:Sem α)(Q:α→Ac→Prop)(E:Ab→Ac→Prop)(s:Ac):Prop:=∀Γ p,Ctx.In Γ A→Fu Γ.code=true→Ml Γ.below→B0i M Γ t (λa _ s'=>Q a s') (λe _ s'=>E e s') p s
def BU(M:D3)(A:Aw)(c:Code)(R:BR→Ac→Prop)(s:Ac):Prop:=∀Γ p,Γ.code=c→Ctx.Below Γ A→Ml Γ.below→wpCode M Γ R p s
section
variable{α β:Type}{M:D3}{A:Aw}{E:Ab→Ac→Prop}{s:Ac}
theorem AI{t:Sem α}{Q:α→Ac→Prop}(h:wpAny M A t Q E s):wpG M A t Q E s:= λΓ p hΓ _ _=>h Γ p hΓ
theorem WM{c:Code}{R:BR→Ac→Prop}(h:Dw M A c R s):BU M A c R s:= λΓ p hc hΓ _=>h Γ p hc hΓ
theorem Bb{a:α}{Q:α→Ac→Prop}(h:Q a s):wpG M A (pure a) Q E s:= λ_ _ _ _ _=>h
theorem El{t:Sem α}{Q Q':α→Ac→Prop}{E':Ab→Ac→Prop}(h:wpG M A t Q E s)(hQ: ∀a s,Q a s→Q' a s)(hE: ∀e s,E e s→E' e s):wpG M A t Q' E' s:=λΓ p hΓ g1 g2=>OU M Γ t (λa _ s=>hQ a s) (λe _ s=>hE e s) p s (h Γ p hΓ g1 g2)
theorem A4{m:Sem α}{f:α→Sem β}{Q:β→Ac→Prop}(h:wpG M A m (λa s'=>wpG M A (f a) Q E s') E s):wpG M A (m>>=f) Q E s:= λΓ p hΓ g1 g2=>by
 rw [Sem.wp_bind']
 exact OU M Γ m (λa p' s' h'=>h' Γ p' hΓ g1 g2) (λ_ _ _ h'=>h') p s (h Γ p hΓ g1 g2)
theorem DV{vs:List Ab}{m:Sem α}{Q:α→Ac→Prop}(h:wpG M A m Q E s):wpG M A (Ea vs m) Q E s:=λΓ p hΓ g1 g2=>by rw [Sem.wp_holding];exact h Γ p hΓ g1 g2
theorem Li{m:Sem α}{k:Ab→Sem Unit}{Q:α→Ac→Prop}(h:wpG M A m Q (λe s'=>wpG M A (k e) (λ_ s''=>E e s'') E s') s):wpG M A (m.onRaise k) Q E s:= λΓ p hΓ g1 g2=>by
 rw [Sem.wp_onRaise]
 exact OU M Γ m (λ_ _ _ h'=>h') (λe p' s' h'=>h' Γ p' hΓ g1 g2) p s (h Γ p hΓ g1 g2)
theorem K0Q{pos:Pos}{Q:Unit→Ac→Prop}(h:Q () s):wpG M A (Fp pos) Q E s:= λ_ _ _ _ _=>h
theorem O2{m:Sem α}{f:α→Sem β}{Q:β→Ac→Prop}(h:wpAny M A m (λa s'=>wpG M A (f a) Q E s') E s):wpG M A (m>>=f) Q E s:=A4 (AI h)
theorem DA{pos:Pos}{f:Unit→Sem β}{Q:β→Ac→Prop}(h:wpG M A (f ()) Q E s):wpG M A (Fp pos>>=f) Q E s:=A4 (K0Q h)
theorem Sk{Γ:Ctx}{c:Code}{hd:Option Ab}{p:Pos}(g1:Fu Γ.code=true)(g2:Ml Γ.below):Ml (Γ.enter c hd p).below:=by
 intro x hx
 rcases AW.mp hx with rfl|hx
 ·exact g1
 ·exact g2 x hx
theorem K0P{c:Code}{Q:Ab→Ac→Prop}(hc:BU M A c (λr s'=>match r with|.ok (.ret v)=>Q v s'|.ok _=>False|.error e=>E e s') s):wpG M A (runValue c) Q E s:= λΓ p hΓ g1 g2=>by rw [Sem.wp_runValue];exact hc _ p rfl (hΓ.enter c none p (by intro x;cases x)) (Sk g1 g2)
theorem Lh{f:Ab}{pos:List Ab}{kw:List (Str×Ab)}{Q:Ab→Ac→Prop}(hc:BU M A (.call f ⟨pos,kw⟩) (λr s'=>match r with|.ok (.ret v)=>Q v s'|.ok _=>False|.error e=>E e s') s):
  wpG M A (call f pos kw) Q E s:=K0P hc
theorem R8{c:Code}{R R':BR→Ac→Prop}(h:BU M A c R s)(hR: ∀r s,R r s→R' r s):BU M A c R' s:= λΓ p hc hΓ g=>wpCode_mono hR (h Γ p hc hΓ g)
theorem G5{c:Code}{R:BR→Ac→Prop}(hg:Fu c=true)
  (h:wpG M (A.under c) (M.den c) (λfin s'=>match fin with|.done f=>R (.ok f) s'|.again c'=>c'.quiet=true∧BU M A c' R s') (λe s'=>R (.error e) s') s):BU M A c R s:= λΓ p hc hΓ g=>by
 rw [wpCode_iff_wp,hc]
 refine OU M Γ _ (λfin p' s' h'=>?_) (λ_ _ _ h'=>h') p s (h Γ p (hc▸hΓ.in) (hc▸hg) g)
 cases fin with
 |done f=>exact h'
 |again c'=>exact ⟨h'.1,h'.2 (Γ.goto c') p' rfl (hΓ.goto c') g⟩
end
section
variable{w:A5}{A:Aw}{E:Ab→Ac→Prop}{s:Ac}
theorem R7{id:String}{args:Args}{b:Dc}{R:BR→Ac→Prop}(hb:I6 Gu id=some b)(hg:Fu (.builtin id args)=true)
  (h:wpG (Ag pg w) (A.under (.builtin id args)) (b args) (λfin s'=>match fin with|.done f=>R (.ok f) s'|.again c'=>c'.quiet=true∧BU (Ag pg w) A c' R s') (λe s'=>R (.error e) s') s):BU (Ag pg w) A (.builtin id args) R s:=by
 refine G5 hg ?_
 show wpG _ _ (match I6 Gu id with|some b=>b args|none=>unsupported ((withoutEnding? id "#data").getD id)) _ _ s
 rw [hb];exact h
theorem E01{id:String}{args:Args}{b:Dc}{R:BR→Ac→Prop}(hid:plainId id=true)(hb:I6 Gu id=some b)(hg:Fu (.builtin id args)=true)(hc:wpAny (Ag pg w) A.in1 (I4 id args) (λ_ s'=>wpG (Ag pg w) A.in1 (b args) (λfin s'=>match fin with|.done f=>R (.ok f) s'|.again c'=>c'.quiet=true∧BU (Ag pg w) A c' R s') (λe s'=>R (.error e) s') s') (λe s'=>R (.error e) s') s):BU (Ag pg w) A (.call (.builtin id) args) R s:=by
 refine G5 rfl ?_
 show wpG _ A.in1 (do I4 id args;again (.builtin id args)) _ _ s
 refine O2 (Bo hc (λ_ s' h=>?_) (λ_ _ h=>h))
 refine Bb ⟨U2 hid _,R7 hb hg ?_⟩
 rw [Uh hid _]
 exact h
end
section
variable{M:D3}{A:Aw}{E:Ab→Ac→Prop}{s:Ac}
theorem K0L{self:Ab}{Q:Bool→Ac→Prop}(h:Q false s):wpG M A (A0W self) Q E s:= λΓ p _ g1 g2=>by
 unfold A0W
 show Q (L0s ((Γ.code,p)::Γ.below) _) s
 rw [Ll.mpr λx hx=>?_]
 ·exact h
 have a1:Fu x.1=true:=(AW.mp hx).elim (λe=>e▸g1) (g2 x)
 obtain ⟨c,p'⟩:=x
 cases c with
 |builtin id args=>
  have q:id= "type.__call__"∨id= "bytearray.__init__"∨id= "claim.caller":=by simpa only [Fu,G0k,List.contains_cons,List.contains_nil,L0e,O6,beq_iff_eq] using a1
  have d:O0o.contains id=false:=by rcases q with rfl|rfl|rfl<;>decide+kernel
  obtain ⟨ps,ks⟩:=args
  rcases q with rfl|rfl|rfl<;>cases ps with
  |nil=>exact C3
  |cons v r=>show¬((M0l v self&&_)=true);rw [d,A0z];exact C3
 |_=>exact C3
end
section
variable{w:A5}{A:Aw}{E:Ab→Ac→Prop}{s:Ac}
theorem K0J{self:Ab}{T:String}{name:Str}{id:String}{args:List Ab}{Q:Option Ab→Ac→Prop}(hT:s.TypeIs self T)(h:Slot T name id)
  (hc:wpG (Ag pg w) A (call (.builtin id) (self::args) []) (λv=>Q (some v)) E s):wpG (Ag pg w) A (B0t self name args []) Q E s:=by
 unfold B0t
 refine O2 (Gv hT h.lookup ?_)
 refine DV ?_
 rw [h.bind self]
 refine A4 (Bb ?_)
 exact A4 (El hc (λv s' z=>Bb z) λ_ _ z=>z)
theorem WC{T newId initId:String}{Bi:Dc}{args:List Ab}{Q Q₁:Ab→Ac→Prop}(ft:TypeCalled T newId initId)
  (hct:B0v T ⟨args,[]⟩=pure ()) (entryI:I6 Gu initId=some Bi) (hgi: ∀a,Fu (.builtin initId a)=true)
  (hnew:Dw (Ag pg w) A.in1 (.call (.builtin newId) ⟨.type T::args,[]⟩) (JN Q₁ E) s)
  (hnext: ∀obj s₁,Q₁ obj s₁→s₁.TypeIs obj T∧HC initId ⟨obj::args,[]⟩∧
   wpG (Ag pg w) A.in1.in1 (Bi ⟨obj::args,[]⟩)
    (λfin s'=>match fin with|.done f=>JN (λr s₂=>r=.none∧Q obj s₂) E (.ok f) s'|.again c'=>c'.quiet=true∧BU (Ag pg w) A.in1 c' (JN (λr s₂=>r=.none∧Q obj s₂) E) s')
    (λe s'=>JN (λr s₂=>r=.none∧Q obj s₂) E (.error e) s') s₁):
  wpG (Ag pg w) A (call (.type T) args) Q E s:=by
 obtain ⟨c,tl,hmro⟩:=ft.mro
 have hmade:=ft.made
 have hsub:=ft.sub
 refine Lh (G5 rfl ?_)
 show wpG _ _ (Pa (.type T) _) _ _ _
 refine Bb ⟨M0w _ (by decide+kernel),R7 F.entry_type_call rfl ?_⟩
 rw [Around.under_plain (weight_type_call_type T args []) rfl]
 have h1:=ft.notType
 have h2:=ft.canCreate
 unfold Dc.«type.__call__»
 dsimp only
 rw [if_neg (by rw [h1];exact C3)]
 rw [if_neg (by rw [h2];exact C3)]
 refine A4 (AI (CG hct ?_))
 refine A4 (AI (CG hmro ?_))
 refine A4 (AI (CG hmade ?_))
 refine A4 (Bb ?_)
 refine A4 (DV (AI (B0F (codeAny_mono hnew λr s₁ hr=>?_))))
 cases r with
 |error e=>exact hr
 |ok fl=>
  cases fl with
  |ret obj=>
   obtain ⟨hT,hok,hsi⟩:=hnext _ _ hr
   refine A4 (AI (U7 hT hsub ?_))
   rw [if_neg (by decide)]
   refine A4 (DV (K0J hT ft.init (Lh (R8 (E01 ft.init.plain entryI (hgi _) (ft.init.check _ _ _ _ _ _ _ _ hT hok hsi)) λr₂ s₂ hr₂=>?_))))
   cases r₂ with
   |error e=>exact hr₂
   |ok fl₂=>
    cases fl₂ with
    |ret r=>
     obtain ⟨rfl,hq⟩:=hr₂
     exact Bb hq
    |_=>exact hr₂.elim
  |_=>exact hr.elim
end
theorem Wy:mroOf (.type "bytearray")=pure [.type "bytearray",.type "object"]:=by rw [mroOf_type];left
theorem D0U:HG (.type "bytearray") "__new__"=pure (some (.builtin "bytearray.__new__")):=by rw [GZ,GW];left
theorem J0J:Slot "bytearray" "__init__" "bytearray.__init__":=
 .of (owner:= "bytearray") (n:= "__init__") (by rw [GZ,GW];left) (by decide+kernel) (by decide+kernel) (by decide+kernel)
  (by first|exact .inl (by decide+kernel)|exact .inr (by decide+kernel)) (by rw [Pf];left)
theorem Wx:TypeCalled "bytearray" "bytearray.__new__" "bytearray.__init__":=⟨by decide+kernel,by decide+kernel,⟨_,_,Wy⟩,madeBy_type Wy D0U (by decide+kernel),by decide+kernel,by rw [Pf];left,J0J⟩
theorem E0d:B0v "bytearray" ⟨[],[]⟩=pure ():=by left
theorem E0e(a:Ab):B0v "bytearray" ⟨[a],[]⟩=pure ():=by left
theorem D0V:I4 "bytearray.__new__" ⟨[.type "bytearray"],[]⟩=pure ():=by left
theorem D0W(a:Ab):I4 "bytearray.__new__" ⟨[.type "bytearray",a],[]⟩=pure ():=by left
theorem Xj:I6 Gu "bytearray.__new__"=some Dc.«list.__new__»:=entryFor_alias (id':= "list.__new__") (by left) (by first|rfl|decide+kernel) (by decide+kernel) (by left)
theorem Xi:I6 Gu "bytearray.__init__"=some Dc.«bytearray.__init__»:=B01 (by left)
theorem NU:plainId "bytearray.__new__"=true:=by decide+kernel
theorem XB(a:Args):Fu (.builtin "bytearray.__init__" a)=true:=rfl
theorem D09(a:Ab):HC "bytearray.__init__" ⟨[a],[]⟩:=by unfold HC;rw [U3 (id:= "bytearray.__init__") (n:=['_','_','t','i','n','i','_','_']) (o:=['y','a','r','r','a','e','t','y','b']) (by left) NS];left
theorem D0A(a b:Ab):HC "bytearray.__init__" ⟨[a,b],[]⟩:=by unfold HC;rw [U3 (id:= "bytearray.__init__") (n:=['_','_','t','i','n','i','_','_']) (o:=['y','a','r','r','a','e','t','y','b']) (by left) NS];left
theorem Kj:isSubtype (.type "bytearray") (.type "bytearray")=pure true:=by rw [Pf];left
theorem Wz:("bytearray.__new__".splitOn ".__new__").headD ""= "bytearray":=by rw [PySem.W.split_bytearray];rfl
theorem D0Y:HG (.type "bytearray") "__release_buffer__"=pure (some (.builtin "bytearray.__release_buffer__")):=by rw [GZ,GW];left
theorem E0a:("bytearray.__release_buffer__".endsWith ("."++ "__release_buffer__"))=true:=by decide+kernel
theorem D0Z:("bytearray.__release_buffer__".dropRight ("__release_buffer__".length+1))= "bytearray":=by decide+kernel
section
variable{w:A5}{A:Aw}{E:Ab→Ac→Prop}{s:Ac}
theorem E06{Q₁:Ab→Ac→Prop}(h:Q₁ (.ref s.heap.objs.size) {s with heap:=s.heap.push (Cj #[])}):Dw (Ag pg w) A (.call (.builtin "bytearray.__new__") ⟨[.type "bytearray"],[]⟩) (JN Q₁ E) s:=by
 refine B0y ?_
 show wpAny _ A.in1 (do I4 "bytearray.__new__" ⟨[.type "bytearray"],[]⟩;again (.builtin "bytearray.__new__" ⟨[.type "bytearray"],[]⟩)) _ _ s
 refine Aq (CG D0V (AJ ⟨U2 NU _,M0T Xj rfl λp st=>?_⟩))
 rw [Uh NU _]
 have hsub:=Kj
 have hown:=Wz
 obtain ⟨hp,g,d,tk,os⟩:=s
 simp only [hown]
 wp_walk
 exact h
theorem E07(a:Ab){Q₁:Ab→Ac→Prop}(h:Q₁ (.ref s.heap.objs.size) {s with heap:=s.heap.push (Cj #[])}):Dw (Ag pg w) A (.call (.builtin "bytearray.__new__") ⟨[.type "bytearray",a],[]⟩) (JN Q₁ E) s:=by
 refine B0y ?_
 show wpAny _ A.in1 (do I4 "bytearray.__new__" ⟨[.type "bytearray",a],[]⟩;again (.builtin "bytearray.__new__" ⟨[.type "bytearray",a],[]⟩)) _ _ s
 refine Aq (CG (D0W a) (AJ ⟨U2 NU _,M0T Xj rfl λp st=>?_⟩))
 rw [Uh NU _]
 have hsub:=Kj
 have hown:=Wz
 obtain ⟨hp,g,d,tk,os⟩:=s
 simp only [hown]
 wp_walk
 exact h
theorem D0N:M0g "bytearray.__init__" "bytearray" ["source","encoding","errors"] [] []=pure [none,none,none]:=by left
theorem D0O(v:Ab):M0g "bytearray.__init__" "bytearray" ["source","encoding","errors"] [v] []=pure [some v,none,none]:=by left
theorem T8{a:Addr}{Q:Bool→Ac→Prop}(hT:s.TypeIs (.ref a) "bytearray")(h:Q false s):wpAny (Ag pg w) A (M0j (.ref a)) Q E s:=by
 unfold M0j
 refine Aq ?_
 unfold M0n
 refine Aq (Gv hT D0Y ?_)
 dsimp only
 rw [E0a,D0Z]
 rw [if_neg (by decide)]
 exact U7 hT Kj (AJ h)
theorem O0{a:Addr}{b:Array UInt8}{f:Array UInt8→Array UInt8}{Q:Unit→Ac→Prop}(ha:s.heap.get? a=some (Cj b))(hz:(f b).size≤JL)(h:Q () {s with heap:=s.heap.update a (Gp f)}):wpAny (Ag pg w) A (O0r (.ref a) f) Q E s:=by
 show wpAny _ _ (N0i a f) _ _ _
 unfold N0i
 refine Aq (JO ha ?_)
 show wpAny _ _ (update a (Gp f)>>= λ_=>lookBehind a) _ _ _
 refine Aq (wpAny_update ha ?_)
 have h2:(s.heap.update a (Gp f)).get? a=some (Cj (f b)):=JG (Gp f) ha rfl
 refine N0p h2 ?_ h
 show (if (f b).size>JL then some "bytearray:memory" else none)=none
 rw [if_neg (DY.mpr hz)]
theorem A0w{a:Addr}{b:Array UInt8}{Q:Bool→Ac→Prop}(hg:A.guards=some [])(ha:s.heap.get? a=some (Cj b))(h:Q false s):
  wpG (Ag pg w) A (A0W (.ref a)<||>(do return decide ((←M0h (.ref a))>0))) Q E s:=by
 refine A4 (K0L ?_)
 dsimp only [ToBool.toBool]
 refine AI (Aq ?_)
 unfold M0h
 refine Aq (JO ha ?_)
 exact AJ (AJ h)
theorem DM{α:Type}{M:D3}{c:Prop}[Decidable c]{x y:Sem α}{Q:α→Ac→Prop}(hc: ¬c)(h:wpG M A y Q E s):wpG M A (if c then x else y) Q E s:=by rw [if_neg hc];exact h
theorem D0S{Pg:Code→Ac→Prop}{a:Addr}{R:BR→Ac→Prop}(hg:A.guards=some [])(ha:s.heap.get? a=some (Cj #[]))(h:R (.ok (.ret .none)) {s with heap:=s.heap.update a (Gp λ_=> #[])}):
  wpG (Ag pg w) A (Dc.«bytearray.__init__» ⟨[.ref a],[]⟩) (λfin s'=>match fin with|.done f=>R (.ok f) s'|.again c'=>Pg c' s') (λe s'=>R (.error e) s') s:=by
 have hT:s.TypeIs (.ref a) "bytearray":=⟨_,ha,rfl⟩
 refine A4 (AI (T8 hT ?_))
 refine DM C3 (A4 (AI (CG D0N ?_)))
 refine A4 (AI (CG (a:=()) rfl ?_))
 refine A4 (AI (CG (a:=()) rfl ?_))
 refine A4 (A0w hg ha ?_)
 refine DM C3 ?_
 refine A4 (AI (O0 ha (C9 _) ?_))
 refine A4 ?_
 refine DM (by decide) (DM (by decide) ?_)
 exact Bb (Bb h)
theorem Wq(n:Int)(t:Tok):asStr? (.int n t)=pure none:=by rfl
theorem Rr(n:Int)(t:Tok):asIndex (.int n t)=pure n:=by rfl
theorem Sr:HG (.type "int") "__index__"=pure (some (.builtin "int.__index__")):=by rw [GZ,GW];left
theorem A0x{α:Type}{M:D3}{c:Prop}[Decidable c]{x y:Sem α}{Q:α→Ac→Prop}(hc:c)(h:wpG M A x Q E s):wpG M A (if c then x else y) Q E s:=by rw [if_pos hc];exact h
theorem D0T{Pg:Code→Ac→Prop}{a:Addr}{n:Nat}{t:Tok}{R:BR→Ac→Prop}(hg:A.guards=some [])(ha:s.heap.get? a=some (Cj #[]))(hn:n≤16777216)
  (h: ∀h',Ce a s.heap h'→(∃b:Array UInt8,b.size=n∧h'.get? a=some (Cj b))→R (.ok (.ret .none)) {s with heap:=h'}):
  wpG (Ag pg w) A (Dc.«bytearray.__init__» ⟨[.ref a,.int n t],[]⟩) (λfin s'=>match fin with|.done f=>R (.ok f) s'|.again c'=>Pg c' s') (λe s'=>R (.error e) s') s:=by
 have hT:s.TypeIs (.ref a) "bytearray":=⟨_,ha,rfl⟩
 have ha2:(s.heap.update a (Gp λ_=> #[])).get? a=some (Cj #[]):=JG (Gp λ_=> #[]) ha rfl
 have hs2:Ce a s.heap (s.heap.update a (Gp λ_=> #[])):=Eo ..
 have f1: ¬(!M0i (n:Int))=true:=by
  unfold M0i
  simp only [DW,Bool.not_eq_false,Bv,decide_eq_true_eq]
  omega
 have f2: ¬((n:Int)<0):=by omega
 have f3: ¬((n:Int)==2^63 - 1)=true:=by simp only [beq_iff_eq];omega
 have f4: ¬M0o (n:Int).toNat=true:=by
  unfold M0o
  rw [Co]
  simp only [decide_eq_true_eq];omega
 refine A4 (AI (T8 hT ?_))
 refine DM C3 (A4 (AI (CG (D0O _) ?_)))
 refine A4 (AI (CG (a:=()) rfl ?_))
 refine A4 (AI (CG (a:=()) rfl ?_))
 refine A4 (A0w hg ha ?_)
 refine DM C3 ?_
 refine A4 (AI (O0 ha (C9 _) ?_))
 generalize hq:(2^63 - 1:Int)=qq
 rw [hq] at f3
 dsimp only [Wq]
 with_reducible refine A4 (AI (CG (Wq _ _) ?_))
 with_reducible refine DM (by simp) ?_
 with_reducible refine A4 (DM (by simp) (DM (by simp) (Bb ?_)))
 with_reducible refine A4 (AI (Gv (B07 _ _ _) Sr ?_))
 with_reducible refine A0x (by simp) ?_
 with_reducible refine A4 (AI (wpAny_attempt (CG (Rr _ _) ?_)))
 dsimp only
 with_reducible refine DM f1 ?_
 with_reducible refine DM f2 ?_
 with_reducible refine DM f3 ?_
 with_reducible refine DM f4 ?_
 with_reducible refine A4 (AI (Pq ?_))
 rcases Nat.lt_or_ge 0 n with hp|hp
 ·with_reducible refine A0x (by simp;omega) ?_
  refine A4 (AI (O0 ha2 (by rw [Co];simp;omega) ?_))
  refine Bb (h _ (hs2.trans (Eo ..)) ⟨K0Z n 0,by simp,?_⟩)
  have:=JG (Gp λ_=>K0Z (n:Int).toNat 0) ha2 rfl
  exact this
 ·with_reducible refine DM (by simp;omega) ?_
  exact Bb (h _ hs2 ⟨#[],by simp;omega,ha2⟩)
end
section
variable(w:A5)(h₀:Heap)
def SoundG(n:Nat)(A:List Nat)(N:Names)(e:Ak)(f:Ev):Prop:=
 ∀(R:Aw) (env:Env) (ω:Wd) (s s':St) (v:V) (sh:Ac) (Q E:Ab→Ac→Prop),Rm n R→SR w h₀ N env ω s sh.heap→f s=some (v,s')→PostE w h₀ N env A ω sh s' v Q→wpG (Ag pg w) R (eval e env) Q E sh
def SoundAG(n:Nat)(A:List Nat)(N:Names)(e:Ak)(f:Av):Prop:=
 ∀(R:Aw) (env:Env) (ω:Wd) (s s':St) (o:O) (sh:Ac) (Q E:Ab→Ac→Prop),Rm n R→SR w h₀ N env ω s sh.heap→f s=some (o,s')→PostA w h₀ N env A ω sh s' o Q→wpG (Ag pg w) R (eval e env) Q E sh
def SoundSG(n:Nat)(A:List Nat)(N:Names)(c:Bm)(f:Sv):Prop:=
 ∀(R:Aw) (env:Env) (ω:Wd) (s s':St) (fl:Fl) (sh:Ac) (Q:Flow→Ac→Prop) (E:Ab→Ac→Prop),Rm n R→SR w h₀ N env ω s sh.heap→f s=some (fl,s')→PostS w h₀ N env A ω sh s' fl Q→wpG (Ag pg w) R (exec c env) Q E sh
def SoundBG(n:Nat)(A:List Nat)(N:Names)(cs:List Bm)(f:Sv):Prop:=
 ∀(R:Aw) (env:Env) (ω:Wd) (s s':St) (fl:Fl) (sh:Ac) (Q:Flow→Ac→Prop) (E:Ab→Ac→Prop),Rm n R→SR w h₀ N env ω s sh.heap→f s=some (fl,s')→PostS w h₀ N env A ω sh s' fl Q→wpG (Ag pg w) R (HD cs env) Q E sh
def SoundFG(n np:Nat)(A:List Nat)(f:Addr)(den:Den):Prop:=
 ∀(R:Aw) (ω:Wd) (g g':List (Option O)) (vs:List V) (v:V) (xs:List Ab) (sh:Ac) (RR:BR→Ac→Prop),
  Rm n R→GR w h₀ ω g sh.heap→vs.length=np→(∀u∈vs,u.noC=true)→den vs g=some (v,g')→VRs w ω sh.heap vs xs→
  (v.noC=true→∀ω' h' tk x,GR w h₀ ω' g' h'→Step A (λ_=>False) ω sh.heap ω' h'→VR w ω' h' v x→RR (.ok (.ret x)) {sh with heap:=h',toks:=tk})→
  BU (Ag pg w) R (.call (.ref f) ⟨xs,[]⟩) RR sh
end
section
variable{w:A5}{h₀:Heap}{N M:Names}{env env':Env}{ω ω':Wd}{h h':Heap}{s s1 s2:St}{n np:Nat}{A B C:List Nat}{mg mb:Str→Option Ab}{K:Frag}
theorem SoundS.g{e:Bm}{f:Sv}(hf:SoundS w h₀ n A N e f):SoundSG w h₀ n A N e f:= λR env ω s s' v sh Q E hR S q P=>AI (hf R env ω s s' v sh Q E hR S q P)
theorem SoundB.g{e:List Bm}{f:Sv}(hf:SoundB w h₀ n A N e f):SoundBG w h₀ n A N e f:= λR env ω s s' v sh Q E hR S q P=>AI (hf R env ω s s' v sh Q E hR S q P)
theorem SoundF.g{f:Addr}{den:Den}(hf:SoundF w h₀ n np A f den):SoundFG w h₀ n np A f den:= λR ω g g' vs v xs sh RR hR G a b c d k=>WM (hf R ω g g' vs v xs sh RR hR G a b c d k)
theorem SoundSG.weak{c:Bm}{f:Sv}(hf:SoundSG w h₀ n A N c f)(hA: ∀k∈A,k∈B):SoundSG w h₀ n B N c f:=λR env ω s s' fl sh Q E hR S q P=>hf R env ω s s' fl sh Q E hR S q λω1 h1 tk1 flow S1 st1 x=>P ω1 h1 tk1 flow S1 (st1.weak hA λ_ q=>q) x
theorem SoundBG.weak{c:List Bm}{f:Sv}(hf:SoundBG w h₀ n A N c f)(hA: ∀k∈A,k∈B):SoundBG w h₀ n B N c f:=λR env ω s s' fl sh Q E hR S q P=>hf R env ω s s' fl sh Q E hR S q λω1 h1 tk1 flow S1 st1 x=>P ω1 h1 tk1 flow S1 (st1.weak hA λ_ q=>q) x
theorem SoundFG.lift{m:Nat}{f:Addr}{den:Den}(hm:m≤n)(hf:SoundFG w h₀ m np A f den):SoundFG w h₀ n np A f den:=λR ω g g' vs v xs sh RR hR=>hf R ω g g' vs v xs sh RR (hR.mono hm)
theorem Rd{k:Nat}{x:Str}{e:Ak}{pos pos':Pos}{f:Ev}(hx:N.ns[k]?=some x)(hf:SoundG w h₀ n A N e f)(hs: ∀env,Eb e (some (.Name x pos')) pos.line env=pure false):
  SoundSG w h₀ n A N (.Assign [.Name x pos'] e pos) (Bp k f):=
 λR env ω s s' fl sh Q E hR S q P=>Ax q λp q1 q=>D8 q λq2 q3=>exec_Assign_Name env x pos' e pos (hs env)▸DA (A4 (hf R env ω s p.2 p.1 sh _ E hR S q1 λω1 h1 tk1 y S1 st1 vy=>DA (A4 (AI (wpAny_bindName (GK (sh:={sh with heap:=h1,toks:=tk1}) S1 hx vy λh2 tk2 S2 st2 _=>Bb
  (P.eq q3 _ _ _ _ (Au (FD q2)▸S2) ((B5 st1).trans st2 (λ_ q=>q) AY) .nx)))))))
theorem ML{a:Nat}{o e:Ak}{nm:Str}{pos pos':Pos}{f g:Ev}(G:Gd K h₀ mg mb)(hn:nm=Bh a)(hf:SoundG w h₀ n A N e f)(ho:Sound w h₀ n [] N o g)(hs: ∀env,Eb e (some (.Attribute o nm pos')) pos.line env=pure false):
  SoundSG w h₀ n A N (.Assign [.Attribute o nm pos'] e pos) (Ba g a f):=by
 subst hn
 exact λR env ω s s' fl sh Q E hR S q P=>BH q λu s1 q1 q=>BH q λv s2 q2 q=>D8 q λq3 q4=>plainObj_exec_Assign_Attribute o (Bh a) pos' e pos (hs env)▸DA (A4 (hf R env ω s s1 u sh _ E hR S q1 λω1 h1 tk1 y S1 st1 vy=>A4 (AI (arm_assign_Attribute ..▸Aq (Cp (ho R env ω1 s1 s2 v {sh with heap:=h1,toks:=tk1} _ E hR S1 q2 λω2 h2 tk2 x S2 st2 vx=>Aq (Gw (Aq (Cp (ZD (sh:={sh with heap:=h2,toks:=tk2}) G S2 vx (vy.step st2 (BO _)) q3 λh3 tk3 S3 st3=>wpAny_release (Bb
  (P.eq q4 _ _ _ _ S3 ((B5 (st1.trans st2 (λ_ q=>q) AY)).trans (B5 st3) (λ_ q=>q) AY) .nx))))))))))))
theorem D0o{e:Ak}{pos:Pos}{f:Ev}(hf:SoundG w h₀ n A N e f)(hi: ∀env:Env,env.scope.kind=.function→HF env=false)(hs: ∀env,Eb e none pos.line env=pure false):SoundSG w h₀ n A N (.Expr e pos) (Hc f):=λR env ω s s' fl sh Q E hR S q P=>AV q λp q1 q=>exec_Expr env e pos (hi env S.fr.ok.kind) (hs env)▸DA (A4 (hf R env ω s p.2 p.1 sh _ E hR S q1 λ_ _ _ _ S1 st1 _=>AI (wpAny_dropValue (P.eq q _ _ _ _ S1 (B5 st1) .nx))))
theorem D0s{e:Ak}{pos:Pos}{f:Ev}(hf:SoundG w h₀ n A N e f):SoundSG w h₀ n A N (.Return (some e) pos) (BN f):=λR env ω s s' fl sh Q E hR S q P=>AV q λp q1 q=>exec_Return_some ..▸DA (A4 (hf R env ω s p.2 p.1 sh _ E hR S q1 λ_ _ _ _ S1 st1 vy=>Bb (P.eq q _ _ _ _ S1 (B5 st1) (.rt vy))))
theorem D0q{t:Ak}{body orelse:List Bm}{pos:Pos}{c:Cv}{a b:Sv}(hc:SoundC w h₀ n A N t c)(ha:SoundBG w h₀ n A N body a)(hb:SoundBG w h₀ n A N orelse b):SoundSG w h₀ n A N (.If t body orelse pos) (BB c a b):=
 λR env ω s s' fl sh Q E hR S q P=>Ax q λp q1 q=>arm_exec_If ..▸DA (O2 (hc R env ω s p.2 p.1 sh _ E hR S q1 λω1 _ _ S1 st1=>by
  cases z:p.1 with
  |true=>rw [z] at q;exact ha R env ω1 _ s' fl _ Q E hR S1 q (P.of_step (B5 st1) (λ_ q=>q) (λ_ q=>q))
  |false=>rw [z] at q;exact hb R env ω1 _ s' fl _ Q E hR S1 q (P.of_step (B5 st1) (λ_ q=>q) (λ_ q=>q))))
theorem BJ{c:Bm}{cs:List Bm}{a b:Sv}(ha:SoundSG w h₀ n A N c a)(hb:SoundBG w h₀ n A N cs b):SoundBG w h₀ n A N (c::cs) (Ae a b):=
 λR env ω s s' fl sh Q E hR S q P=>Ax q λp q1 q=>execs_cons ..▸A4 (ha R env ω s p.2 p.1 sh _ E hR S q1 λω1 h1 tk1 flow S1 st1 hfl=>by
  cases p with
  |mk f s1=>cases f with
   |nx=>exact Au hfl.nxI▸hb R env ω1 s1 s' fl _ Q E hR S1 q (P.of_step st1 (λ_ q=>q) (λ_ q=>q))
   |ct=>exact Au hfl.ctI▸Bb (P.eq (An q) _ _ _ _ S1 st1 .ct)
   |rt v=>exact hfl.rtI.elim λx e=>by rw [e] at hfl⊢;exact Bb (P.eq (An q) _ _ _ _ S1 st1 hfl))
end
section
open PySem PySem.W PySem.Calls PyProof.Rows Builtin Builtin.ObjectAttr Builtin.Getset_descriptor
section
variable{w:A5}{A:Aw}{K:Frag}{C:Addr}{R:BR→Ac→Prop}{h:Heap}{g:Array B0e}{d:Drawn}{t:Nat}{os:Gq}
theorem H0I{rest:List Ab}{init:Ab}(Y:Makes (Ag pg w) h C)(hi:OW (Ag pg w) h (HG (.ref C) "__init__") (some init))
  (hb: ∀self,OW (Ag pg w) h (bindSpecial init self) (init,[self])) (hne:(some init !=some (Value.builtin "object.__init__"))=true∨(rest=[]∧([]:List (Str×Ab))=[]))
  (hq:BU (Ag pg w) (A.under (.builtin "type.__call__" ⟨.ref C::rest,[]⟩)) (.call init ⟨.ref (h.objs.size+1)::rest,[]⟩) (InitBack (h.objs.size+1) R) ⟨(h.push JH).push (JI C h.objs.size),g,d,t,os⟩):
  BU (Ag pg w) A (.call (.ref C) ⟨rest,[]⟩) R ⟨h,g,d,t,os⟩:=by
 have Y':=Y
 obtain ⟨⟨oc,od,cd,sl,hC,e1,e2,e4⟩,made,base,self,top,call,typ⟩:=Y
 refine G5 rfl ?_
 show wpG _ _ (Pa (.ref C) _) _ _ _
 unfold Pa
 refine A4 (AI (JO hC ?_))
 show wpG _ _ (M0Q (.ref C) _) _ _ _
 unfold M0Q
 refine A4 (AI (call.at ?_))
 dsimp only
 rw [tc_bind]
 refine A4 (Bb (A4 (Bb ?_)))
 refine Bb (a:=Fin.again (.call (.builtin "type.__call__") ⟨.ref C::rest,[]⟩)) (Lj rfl ?_)
 refine G5 rfl ?_
 show wpG _ A.in1 (do I4 "type.__call__" ⟨.ref C::rest,[]⟩;again (.builtin "type.__call__" ⟨.ref C::rest,[]⟩)) _ _ _
 refine A4 (AI (check_slot tc_kind tc_split typ (tc_args _ _ _) (Bb ⟨M0w _ (by decide+kernel),R7 entry_typeCall rfl ?_⟩)))
 unfold Dc.«type.__call__»
 have hm:OW (Ag pg w) h (mroOf (.ref C)) cd.mro:=((M0J (part:=none) hC).andThen .now).andThen .now
 dsimp (config:={zeta:=false}) only
 with_reducible refine DM (by simp) ?_
 refine A4 (AI (hm.at ?_))
 rw [e4]
 with_reducible refine DM (by simp) ?_
 refine A4 (AI (made.at ?_))
 dsimp only
 refine A4 (Bb ?_)
 refine A4 (DV (AI (B0F (new_K Y' hi hne ?_))))
 have k: ∀b o,h.get? b=some o→((h.push JH).push (JI C h.objs.size)).get? b=some o:= λb o e=>Dd _ (Dd _ e)
 have hx:((h.push JH).push (JI C h.objs.size)).get? (h.objs.size+1)=some (JI C h.objs.size):=by heap_get
 have t1:OW (Ag pg w) ((h.push JH).push (JI C h.objs.size)) (typeOf (.ref (h.objs.size+1))) (.ref C):=(M0J hx).andThen .now
 have s1:=self.keeps k
 have i1:=hi.keeps k
 have b1:=(hb (.ref (h.objs.size+1))).keeps k
 dsimp only
 refine A4 (AI ?_)
 unfold isInstance
 refine Aq (t1.at (s1.at ?_))
 with_reducible refine DM (by simp) ?_
 refine A4 (DV ?_)
 unfold B0t specialOf
 refine A4 (AI (Aq (t1.at (i1.at ?_))))
 dsimp only
 refine DV (A4 (AI (b1.at ?_)))
 dsimp only
 refine A4 (Lh (R8 hq λr s' z=>?_))
 rcases r with e|(v|_|_|_)<;>first|exact z|exact z.elim|skip
 obtain ⟨rfl,z⟩:=z
 exact Bb (Bb z)
end
end
section
variable{w:A5}{A:Aw}{s:Ac}{R:BR→Ac→Prop}
theorem E05{body:List Bm}{env:Env}
  (h:wpG (Ag pg w) (A.deeper env) (HD body env) (λf s'=>R (.ok (.ret (match f with|.ret v=>v|_=>.none))) s')
   (λe s'=>wpG (Ag pg w) (A.deeper env) (B02 env e) (λ_ s''=>R (.error e) s'') (λe' s''=>R (.error e') s'') s') s):
  BU (Ag pg w) A (.func body env) R s:=by
 refine G5 rfl ?_
 show wpG _ (A.deeper env) (do point;match←(HD body env).onRaise (B02 env) with|.ret v=>ret v|_=>ret .none) _ _ s
 refine A4 (AI (B0N (A4 (Li (El h (λf s' h'=>?_) λ_ _ h'=>h')))))
 cases f<;>exact Bb h'
theorem E02{a:Addr}{o:Obj}{fd:Ly}{body:List Stmt}{vals:List Ab}{binds:List (Str×Ab)}
  (hroom:A.depth<N0f) (ho:s.heap.get? a=some o) (hdata:o.data=.func fd) (hlim:s.heap.NoLimit) (hcd:s.heap.CodeRec fd.code fd.qualname)
  (hbody:fd.body=.stmts body) (hbind:B0r fd ⟨vals,[]⟩=pure binds) (hclo:fd.closure=[])
  (hkind: ∀x∈binds,fd.scope.names.lookup x.1=some .local∨(fd.scope.names.lookup x.1=some .cell∧((L8 (s.heap.objs.size+1) fd.scope.names []).lookup x.1).isSome=true))
  (h: ∀s₁,InCallC s (Dg fd s.heap.objs.size a).locals (L7 (Dg fd s.heap.objs.size a).kindOf binds λ_=>none) (Dg fd s.heap.objs.size a).cells
    (L6 (Dg fd s.heap.objs.size a).kindOf binds λ_=>none) s₁→
   wpG (Ag pg w) (A.deeper (Dg fd s.heap.objs.size a)) (HD body (Dg fd s.heap.objs.size a)) (λf s'=>R (.ok (.ret (match f with|.ret v=>v|_=>.none))) s')
    (λe s'=>wpG (Ag pg w) (A.deeper (Dg fd s.heap.objs.size a)) (B02 (Dg fd s.heap.objs.size a) e) (λ_ s''=>R (.error e) s'') (λe' s''=>R (.error e') s'') s') s₁)
  (hco:fd.scope.isCoroutine=false) (hgen:fd.scope.isGenerator=false) (hk:fd.scope.kind=.function):
  BU (Ag pg w) A (.call (.ref a) ⟨vals,[]⟩) R s:=by
 refine G5 rfl ?_
 show wpG _ A.in1 (Pa (.ref a) ⟨vals,[]⟩) _ _ s
 unfold Pa
 refine A4 (AI (JO ho ?_))
 obtain ⟨c,oc,vs,tq,hc,hoc,hdc,hq⟩:=hcd
 simp only [hdata,callFunction,hco,hgen,hbody,hc]
 refine A4 (AI (U6 hoc hdc hq (A4 (Bb ?_))))
 rw [hbind,hclo]
 refine A4 (Bb (A4 (AI ?_)))
 rw [←hc]
 refine wpAny_newFunctionEnv_cells hk hkind λenv he s' x=>?_
 subst he
 refine A4 (AI (wpAny_enterFrame (hlim.keeps x.toInCall.keep) hroom (Bb ⟨rfl,E05 (h s' x)⟩)))
end
section
variable{w:A5}{h₀:Heap}{N:Names}{env:Env}{ω ω':Wd}{h h':Heap}{s s1 s2:St}{n np:Nat}{A B C:List Nat}{mg mb:Str→Option Ab}{K:Frag}
theorem VL{m:Nat}{k cl:Nat}{fI:Addr}{init:Den}(G:Gd K h₀ mg mb)(hm:Us K cl=true)(hi:EI K (.ref cl) "__init__"=some (some (.ref fI)))(hf:L2 K (.ref fI)=some (.type "function"))(hI:SoundFG w h₀ m (np+1) A fI init)(hk:k∉A):
  SoundFG w h₀ (m+1) np (k::A) cl (mk k cl init):=
 λR ω g g' vs v xs sh RR hR G0 hnp hnc e hvs kk=>YF e λ_ hc2 hc3 hinit hv=>have X:K.In sh.heap:=G.kin.keeps G0.base
  H0I (makes_of X hm) (M0M X hi) (λself=>bind_fn X self hf) (.inl rfl) (hI _ _ _ _ (.g k::vs) _ (.ref (sh.heap.objs.size+1)::xs) ⟨_,sh.gens,sh.drawn,sh.toks,sh.os⟩ _ (Z0 hR) (YA G0 hc2) (congrArg (· +1) hnp) (Fb.mpr ⟨rfl,hnc⟩) hinit (YE hc3 hvs) λ_ ω3 h3 tk3 x G3 st3 vx=>
   have r:=YB G0 hk st3
   ⟨vx.toNone▸rfl,kk (hv▸rfl) ω3 h3 tk3 _ G3 r.1 (hv▸⟨sh.heap.objs.size+1,r.2,rfl⟩)⟩)
theorem D0c{np nl q:Nat}{f:Addr}{fd:Ly}{body:List Bm}{b:Sv}(B:Base h₀ mg mb)(F:Fn h₀ N np f fd body)(hb:SoundBG w h₀ n A N body b)(hnl:N.ns.length=nl)
  (hloc: ∀x∈N.ns,fd.scope.names.lookup x=some .local∨fd.scope.names.lookup x=some .cell):SoundFG w h₀ (n+1) np A f (run nl q b):=by
 intro R ω g g' vs v xs sh RR hR G hnp hnc e hvs k
 obtain ⟨o,ho,hd⟩:=F.at_
 exact E02 (o:=o) (fd:=fd) (body:=body) (binds:=(N.ns.take np).zip xs) (by have:=hR.2.1;omega) (G.base _ _ ho) hd (B.lim.keeps G.base) (F.code.keeps G.base) F.body (F.bind xs (hvs.length▸hnp)) F.clo (λx hx=>(hloc _ (TP (A0F hx).1)).imp_right λz=>⟨z,IX z⟩) (λs₁ X=>WH F hnl hloc hR G hnp e hvs k X λh1 tk1 p hR' S1 hrun P=>hb _ _ ω _ p.2 p.1 {sh with heap:=h1,toks:=tk1} _ _ hR' S1 hrun P) F.co F.gen F.kind
end
section
variable{M:D3}{A:Aw}{E:Ab→Ac→Prop}{s:Ac}{K:Frag}{env:Env}{pos:Pos}{f:Ab}{first:List Ab}{Q:Ab→Ac→Prop}
theorem K0M{α:Type}{vs:List Ab}{m:Sem α}{Q:α→Ac→Prop}(h:wpG M A m Q E s):wpG M A (m.keep vs) Q E s:=λΓ p hΓ g1 g2=>by rw [Sem.wp_keep];exact h Γ p hΓ g1 g2
theorem Ry{P:Heap→Prop}{args:List (Bool×Sem Ab)}{keywords:List (Option Str×Sem Ab)}(hplain:(args.any (·.1)||keywords.any (·.1.isNone))=false)
  (hk: ∀h,P h→∃k,(k=Keeper.frame∨k=Keeper.machine∨k=Keeper.boundFrame)∧OW M h (keeperOf f) k)
  (h:wpG M A (U0 f true args keywords) (λa s₁=>P s₁.heap∧wpG M A (call f (first++a.pos) a.kw) Q E s₁) E s):wpG M A (FK pos f first args keywords) Q E s:=by
 unfold FK
 refine A4 (DV (El h (λa s₁ h₁=>DA ?_) λ_ _ x=>x))
 obtain ⟨k,hk',L⟩:=hk _ h₁.1
 simp only [hplain]
 refine A4 (AI (L.here ?_))
 have tail: ∀{t:Sem Ab},wpG M A t Q E s₁→wpG M A (t>>= λr=>Ea [r] point>>= λ_=>pure r) Q E s₁:=λht=>A4 (El ht (λr s₂ hr=>A4 (AI (Cp (B0N (Bb hr))))) λ_ _ x=>x)
 have marked (mk:Ab):wpG M A (callMarked mk f (first++a.pos) a.kw) Q E s₁:=by unfold callMarked;exact K0M h₁.2
 rcases hk' with rfl|rfl|rfl<;>dsimp only<;>first|exact tail h₁.2|(split<;>first|exact tail h₁.2|exact tail (marked _))
theorem WD{e:Expr}{rest:List Expr}(hk:I2 K f=true)(h:wpAny M A (Er (Cy pos (AR (e::rest) env))) (λvs s₁=>K.In s₁.heap∧wpG M A (call f (first++vs)) Q E s₁) E s)
  (he:AR (e::rest) env=(false,eval e env)::AR rest env) (hplain:(Cy pos (AR rest env)).any (·.1)=false):
  wpG M A (FK pos f first (Cy pos (AR (e::rest) env)) []) Q E s:=by
 rw [he] at h⊢
 exact Ry (by show ((false||(Cy pos (AR rest env)).any (·.1))||false)=false;rw [hplain];rfl) (B0o hk) (AI (M0s h))
theorem E0w(X:K.In s.heap)(hk:I2 K f=true)(h:wpG M A (call f (first++[])) Q E s):wpG M A (FK pos f first (Cy pos (AR [] env)) []) Q E s:=Ry rfl (B0o hk) (AI (M0d ⟨X,h⟩))
theorem WE{T:String}{args:List (Bool×Sem Ab)}(hplain:args.any (·.1)=false)
  (h:wpAny M A (U0 (.type T) true args []) (λa s₁=>wpG M A (call (.type T) (first++a.pos) a.kw) Q E s₁) E s):wpG M A (FK pos (.type T) first args []) Q E s:=by
 unfold FK
 refine A4 (DV (AI (Bo h (λa s₁ h₁=>DA ?_) λ_ _ x=>x)))
 simp only [hplain,List.any_nil,L0e]
 refine A4 (Bb ?_)
 exact A4 (El h₁ (λr s₂ hr=>A4 (AI (Cp (B0N (Bb hr))))) λ_ _ x=>x)
theorem F01{x:Sem Ab}{rest:List (Bool×Sem Ab)}{Q:Args→Ac→Prop}
  (h:wpG M A (Er ((false,x)::rest)) (λvs s'=>Q ⟨vs,[]⟩ s') E s):wpG M A (U0 f true ((false,x)::rest) []) Q E s:=by
 unfold U0
 show wpG M A (Er ((false,x)::rest)>>=_) Q E s
 refine A4 (El h (λvs s' h'=>?_) λ_ _ x=>x)
 refine DV ?_
 exact A4 (Bb (A4 (Bb (Bb h'))))
theorem J0V{x:Sem Ab}{Q:List Ab→Ac→Prop}(h:wpG M A x (λv s'=>Q [v] s') E s):wpG M A (Er [(false,x)]) Q E s:=by
 unfold Er
 refine A4 (El h (λv s' h'=>?_) λ_ _ z=>z)
 refine A4 (Bb (A4 (DV ?_)))
 exact AI (M0u (Bb h'))
end
section
variable{w:A5}{h₀:Heap}{N M:Names}{env env':Env}{ω ω':Wd}{h h':Heap}{s s1 s2:St}{n np:Nat}{A B C:List Nat}{mg mb:Str→Option Ab}{K:Frag}
theorem D0P{R:Aw}{sh:Ac}{Q E:Ab→Ac→Prop}(hg:R.guards=some [])(q: ∀h' tk,sh.heap.objs.size<h'.objs.size→(∀b o,sh.heap.get? b=some o→h'.get? b=some o)→h'.get? sh.heap.objs.size=some (Cj #[])→Q (.ref sh.heap.objs.size) {sh with heap:=h',toks:=tk}):
  wpG (Ag pg w) R (call (.type "bytearray") []) Q E sh:=by
 refine WC (Q₁:= λobj s₁=>obj=.ref sh.heap.objs.size∧s₁={sh with heap:=sh.heap.push (Cj #[])}) Wx E0d Xi XB (E06 ⟨rfl,rfl⟩) ?_
 rintro obj s₁ ⟨rfl,rfl⟩
 have h1:(sh.heap.push (Cj #[])).get? sh.heap.objs.size=some (Cj #[]):=BQ _ rfl
 refine ⟨⟨_,h1,rfl⟩,D09 _,D0S hg h1 (Lj rfl (q _ _ ?_ (λb o e=>?_) ?_))⟩
 ·rw [(Eo _ sh.heap.objs.size _).1,CI];exact C8 _
 ·rw [(Eo _ sh.heap.objs.size _).2 b (C4 (Bz e))]
  exact Dd _ e
 ·exact JG (Gp λ_=> #[]) h1 rfl
theorem D0Q{R:Aw}{sh:Ac}{n:Nat}{t:Tok}{Q E:Ab→Ac→Prop}(hg:R.guards=some [])(hn:n≤16777216)(q: ∀h' tk,sh.heap.objs.size<h'.objs.size→(∀b o,sh.heap.get? b=some o→h'.get? b=some o)→(∃b:Array UInt8,b.size=n∧h'.get? sh.heap.objs.size=some (Cj b))→Q (.ref sh.heap.objs.size) {sh with heap:=h',toks:=tk}):
  wpG (Ag pg w) R (call (.type "bytearray") [.int n t]) Q E sh:=by
 refine WC (Q₁:= λobj s₁=>obj=.ref sh.heap.objs.size∧s₁={sh with heap:=sh.heap.push (Cj #[])}) Wx (E0e _) Xi XB (E07 _ ⟨rfl,rfl⟩) ?_
 rintro obj s₁ ⟨rfl,rfl⟩
 have h1:(sh.heap.push (Cj #[])).get? sh.heap.objs.size=some (Cj #[]):=BQ _ rfl
 refine ⟨⟨_,h1,rfl⟩,D0A _ _,D0T hg h1 hn λh' hs hb=>Lj rfl (q _ _ ?_ (λb o e=>?_) hb)⟩
 ·rw [hs.1,CI];exact C8 _
 ·rw [hs.2 b (C4 (Bz e))]
  exact Dd _ e
theorem O1{nm:Str}{p pos:Pos}{args:List Ak}{R:Aw}{sh:Ac}{Q E:Ab→Ac→Prop}(h:wpAny (Ag pg w) R (eval (.Name nm p) env) (λv s=>wpG (Ag pg w) R (FK pos v [] (Cy pos (AR args env)) []) Q E s) E sh):wpG (Ag pg w) R (eval (.Call (.Name nm p) args [] pos) env) Q E sh:=by
 show wpG _ _ (do FK pos (←eval (.Name nm p) env) [] (Cy pos (AR args env)) (backToKw pos (keywordEach [] env))) Q E sh
 exact A4 (AI h)
theorem VJ{nm:Str}{p pos:Pos}(B':Base h₀ mg mb)(b:Blt mg N.gs nm (.type "bytearray")):SoundAG w h₀ n [] N (.Call (.Name nm p) [] [] pos) Mine.U8:=
 λR env ω s s' o sh Q E hR S q P=>O1 (Gf B' b S (WE rfl (M0d (D0P hR.2.2.2 λh' tk hl hk hb=>
  have G:Grow ω sh.heap ω h':=DP (CY hl) hk
  have nw:=S.unseen (A9 _)
  P.eq (An q) ω h' tk _ (S.grow G) G.step ⟨A9 _,hl,nw.1,nw.2.1⟩ ⟨_,hb,rfl⟩))))
theorem SoundAG.ba{nm:Str}{e:Ak}{p pos:Pos}{f:Ev}(B':Base h₀ mg mb)(b:Blt mg N.gs nm (.type "bytearray"))(hf:Sound w h₀ n A N e f)(hs: ∀env,AR [e] env=[(false,eval e env)]):SoundAG w h₀ n A N (.Call (.Name nm p) [e] [] pos) (Mine.A.ba f):=
 λR env ω s s' o sh Q E hR S q P=>Ax q λp q1 q=>O1 (Gf B' b S (by
  rw [hs env]
  exact WE rfl (M0s (Calls.spliced_cons (hf R env ω s p.2 p.1 sh _ E hR S q1 λω1 h1 tk1 x S1 st1 vx=>M0u (V.onFR q vx λy fy q=>Q9 (P:= λx=>wpG _ _ (call (.type "bytearray") ([]++[x])) Q E _) q fy λm t q=>ifE q λhm q=>
   D0Q (sh:={sh with heap:=h1,toks:=tk1}) hR.2.2.2 (A8 hm (by decide)) λh2 tk2 hl hk hb=>
   have G:Grow ω1 h1 ω1 h2:=DP (CY hl) hk
   have nw:=S1.unseen (A9 _)
   hb.elim λb hb=>P.eq (An q) ω1 h2 tk2 _ (S1.grow G) (st1.trans G.step (λ_ q=>q) AY) ⟨st1.size,hl,nw.1,nw.2.1⟩ ⟨b,hb.2,hb.1⟩))))))
theorem MF{k:Nat}{e:Ak}{f:Av}(hf:SoundAG w h₀ n A N e f)(hA: ∀j∈A,j∈C)(hk:k∈C):SoundG w h₀ n C N e (Dq k f):=
 λR env ω s s' v sh Q E hR S q P=>Ax q λp q1 q=>ifE q λq2 q=>hf R env ω s p.2 p.1 sh Q E hR S q1 λω1 h1 tk1 a S1 st1 g1 r1=>
  have q2:=(Bv _ _).mp q2
  have q3:=Xu ((Bv _ _).mp q2.1).1
  P.eq (An q) _ _ _ _ (S1.adopt (b:=false) (k:=k) g1 (A8 S.lo g1.new) (g1.notFW (b:=0) S) r1 q2.2 (λv hv=>Kg q3.1 hv) λ_ C fs hv p hp=>NX q3.2 hv p hp) ⟨(st1.toStep.weak hA λ_ q=>q).put g1.new λ_=>hk,λj x e=>st1.c j x e⟩ ⟨a,NW (b:=false),rfl⟩
theorem MY{f:Addr}{den:Den}{vs:List V}{v:V}{xs:List Ab}{g':List (Option O)}{R:Aw}{sh:Ac}{Q:Ab→Ac→Prop}{E:Ab→Ac→Prop}(hF:SoundFG w h₀ n np A f den)(hR:Rm n R)(S:SR w h₀ N env ω s sh.heap)
  (hnp:vs.length=np) (hnc: ∀u∈vs,u.noC=true) (hoff: ∀u,some u∈s.m→u.off A) (hd:den vs s.g=some (v,g')) (hv:VRs w ω sh.heap vs xs) (P:PostE w h₀ N env A ω sh {s with g:=g'} v Q):wpG (Ag pg w) R (call (.ref f) xs) Q E sh:=
 Lh (hF R ω.shr s.g g' vs v xs sh _ hR S.toGR hnp hnc hd hv.shr λhvc _ _ _ _ G st vx=>have r:=Yz S G st hoff;P _ _ _ _ r.1 r.2.1 (r.2.2 _ _ hvc vx))
theorem ME{nm:Str}{f:Addr}{den:Den}{e:Ak}{rest:List Ak}{fs:List Ev}{p pos:Pos}(G:Gd K h₀ mg mb)(b:Glb K mg N.gs nm f)(hF:SoundFG w h₀ n np A f den)(hl:SoundL w h₀ n B N (e::rest) fs)(hnp:fs.length=np)
  (hA: ∀k∈A,k∈C) (hB: ∀k∈B,k∈C) (hs: ∀env,AR (e::rest) env=(false,eval e env)::AR rest env) (hp: ∀env,(Cy pos (AR rest env)).any (·.1)=false):
  SoundG w h₀ n C N (.Call (.Name nm p) (e::rest) [] pos) (AB A den fs):=
 λR env ω s s' v sh Q E hR S q P=>Hi q λvs s1 g' q1 q2 q3 q4 q5=>O1 (NA G b S (WD (first:=[]) b.keep (hl R env pos ω s s1 vs sh _ E hR S q1 λω1 h1 tk1 xs S1 st1 vxs=>⟨G.kin.keeps S1.base,MY (sh:={sh with heap:=h1,toks:=tk1}) hF hR S1 ((Jr q1).trans hnp) q2 q3 q4 vxs λω2 h2 tk2 x S2 st2 vx=>P _ _ _ _ (q5▸S2) (st1.trans st2 hB hA) vx⟩) (hs env) (hp env)))
theorem D0d{nm:Str}{f:Addr}{den:Den}{e:Ak}{a:Ev}{p pos:Pos}(G:Gd K h₀ mg mb)(b:Glb K mg N.gs nm f)(hF:SoundFG w h₀ n 1 A f den)(ha:SoundG w h₀ n B N e a)
  (hA: ∀k∈A,k∈C) (hB: ∀k∈B,k∈C) (hs: ∀env,Cy pos (AR [e] env)=[(false,eval e env)]):
  SoundG w h₀ n C N (.Call (.Name nm p) [e] [] pos) (AB A den [a]):=
 λR env ω s s' v sh Q E hR S q P=>Hi q λvs s1 g' q1 q2 q3 q4 q5=>It q1 λu s0 ws p1 p2 p5=>O1 (NA G b S (by
  rw [hs env]
  exact Ry (P:=K.In) rfl (B0o b.keep) (F01 (J0V (ha R env ω s s0 u sh _ E hR S p1 λω1 h1 tk1 y S1 st1 vy=>⟨G.kin.keeps S1.base,MY (sh:={sh with heap:=h1,toks:=tk1}) hF hR ((BM p2).2▸S1) (p5▸(BM p2).1▸rfl) q2 q3 q4 (p5▸(BM p2).1▸RelL.one vy) λω2 h2 tk2 x S2 st2 vx=>P _ _ _ _ (q5▸S2) (st1.trans st2 hB hA) vx⟩)))))
theorem D0e{o e:Ak}{rest:List Ak}{nm:Str}{apos pos:Pos}{cl:Nat}{f:Addr}{den:Den}{r:Ev}{fs:List Ev}{D:List Nat}{pl:Env→Sem Bool}(G:Gd K h₀ mg mb)(M:MthA K cl nm f)(hF:SoundFG w h₀ n np A f den)(ho:Sound w h₀ n D N o r)(hl:SoundL w h₀ n B N (e::rest) fs)(hnp:fs.length+1=np)
  (hA: ∀k∈A,k∈C) (hB: ∀k∈B,k∈C) (hD: ∀k∈D,k∈C) (hs: ∀env,AR (e::rest) env=(false,eval e env)::AR rest env) (hp: ∀env,(Cy pos (AR rest env)).any (·.1)=false)
  (he: ∀env,eval (.Call (.Attribute o nm apos) (e::rest) [] pos) env=(do let ov←eval o env;Fp apos.atName;let (f,first)←Ea [ov] (I7 ov nm (pl env));FK pos f first (Cy pos (AR (e::rest) env)) [])):
  SoundG w h₀ n C N (.Call (.Attribute o nm apos) (e::rest) [] pos) (AB A den (AH (BL cl B) r::fs)):=
 λR env ω s s' v sh Q E hR S q P=>Hi q λvs s1 g' q1 q2 q3 q4 q5=>It q1 λu s0 ws p1 p2 p5=>have p4:=(Bv _ _).mp (Eu p1).2
  he env▸A4 (AI (ho R env ω s s0 u sh _ E hR S (Eu p1).1 λω0 h0 tk0 y S0 st0 vy=>DA (A4 (DV (AI (NG (sh:={sh with heap:=h0,toks:=tk0}) G M S0 p4.1 vy (WD (first:=[y]) M.keep (hl R env pos ω0 s0 s1 ws {sh with heap:=h0,toks:=tk0} _ E hR S0 p2 λω1 h1 tk1 xs S1 st1 vxs=>⟨G.kin.keeps S1.base,MY (sh:={sh with heap:=h1,toks:=tk1}) hF hR S1 (by refine p5.symm▸?_;refine (Dm).trans ?_;rw [Jr p2,hnp]) q2 q3 q4 (p5▸RelL.mk (vy.step st1 (NN p4.2)) vxs) λω2 h2 tk2 x S2 st2 vx=>P _ _ _ _ (q5▸S2) ((st0.trans st1 hD hB).trans st2 (λ_ q=>q) hA) vx⟩) (hs env) (hp env))))))))
theorem D0f{o:Ak}{nm:Str}{apos pos:Pos}{cl:Nat}{f:Addr}{den:Den}{r:Ev}{D:List Nat}{pl:Env→Sem Bool}(G:Gd K h₀ mg mb)(M:MthA K cl nm f)(hF:SoundFG w h₀ n 1 A f den)(ho:Sound w h₀ n D N o r)
  (hA: ∀k∈A,k∈C) (hD: ∀k∈D,k∈C)
  (he: ∀env,eval (.Call (.Attribute o nm apos) [] [] pos) env=(do let ov←eval o env;Fp apos.atName;let (f,first)←Ea [ov] (I7 ov nm (pl env));FK pos f first (Cy pos (AR [] env)) [])):
  SoundG w h₀ n C N (.Call (.Attribute o nm apos) [] [] pos) (AB A den [AH (BL cl B) r]):=
 λR env ω s s' v sh Q E hR S q P=>Hi q λvs s1 g' q1 q2 q3 q4 q5=>It q1 λu s0 ws p1 p2 p5=>have p4:=(Bv _ _).mp (Eu p1).2
  he env▸A4 (AI (ho R env ω s s0 u sh _ E hR S (Eu p1).1 λω0 h0 tk0 y S0 st0 vy=>DA (A4 (DV (AI (NG (sh:={sh with heap:=h0,toks:=tk0}) G M S0 p4.1 vy (E0w (first:=[y]) (G.kin.keeps S0.base) M.keep (
   MY (sh:={sh with heap:=h0,toks:=tk0}) hF hR ((BM p2).2▸S0) (p5▸(BM p2).1▸rfl) q2 q3 q4 (p5▸(BM p2).1▸RelL.one vy) λω2 h2 tk2 x S2 st2 vx=>P _ _ _ _ (q5▸S2) (st0.trans st2 hD hA) vx))))))))
end
theorem WL{M:D3}{A:Aw}{c:Code}{R:BR→Ac→Prop}(hq:c.quiet=true)(hg:Fu c=true)(I:Nat→Ac→Prop)
  (turn: ∀n s,I n s→wpG M (A.under c) (M.den c) (λfin s'=>match fin with|.done f=>R (.ok f) s'|.again c'=>(c'=c∧∃m,m<n∧I m s')∨(c'.quiet=true∧BU M A c' R s')) (λe s'=>R (.error e) s') s):
  ∀(n:Nat) (s:Ac),I n s→BU M A c R s:=by
 intro n
 induction n using Nat.strongRecOn with
 |_ n ih=>
  intro s hI
  refine G5 hg (El (turn n s hI) (λfin s' z=>?_) λ_ _ z=>z)
  cases fin with
  |done f=>exact z
  |again c'=>
   rcases z with ⟨rfl,m,hm,hI'⟩|z
   ·exact ⟨hq,ih m hm s' hI'⟩
   ·exact z
def nG(M:D3)(A:Aw)(env:Env)(R:BR→Ac→Prop):Ab→Ac→Prop:=λx s'=>wpG M A (do JK x env;Pn x) (λ_ s''=>R (.error x) s'') (λe s''=>R (.error e) s'') s'
section
variable{w:A5}{A:Aw}{s:Ac}
theorem E04{R:BR→Ac→Prop}{target:Ak}{it:Ab}{body:List Bm}{env:Env}(I:Nat→Ac→Prop)
  (turn: ∀n s,I n s→Ed w A target it env (nG (Ag pg w) A env R) (R (.ok .next)) (wpG (Ag pg w) A (HD body env) (Ha R λs=> ∃m,m<n∧I m s) (nG (Ag pg w) A env R)) s)
  (n:Nat) (h:I n s):BU (Ag pg w) A (.forLoop target it body [] env) R s:=by
 refine WL rfl rfl I (λn s hI=>?_) n s h
 show wpG _ A ((forTurn target it body [] env).onRaise (λx=>do JK x env;Pn x)) _ _ s
 refine Li (El (E:=nG (Ag pg w) A env R) ?_ (λ_ _ z=>z) (λ_ _ z=>z))
 unfold forTurn
 refine DA (A4 (AI (wpAny_onRaise (Bo (turn n s hI) (λr s₁ h₁=>?_) λ_ _ h'=>Gw h'))))
 cases r with
 |none=>exact Bb (.inr ⟨rfl,WM (codeAny_block (LP h₁))⟩)
 |some v=>
  refine A4 (AI (Bo h₁ (λ_ s₁' h₁'=>?_) λ_ _ h'=>h'))
  refine A4 (AI (Bo h₁' (λ_ s₂ h₂=>A4 (El h₂ (λf s₃ h₃=>?_) λ_ _ h'=>h')) λ_ _ h'=>h'))
  cases f with
  |next=>exact Bb (.inl ⟨rfl,h₃⟩)
  |cont=>exact Bb (.inl ⟨rfl,h₃⟩)
  |brk=>exact Bb h₃
  |ret v=>exact Bb h₃
theorem K0O{M:D3}{env:Env}{E:Ab→Ac→Prop}{c:Code}{Q:Flow→Ac→Prop}
  (hc:BU M A c (λr s'=>match r with|.ok f=>Q f s'|.error e=>cameBackBy M A env E e s') s):wpG M A (runOwn c env none) Q E s:=by
 unfold runOwn
 refine Li ?_
 refine λΓ p hΓ g1 g2=>?_
 rw [M0C]
 refine wpCode_mono (λr s' z=>?_) (hc _ p rfl (hΓ.enter c none p (by intro x;cases x)) (Sk g1 g2))
 cases r with
 |ok f=>exact z
 |error e=>exact AI z
end
section
variable{w:A5}{h₀:Heap}{N:Names}{env:Env}{ω ω':Wd}{h h':Heap}{s s1 s2:St}{n np:Nat}{A B C:List Nat}{mg mb:Str→Option Ab}{K:Frag}
theorem F0I{tg:Ak}{t:Tg}{body:List Bm}{b:Sv}{I:Addr}{wr fr:List Addr}{items:List FV}{Src:(Addr→Prop)→Heap→Prop}{St:Nat→Heap→Prop}{R:Aw}{sh:Ac}{RR:BR→Ac→Prop}{s':Mine.St}{fl:Fl}(T:TgR N tg t)(hb:SoundBG w h₀ n A N body b)(hR:Rm n R)
  (W:Wk w R tg I wr fr items Src St) (S:SR w h₀ N env ω s sh.heap) (g:Ghs h₀ env ω sh.heap wr) (hsrc:Src ω.fz sh.heap) (hst:St 0 sh.heap) (e:CB t b items s=some (fl,s'))
  (q: ∀ω' h' tk flow,SR w h₀ N env ω' s' h'→Step A (λa=>FW env a∨a∈wr) ω sh.heap ω' h'→FlR w ω' h' fl flow→RR (.ok flow) {sh with heap:=h',toks:=tk}):
  BU (Ag pg w) R (.forLoop tg (.ref I) body [] env) RR sh:=
 E04 (ForI w h₀ N env A wr Src St ω sh items λl σ=>CB t b l σ=some (fl,s')) (λ_ _ J=>Xs (X:= λQ=>wpG (Ag pg w) R (HD body env) Q (nG (Ag pg w) R env RR)) T hR W (λ_ _ _ _ _ _ S e p=>hb R env _ _ _ _ _ _ _ hR S e p) q J) items.length (.mk (Cc _) S (.start g hsrc hst) e)
theorem D0p{tg iter:Ak}{t:Tg}{body:List Bm}{b:Sv}{it:Iv}{pos:Pos}(T:TgR N tg t)(hi:SoundI w h₀ n A N tg iter it)(hb:SoundBG w h₀ n A N body b)(hfs: ∀env x,FL iter env x=pure x):SoundSG w h₀ n A N (.For tg iter body [] pos) (Bn t it b):=
 λR env ω s s' fl sh Q E hR S q P=>Ax q λp q1 q=>exec_For ..▸DA (A4 (AI (Bo (hi R env ω s p.2 p.1 sh (λit s₂=>wpG (Ag pg w) R (runOwn (.forLoop tg it body [] env) env) Q E s₂) E hR S q1 λω1 h1 tk1 I wr fr Src St S1 st1 W hw g hsrc hst=>
  K0O (F0I (sh:={sh with heap:=h1,toks:=tk1}) T hb hR W S1 g hsrc hst q λω2 h2 tk2 flow S2 st2 hfl=>P _ _ _ _ S2 (Step.drop (W:=FW env) (B5 st1 (W:=FW env)) st2 hw (λ_ q=>q) (λ_ q=>q) (λ_ q=>q)) hfl))
  (λx s₁ h₁=>A4 (AI (CG (hfs env x) (DA (A4 (DV (AI h₁))))))) λ_ _ z=>z)))
end
section
variable{w:A5}{R:Aw}{RR:BR→Ac→Prop}{s:Ac}
theorem E0R{elt target iter:Ak}{ifs:List Ak}{scope:Cn}{pos:Pos}{it acc:Ab}{env:Env}(I:Nat→Ac→Prop)
  (turn: ∀n s,I n s→Ed w R target it env (nG (Ag pg w) R env RR) (RR (.ok .next)) (HI w R env ifs (nG (Ag pg w) R env RR) (λK=>wpG (Ag pg w) R (eval elt env) (λx=>wpAny (Ag pg w) R (call (.builtin "list.append") [acc,x]) (λ_=>K) (nG (Ag pg w) R env RR)) (nG (Ag pg w) R env RR)) λs=> ∃m,m<n∧I m s) s)
  (n:Nat) (h:I n s):BU (Ag pg w) R (.compLoop (.ListComp elt [⟨target,iter,ifs,0⟩] scope pos) 0 it acc env) RR s:=by
 refine WL rfl rfl I (λn s hI=>?_) n s h
 show wpG _ R ((B0z (.ListComp elt [⟨target,iter,ifs,0⟩] scope pos) 0 it acc env).onRaise (λx=>do JK x env;Pn x)) _ _ s
 refine Li (El (E:=nG (Ag pg w) R env RR) ?_ (λ_ _ z=>z) (λ_ _ z=>z))
 rw [M0W]
 refine DA (A4 (AI (Bo (turn n s hI) (λr s₁ h₁=>?_) λ_ _ h'=>h')))
 cases r with
 |none=>exact Bb h₁
 |some v=>
  refine A4 (AI (Bo h₁ (λ_ s₁' h₁'=>A4 (AI (Bo h₁' (λ_ s₂ h₂=>A4 (AI (Bo h₂ (λok s₃ h₃=>?_) λ_ _ h'=>h'))) λ_ _ h'=>h'))) λ_ _ h'=>h'))
  cases ok with
  |false=>exact Bb (.inl ⟨rfl,h₃⟩)
  |true=>exact A4 (A4 (El h₃ (λx s₄ h₄=>A4 (AI (Bo h₄ (λ_ s₅ h₅=>Bb (Bb (.inl ⟨rfl,h₅⟩))) λ_ _ h'=>h'))) λ_ _ h'=>h'))
end
section
variable{M:D3}{A:Aw}{E:Ab→Ac→Prop}{s:Ac}{env:Env}
def Nb(M:D3)(A:Aw)(E:Ab→Ac→Prop)(use:Option (Ab→Sem Unit))(Q:Ab→Ac→Prop)(acc:Ab)(C:Addr)(r:BR)(s':Ac):Prop:=
 match r,use with
 |.ok _,none=> ∃m,s'.heap.Ns C m∧∀h',Ce C s'.heap h'→Q acc {s' with heap:=h'}
 |.ok _,some u=>wpAny M A (u acc) (λ_ s''=> ∃m,s''.heap.Ns C m∧∀h',Ce C s''.heap h'→Q .none {s'' with heap:=h'}) E s'
 |.error x,_=> ∃m,s'.heap.Ns C m∧∀h',Ce C s'.heap h'→∀cenv:Env,cenv.locals=C→wpG M A (passOn "comprehension.variables-let-go" x cenv:Sem Ab) (λ_ _=>False) E {s' with heap:=h'}
theorem K0N{c:Code}{Q:Flow→Ac→Prop}(hc:BU M A c (λr s'=>match r with|.ok f=>Q f s'|.error e=>E e s') s):wpG M A (PySem.run c none) Q E s:= λΓ p hΓ g1 g2=>by rw [M0C];exact hc _ p rfl (hΓ.enter c none p (by intro x;cases x)) (Sk g1 g2)
theorem K0I{α:Type}{m:Sem α}{Q:Except Ab α→Ac→Prop}(h:wpG M A m (λa=>Q (.ok a)) (λe=>Q (.error e)) s):wpG M A m.attempt Q E s:= λΓ p hΓ g1 g2=>by rw [Sem.wp_attempt];exact h Γ p hΓ g1 g2
theorem K0R{α:Type}{c:Prop}[Decidable c]{pos:Pos}{k:Unit→Sem α}{Q:α→Ac→Prop}(h:wpG M A (k ()) Q E s):wpG M A (if c then (Fp pos>>=k) else k ()) Q E s:=by
 split
 ·exact DA h
 ·exact h
theorem K0K{e:Ak}{scope:Cn}{pos:Pos}{newAcc first:Sem Ab}{g:A0Y}{gs:List A0Y}{cl:List (Str×Addr)}{use:Option (Ab→Sem Unit)}
  {Q:Ab→Ac→Prop}
  (hcl:clausesOf e=g::gs) (hs: ∀x,FL g.iter env x=pure x) (hclos:B0w scope env=pure cl)
  (hkind:scope.kind=.function) (hnames: ∀x∈scope.names,x.2=.local→scope.names.lookup x.1=some .local)
  (h:wpAny M A first (λx s₁=>wpAny M A (GY x) (λit s₂=>wpAny M A newAcc (λacc s₃=>
   wpAny M A (N0d scope env.globals cl [] env.qual none .none (some env)) (λcenv s₄=>BU M A (.compStart e 0 it acc {cenv with scope:=Gs scope env}) (Nb M A E use Q acc cenv.locals) s₄) E s₃) E s₂) E s₁) E s):
  wpG M A (L9 e scope env pos newAcc false first use) Q E s:=by
 unfold L9
 rw [hclos,hcl]
 refine A4 (AI (Bo h (λx s₁ h₁=>DA (A4 (AI (CG (hs x) (A4 (DV (AI (Bo h₁ (λit s₂ h₂=>
  K0R (A4 (AI (Bo h₂ (λacc s₃ h₃=>A4 (Bb (A4 (AI (Bo h₃ (λcenv s₄ h₄=>?_) λ_ _ h'=>h'))))) λ_ _ h'=>h'))))
   λ_ _ h'=>h')))))))) λ_ _ h'=>h'))
 have hv: ∀x∈(scope.names.filter λx=>(x.2==.local||x.2==.cell)&&x.1 !=(".0":Str)).reverse,x.2=.local→
   M0y {cenv with scope:=Gs scope env} x.1=some .local:= λx hx hl=>LD (hnames x (J6.mp (L0B.mp hx)).1 hl)
 have hv': ∀x∈(scope.names.filter λx=>(x.2==.local||x.2==.cell)&&x.1 !=(".0":Str)).reverse.drop 1++(scope.names.filter λx=>(x.2==.local||x.2==.cell)&&x.1 !=(".0":Str)).reverse.take 1,
   x.2=.local→M0y {cenv with scope:=Gs scope env} x.1=some .local:= λx hx hl=>by
  rcases C7.mp hx with h1|h1
  ·exact hv x (List.mem_of_mem_drop h1) hl
  ·exact hv x (TP h1) hl
 refine DV (A4 (K0I (DV (K0N (R8 h₄ λr s' hr=>?_)))))
 cases r with
 |ok f=>
  cases use with
  |none=>
   obtain ⟨m,hn,hr⟩:=hr
   exact A4 (AI (Cp (B0H (cenv:={cenv with scope:=Gs scope env}) hkind _ s' m hv hn λh' m' _ hs'=>Bb (hr h' hs'))))
  |some u=>
   refine A4 (AI (Pq (A4 (AI (Cp (Bo hr (λ_ s'' hr'=>?_) λ_ _ h'=>h'))))))
   obtain ⟨m,hn,hr'⟩:=hr'
   exact A4 (AI (B0H (cenv:={cenv with scope:=Gs scope env}) hkind _ s'' m hv' hn λh' m' _ hs'=>Bb (hr' h' hs')))
 |error x=>
  obtain ⟨m,hn,hr⟩:=hr
  exact A4 (AI (Cp (B0H (cenv:={cenv with scope:=Gs scope env}) hkind _ s' m hv hn λh' m' _ hs'=>El (hr h' hs' _ rfl) (λ_ _ f=>f.elim) λ_ _ y=>y)))
end
section
variable{w:A5}{A:Aw}{R:BR→Ac→Prop}{s:Ac}
def nS(M:D3)(A:Aw)(env:Env)(R:BR→Ac→Prop):Ab→Ac→Prop:=λx s'=>wpG M A (do JK x env;Fp N0h) (λ_ s''=>R (.error x) s'') (λe s''=>R (.error e) s'') s'
theorem E03{elt target iter:Ak}{ifs:List Ak}{rest:List A0Y}{scope:Cn}{pos:Pos}{it acc:Ab}{env:Env}
  (h0:BU (Ag pg w) A (.compLoop (.ListComp elt (⟨target,iter,ifs,0⟩::rest) scope pos) 0 it acc env) R s)
  (h:wpAny (Ag pg w) A (GY it) (λit' s'=>BU (Ag pg w) A (.compLoop (.ListComp elt (⟨target,iter,ifs,0⟩::rest) scope pos) 0 it' acc env) R s')
   (nS (Ag pg w) A env R) s):
  BU (Ag pg w) A (.compStart (.ListComp elt (⟨target,iter,ifs,0⟩::rest) scope pos) 0 it acc env) R s:=by
 refine G5 rfl ?_
 show wpG _ _ ((compStart (.ListComp elt (⟨target,iter,ifs,0⟩::rest) scope pos) 0 it acc env).onRaise (λx=>do JK x env;Fp N0h)) _ _ s
 refine Li (El (E:=nS (Ag pg w) A env R) ?_ (λ_ _ z=>z) (λ_ _ z=>z))
 unfold compStart
 show wpG _ _ (ask>>=_) _ _ s
 refine A4 (AI (N0k ?_))
 split
 ·first
   |exact A4 (Bb (Bb (Lj rfl h0)))
   |exact Bb (Lj rfl h0)
 ·refine A4 (AI (Pq ?_))
  show wpG _ _ (Fp iter.pos>>=_) _ _ s
  exact DA (A4 (AI (Bo h (λit' s' h'=>Bb (Lj rfl h')) λ_ _ x=>x)))
end
section
variable{w:A5}{h₀:Heap}{N M:Names}{env env':Env}{ω ω':Wd}{h h':Heap}{s s1 s2:St}{n np:Nat}{A B C:List Nat}{mg mb:Str→Option Ab}{K:Frag}
theorem E0O{tg elt iter:Ak}{ifs:List Ak}{scope:Cn}{pos:Pos}{t:Tg}{c:Cv}{f:Ev}{I D:Addr}{wr fr:List Addr}{items ys:List FV}{Src:(Addr→Prop)→Heap→Prop}{St:Nat→Heap→Prop}{R:Aw}{sh:Ac}{RR:BR→Ac→Prop}{s':Mine.St}{m:Nat}
  (T:TgR N tg t) (L:HR N env t) (hc:SoundT w h₀ n A N ifs c) (hf:SoundG w h₀ n A N elt f) (hR:Rm n R) (W:Wk w R tg I wr fr items Src St) (S:SR w h₀ N env ω s sh.heap) (g:Ghs h₀ env ω sh.heap (D::wr)) (hD:D∉wr) (hsrc:Src ω.fz sh.heap) (hst:St 0 sh.heap)
  (hacc:sh.heap.get? D=some (C5 #[] m)) (hlen:items.length≤16777216) (e:DE t c f items s=some (ys,s'))
  (q: ∀ω' h' tk m' zs,SR w h₀ N env ω' s' h'→StepW A (λa=>a=env.locals∨a∈D::wr) ω sh.heap ω' h'→Ghs h₀ env ω' h' (D::wr)→h'.get? D=some (C5 zs m')→FRs w ω'.fz h' ys zs.toList→RR (.ok .next) {sh with heap:=h',toks:=tk}):
  BU (Ag pg w) R (.compLoop (.ListComp elt [⟨tg,iter,ifs,0⟩] scope pos) 0 (.ref I) (.ref D) env) RR sh:=
 E0R (CompI w h₀ N env A D wr Src St ω sh items (LAcc w D) (LRun t c f ys s')) (λ_ _ J=>RF T L hc hR W (UU (R:=R) (E:=nG (Ag pg w) R env RR) (X':= λQ=>wpG (Ag pg w) R (eval elt env) Q (nG (Ag pg w) R env RR)) λ_ _ _ _ _ _ S e p=>hf R env _ _ _ _ _ _ _ hR S e p) hD hlen LRun.cons (UX q) J) items.length (.mk (Cc _) S (.start g hsrc hst) (λ_ _ e=>e) ⟨A9 _,#[],m,hacc,(show FRs w ω.fz sh.heap [] [] from rfl)⟩ ⟨ys,e,rfl⟩)
theorem E0K{tg elt iter:Ak}{ifs:List Ak}{scope:Cn}{pos:Pos}{nl:Nat}{fr:List (Nat×Nat)}{it:Iv}{t:Tg}{c:Cv}{f:Ev}{use:Option (Ab→Sem Unit)}{R:Aw}{v:V}{s':St}{sh:Ac}{Q:Ab→Ac→Prop}{E:Ab→Ac→Prop}{p:Pos}(Bk:Blk N M scope fr)(hnl:M.ns.length=nl)(T:TgR M tg t)(L: ∀k∈t.ks,∀x,M.ns[k]?=some x→scope.names.lookup x=some .local)
  (hi:SoundI w h₀ n B N tg iter it) (hc:SoundT w h₀ n A M ifs c) (hf:SoundG w h₀ n A M elt f) (hA: ∀k∈A,k∈C) (hB: ∀k∈B,k∈C) (hfs: ∀env x,FL iter env x=pure x)
  (hR:Rm n R) (S:SR w h₀ N env ω s sh.heap) (q:Mine.Ft A nl fr it t c f s=some (v,s'))
  (P: ∀ω' h3 tk D Cd mm,sh.heap.objs.size≤Cd→h3.Ns Cd mm→Ghs h₀ env ω' h3 [Cd]→(∀h',Ce Cd h3 h'→SR w h₀ N env ω' s' h'∧StepE C ω sh.heap ω' h'∧VR w ω' h' v (.ref D))→Nb (Ag pg w) R E use Q (.ref D) Cd (.ok .next) {sh with heap:=h3,toks:=tk}):
  wpG (Ag pg w) R (L9 (.ListComp elt [⟨tg,iter,ifs,0⟩] scope pos) scope env p (B04 []) false (eval iter env) use) Q E sh:=by
 refine Ax q λp q1 q=>ifE q λhoff q=>Ax q λr q2 q=>?_
 have hoff:=Zd hoff
 have q:=Dk q
 obtain ⟨cl,hcl,c1,c2⟩:=MW Bk S.fr.ok
 refine K0K (use:=use) rfl (hfs env) hcl Bk.kind Bk.first (hi R env ω s p.2 p.1 sh _ _ hR S q1 λω1 h1 tk1 I wr fr' Src St S1 st1 W hw g hsrc hst=>Nc (T:= "list") (data:=.seq #[]) (Q:= λacc cenv s=>BU (Ag pg w) R (.compStart (.ListComp elt [⟨tg,iter,ifs,0⟩] scope pos) 0 (.ref I) acc cenv) (Nb (Ag pg w) R E use Q acc cenv.locals) s) rfl (C9 _) rfl Bk S1 g c1 c2 hnl W.toWk0 hsrc hst λh2 tk2 hsz keep hD Sb g2 hDw hsrc2 hst2=>?_)
 have loop:BU (Ag pg w) R (.compLoop (.ListComp elt [⟨tg,iter,ifs,0⟩] scope pos) 0 (.ref I) (.ref h1.objs.size) (GX scope cl (h1.objs.size+1) env))
   (Nb (Ag pg w) R E use Q (.ref h1.objs.size) (h1.objs.size+1)) {sh with heap:=h2,toks:=tk2}:=
  E0O (sh:={sh with heap:=h2,toks:=tk2}) T (λk hk x hx=>LD (L k hk x hx)) hc hf hR W Sb g2 hDw hsrc2 hst2 hD hoff.1 q2 λω3 h3 tk3 m3 zs S3 st3 g3 ha3 hd3=>by
   obtain ⟨mm3,n3,_⟩:=S3.fr.ns
   have co:=Nd S1 st1 g hw rfl hsz keep S3 st3 g3 hoff.2 hA hB
   exact P _ h3 tk3 _ _ mm3 (A8 st1.size (CZ _)) n3 co.1 λh' hs'=>⟨q.2▸(co.2 h' hs').1,(co.2 h' hs').2,q.1▸SA (S3.fr.off _ (.inl rfl)).2.1 hs' ha3 (C4 (C8 _)) hd3⟩
 exact E03 loop (W.self 0 _ _ (nS (Ag pg w) R _ _) hst2 loop)
theorem Kc{nm:Str}{id:String}{op:St→V→V→Option V}{e e':Ak}{p pos:Pos}{f g:Ev}(B':Base h₀ mg mb)(b:Blt mg N.gs nm (.builtin id))(ho:Op2 w h₀ n (λx y=>B0s (.builtin id) [x,y]) op)(hf:Sound w h₀ n A N e f)(hg:Sound w h₀ n [] N e' g)
  (hs: ∀env,AR [e,e'] env=(false,eval e env)::AR [e'] env) (hs': ∀env,AR [e'] env=[(false,eval e' env)]):Sound w h₀ n A N (.Call (.Name nm p) [e,e'] [] pos) (Ao op f g):=
 λR env ω s s' v sh Q E hR S q P=>HU q λa s1 b2 e1 e2 e3=>B0A (Gf B' b S (O0a (Ah hf (Ah hg A3 hs') hs R env pos ω s s' [a,b2] sh _ E hR S (EW e1 (EW e2 H2)) λω1 h1 tk1 xs S1 st1 vxs=>Ri vxs (P:= λxs=>wpAny _ _ (B0s (.builtin id) xs) Q E _) λx y vx vy=>ho R N env ω1 s' a b2 v {sh with heap:=h1,toks:=tk1} x y Q E hR S1 e3 vx vy (P.of_step st1)) (hs env) (by rw [hs' env];rfl)))
theorem N2{sh:Ac}{v:V}{x:Ab}(_S:SR w h₀ N env ω s sh.heap)(e:isStr s v=true)(vx:VR w ω sh.heap v x):IsT sh x "str":=by
 cases v with
 |f y=>cases y with
  |str c=>exact FE vx λt h=>Au h▸G0J
  |_=>exact noT e
 |_=>exact noT e
theorem E0u:HG (.type "bytearray") "__bytes__"=pure none:=by rw [GZ,GW];left
theorem E0v:HG (.type "bytearray") "__index__"=pure none:=by rw [GZ,GW];left
theorem Rw:HG (.type "bytearray") "__buffer__"=pure (some (.builtin "bytearray.__buffer__")):=by rw [GZ,GW];left
theorem E0s:("bytearray.__buffer__".endsWith ("."++ "__buffer__"))=true:=by decide+kernel
theorem E0r:("bytearray.__buffer__".dropRight ("__buffer__".length+1))= "bytearray":=by decide+kernel
section
variable{R:Aw}{E:Ab→Ac→Prop}{sh:Ac}
theorem T9{a:Addr}{b:Array UInt8}{Q:Array UInt8→Ac→Prop}(ha:sh.heap.get? a=some (Cj b))(h:Q b sh):wpAny (Ag pg w) R (M0k (.ref a)) Q E sh:=by
 unfold M0k O0p
 refine Aq (Aq (JO ha ?_))
 exact AJ (AJ h)
theorem K0E{a:Addr}{b:Array UInt8}{id:String}{fl:Bool}{Q:Option (Array UInt8)→Ac→Prop}(ha:sh.heap.get? a=some (Cj b))(h:Q (some b) sh):wpAny (Ag pg w) R (A0V id (.ref a) fl) Q E sh:=by
 have hT:sh.TypeIs (.ref a) "bytearray":=⟨_,ha,rfl⟩
 unfold A0V
 refine Aq (Gv hT Rw ?_)
 unfold M0n
 refine Aq (Aq (Gv hT Rw ?_))
 try dsimp only
 rw [E0s,E0r]
 rw [if_neg (by decide)]
 refine U7 hT Kj ?_
 rw [if_neg (by decide)]
 refine Aq (Gv hT Rw ?_)
 try dsimp only
 refine Aq (T8 hT ?_)
 rw [if_neg (by decide)]
 exact Aq (T9 ha (AJ h))
theorem E0t{a:Addr}{b:Array UInt8}{Q:Ab→Ac→Prop}(ha:sh.heap.get? a=some (Cj b))(hz:b.size≤JL)(h: ∀t tk,Q (.bytes b t) {sh with toks:=tk}):
  Dw (Ag pg w) R (.call (.builtin "bytes.__new__") ⟨[.type "bytes",.ref a],[]⟩) (JN Q E) sh:=by
 refine B0y ?_
 show wpAny _ R.in1 (do I4 "bytes.__new__" ⟨[.type "bytes",.ref a],[]⟩;again (.builtin "bytes.__new__" ⟨[.type "bytes",.ref a],[]⟩)) _ _ sh
 refine Aq (CG (F.bm_newCall _) (AJ ⟨U2 F.bm_plain _,codeAny_builtin F.bm_entry ?_⟩))
 rw [Uh F.bm_plain _]
 have hT:sh.TypeIs (.ref a) "bytearray":=⟨_,ha,rfl⟩
 unfold Dc.«bytes.__new__»
 refine Aq (CG (a:=true) rfl ?_)
 refine Ux rfl ?_
 refine Aq (CG F.bm_sub ?_)
 refine Ux rfl ?_
 refine Aq (CG (F.bm_bind _) ?_)
 refine Aq (CG (a:=()) rfl ?_)
 refine Aq (CG (a:=()) rfl ?_)
 refine Ux rfl ?_
 refine Aq (Gv hT E0u ?_)
 refine Aq (Aq ?_)
 show wpAny _ _ (load a>>=_) _ _ _
 refine Aq (JO ha ?_)
 refine AJ (AJ ?_)
 refine Ux rfl ?_
 refine Aq (Gv hT E0v ?_)
 refine bm_if_true rfl ?_
 show wpAny _ _ (A0V "bytes.__new__" (.ref a) true>>=_) _ _ _
 refine Aq (K0E ha ?_)
 refine Aq (Pq ?_)
 refine Aq (wpAny_mkBytes ?_ hz)
 show wpAny _ _ (if (Un "bytes"==Un "bytes")=true then _ else _) _ _ _
 refine bm_if_true (by decide) ?_
 first
  |exact AJ (h _ _)
  |exact Aq (AJ (AJ (h _ _)))
theorem E0x{a:Addr}{b:Array UInt8}{Q:Ab→Ac→Prop}(ha:sh.heap.get? a=some (Cj b))(hz:b.size≤JL)(h: ∀t tk,Q (.bytes b t) {sh with toks:=tk}):wpAny (Ag pg w) R (call (.type "bytes") [.ref a]) Q E sh:=by
 refine callType_codes (Q₁:= λobj s₁=>s₁.TypeIs obj "bytes"∧Q obj s₁) F.bm_called (F.bm_typeCall _) F.entry_object_init
  (E0t ha hz λt k=>⟨PySem.W.typeIs_bytes _ _ _,h t k⟩) λobj s₁ h₁=>?_
 exact ⟨h₁.1,F.args_object_init_2 obj _,object_init_meets F.bm_called.init.lookup F.bm_called.made (by decide) pg w R.in1 _ s₁ ⟨h₁.1,rfl,h₁.2⟩⟩
end
theorem I09:Op1 w h₀ n (λx=>call (.type "bytes") [x]) Zf:=
 λR N env ω s a r sh x Q E hR S e va P=>V.onGE e λk hk e=>Ax e λo ho e=>VB e λm hm e=>ifE e λhl e=>(S.g k o ho).casesOn λc mc _ _ ca=>(ca.ba hm).casesOn λb z2 z3=>Dt (hk▸va:VR w ω sh.heap (.g k) x) λc' y1 y2=>Au (y2.trans (congrArg OV (An (y1.symm.trans mc))))▸E0x z2 (z3▸Co▸A8 hl (by decide)) λt tk=>P.ret S e ⟨b,t,rfl,z3⟩ tk
end
theorem ZI:Slot "bytearray" "__setitem__" "bytearray.__setitem__":=
 .of (owner:= "bytearray") (n:= "__setitem__") (by rw [GZ,GW];left) (by decide+kernel) (by decide+kernel) (by decide+kernel)
  (by first|exact .inl (by decide+kernel)|exact .inr (by decide+kernel)) (by rw [Pf];left)
theorem F0w:I6 Gu "bytearray.__setitem__"=some Dc.«bytearray.__setitem__»:=B01 (by left)
theorem D0C(a b c:Ab):HC "bytearray.__setitem__" ⟨[a,b,c],[]⟩:=by unfold HC;rw [U3 (id:= "bytearray.__setitem__") (n:=['_','_','m','e','t','i','t','e','s','_','_']) (o:=['y','a','r','r','a','e','t','y','b']) (by left) NS];left
theorem J0F:HG (.type "slice") "__index__"=pure none:=by rw [GZ,GW];left
theorem Wo(n:Int):asIndex (IA n)=pure n:=by rfl
section
variable{w:A5}{R:Aw}{E:Ab→Ac→Prop}{sh:Ac}
noncomputable abbrev Iu(a b:Int)(t t':Tok):Obj:={cls:=.type "slice",data:=.fields #[.int a t,.int b t',.none]}
theorem EB{α:Type}{M:D3}{c:Prop}[Decidable c]{x y:Sem α}{Q:α→Ac→Prop}(hc: ¬c)(h:wpAny M R y Q E sh):wpAny M R (if c then x else y) Q E sh:=by rw [if_neg hc];exact h
theorem K1{α:Type}{M:D3}{c:Prop}[Decidable c]{x y:Sem α}{Q:α→Ac→Prop}(hc:c)(h:wpAny M R x Q E sh):wpAny M R (if c then x else y) Q E sh:=by rw [if_pos hc];exact h
theorem D0X{sl:Addr}{a b:Int}{t t':Tok}{Q:Ab×Ab×Ab→Ac→Prop}(hs:sh.heap.get? sl=some (Iu a b t t'))(h:Q (IA a,IA b,.none) sh):wpAny (Ag pg w) R (M0m (.ref sl)) Q E sh:=by
 unfold M0m
 dsimp only
 refine Aq (U6 hs rfl (x:=.none) rfl ?_)
 refine Aq (K1 rfl (AJ ?_))
 refine EB (by exact C3) ?_
 refine Aq (U6 hs rfl (x:=.int a t) rfl ?_)
 refine Aq (EB (by exact C3) (Aq (Gv (B07 _ _ _) Sr ?_)))
 refine EB (by exact C3) (Aq (CG (Rr _ _) (AJ ?_)))
 refine Aq (U6 hs rfl (x:=.int b t') rfl ?_)
 refine Aq (EB (by exact C3) (Aq (Gv (B07 _ _ _) Sr ?_)))
 refine EB (by exact C3) (Aq (CG (Rr _ _) (AJ ?_)))
 exact AJ h
theorem D0R{a b:Int}{n:Nat}{Q:Int×Int×Int→Ac→Prop}(ha:0≤a)(hab:a≤b)(hb:b≤n)(h:Q (a,b,1) sh):wpAny (Ag pg w) R (N0g (IA a) (IA b) .none n) Q E sh:=by
 unfold N0g
 dsimp only
 refine Aq (AJ ?_)
 refine EB (by exact C3) ?_
 refine Aq (EB (by exact C3) (Aq (CG (Wo _) ?_)))
 refine K1 L0n (AJ ?_)
 refine Aq (EB (by exact C3) (Aq (CG (Wo _) ?_)))
 refine K1 L0n (AJ ?_)
 refine AJ ?_
 have e1:max 0 (min (if a<0 then a+(n:Int) else a) (n:Int))=a:=by rw [if_neg (by omega)];omega
 have e2:max 0 (min (if b<0 then b+(n:Int) else b) (n:Int))=b:=by rw [if_neg (by omega)];omega
 rw [e1,e2];exact h
theorem N9{α β:Type}{M:D3}{Q:α→Ac→Prop}(v:β)(f:β→Sem α)(h: ∀x,x=v→wpAny M R (f x) Q E sh):wpAny M R (have x:=v;f x) Q E sh:=h v rfl
theorem E0b{o sl src:Addr}{a b:Int}{t t':Tok}{B D:Array UInt8}{Q:Fin→Ac→Prop}(hs:sh.heap.get? sl=some (Iu a b t t'))(ho:sh.heap.get? o=some (Cj B))(hD:sh.heap.get? src=some (Cj D))(hne:o≠src)
  (ha:0≤a) (hab:a≤b) (hb:b≤(B.size:Int)) (hn:b - a=(D.size:Int)) (hz:B.size≤JL) (q: ∀h',Ce o sh.heap h'→(∃B':Array UInt8,B'.size=B.size∧h'.get? o=some (Cj B'))→Q (.done (.ret .none)) {sh with heap:=h'}):
  wpAny (Ag pg w) R (Dc.«bytearray.__setitem__» ⟨[.ref o,.ref sl,.ref src],[]⟩) Q E sh:=by
 have hT:sh.TypeIs (.ref o) "bytearray":=⟨_,ho,rfl⟩
 have hTs:sh.TypeIs (.ref sl) "slice":=⟨_,hs,rfl⟩
 have hTd:sh.TypeIs (.ref src) "bytearray":=⟨_,hD,rfl⟩
 unfold Dc.«bytearray.__setitem__»
 dsimp (config:={zeta:=false}) only
 with_reducible refine EB (by simp) ?_
 unfold O0q
 refine Aq (Aq (Gv hTs J0F ?_))
 refine K1 rfl (AJ ?_)
 dsimp (config:={zeta:=false}) only
 refine Aq (wpAny_typeOf hTs ?_)
 refine N9 _ _ λj1 h1=>?_
 with_reducible refine EB (by decide) ?_
 rw [h1];clear h1 j1
 refine Aq (D0X hs ?_)
 refine N9 _ _ λsv hsv=>?_
 subst hsv
 have hsr:M0l (.ref o) (.ref src)=false:=by
  show (o==src)=false
  exact beq_eq_false_iff_ne.mpr hne
 refine EB (by rw [hsr];decide) ?_
 refine Aq (U7 hTd Kj ?_)
 dsimp (config:={zeta:=false}) only
 refine N9 _ _ λj1 h1=>?_
 refine EB (by decide) ?_
 rw [h1];clear h1 j1
 dsimp (config:={zeta:=false}) only
 refine Aq (T9 hD ?_)
 refine Aq (T9 ho ?_)
 refine Aq (D0R ha hab hb ?_)
 dsimp (config:={zeta:=false}) only
 refine K1 rfl ?_
 refine Aq (Pq ?_)
 refine N9 _ _ λj1 h1=>?_
 refine EB (by rw [L0h hab,hn];simp) ?_
 rw [h1];clear h1 j1
 have hsz:(B.extract 0 a.toNat++D++B.extract (max a b).toNat B.size).size=B.size:=by
  simp only [Array.size_append,Array.size_extract]
  rw [L0h hab]
  omega
 refine Aq (O0 ho (f:= λb'=>b'.extract 0 a.toNat++D++b'.extract (max a b).toNat b'.size) (by rw [hsz];exact hz) ?_)
 exact AJ (q _ (Eo ..) ⟨_,hsz,JG (Gp λb'=>b'.extract 0 a.toNat++D++b'.extract (max a b).toNat b'.size) ho rfl⟩)
theorem J03{o sl src:Addr}{a b:Int}{t t':Tok}{B D:Array UInt8}{Q:Unit→Ac→Prop}(hs:sh.heap.get? sl=some (Iu a b t t'))(ho:sh.heap.get? o=some (Cj B))(hD:sh.heap.get? src=some (Cj D))(hne:o≠src)
  (ha:0≤a) (hab:a≤b) (hb:b≤(B.size:Int)) (hn:b - a=(D.size:Int)) (hz:B.size≤JL) (q: ∀h',Ce o sh.heap h'→(∃B':Array UInt8,B'.size=B.size∧h'.get? o=some (Cj B'))→Q () {sh with heap:=h'}):
  wpAny (Ag pg w) R (Fo (.ref o) (.ref sl) (.ref src)) Q E sh:=by
 have hT:sh.TypeIs (.ref o) "bytearray":=⟨_,ho,rfl⟩
 unfold Fo
 refine Cp (Aq (wpAny_sequenceKey hT (by decide) ?_))
 refine Aq (wpAny_callSpecial?_slot hT ZI (B0G ZI hT F0w (E0b hs ho hD hne ha hab hb hn hz λh' hsb hB=>⟨.none,rfl,AJ (q h' hsb hB)⟩) (D0C _ _ _)))
end
section
variable{w:A5}{h₀:Heap}{N M:Names}{env env':Env}{ω ω':Wd}{h h':Heap}{s s1 s2:St}{n np:Nat}{A B C:List Nat}{mg mb:Str→Option Ab}{K:Frag}
theorem J05{v a b u:V}{x z z' y:Ab}{R:Aw}{sh:Ac}{Q:Unit→Ac→Prop}{E:Ab→Ac→Prop}(S:SR w h₀ N env ω s sh.heap)(vx:VR w ω sh.heap v x)(vz:VR w ω sh.heap a z)(vz':VR w ω sh.heap b z')(vy:VR w ω sh.heap u y)(q:Mine.N0K v a b u s=some s2)
  (P: ∀h',SR w h₀ N env ω s2 h'→StepE [] ω sh.heap ω h'→Q () {sh with heap:=h'}):wpAny (Ag pg w) R (Fo x (.ref sh.heap.objs.size) y) Q E {sh with heap:=sh.heap.push {cls:=.type "slice",data:=.fields #[z,z',.none]}}:=
 V.onGE q λk hv q=>V.intsR (P:= λz z'=>wpAny (Ag pg w) R (Fo x (.ref sh.heap.objs.size) y) Q E {sh with heap:=sh.heap.push {cls:=.type "slice",data:=.fields #[z,z',.none]}}) q vz vz' λai ta bi tb q=>V.onFE q λf hf q=>B0Z q λm hm q=>Ax q λo hc q=>VB q λt ho q=>ifE q λhh q=>
  have g1:Grow ω sh.heap ω (sh.heap.push (Iu ai bi ta tb)):=DT _
  have S5:=S.grow g1
  Dx (P:= λy=>wpAny (Ag pg w) R (Fo x (.ref sh.heap.objs.size) y) Q E {sh with heap:=sh.heap.push (Iu ai bi ta tb)}) (hm▸hf▸vy:VR w ω sh.heap (.f (.fba m)) y) λcd d1 l=>l.casesOn λD d2 d3=>
  S5.cell (b:=false) (P:= λx=>wpAny (Ag pg w) R (Fo x (.ref sh.heap.objs.size) (.ref cd)) Q E {sh with heap:=sh.heap.push (Iu ai bi ta tb)}) hc (hv▸vx:VR w ω sh.heap (.g k) x) λc mc tc _ l=>BaP.casesOn (ho▸l:CA w ω _ k c (.ba t)) λB' z2 z3=>
   J03 (sh:={sh with heap:=sh.heap.push (Iu ai bi ta tb)}) (B:=B') (D:=D) (BQ _ rfl) z2 (g1.keep _ _ d2) (λz=>noS ((S.fzlt cd d1).2.symm.trans (z▸tc))) hh.1 hh.2.1 (by rw [z3];exact hh.2.2.1) (by rw [d3];exact hh.2.2.2.1) (by rw [z3,Co];exact A8 hh.2.2.2.2 (by decide)) λh5 hsb hB=>hB.elim λB2 b1=>
    have r:=S5.wr mc tc hsb (o':=.ba t) (show O.inL (.ba t) false from trivial) λ_=>⟨B2,b1.2,b1.1.trans z3⟩
    P h5 (An q▸r.1) (g1.step.trans r.2 (λ_ q=>q) AY)
theorem SoundS.setSlice{o i j e:Ak}{p' pos pos':Pos}{f g ki kj:Ev}(hf:Sound w h₀ n A N e f)(ho:Sound w h₀ n [] N o g)(hi:Sound w h₀ n [] N i ki)(hj:Sound w h₀ n [] N j kj)(hs: ∀env,Eb e (some (.Subscript o (.Slice (some i) (some j) CE p') pos')) pos.line env=pure false):
  SoundS w h₀ n A N (.Assign [.Subscript o (.Slice (some i) (some j) CE p') pos'] e pos) (QZ g ki kj f):=
 λR env ω s s' fl sh Q E hR S q P=>BH q λu s1 q1 q=>BH q λv s2 q2 q=>BH q λa s3 q3 q=>BH q λb s4 q4 q=>D8 q λq5 q6=>
  B09 (hf R env ω s s1 u sh _ E hR S q1 λω1 h1 tk1 y S1 st1 vy=>ho R env ω1 s1 s2 v {sh with heap:=h1,toks:=tk1} _ E hR S1 q2 λω2 h2 tk2 x S2 st2 vx=>wpAny_Slice (B0K (hi R env ω2 s2 s3 a {sh with heap:=h2,toks:=tk2} _ E hR S2 q3 λω3 h3 tk3 z S3 st3 vz=>
   B0K (hj R env ω3 s3 s4 b {sh with heap:=h3,toks:=tk3} _ E hR S3 q4 λω4 h4 tk4 z' S4 st4 vz'=>B0J (J05 (sh:={sh with heap:=h4,toks:=tk4}) S4 ((vx.step st3 (BO _)).step st4 (BO _)) (vz.step st4 (BO _)) vz' (((vy.step st2 (BO _)).step st3 (BO _)).step st4 (BO _)) q5 λh5 S5 st5=>P.eq q6 _ _ _ _ S5 (B5 ((((st1.trans st2 (λ_ q=>q) AY).trans st3 (λ_ q=>q) AY).trans st4 (λ_ q=>q) AY).trans st5 (λ_ q=>q) AY)) .nx))))) (hs env)
end
inductive LitP:List (Option Ak)→List Ak→List Nm→List Nm→Prop
 |nil:LitP [] [] [] []
 |cons {c d:Str} {u u':Nat} {p q:Pos} {ks:List (Option Ak)} {vs:List Ak} {a b:Nm} {as bs:List Nm}:c=S' a→d=S' b→LitP ks vs as bs→LitP (some (.Constant (.str c) u p)::ks) (.Constant (.str d) u' q::vs) (a::as) (b::bs)
section
variable{w:A5}{h₀:Heap}{N M:Names}{env env':Env}{ω ω':Wd}{h h':Heap}{s s1 s2:St}{n np:Nat}{A B C:List Nat}{mg mb:Str→Option Ab}{K:Frag}
inductive LitV:List Nm→List Nm→List (Ab×Ab)→List (Str×Ab)→Prop
 |nil:LitV [] [] [] []
 |cons {a b:Nm} {as bs:List Nm} {vs:List (Ab×Ab)} {kvs:List (Str×Ab)} (t u:Tok) (h:LitV as bs vs kvs):LitV (a::as) (b::bs) ((.str (S' a) t,.str (S' b) u)::vs) ((S' a,.str (S' b) u)::kvs)
theorem H0t{R:Aw}{E:Ab→Ac→Prop}{pos:Pos}{env:Env}: ∀{kes:List (Option Ak)} {ves:List Ak} {ks vs:List Nm},LitP kes ves ks vs→∀{sh:Ac} {Q:List (Ab×Ab)→Ac→Prop},
  (∀tk xs kvs,LitV ks vs xs kvs→Q xs {sh with toks:=tk})→wpAny (Ag pg w) R (evalPairs (pairTrees kes ves env pos)) Q E sh:=by
 intro kes ves ks vs hp
 induction hp with
 |nil=>exact λq=>pairTrees_nil_walk (q _ [] [] .nil)
 |cons hc hd _ ih=>
  subst hc hd
  exact λq=>pairTrees_cons_walk (B0B (B0B (ih λtk xs kvs hv=>q tk _ _ (.cons _ _ hv))))
theorem Yo{ks vs:List Nm}{xs:List (Ab×Ab)}{kvs:List (Str×Ab)}(e:LitV ks vs xs kvs):Carries (strKind pg w) xs kvs∧kvs.map (·.1)=ks.map S'∧FRd w ω.fz h (ks.zip (vs.map FV.str)) kvs:=by
 induction e with
 |nil=>exact ⟨trivial,rfl,rfl⟩
 |cons t u _ ih=>exact ⟨⟨Fq pg w _ _,rfl,ih.1⟩,congrArg _ ih.2.1,RelL.mk ⟨_,rfl,⟨u,rfl⟩⟩ ih.2.2⟩
theorem H0s{vs:List Nm}{s:St}:Mine.DD (vs.map λv=>Af (.str v)) s=some (vs.map λv=>V.f (.str v),s):=by
 induction vs with
 |nil=>rfl
 |cons v r ih=>exact EW rfl ih
theorem H0r{vs:List Nm}:G4 (vs.map λv=>V.f (.str v))=some (vs.map FV.str):=by
 induction vs with
 |nil=>rfl
 |cons v r ih=>exact congrArg (Fh (FV.str v:: ·)) ih
theorem SoundA.dict{kes:List (Option Ak)}{ves:List Ak}{pos:Pos}{ks:List Nm}{fs:List Ev}(vs:List Nm)(hfs:fs=vs.map λv=>Af (.str v))(hp:LitP kes ves ks vs)(hall:kes.all (·.isSome)=true)(hl:kes.length=ves.length)(h0:kes≠[])(hlen:kes.length≤15)(hn:(ks.map S').Nodup):
  SoundA w h₀ n [] N (.Dict kes ves pos) (Mine.A.dict ks fs):=
 λR env ω s s' v sh Q E hR S e P=>wpAny_Dict_walk (knd:=strKind pg w) hall hl h0 hlen (H0t hp λtk xs kvs hv=>⟨kvs,(Yo (ω:=ω) (h:=sh.heap) hv).1,B0f _,λh' hd hs=>by
  have c:=Yo (w:=w) (ω:=ω) (h:=sh.heap) hv
  rw [merged_nil_of_nodup kvs (c.2.1▸hn)] at hd
  have hsz:h'.objs.size=sh.heap.objs.size+1:=hs.1.trans (CI ..)
  have G:Grow ω sh.heap ω h':=DP (hsz▸CZ _) λa o z=>(hs.2 a (C4 (Bz z))).trans (Dd _ z)
  have nw:=NC S (A9 _)
  have e:some (O.dict (ks.zip (vs.map FV.str)),s)=some (v,s'):=(show Mine.A.dict ks fs s=_ from by rw [hfs];exact (congrArg (OP · _) H0s).trans (congrArg (Fh _) H0r)).symm.trans e
  exact P.eq (An e) ω h' _ sh.heap.objs.size (S.grow G) G.step ⟨A9 _,hsz▸C8 _,nw.1,nw.2⟩ ⟨kvs,hd,FRd.mono G.fz (λa _ o q=>G.keep a o q) c.2.2⟩⟩)
end
section
variable{w:A5}{R:Aw}{RR:BR→Ac→Prop}{s:Ac}
theorem E0Q{kx vx target iter:Ak}{ifs:List Ak}{scope:Cn}{pos:Pos}{it:Ab}{D:Addr}{env:Env}(I:Nat→Ac→Prop)
  (turn: ∀n s,I n s→Ed w R target it env (nA w R env RR) (RR (.ok .next)) (HI w R env ifs (nA w R env RR) (λK=>wpAny (Ag pg w) R (eval kx env) (λkv=>wpAny (Ag pg w) R (eval vx env) (λvv=>wpAny (Ag pg w) R (B00 D kv vv) (λ_=>K) (nA w R env RR)) (nA w R env RR)) (nA w R env RR)) λs=> ∃m,m<n∧I m s) s)
  (n:Nat) (h:I n s):Dw (Ag pg w) R (.compLoop (.DictComp kx vx [⟨target,iter,ifs,0⟩] scope pos) 0 it (.ref D) env) RR s:=by
 refine M0V rfl I (λn s hI=>?_) n h
 show wpAny _ R ((B0z (.DictComp kx vx [⟨target,iter,ifs,0⟩] scope pos) 0 it (.ref D) env).onRaise (λx=>do JK x env;Pn x)) _ _ s
 refine wpAny_noted ?_
 rw [compTurn_dict]
 refine Aq (Gw (Aq (Bo (turn n s hI) (λr s₁ h₁=>?_) λ_ _ h'=>h')))
 cases r with
 |none=>exact AJ h₁
 |some v=>
  refine Aq (Bo h₁ (λ_ s₁' h₁'=>Aq (Bo h₁' (λ_ s₂ h₂=>Aq (Bo h₂ (λok s₃ h₃=>?_) λ_ _ h'=>h')) λ_ _ h'=>h')) λ_ _ h'=>h')
  cases ok with
  |false=>exact AJ ⟨rfl,h₃⟩
  |true=>exact Aq (Aq (Bo h₃ (λkv s₄ h₄=>Aq (Cp (Bo h₄ (λvv s₅ h₅=>Aq (Gw (Cp (Bo h₅ (λ_ s₆ h₆=>AJ ⟨rfl,h₆⟩) λ_ _ h'=>h')))) λ_ _ h'=>h'))) λ_ _ h'=>h'))
end
section
variable{w:A5}{h₀:Heap}{N M:Names}{env env':Env}{ω ω':Wd}{h h':Heap}{s s1 s2:St}{n np:Nat}{A B C:List Nat}{mg mb:Str→Option Ab}{K:Frag}
theorem F0g{k:Nm}{v:FV}{es:List (Nm×FV)}:(AE es k v).length≤es.length+1:=by
 induction es with
 |nil=>exact A9 _
 |cons a r ih=>
  show (if a.1=k then _ else _:List _).length≤_
  by_cases q:a.1=k
  ·rw [if_pos q];exact CZ _
  ·rw [if_neg q];exact Gn ih
variable{I D:Addr}{wr fr:List Addr}{items:List FV}{ys:List (Nm×FV)}{Src:(Addr→Prop)→Heap→Prop}{St:Nat→Heap→Prop}{R:Aw}{sh:Ac}{RR:BR→Ac→Prop}{tg:Ak}{ifs:List Ak}{t:Tg}{c:Cv}{fk f:Ev}{i:Nat}{s':Mine.St}
structure DAcc(w:A5)(D:Addr)(i:Nat)(fz:Addr→Prop)(h:Heap)(done:List (Nm×FV)):Prop where
 len:done.length≤i
 at_: ∃zs,h.DictOf (strKind pg w) D zs∧FRd w fz h done zs
def DRun(t:Tg)(c:Cv)(fk f:Ev)(ys:List (Nm×FV))(s':Mine.St)(l:List FV)(done:List (Nm×FV))(s:Mine.St):Prop:=Mine.RC t c fk f l done s=some (ys,s')
inductive DElt(fk f:Ev)(done:List (Nm×FV))(s:Mine.St):List (Nm×FV)→Mine.St→Prop
 |mk {a:Nm} {y:FV} {s1 s2:Mine.St}:fk s=some (.f (.str a),s1)→f s1=some (.f y,s2)→DElt fk f done s (AE done a y) s2
theorem DRun.cons(x:FV)(r:List FV)(a:List (Nm×FV))(s:Mine.St)(e:DRun t c fk f ys s' (x::r) a s):CompC t c (DElt fk f) (DRun t c fk f ys s') x r a s:=
 Ax e λ_ h1 e=>Ax e λ_ h2 e=>HV e
  (λhb e=>Ax e λ_ h3 e=>V.onFE e λ_ h4 e=>Mj e λb h5 e=>Ax e λ_ h6 e=>V.onFE e λ_ h7 e=>.yes h1 (h2.trans (hb▸rfl)) (.mk (a:=b) (h3.trans (h5▸h4▸rfl)) (h6.trans (h7▸rfl))) e)
  λhb e=>.no h1 (h2.trans (hb▸rfl)) e
theorem DAcc.put{E:Ab→Ac→Prop}{k:Nm}{y:FV}{kv z:Ab}{done:List (Nm×FV)}{ω':Wd}{Q:Unit→Ac→Prop}(S:SR w h₀ N env ω' s sh.heap)(st:StepE A ω h ω' sh.heap)(g:Ghs h₀ env ω h [D])(ac:DAcc w D i ω.fz h done)(hi:i<16777216)(vk:VR w ω' sh.heap (.f (.str k)) kv)(vz:FR w ω'.fz sh.heap y z)
  (q: ∀ω₂ h' tk,SR w h₀ N env ω₂ s h'→StepW A (λa=>a=D) ω h ω₂ h'→DAcc w D (i+1) ω₂.fz h' (AE done k y)→Q () {sh with heap:=h',toks:=tk}):
  wpAny (Ag pg w) R (B00 D kv z) (λ_=>Q ()) E sh:=by
 obtain ⟨hl,zs,e1,e2⟩:=ac
 obtain ⟨tt,rfl⟩:=vk.toStr
 have e2:=FRd.mono st.fz st.fzk e2
 have e1:=HJ e1 (st.keep D (g D (.head _)).1 λz=>z)
 refine wpAny_dictSet_pairs (Fq pg w _ _) e1 (λh7 hd7 hsb=>?_) (by rw [Co,←FRd.length e2];exact A8 hl (CY hi))
 obtain ⟨S7,p⟩:=S.ghosts (wr:=[D]) (new:= λ_=>False) (g.step st.toStep) (DC hsb.1.symm) (λb o hb z=>(hsb.2 b λq=>hb (q▸.head _)).trans z) (λ_ z=>z.elim)
 exact q _ _ _ S7 ((VO st).trans ⟨p.weak (λ_ q=>q) λ_ q=>Bx.mp q,λ_ _ e=>e⟩ (λ_ q=>q) (λ_ q=>nomatch q)) ⟨A8 F0g (Gn hl),_,hd7,RU (FR.mono p.fz p.fzk vz) (FRd.mono p.fz p.fzk e2) (KO e1)⟩
theorem B0S{E:Ab→Ac→Prop}{kx vx:Ak}(hR:Rm n R)(hk:Sound w h₀ n A N kx fk)(hf:Sound w h₀ n A N vx f):
  Accu w h₀ N env A D (DElt fk f) (DAcc w D) λK=>wpAny (Ag pg w) R (eval kx env) (λkv=>wpAny (Ag pg w) R (eval vx env) (λvv=>wpAny (Ag pg w) R (B00 D kv vv) (λ_=>K) E) E) E where
 mono:= λ_ _ _ _ _ _ ac hf hk hD=>⟨ac.len,ac.at_.elim λzs q=>⟨zs,HJ q.1 hD,FRd.mono hf hk q.2⟩⟩
 skip:= λ_ _ _ _ ac=>⟨Gm ac.len,ac.at_⟩
 elt:= λ_ ω s s' _ _ sh K hi S g ac e k=>by
  cases e with
  |mk e1 e2=>
   exact hk R env ω _ _ _ sh _ E hR S e1 λω5 h5 tk5 xk S5 st5 vk=>hf R env ω5 _ _ _ {sh with heap:=h5,toks:=tk5} _ E hR S5 e2 λω6 h6 tk6 x S6 st6 vx=>DAcc.put (sh:={sh with heap:=h6,toks:=tk6}) (Q:= λ_=>K) S6 (st5.trans st6 (λ_ q=>q) (λ_ q=>q)) g ac hi (FR.mono st6.fz st6.fzk vk) vx λω7 h7 tk7 S7 st7 ac7=>k ω7 h7 tk7 S7 st7 ac7
theorem E0N{kx vx iter:Ak}{scope:Cn}{pos:Pos}
  (T:TgR N tg t) (L:HR N env t) (hc:SoundT w h₀ n A N ifs c) (hk:Sound w h₀ n A N kx fk) (hf:Sound w h₀ n A N vx f) (hR:Rm n R) (Y:Wk w R tg I wr fr items Src St) (S:SR w h₀ N env ω s sh.heap) (g:Ghs h₀ env ω sh.heap (D::wr)) (hD:D∉wr) (hsrc:Src ω.fz sh.heap) (hst:St 0 sh.heap)
  (hacc:sh.heap.DictOf (strKind pg w) D []) (hlen:items.length≤16777216) (e:RC t c fk f items [] s=some (ys,s'))
  (q: ∀ω' h' tk zs,SR w h₀ N env ω' s' h'→StepW A (λa=>a=env.locals∨a∈D::wr) ω sh.heap ω' h'→Ghs h₀ env ω' h' (D::wr)→h'.DictOf (strKind pg w) D zs→FRd w ω'.fz h' ys zs→RR (.ok .next) {sh with heap:=h',toks:=tk}):
  Dw (Ag pg w) R (.compLoop (.DictComp kx vx [⟨tg,iter,ifs,0⟩] scope pos) 0 (.ref I) (.ref D) env) RR sh:=
 E0Q (CompI w h₀ N env A D wr Src St ω sh items (DAcc w D) (DRun t c fk f ys s')) (λ_ _ J=>RF T L hc hR Y (B0S hR hk hf) hD hlen DRun.cons (λω' h' tk i a s'' S st g ac e=>
  have e:=Dk e
  ac.at_.elim λzs z=>q ω' h' tk zs (e.2▸S) st g z.1 (e.1▸z.2)) J) items.length (.mk (Cc _) S (.start g hsrc hst) (λ_ _ e=>e) ⟨A9 _,[],hacc,(show FRd w ω.fz sh.heap [] [] from rfl)⟩ e)
theorem E0W{h3:Heap}{C:Addr}{zs:List (Str×Ab)}(hC: ¬ω.fz C)(hs:Ce C h3 h')(hsys:(D==Ec)=false)(ha:h3.DictOf (strKind pg w) D zs)(hne:D≠C)(hd:FRd w ω.fz h3 ys zs):VR w (ω.addFz D) h' (.f (.dct ys)) (.ref D):=⟨D,rfl,.inr rfl,hsys,zs,HJ ha λo e=>(hs.2 _ hne).trans e,(HK w _ h' ys).symm▸FRd.mono (λ_ z=>.inl z) (λa z o e=>(hs.2 a λy=>hC (y▸z)).trans e) hd⟩
theorem E0G{E:Ab→Ac→Prop}{kx vx iter:Ak}{scope:Cn}{pos:Pos}{nl:Nat}{fr:List (Nat×Nat)}{it:Iv}{use:Option (Ab→Sem Unit)}{v:V}{Q:Ab→Ac→Prop}{p:Pos}(B':Base h₀ mg mb)(Bk:Blk N M scope fr)(hnl:M.ns.length=nl)(T:TgR M tg t)(L: ∀k∈t.ks,∀x,M.ns[k]?=some x→scope.names.lookup x=some .local)
  (hi:SoundI w h₀ n B N tg iter it) (hc:SoundT w h₀ n [] M ifs c) (hk:Sound w h₀ n [] M kx fk) (hf:Sound w h₀ n [] M vx f) (hB: ∀k∈B,k∈C) (hfs: ∀env x,FL iter env x=pure x)
  (hR:Rm n R) (S:SR w h₀ N env ω s sh.heap) (q:Mine.Q4 nl fr it t c fk f s=some (v,s'))
  (P: ∀ω' h3 tk D Cd mm,sh.heap.objs.size≤Cd→h3.Ns Cd mm→Ghs h₀ env ω' h3 [Cd]→(∀h',Ce Cd h3 h'→SR w h₀ N env ω' s' h'∧StepE C ω sh.heap ω' h'∧VR w ω' h' v (.ref D))→I5 (Ag pg w) R E use Q (.ref D) Cd (.ok .next) {sh with heap:=h3,toks:=tk}):
  wpAny (Ag pg w) R (L9 (.DictComp kx vx [⟨tg,iter,ifs,0⟩] scope pos) scope env p newDict false (eval iter env) use) Q E sh:=by
 refine Ax q λp q1 q=>ifE q λhlen q=>Ax q λr q2 q=>?_
 have q:=Dk q
 obtain ⟨cl,hcl,c1,c2⟩:=MW Bk S.fr.ok
 refine B0I (use:=use) rfl (hfs env) hcl Bk.kind Bk.first (hi R env ω s p.2 p.1 sh _ _ hR S q1 λω1 h1 tk1 I wr fr' Src St S1 st1 W hw g hsrc hst=>Nc (T:= "dict") (data:=.dict #[]) (Q:= λacc cenv s=>Dw (Ag pg w) R (.compStart (.DictComp kx vx [⟨tg,iter,ifs,0⟩] scope pos) 0 (.ref I) acc cenv) (I5 (Ag pg w) R E use Q acc cenv.locals) s) rfl (C9 _) rfl Bk S1 g c1 c2 hnl W.toWk0 hsrc hst λh2 tk2 hsz keep hD Sb g2 hDw hsrc2 hst2=>?_)
 have loop:Dw (Ag pg w) R (.compLoop (.DictComp kx vx [⟨tg,iter,ifs,0⟩] scope pos) 0 (.ref I) (.ref h1.objs.size) (GX scope cl (h1.objs.size+1) env))
   (I5 (Ag pg w) R E use Q (.ref h1.objs.size) (h1.objs.size+1)) {sh with heap:=h2,toks:=tk2}:=
  E0N (sh:={sh with heap:=h2,toks:=tk2}) T (λk hk x hx=>LD (L k hk x hx)) hc hk hf hR W Sb g2 hDw hsrc2 hst2 (HJ (B0f h1) λo e=>by rw [hD,←e];exact (BQ _ rfl).symm) hlen q2 λω3 h3 tk3 zs S3 st3 g3 ha3 hd3=>by
   obtain ⟨mm3,n3,_⟩:=S3.fr.ns
   have co:=Nd (A:=[]) S1 st1 g hw rfl hsz keep S3 st3 g3 (λv _=>BO v) (λ_ z=>nomatch z) hB
   exact P _ h3 tk3 _ _ mm3 (A8 st1.size (CZ _)) n3 co.1 λh' hs'=>⟨q.2▸(co.2 h' hs').1,(co.2 h' hs').2,q.1▸E0W (S3.fr.off _ (.inl rfl)).2.1 hs' (beq_eq_false_iff_ne.mpr λz=>absurd (z▸B'.sys:h1.objs.size<h₀.objs.size) (DY.mpr S1.lo)) ha3 (C4 (C8 _)) hd3⟩
 exact codeAny_compStart_dict loop (W.self 0 _ _ _ hst2 loop)
theorem A0c{value:Ak}{y:Str}{py:Pos}{l:Nat}{scope:Cn}(hv:(∃a b p,value=.ListComp a b scope p)∨∃a a' b p,value=.DictComp a a' b scope p)(h1:(py.line==value.pos.line)=true)(h2:(scope.names.any λx=>x.1==y&&(x.2==.local||x.2==.cell))=false){env:Env}(hk:env.scope.kind=.function)(hy:env.kindOf y=some .local):
  Eb value (some (.Name y py)) l env=pure true:=by
 have hb:env.blockKind=.function:=by unfold M0x;rw [hk];rfl
 rcases hv with ⟨a,b,p,rfl⟩|⟨a,a',b,p,rfl⟩<;>
 ·unfold Eb
  dsimp only [pure_bind]
  rw [hb,hy,h1,h2]
  rfl
theorem D0n{k:Nat}{y:Str}{py spos:Pos}{tg kx vx iter:Ak}{ifs:List Ak}{scope:Cn}{pos:Pos}{nl:Nat}{fr:List (Nat×Nat)}{it:Iv}{t:Tg}{c:Cv}{fk f:Ev}(B':Base h₀ mg mb)(hx:N.ns[k]?=some y)(hy:y∈N.ls)(hl:(py.line==(O0z kx vx [⟨tg,iter,ifs,0⟩] scope pos).pos.line)=true)(hn:(scope.names.any λx=>x.1==y&&(x.2==.local||x.2==.cell))=false)
  (Bk:Blk N M scope fr) (hnl:M.ns.length=nl) (T:TgR M tg t) (L: ∀k∈t.ks,∀x,M.ns[k]?=some x→scope.names.lookup x=some .local)
  (hi:SoundI w h₀ n B N tg iter it) (hc:SoundT w h₀ n [] M ifs c) (hk:Sound w h₀ n [] M kx fk) (hf:Sound w h₀ n [] M vx f) (hB: ∀k∈B,k∈C) (hfs: ∀env x,FL iter env x=pure x):
  SoundS w h₀ n C N (.Assign [.Name y py] (.DictComp kx vx [⟨tg,iter,ifs,0⟩] scope pos) spos) (Bp k (Q4 nl fr it t c fk f)):=
 λR env ω s s' fl sh Q E hR S q P=>Ax q λp q1 q=>D8 q λq2 q3=>M0Z _ _ _ _ (A0c (.inr ⟨_,_,_,_,rfl⟩) hl hn S.fr.ok.kind (S.fr.ok.lcl _ hy))▸Aq (Gw (Aq (Aq (Bo (E0G (Q:= λ_ s'=>Q .next s') (use:=some (De (.Name y py) env)) B' Bk hnl T L hi hc hk hf hB hfs hR S q1 λω' h3 tk D Cd mm hC hns gC fin=>
  have f:=fin h3 ⟨rfl,λ_ _=>rfl⟩
  WR hx f.2.2 hns gC hC ⟨f.1,f.2.1⟩ (FD q2▸P.eq q3)) (λ_ s' hq=>AJ (AJ hq)) λ_ _ e=>e))))
end
noncomputable def KOk{α:Type}(n:Nat)(lt:Nat→Nat→Bool)(Post:α→Prop):KasT α→Prop
 |.ret a=>Post a
 |.ask i j k=>i<n∧j<n∧KOk n lt Post (k (lt i j))
section
variable{α β:Type}{n:Nat}{lt:Nat→Nat→Bool}
theorem KOk.mono{P Q:α→Prop}(hq: ∀a,P a→Q a): ∀{t:KasT α},KOk n lt P t→KOk n lt Q t
 |.ret a,h=>hq a h
 |.ask _ _ _,h=>⟨h.1,h.2.1,KOk.mono hq h.2.2⟩
theorem KOk.bind{P:β→Prop}{f:α→KasT β}: ∀{t:KasT α},KOk n lt (λa=>KOk n lt P (f a)) t→KOk n lt P (t.bind f)
 |.ret a,h=>h
 |.ask i j k,h=>⟨h.1,h.2.1,KOk.bind h.2.2⟩
theorem KOk.wp{Post:α→Prop}{cmp:Nat→Nat→(Bool→Ac→Prop)→Ac→Prop}{Q:α→Ac→Prop}{P:Ac→Prop}
  (hc: ∀i j C s,i<n→j<n→P s→(∀s',P s'→C (lt i j) s')→cmp i j C s): ∀{t:KasT α} {s:Ac},KOk n lt Post t→P s→(∀a s',Post a→P s'→Q a s')→t.kasWp cmp Q s
 |.ret a,s,h,hp,q=>q a s h hp
 |.ask i j k,s,h,hp,q=>hc i j _ s h.1 h.2.1 hp λs' hp'=>KOk.wp hc h.2.2 hp' q
end
structure Ord(lt:Nat→Nat→Bool):Prop where
 asym: ∀i j,lt i j=true→lt j i=false
 ntr: ∀i j k,lt i k=true→lt i j=true∨lt j k=true
theorem Ord.irr{lt:Nat→Nat→Bool}(O:Ord lt)(i:Nat):lt i i=false:=by
 cases h:lt i i with
 |false=>rfl
 |true=>have:=O.asym i i h;rw [h] at this;cases this
theorem Ord.le{lt:Nat→Nat→Bool}(O:Ord lt){i j k:Nat}(a:lt i j=false)(b:lt j k=false):lt i k=false:=O4.mpr λh=>(O.ntr i j k h).elim (λz=>C3 (a.symm.trans z)) λz=>C3 (b.symm.trans z)
noncomputable abbrev gd(p:Array Nat)(i:Nat):Nat:=p.getD i 0
def Up(lt:Nat→Nat→Bool)(p:Array Nat)(m:Nat):Prop:= ∀i j,i≤j→j<m→lt (gd p j) (gd p i)=false
def Dn(lt:Nat→Nat→Bool)(p:Array Nat)(m:Nat):Prop:= ∀i j,i≤j→j<m→lt (gd p i) (gd p j)=false
def PermR(n:Nat)(p:Array Nat):Prop:=p.Perm (Lr (FF n))
section
variable{n:Nat}{lt:Nat→Nat→Bool}{p:Array Nat}
theorem PermR.size(h:PermR n p):p.size=n:=by have:=h.size_eq;simpa using this
theorem PermR.bel(h:PermR n p)(hn:0<n)(i:Nat):gd p i<n:=by
 unfold gd
 rw [A0y]
 cases e:p[i]? with
 |none=>simpa using hn
 |some x=>
  have hx:x∈p:=Array.mem_of_getElem? e
  have:x∈Lr (FF n):=(K0W h).mp hx
  simpa using this
theorem Kt{q:Array Nat}{i j:Nat}(h:q[i]?=p[j]?):gd q i=gd p j:=by unfold gd;rw [A0y,A0y,h]
theorem Ho{i j:Nat}(hj:j≤p.size)(k:Nat):gd (L1 p i j) k=if i≤k∧k<j then gd p (i+j - 1 - k) else gd p k:=by
 have:=getElem?_mirror_all (xs:=p) (i:=i) hj k
 unfold L1
 split
 ·rename_i h;rw [if_pos h] at this;exact Kt this
 ·rename_i h;rw [if_neg h] at this;exact Kt this
theorem PermR.rev(h:PermR n p)(i j:Nat):PermR n (L1 p i j):=(mirror_perm p i j _).trans h
theorem X3{k d:Nat}(hk:k<p.size)(hd:d≤k)(i:Nat):gd (bubble p k d) i=if i=k - d then gd p k else if k - d<i∧i≤k then gd p (i - 1) else gd p i:=by
 have:=getElem?_bubble (xs:=p) hk d hd i
 by_cases h1:i=k - d
 ·rw [if_pos h1] at this⊢;exact Kt this
 ·rw [if_neg h1] at this⊢
  by_cases h2:k - d<i∧i≤k
  ·rw [if_pos h2] at this⊢;exact Kt this
  ·rw [if_neg h2] at this⊢;exact Kt this
theorem JY{α:Type}{P:α→Prop}{b:Bool}{x y:KasT α}(h1:b=true→KOk n lt P x)(h0:b=false→KOk n lt P y):KOk n lt P (if b=true then x else y):=by
 cases b with
 |true=>exact (if_pos rfl:(if true=true then x else y)=x).symm▸h1 rfl
 |false=>exact (if_neg C3:(if false=true then x else y)=y).symm▸h0 rfl
theorem K6{P:Nat→Prop}{j m:Nat}(hj:j<m+1)(h:j<m→P j)(e:P m):P j:=(Nat.lt_succ_iff_lt_or_eq.mp hj).elim h λq=>q▸e
theorem Up.step{m:Nat}(O:Ord lt)(hu:Up lt p m)(h: ∀i,i+1=m→lt (gd p m) (gd p i)=false):Up lt p (m+1):= λi j hij hj=>
 K6 (P:= λj=>i≤j→lt (gd p j) (gd p i)=false) hj (λq hij=>hu i j hij q) (λhij=>(Nat.lt_or_eq_of_le hij).elim (λq=>by
  cases m with
  |zero=>exact absurd q (Ls _)
  |succ k=>exact O.le (h k rfl) (hu i k (Nat.le_of_lt_succ q) (C8 _))) λq=>q▸O.irr _) hij
theorem Dn.step{m:Nat}(O:Ord lt)(hd:Dn lt p m)(h: ∀i,i+1=m→lt (gd p i) (gd p m)=false):Dn lt p (m+1):= λi j hij hj=>
 K6 (P:= λj=>i≤j→lt (gd p i) (gd p j)=false) hj (λq hij=>hd i j hij q) (λhij=>(Nat.lt_or_eq_of_le hij).elim (λq=>by
  cases m with
  |zero=>exact absurd q (Ls _)
  |succ k=>exact O.le (hd i k (Nat.le_of_lt_succ q) (C8 _)) (h k rfl)) λq=>q▸O.irr _) hij
theorem Wr(O:Ord lt)(hn:0<n)(hp:PermR n p): ∀(f m:Nat),1≤m→Up lt p m→KOk n lt (λr=>Up lt p r∧m≤r∧r≤m+f∧(r<m+f→lt (gd p r) (gd p (r - 1))=true)) (kas_asc p f m):= λf=>by
 induction f with
 |zero=>exact λm _ hu=>⟨hu,A9 _,A9 _,λh=>absurd h (Bu _)⟩
 |succ f ih=>
  exact λm hm hu=>⟨hp.bel hn m,hp.bel hn (m - 1),JY (λhc=>⟨hu,A9 _,E4 _ _,λ_=>hc⟩) λhc=>KOk.mono (λr h=>⟨h.1,A0K h.2.1,Fg m f▸h.2.2.1,λhr=>h.2.2.2 ((Fg m f).symm▸hr)⟩) (ih (m+1) (FH _) (hu.step O λi q=>(Nat.pred_eq_of_eq_succ q.symm:m - 1=i)▸hc))⟩
def Alike(lt:Nat→Nat→Bool)(p:Array Nat)(m q:Nat):Prop:= ∀i j,m - (q+1)≤i→i<m→m - (q+1)≤j→j<m→lt (gd p i) (gd p j)=false
theorem Alike.one{m:Nat}(O:Ord lt):Alike lt p (m+1) 0:= λi j h1 h2 h3 h4=>(OM (Nat.le_of_lt_succ h4) h3:j=m)▸(OM (Nat.le_of_lt_succ h2) h1:i=m)▸O.irr _
theorem KY{m k a:Nat}(h1:a≤k)(h2:k<m):a≤a+m - 1 - k∧a+m - 1 - k<m:=by omega
theorem Dn.rev{m k q:Nat}(hd:Dn lt p k)(hz:m≤p.size)(_hm:m≤k)(ha:Alike lt p m q):Dn lt (L1 p (m - (q+1)) m) k:=by
 intro i j hij hj
 rw [Ho hz,Ho hz]
 unfold Alike at ha
 generalize m - (q+1)=a at ha⊢
 by_cases h1:a≤i∧i<m
 ·have r1:=KY h1.1 h1.2
  rw [if_pos h1]
  by_cases h2:a≤j∧j<m
  ·have r2:=KY h2.1 h2.2
   rw [if_pos h2]
   exact ha _ _ r1.1 r1.2 r2.1 r2.2
  ·rw [if_neg h2]
   exact hd _ _ (CY (Bc r1.2 (DY.mp λz=>h2 ⟨A8 h1.1 hij,z⟩))) hj
 ·rw [if_neg h1]
  by_cases h2:a≤j∧j<m
  ·have r2:=KY h2.1 h2.2
   rw [if_pos h2]
   exact hd _ _ (A8 (CY (Nat.not_le.mp λz=>h1 ⟨z,DX hij h2.2⟩)) r2.1) (Bc r2.2 _hm)
  ·rw [if_neg h2]
   exact hd _ _ hij hj
theorem Alike.step{m q:Nat}(O:Ord lt)(ha:Alike lt p m q)(hq:q+1≤m)(h1:lt (gd p (m - 1)) (gd p m)=false)(h2:lt (gd p m) (gd p (m - 1))=false):Alike lt p (m+1) (q+1):= λi j a b c d=>
 have e:m+1 - (q+1+1)=m - (q+1):=Nat.add_sub_add_right m 1 (q+1)
 have l:m - (q+1)≤m - 1∧m - 1<m:=by omega
 K6 (P:= λi=>m - (q+1)≤i→lt (gd p i) (gd p j)=false) b
  (λb a=>K6 (P:= λj=>m - (q+1)≤j→lt (gd p i) (gd p j)=false) d (λd c=>ha i j a b c d) (λ_=>O.le (ha i (m - 1) a b l.1 l.2) h1) (e▸c))
  (λ_=>K6 (P:= λj=>m - (q+1)≤j→lt (gd p m) (gd p j)=false) d (λd c=>O.le h2 (ha (m - 1) j l.1 l.2 c d)) (λ_=>O.irr _) (e▸c)) (e▸a)
theorem F0b(O:Ord lt)(hn:0<n): ∀(f:Nat) (p:Array Nat) (m q:Nat),PermR n p→m+f≤n→Dn lt p m→q+1≤m→Alike lt p m q→
  KOk n lt (λr=>PermR n r.1∧Dn lt r.1 r.2.1∧m≤r.2.1∧r.2.1≤m+f∧r.2.2+1≤r.2.1∧Alike lt r.1 r.2.1 r.2.2) (kas_desc f p m q):= λf=>by
 induction f with
 |zero=>exact λp m q hp _ hd hq ha=>⟨hp,hd,A9 _,A9 _,hq,ha⟩
 |succ f ih=>
  intro p m q hp hmf hd hq ha
  have hz:m≤p.size:=hp.size.symm▸A8 (E4 _ _) hmf
  have hmf:m+1+f≤n:=Fg m f▸hmf
  have go: ∀p' q',PermR n p'→Dn lt p' (m+1)→q'+1≤m+1→Alike lt p' (m+1) q'→KOk n lt (λr=>PermR n r.1∧Dn lt r.1 r.2.1∧m≤r.2.1∧r.2.1≤m+(f+1)∧r.2.2+1≤r.2.1∧Alike lt r.1 r.2.1 r.2.2) (kas_desc f p' (m+1) q'):= λp' q' a b c d=>KOk.mono (λr h=>⟨h.1,h.2.1,A0K h.2.2.1,Fg m f▸h.2.2.2.1,h.2.2.2.2⟩) (ih p' (m+1) q' a hmf b c d)
  refine ⟨hp.bel hn m,hp.bel hn (m - 1),JY (λhc=>?_) λhc=>⟨hp.bel hn (m - 1),hp.bel hn m,JY (λ_=>⟨hp,hd,A9 _,E4 _ _,hq,ha⟩) λhc2=>?_⟩⟩
  ·have hd':Dn lt p (m+1):=hd.step O λi q=>(Nat.pred_eq_of_eq_succ q.symm:m - 1=i)▸O.asym _ _ hc
   split
   ·exact go _ 0 (hp.rev _ _) (hd'.rev hz (CZ _) ha) (OL _ _) (.one O)
   ·exact go _ 0 hp hd' (OL _ _) (.one O)
  ·exact go p (q+1) hp (hd.step O λi q=>(Nat.pred_eq_of_eq_succ q.symm:m - 1=i)▸hc2) (Gn hq) (ha.step O hq hc2 hc)
theorem Dn.flip{m:Nat}(hd:Dn lt p m)(hz:m≤p.size):Up lt (L1 p 0 m) m:= λi j hij hj=>by
 rw [Ho hz,Ho hz,if_pos ⟨C9 _,hj⟩,if_pos ⟨C9 _,DX hij hj⟩]
 exact hd _ _ (Nat.sub_le_sub_left hij _) (KY (C9 _) (DX hij hj)).2
theorem Up.flip{m:Nat}(hd:Up lt p m)(hz:m≤p.size):Dn lt (L1 p 0 m) m:= λi j hij hj=>by
 rw [Ho hz,Ho hz,if_pos ⟨C9 _,DX hij hj⟩,if_pos ⟨C9 _,hj⟩]
 exact hd _ _ (Nat.sub_le_sub_left hij _) (KY (C9 _) (DX hij hj)).2
def Qm(n:Nat)(lt:Nat→Nat→Bool)(r:Nat×Array Nat):Prop:=PermR n r.2∧Up lt r.2 r.1∧1≤r.1∧r.1≤n
theorem A0f(O:Ord lt)(hn:0<n){m:Nat}(hp:PermR n p)(hd:Dn lt p m)(h1:1≤m)(hm:m≤n):KOk n lt (Qm n lt) (kas_tail3 m n p):=KOk.bind (KOk.mono (λr h=>⟨hp.rev 0 m,h.1,A8 h1 h.2.1,Nat.add_sub_cancel' hm▸h.2.2.1⟩) (Wr O hn (hp.rev 0 m) (n - m) m h1 (hd.flip (hp.size.symm▸hm))))
theorem WY(O:Ord lt)(hn:0<n){m:Nat}(hp:PermR n p)(hd:Dn lt p (m+1))(hm:m+1≤n):KOk n lt (Qm n lt) (M0L m n p):=by
 unfold M0L
 refine KOk.bind (KOk.mono (λr h=>?_) (F0b O hn (n - (m+1)) p (m+1) 0 hp (DC (Nat.add_sub_cancel' hm)) hd (OL _ _) (.one O)))
 obtain ⟨a1,a2,a3,a4,a5,a6⟩:=h
 have b1:=A8 (OL 1 m) a3
 have b2:=Nat.add_sub_cancel' hm▸a4
 split
 ·exact A0f O hn (a1.rev _ _) (a2.rev (a1.size.symm▸b2) (A9 _) a6) b1 b2
 ·exact A0f O hn a1 a2 b1 b2
theorem E0T(O:Ord lt)(hn:0<n)(hp:PermR n p):KOk n lt (Qm n lt) (kas_count n p):=by
 unfold kas_count
 refine KOk.bind (KOk.mono (λr h=>?_) (Wr O hn hp (n - 1) 1 (A9 _) (Up.step (m:=0) O (λ_ _ _ h=>absurd h (Ls _)) λi h=>absurd h (Nat.succ_ne_zero i))))
 obtain ⟨hu,h1,h2,h3⟩:=h
 have h2:=Nat.add_sub_cancel' hn▸h2
 have h3:=Nat.add_sub_cancel' hn▸h3
 by_cases he:r=n
 ·rw [if_pos (beq_iff_eq.mpr he)]
  exact ⟨hp,hu,h1,h2⟩
 ·rw [if_neg λz=>he (beq_iff_eq.mp z)]
  have hl:=TY h2 he
  have hlt:=h3 hl
  by_cases hr:r>1
  ·rw [if_pos hr]
   have hz:r≤p.size:=hp.size.symm▸h2
   refine ⟨hp.bel hn 0,hp.bel hn (r - 1),JY (λ_=>⟨hp,hu,h1,h2⟩) λhc=>WY O hn (hp.rev 0 r) ((hu.flip hz).step O λi hi=>?_) hl⟩
   subst hi
   rw [Ho hz,Ho hz,if_pos ⟨C9 _,C8 _⟩,if_neg λz=>Bu _ z.2,show 0+(i+1) - 1 - i=0 by omega]
   exact O.le hc (O.asym _ _ hlt)
  ·rw [if_neg hr]
   exact WY O hn hp (Dn.step O (λi j a b=>(by omega:i=j)▸O.irr _) λi q=>(Nat.pred_eq_of_eq_succ q.symm:r - 1=i)▸O.asym _ _ hlt) hl
structure Pl(lt:Nat→Nat→Bool)(p:Array Nat)(k l:Nat):Prop where
 le:l≤k
 lo: ∀i,i<l→lt (gd p k) (gd p i)=false
 hi: ∀i,l≤i→i<k→lt (gd p k) (gd p i)=true
theorem I0S(O:Ord lt)(hn:0<n)(hp:PermR n p){k:Nat}(hu:Up lt p k): ∀(f l r:Nat),l≤r→r≤k→r - l≤f→(∀i,i<l→lt (gd p k) (gd p i)=false)→(∀i,r≤i→i<k→lt (gd p k) (gd p i)=true)→KOk n lt (Pl lt p k) (kas_place p k f l r):= λf=>by
 induction f with
 |zero=>exact λl r h1 h2 h3 ha hb=>⟨A8 h1 h2,ha,λi hi=>hb i (A8 (Nat.sub_eq_zero_iff_le.mp (Nat.le_zero.mp h3)) hi)⟩
 |succ f ih=>
  intro l r h1 h2 h3 ha hb
  show KOk n lt _ (if l≥r then _ else _)
  by_cases hlr:l≥r
  ·rw [if_pos hlr]
   exact ⟨A8 h1 h2,ha,λi hi=>hb i (A8 hlr hi)⟩
  ·rw [if_neg hlr]
   have m:l≤(l+r)/2∧(l+r)/2<r∧(l+r)/2 - l≤f∧r - ((l+r)/2+1)≤f:=by omega
   generalize (l+r)/2=c at m⊢
   have mk:=Bc m.2.1 h2
   exact ⟨hp.bel hn k,hp.bel hn c,JY
    (λhc=>ih l c m.1 (CY mk) m.2.2.1 ha λi hi hk=>(O.ntr _ (gd p i) _ hc).resolve_right λz=>C3 ((hu c i hi hk).symm.trans z))
    λhc=>ih (c+1) r m.2.1 h2 m.2.2.2 (λi hi=>O.le hc (hu i c (Nat.le_of_lt_succ hi) mk)) hb⟩
theorem Up.bub{k l:Nat}(O:Ord lt)(hu:Up lt p k)(h:Pl lt p k l)(hz:k<p.size):Up lt (bubble p k (k - l)) (k+1):= λi j hij hj=>by
 rw [X3 hz (Nat.sub_le _ _),X3 hz (Nat.sub_le _ _),Nat.sub_sub_self h.le]
 have hj:=Nat.le_of_lt_succ hj
 by_cases j1:j=l
 ·rw [if_pos j1]
  by_cases i1:i=l
  ·rw [if_pos i1];exact O.irr _
  ·have il:=TY (j1▸hij) i1
   rw [if_neg i1,if_neg λz=>A0L z.1 il]
   exact h.lo i il
 ·rw [if_neg j1]
  by_cases j2:l<j∧j≤k
  ·rw [if_pos j2]
   obtain ⟨m,rfl⟩: ∃m,j=m+1:=Nat.exists_eq_add_one_of_ne_zero (A0N (Nat.zero_lt_of_lt j2.1))
   show lt (gd p m) _=false
   by_cases i1:i=l
   ·rw [if_pos i1]
    exact O.asym _ _ (h.hi m (Nat.le_of_lt_succ j2.1) j2.2)
   ·rw [if_neg i1]
    split
    ·exact hu _ _ (Nat.sub_le_of_le_add hij) j2.2
    ·exact hu _ _ (Nat.le_of_lt_succ (by omega)) j2.2
  ·have jl:j<l:=TY (DY.mp λz=>j2 ⟨z,hj⟩) j1
   have il:=DX hij jl
   rw [if_neg j2,if_neg (C4 il),if_neg λz=>A0L z.1 il]
   exact hu _ _ hij (Bc jl h.le)
theorem E0i(O:Ord lt)(hn:0<n): ∀(f:Nat) (p:Array Nat) (k:Nat),PermR n p→k+f=n→Up lt p k→KOk n lt (λp'=>PermR n p'∧Up lt p' n) (kas_bin f p k):= λf=>by
 induction f with
 |zero=>exact λp k hp hk hu=>⟨hp,hk▸hu⟩
 |succ f ih=>
  exact λp k hp hk hu=>KOk.bind (KOk.mono (λl h=>ih _ (k+1) ((bubble_perm p k _).trans hp) (hk▸Fg k f) (hu.bub O h (hp.size.symm▸hk▸H8 (FH f))))
   (I0S O hn hp hu k 0 k (C9 _) (A9 _) (A9 _) (λi hi=>absurd hi (Ls _)) λi h1 h2=>absurd h2 (DY.mpr h1)))
theorem J0N(O:Ord lt)(hn:0<n):KOk n lt (λp'=>PermR n p'∧Up lt p' n) (kas_sort n):=by
 unfold kas_sort
 refine KOk.bind (KOk.mono (λr h=>?_) (E0T O hn (N0O _)))
 obtain ⟨a1,a2,a3,a4⟩:=h
 split
 ·rename_i hr
  exact E0i O hn _ r.2 _ a1 (by omega) (by rw [Nat.max_eq_left a3];exact a2)
 ·rename_i hr
  obtain h:r.1=n:=by omega
  exact ⟨a1,h▸a2⟩
end
theorem Zi(a b:Int×Nm)(h:Cb a b=true):Cb b a=false:=by
 unfold Cb at h⊢
 by_cases h1:a.1<b.1
 ·rw [if_neg (by omega),if_pos h1]
 ·rw [if_neg h1] at h
  by_cases h2:b.1<a.1
  ·rw [if_pos h2] at h;cases h
  ·rw [if_neg h2,Ex] at h
   rw [if_neg h2,if_neg h1,Ex]
   have h:=of_decide_eq_true h
   exact decide_eq_false λq=>absurd (OG h q) (L09 _)
theorem SO(a b:Nm):C6 a b=true∨a=b∨C6 b a=true:=by
 rw [Ex,Ex]
 by_cases h:a<b
 ·exact .inl (decide_eq_true h)
 ·by_cases h2:b<a
  ·exact .inr (.inr (decide_eq_true h2))
  ·exact .inr (.inl (L03 (L0E.mp h2) (L0E.mp h)))
theorem Zk(a b:Int×Nm)(h1:Cb a b=false)(h2:Cb b a=false):a=b:=by
 unfold Cb at h1 h2
 by_cases c1:a.1<b.1
 ·rw [if_pos c1] at h1;cases h1
 ·by_cases c2:b.1<a.1
  ·rw [if_pos c2] at h2;cases h2
  ·rw [if_neg c1,if_neg c2] at h1
   rw [if_neg c2,if_neg c1] at h2
   rcases SO a.2 b.2 with z|z|z
   ·rw [z] at h1;cases h1
   ·exact JD (by omega) z
   ·rw [z] at h2;cases h2
theorem Zj(a b c:Int×Nm)(h1:Cb a b=true)(h2:Cb b c=true):Cb a c=true:=by
 unfold Cb at h1 h2⊢
 by_cases c1:a.1<b.1
 ·by_cases c2:b.1<c.1
  ·rw [if_pos (by omega)]
  ·rw [if_neg c2] at h2
   by_cases c3:c.1<b.1
   ·rw [if_pos c3] at h2;cases h2
   ·rw [if_pos (by omega)]
 ·rw [if_neg c1] at h1
  by_cases c2:b.1<a.1
  ·rw [if_pos c2] at h1;cases h1
  ·rw [if_neg c2] at h1
   by_cases c3:b.1<c.1
   ·rw [if_pos (by omega)]
   ·rw [if_neg c3] at h2
    by_cases c4:c.1<b.1
    ·rw [if_pos c4] at h2;cases h2
    ·rw [if_neg c4] at h2
     rw [if_neg (by omega),if_neg (by omega)]
     rw [Ex] at h1 h2⊢
     exact decide_eq_true (OG (of_decide_eq_true h1) (of_decide_eq_true h2))
theorem I0L(a b c:Int×Nm)(h:Cb a c=true):Cb a b=true∨Cb b c=true:=by
 cases h1:Cb a b with
 |true=>exact .inl rfl
 |false=>
  cases h2:Cb b a with
  |true=>exact .inr (Zj b a c h2 h)
  |false=>
   obtain rfl:=Zk a b h1 h2
   exact .inr h
noncomputable abbrev pAt(ps:List (Int×Nm))(i:Nat):Int×Nm:=ps.getD i (0,[])
theorem I0P(ps:List (Int×Nm)):Ord λi j=>Cb (pAt ps i) (pAt ps j):=⟨λ_ _=>Zi _ _,λ_ _ _=>I0L _ _ _⟩
theorem Sq(x:Int×Nm): ∀(l:List (Int×Nm)),(G7 x l).Perm (x::l)
 |[]=>.refl _
 |y::r=>by
  unfold G7
  split
  ·exact .refl _
  ·exact ((Sq x r).cons y).trans (.swap ..)
theorem ZQ: ∀(l:List (Int×Nm)),(H3 l).Perm l
 |[]=>.refl _
 |x::r=>(Sq x _).trans ((ZQ r).cons x)
def LeP(a b:Int×Nm):Prop:=Cb b a=false
theorem XK(x:Int×Nm): ∀(l:List (Int×Nm)),l.Pairwise LeP→(G7 x l).Pairwise LeP
 |[],_=>TR ..
 |y::r,h=>by
  rw [En] at h
  unfold G7
  split
  ·rename_i hl
   refine En.mpr ⟨λz hz=>?_,En.mpr h⟩
   rcases AW.mp hz with rfl|hz
   ·exact Zi _ _ hl
   ·cases q:Cb z x with
    |false=>exact q
    |true=>
     have:=Zj _ _ _ q hl
     have h':Cb z y=false:=h.1 z hz
     rw [h'] at this;cases this
  ·rename_i hl
   refine En.mpr ⟨λz hz=>?_,XK x r h.2⟩
   rcases AW.mp ((Sq x r).mem_iff.mp hz) with rfl|hz
   ·exact (A01 _).mp hl
   ·exact h.1 z hz
theorem ZR: ∀(l:List (Int×Nm)),(H3 l).Pairwise LeP
 |[]=>.nil
 |x::r=>XK x _ (ZR r)
theorem Tq{α:Type}{T:α→α→Prop}(anti: ∀a b,T a b→T b a→a=b): ∀{x y:List α},x.Perm y→x.Pairwise T→y.Pairwise T→x=y
 |[],y,p,_,_=>by have:=p.length_eq;simp at this;exact (J1.mp this.symm).symm
 |a::r,[],p,_,_=>by have:=p.length_eq;simp at this
 |a::r,b::t,p,hx,hy=>by
  rw [En] at hx hy
  have hab:a=b:=by
   rcases AW.mp (p.mem_iff.mp (.head _):a∈b::t) with q|q
   ·exact q
   ·rcases AW.mp (p.mem_iff.mpr (.head _):b∈a::r) with q'|q'
    ·exact q'.symm
    ·exact anti _ _ (hx.1 b q') (hy.1 a q)
  subst hab
  rw [Tq anti ((List.perm_cons _).mp p) hx.2 hy.2]
theorem Zs(ps:List (Int×Nm)):(FF ps.length).map (pAt ps)=ps:=by
 apply TG
 intro i
 rw [CH]
 by_cases h:i<ps.length
 ·rw [L00 h]
  simp [pAt,TL,Fc h]
 ·rw [GN (by simpa using h),GN (by simpa using h)];rfl
theorem I0H{ps:List (Int×Nm)}{p:Array Nat}(hp:PermR ps.length p)(hu:Up (λi j=>Cb (pAt ps i) (pAt ps j)) p ps.length):p.toList.map (pAt ps)=H3 ps:=by
 refine Tq (T:=LeP) (λa b h1 h2=>Zk a b h2 h1) ?_ ?_ (ZR ps)
 ·have h1:(p.toList.map (pAt ps)).Perm ((FF ps.length).map (pAt ps)):=(Array.perm_iff_toList_perm.mp hp).map _
  rw [Zs] at h1
  exact h1.trans (ZQ ps).symm
 ·rw [A0G]
  intro i j hi hj hij
  rw [L01,L01]
  have hsz:=hp.size
  have hi':i<p.size:=by simpa using hi
  have hj':j<p.size:=by simpa using hj
  have:=hu i j (CY hij) (by rw [←hsz];exact hj')
  unfold LeP
  simpa [gd,Array.getD,hi',hj'] using this
noncomputable def PairsAt(h:Heap):List (Int×Nm)→List Ab→Prop
 |[],vs=>vs=[]
 |p::ps,vs=> ∃T o n t u r,vs=.ref T::r∧(h.get? T=some o∧o.cls=.type "tuple"∧o.data=.seq #[.int p.1 t,.str (S' p.2) u] n)∧PairsAt h ps r
theorem PairsAt.keep{h h':Heap}{a:Addr}(hk: ∀b o,b≠a→h.get? b=some o→h'.get? b=some o)(ha: ∃xs n,h.get? a=some (Cx "list" xs n)): ∀{ps:List (Int×Nm)} {vs:List Ab},PairsAt h ps vs→PairsAt h' ps vs
 |[],_,e=>e
 |p::ps,_,e=>by
  obtain ⟨T,o,n,t,u,r,e1,⟨e2,e5,e6⟩,e3⟩:=e
  refine ⟨T,o,n,t,u,r,e1,⟨hk T _ (λq=>?_) e2,e5,e6⟩,PairsAt.keep hk ha e3⟩
  obtain ⟨xs,m,e4⟩:=ha
  rw [q,e4] at e2
  have:=An e2
  rw [←this] at e5
  simp at e5
theorem PairsAt.length{h:Heap}: ∀{ps:List (Int×Nm)} {vs:List Ab},PairsAt h ps vs→vs.length=ps.length
 |[],_,e=>by have e':_=[]:=e;rw [e'];rfl
 |p::ps,_,e=>by obtain ⟨T,o,n,t,u,r,rfl,_,e3⟩:=e;simp [PairsAt.length e3]
theorem PairsAt.at{h:Heap}: ∀{ps:List (Int×Nm)} {vs:List Ab},PairsAt h ps vs→∀i,i<ps.length→∃T o n t u,vs.getD i .none=.ref T∧h.get? T=some o∧o.data=.seq #[.int (pAt ps i).1 t,.str (S' (pAt ps i).2) u] n
 |[],_,_,i,hi=>absurd hi (Ls _)
 |p::ps,_,e,i,hi=>by
  obtain ⟨T,o,n,t,u,r,rfl,e2,e3⟩:=e
  cases i with
  |zero=>exact ⟨T,o,n,t,u,rfl,e2.1,e2.2.2⟩
  |succ i=>
   obtain ⟨T',o',n',t',u',q1,q2⟩:=PairsAt.at e3 i (by simpa using hi)
   exact ⟨T',o',n',t',u',q1,q2⟩
theorem PairsAt.tups{h:Heap}: ∀{ps:List (Int×Nm)} {vs:List Ab},PairsAt h ps vs→∃fs,KatTups h vs fs∧fs.length=ps.length∧∀v∈fs,∃i t,v=.int i t
 |[],_,e=>by have e':_=[]:=e;subst e';exact ⟨[],KatTups.nil,rfl,λv hv=>nomatch hv⟩
 |p::ps,_,e=>by
  obtain ⟨T,o,n,t,u,r,rfl,e2,e3⟩:=e
  obtain ⟨fs,q1,q2,q3⟩:=PairsAt.tups e3
  refine ⟨.int p.1 t::fs,KatTups.cons e2.1 e2.2.1 e2.2.2 rfl q1,by simp [q2],λv hv=>?_⟩
  rcases AW.mp hv with rfl|hv
  ·exact ⟨_,_,rfl⟩
  ·exact q3 v hv
section
variable{w:A5}{R:Aw}{E:Ab→Ac→Prop}{sh:Ac}
theorem I0M{ps:List (Int×Nm)}{vs:List Ab}{h:Heap}{g:Array B0e}{d:Drawn}{os:Gq}(hp:PairsAt h ps vs): ∀(i j:Nat) (C:Bool→Ac→Prop) (s:Ac),i<ps.length→j<ps.length→(∃tk,s=⟨h,g,d,tk,os⟩)→
  (∀s',(∃tk,s'=⟨h,g,d,tk,os⟩)→C (Cb (pAt ps i) (pAt ps j)) s')→kas_ask pg w R (tuples' true) vs i j C s:=by
 intro i j C s hi hj hs q
 obtain ⟨T,o,n,t,u,e1,e2,d1⟩:=hp.at i hi
 obtain ⟨T',o',n',t',u',e3,e4,d2⟩:=hp.at j hj
 unfold kas_ask
 rw [e1,e3]
 obtain ⟨tk,rfl⟩:=hs
 refine kat_lt e2 d1 e4 d2 ?_
 show KatLex pg w R true (decide (2<2)) C [(.int (pAt ps i).1 t,.int (pAt ps j).1 t'),(.str (S' (pAt ps i).2) u,.str (S' (pAt ps j).2) u')] 0 _
 have hP: ∀{b:Bool} {s':Ac},(∃tk,s'=⟨h,g,d,tk,os⟩)→b=Cb (pAt ps i) (pAt ps j)→C b s':= λhs hb=>by rw [hb];exact q _ hs
 refine kat_cons (wpAny_eqBool_int (kat_go (λhe=>?_) λhe=>?_))
 ·have he:(pAt ps i).1=(pAt ps j).1:=by simpa using he
  refine kat_yes (kat_cons (wpAny_eqBool_str (kat_go (λh2=>?_) λh2=>?_)))
  ·have h2:(pAt ps i).2=(pAt ps j).2:=N00.mp (of_decide_eq_true h2)
   refine kat_yes (kat_nil (hP ⟨_,rfl⟩ ?_))
   unfold Cb
   rw [if_neg (by omega),if_neg (by omega),h2,Ex]
   simp
  ·refine kat_no (kat_one _ _ (M0f (hP ⟨_,rfl⟩ ?_)))
   unfold Cb
   rw [if_neg (by omega),if_neg (by omega),Ex]
   rfl
 ·have he:(pAt ps i).1≠(pAt ps j).1:=by simpa using he
  refine kat_no (oneLt_int (hP ⟨_,rfl⟩ ?_))
  unfold Cb
  by_cases h1:(pAt ps i).1<(pAt ps j).1
  ·rw [if_pos h1];exact decide_eq_true h1
  ·rw [if_neg h1,if_pos (by omega)];exact decide_eq_false h1
theorem H0q{a:Addr}{ps:List (Int×Nm)}{vs:List Ab}{n:Nat}{P:PySem.Fin→Ac→Prop}(ho:sh.heap.get? a=some (Cx "list" vs.toArray n))(hp:PairsAt sh.heap ps vs)(h64:vs.length<64)
  (q: ∀(p:List Nat) tk,p.map (pAt ps)=H3 ps→(∀i∈p,i<ps.length)→P (.done (.ret .none)) {sh with heap:=Lw sh.heap a vs (Lr (p.map λi=>vs.getD i .none)),toks:=tk}):
  wpAny (Ag pg w) R (Dc.«list.sort» ⟨[.ref a],[]⟩) P E sh:=by
 rw [list_sort_plain]
 have ha:a<sh.heap.objs.size:=Bz ho
 refine Aq (listItems_at ho rfl ?_)
 refine Aq (A0S ho rfl ?_ (by rw [Lq,Co];omega) (C9 _))
 obtain ⟨e1,ho1⟩: ∃e1,(sh.heap.update a (Ep λ_=>(#[]:Array Ab))).get? a=some (Cx "list" #[] e1):=⟨_,get?_update_seq ho λ_=> #[]⟩
 refine Aq (A0T ho1 rfl ?_)
 refine Aq (wpAny_newTuple ?_ (by show vs.length≤_;rw [Co];omega))
 refine Aq (N0q ?_ (C9 _))
 refine Cp ?_
 have ho6:(((sh.heap.update a (Ep λ_=> #[])).push (Cx "tuple" vs.toArray 0)).push (Cx "list" #[] 0)).get? a=some (Cx "list" #[] e1):=by
  rw [M0B _ _ _ (by rw [size_push',OT];exact C4 (FG ha)),M0B _ _ _ (by rw [OT];exact C4 ha)]
  exact ho1
 have hp6:PairsAt (((sh.heap.update a (Ep λ_=> #[])).push (Cx "tuple" vs.toArray 0)).push (Cx "list" #[] 0)) ps vs:=hp.keep (λb o hb e=>Dd _ (Dd _ (by rw [(Eo sh.heap a _).2 b hb];exact e))) ⟨_,_,ho⟩
 show wpAny (Ag pg w) R _ P E {sh with heap:=((sh.heap.update a (Ep λ_=> #[])).push (Cx "tuple" vs.toArray 0)).push (Cx "list" #[] 0)}
 dsimp only
 have hlen:=hp.length
 by_cases h2:vs.toArray.size<2
 ·rw [if_pos h2,if_pos h2]
  refine Aq (AJ ?_)
  rw [StateT.run_pure]
  refine Aq (AJ ?_)
  dsimp only
  refine Aq (A0T ho6 rfl ?_)
  have hout:(arrOf (SortSt.mk' general' (vs.toArray.zip vs.toArray) #[] 7 none)).map (·.2)=Lr ((FF ps.length).map λi=>vs.getD i .none):=by
   show (vs.toArray.zip vs.toArray).map (·.2)=_
   apply Array.ext'
   rw [Array.toList_map,Array.toList_zip]
   show (vs.zip vs).map HA=(FF ps.length).map λi=>vs.getD i .none
   rw [List.map_snd_zip (A9 _)]
   apply TG
   intro i
   rw [CH]
   by_cases h:i<ps.length
   ·rw [L00 h]
    simp [TL,Fc (show i<vs.length by omega)]
   ·rw [GN (by omega),GN (by rw [A0E];omega)];rfl
  rw [hout]
  refine Aq (A0S ho6 rfl ?_ (C9 _) (by rw [Lq,AD,A0E,Co];omega))
  simp only [bne_self_eq_false,A00,if_false]
  refine AJ (q (FF ps.length) sh.toks ?_ λi hi=>List.mem_range.mp hi)
  rw [Zs]
  rw [Lq] at h2
  match ps,hlen,h2 with
  |[],_,_=>rfl
  |[p],_,_=>rfl
  |_::_::_,hlen,h2=>simp at hlen;omega
 ·rw [if_neg h2,if_neg h2]
  have h2':2≤vs.length:=by rw [Lq] at h2;omega
  obtain ⟨fs,k1,k2,k3⟩:=hp6.tups
  refine Aq (kat_kind (T:=.type "int") k1 (by omega) (λv hv=>?_) (by decide) ?_)
  ·obtain ⟨i,t,rfl⟩:=k3 v hv
   exact Looks.of_pure rfl
  have run:=J0N (n:=ps.length) (I0P ps) (by omega)
  rw [←hlen] at run
  refine Aq (Bo (kat_run (κ:=tuples' (Un "int" !=Un "tuple")) (Q:= λst' s'=> ∃p:Array Nat,p.size=vs.length∧arrOf st'=p.map (kas_item (vs.toArray.zip vs.toArray))∧failedOf st'=none∧(PermR vs.length p∧Up (λi j=>Cb (pAt ps i) (pAt ps j)) p vs.length)∧∃tk,s'={sh with heap:=((sh.heap.update a (Ep λ_=> #[])).push (Cx "tuple" vs.toArray 0)).push (Cx "list" #[] 0),toks:=tk})
   rfl h2' h64 (λp' st' s' a1 a2 a3 a4=>⟨p',a1,a2,a3,a4⟩) (run.wp (P:= λs'=> ∃tk,s'={sh with heap:=((sh.heap.update a (Ep λ_=> #[])).push (Cx "tuple" vs.toArray 0)).push (Cx "list" #[] 0),toks:=tk}) (λi j C s hi hj hs hC=>I0M hp6 i j C s (by omega) (by omega) hs hC) ⟨_,rfl⟩ λp s' hpost hs'=>⟨hpost,hs'⟩)) ?_ λ_ _ e=>e)
  rintro ⟨⟨⟩,st'⟩ s' ⟨p,hpz,har,hf,⟨hperm,hup⟩,tk,rfl⟩
  dsimp only
  have hout:=kat_snds rfl har
  have hsz:(Lr (p.toList.map λi=>vs.getD i M0G)).size=vs.length:=by rw [Lq,AD,DB,hpz]
  rw [hout]
  refine Aq (A0T ho6 rfl ?_)
  refine Aq (A0S ho6 rfl ?_ (C9 _) (A8 (DC hsz) (by rw [Co];omega)))
  rw [hf]
  simp only [bne_self_eq_false,A00,if_false]
  rw [hlen] at hperm hup
  refine AJ (q p.toList tk (I0H hperm hup) λi hi=>?_)
  have:i∈Lr (FF ps.length):=(K0W hperm).mp (by simpa using hi)
  simpa using this
theorem ZW{x:Ab}{Q:Ab→Ac→Prop}(hcol:wpAny (Ag pg w) R.in1 (collect x) (λvs s1=>vs.length≤16777216∧
   wpAny (Ag pg w) R.in1.in1 (Dc.«list.sort» ⟨[.ref s1.heap.objs.size],[]⟩) (λfin s2=> ∃v,fin=.done (.ret v)∧Q (.ref s1.heap.objs.size) s2) E {s1 with heap:=s1.heap.push (Cx "list" vs.toArray 0)}) E sh):
  wpAny (Ag pg w) R (call (.builtin "sorted") [x]) Q E sh:=by
 refine Calls.call_function_entry kind_sorted plain_sorted entry_sorted (args_sorted1 _) ?_
 unfold Dc.«sorted»
 refine Aq (m:=checkCount "sorted" 1 1 _) (AJ ?_)
 refine Aq (Bo hcol (λvs s1 h=>?_) λ_ _ e=>e)
 refine Aq (N0q ?_ (by rw [Co];exact h.1))
 have ho:(s1.heap.push (Cx "list" vs.toArray 0)).get? s1.heap.objs.size=some (Cx "list" vs.toArray 0):=BQ _ rfl
 refine Aq (Cp (B0G slot_list_sort ⟨_,ho,rfl⟩ entry_list_sort (Bo h.2 (λfin s2 z=>?_) λ_ _ e=>e) (args_list_sort _)))
 obtain ⟨v,rfl,z⟩:=z
 exact ⟨v,rfl,AJ ⟨_,rfl,z⟩⟩
end
theorem I0t{a b:Nm}(h:C6 a b=true):C6 b a=false:=by
 rw [Ex] at h⊢
 exact decide_eq_false λq=>absurd (OG (of_decide_eq_true h) q) (L09 _)
theorem Sp(x:Nm): ∀(l:List Nm),(Hr x l).Perm (x::l)
 |[]=>.refl _
 |y::r=>by
  unfold Hr
  split
  ·exact .refl _
  ·exact ((Sp x r).cons y).trans (.swap ..)
theorem ZO: ∀(l:List Nm),(EY l).Perm l
 |[]=>.refl _
 |x::r=>(Sp x _).trans ((ZO r).cons x)
def LeN(a b:Nm):Prop:=C6 b a=false
theorem XJ(x:Nm): ∀(l:List Nm),l.Pairwise LeN→(Hr x l).Pairwise LeN
 |[],_=>TR ..
 |y::r,h=>by
  rw [En] at h
  unfold Hr
  split
  ·rename_i hl
   refine En.mpr ⟨λz hz=>?_,En.mpr h⟩
   rcases AW.mp hz with rfl|hz
   ·exact I0t hl
   ·have h':C6 z y=false:=h.1 z hz
    show C6 z x=false
    cases q:C6 z x with
    |false=>rfl
    |true=>
     rw [Ex] at q hl h'
     exact absurd (OG (of_decide_eq_true q) (of_decide_eq_true hl)) (of_decide_eq_false h')
  ·rename_i hl
   refine En.mpr ⟨λz hz=>?_,XJ x r h.2⟩
   rcases AW.mp ((Sp x r).mem_iff.mp hz) with rfl|hz
   ·exact (A01 _).mp hl
   ·exact h.1 z hz
theorem ZP: ∀(l:List Nm),(EY l).Pairwise LeN
 |[]=>.nil
 |x::r=>XJ x _ (ZP r)
theorem Zx: ∀(p:Str) (l:List Str),risingS p l=true→(p::l).Pairwise λa b=>M0D b.cps.toList a.cps.toList=false
 |p,[],_=>TR ..
 |p,x::r,h=>by
  simp only [risingS,Bv,DW] at h
  have ih:=Zx x r h.2
  refine En.mpr ⟨λz hz=>?_,ih⟩
  rcases AW.mp hz with rfl|hz
  ·exact h.1
  ·have h2:=(En.mp ih).1 z hz
   have h1:=h.1
   rw [ltCps_eq] at h1 h2⊢
   refine decide_eq_false λq=>?_
   have h1:=of_decide_eq_false h1
   have h2:=of_decide_eq_false h2
   rcases SO z.cps.toList x.cps.toList with y|y|y
   ·rw [Ex] at y;exact h2 (of_decide_eq_true y)
   ·rw [y] at q;exact h1 q
   ·rw [Ex] at y;exact h1 (OG (of_decide_eq_true y) q)
theorem J0P: ∀(l:List Str),sortedS l=true→l.Pairwise λa b=>M0D b.cps.toList a.cps.toList=false
 |[],_=>.nil
 |x::r,h=>Zx x r h
theorem C0T(s:Str):S' s.cps.toList=s:=by
 unfold S'
 cases s
 simp
theorem K0o{ss':List Str}{ns:List Nm}(hp:ss'.Perm (ns.map S'))(hs:sortedS ss'=true):ss'=(EY ns).map S':=by
 have e1:ss'=(ss'.map λs=>s.cps.toList).map S':=by
  rw [CP]
  conv=>lhs;rw [←Fe ss']
  exact J5 λs _=>(C0T s).symm
 have e2:(ss'.map λs=>s.cps.toList)=EY ns:=by
  refine Tq (T:=LeN) (λa b h1 h2=>?_) ?_ ?_ (ZP ns)
  ·rcases SO a b with z|z|z
   ·unfold LeN at h2;rw [z] at h2;cases h2
   ·exact z
   ·unfold LeN at h1;rw [z] at h1;cases h1
  ·have h1:=hp.map λs=>s.cps.toList
   rw [CP] at h1
   have:(ns.map ((λs=>s.cps.toList)∘S'))=ns:=by
    conv=>rhs;rw [←Fe ns]
    exact J5 λs _=>rfl
   rw [this] at h1
   exact h1.trans (ZO ns).symm
  ·rw [OH]
   refine (J0P ss' hs).imp λ{a b} h=>?_
   unfold LeN
   rw [Ex,←ltCps_eq]
   exact h
 rw [e1,e2]
section
variable{w:A5}{h₀:Heap}{N M:Names}{env env':Env}{ω ω':Wd}{h h':Heap}{s s1 s2:St}{n np:Nat}{A B C:List Nat}{mg mb:Str→Option Ab}{K:Frag}
theorem I0N: ∀{xs:List FV} {ps:List (Int×Nm)},NT xs=some ps→xs=ps.map λp=>.tup [.int p.1,.str p.2]:= λ{xs}=>by
 induction xs with
 |nil=>exact λe=>An e▸rfl
 |cons x r ih=>exact λe=>UL e λt ht e=>Ax e λp hp e=>AV e λps' e1 e2=>by rw [←e2,ht,XY hp,ih e1];rfl
theorem I0O: ∀{ps:List (Int×Nm)} {vs:List Ab},FRs w ω.fz h (ps.map λp=>FV.tup [.int p.1,.str p.2]) vs→PairsAt h ps vs:= λ{ps}=>by
 induction ps with
 |nil=>exact λe=>e
 |cons p ps ih=>
  refine λe=>e.cons (P:=PairsAt h (p::ps)) λy r e1 e2=>Dx (P:= λy=>PairsAt h (p::ps) (y::r)) e1 λa f l=>?_
  obtain ⟨ys,⟨o,q1,q2,k,q3⟩,l⟩:=l
  have l:Cs ys.toList (FR w ω.fz h (.int p.1)) (FRl w ω.fz h [.str p.2]):=l
  obtain ⟨y1,r1,f1,⟨t,f2⟩,⟨y2,r2,f3,⟨u,f4⟩,f5⟩⟩:=l
  have f5:r2=[]:=f5
  subst f5;subst f3;subst f2;subst f4
  exact ⟨a,o,k,t,u,r,rfl,⟨q1,q2,q3.trans (congrArg (λz=>Data.seq z k) (Array.toList_inj.mp f1))⟩,ih e2⟩
theorem J0O{a:Addr}{vs:List Ab}{out:Array Ab}:(Lw h a vs out).objs.size=h.objs.size+2:=by
 unfold Lw
 rw [OT,CI,CI,OT]
theorem I0K{xs:List FV}{ps:List (Int×Nm)}{vs:List Ab}(hx:xs=ps.map λp=>FV.tup [.int p.1,.str p.2])(hr:FRs w ω.fz h xs vs): ∀(p:List Nat),(∀i∈p,i<ps.length)→FRs w ω.fz h ((p.map (pAt ps)).map λp=>FV.tup [.int p.1,.str p.2]) (p.map λi=>vs.getD i .none):= λp=>by
 induction p with
 |nil=>exact λ_=>rfl
 |cons i p ih=>
  refine λhi=>RelL.get hr (i:=i) (x:=.tup [.int (pAt ps i).1,.str (pAt ps i).2]) ?_ λz z1 z2=>.mk ?_ (ih λj hj=>hi j (.tail _ hj))
  ·rw [hx,CH,pAt,L0y,Fc (hi i (.head _))];rfl
  ·show FR _ _ _ _ (vs.getD i .none)
   rw [L0y,z1];exact z2
theorem ZV{sh:Ac}{Q:Ab→Ac→Prop}{h1:Heap}{vs:List Ab}{out:Array Ab}{ys:List FV}{tk:Nat}(S:SR w h₀ N env ω s sh.heap)(hs:sh.heap.objs.size≤h1.objs.size)(k: ∀a o,sh.heap.get? a=some o→h1.get? a=some o)(r:FRs w ω.fz sh.heap ys out.toList)
  (P:PostE w h₀ N env [] ω sh s (.f (.lst ys)) Q):Q (.ref h1.objs.size) {sh with heap:=Lw (h1.push (Cx "list" vs.toArray 0)) h1.objs.size vs out,toks:=tk}:=by
 obtain ⟨c,hc⟩:=sortedHeap_at (out:=out) (BQ (o:=Cx "list" vs.toArray 0) h1 rfl:(h1.push (Cx "list" vs.toArray 0)).get? h1.objs.size=some (Cx "list" vs.toArray 0))
 have hsz:(Lw (h1.push (Cx "list" vs.toArray 0)) h1.objs.size vs out).objs.size=h1.objs.size+3:=by rw [J0O,CI]
 generalize h2e:Lw (h1.push (Cx "list" vs.toArray 0)) h1.objs.size vs out=h2 at hc hsz⊢
 have keep: ∀a o,sh.heap.get? a=some o→h2.get? a=some o:= λa o z=>h2e▸(sortedHeap_old (C4 (Bc (Bz z) hs)) (Bc (Bz z) (A8 hs (by rw [CI];exact CZ _)))).trans (Dd _ (k a o z))
 have G:Grow ω sh.heap ω h2:=DP (A8 hs (by rw [hsz];exact E4 _ 3)) keep
 have nw:=NC S hs
 exact P _ _ tk _ ((S.grow G).addFz ⟨hs,by rw [hsz];exact H8 (by decide),nw.1,nw.2⟩ λz=>absurd (S.fwlt _ z) (DY.mpr hs)) (G.step.addFz hs)
  ⟨_,rfl,.inr rfl,_,c,hc,Au (Dh w _ _ ys)▸FRs.mono (λ_ z=>.inl z) (λa _ o z=>keep a o z) r⟩
theorem J0R{R:Aw}{E:Ab→Ac→Prop}{sh:Ac}{Q:Ab→Ac→Prop}{l:Addr}{xs:List FV}{r:V}(S:SR w h₀ N env ω s sh.heap)(hl:LstP sh.heap l (FRs w ω.fz sh.heap xs))(e:ZU xs=some r)
  (P:PostE w h₀ N env [] ω sh s r Q):wpAny (Ag pg w) R (call (.builtin "sorted") [.ref l]) Q E sh:=ifE e λhlen e=>AV e λps hps e=>hl.casesOn λys m hl hr=>by
 have hx:=I0N hps
 have hzl:ys.toList.length<64:=FRs.length hr▸hlen
 have hz2:ys.toList.length≤16777216:=CY (H9 hzl (by decide))
 refine ZW (collect_list (vs:=ys.toList) ⟨_,hl,rfl,m,rfl⟩ ⟨hz2,?_⟩ (by rw [Co];exact hz2))
 have keep1: ∀a o,sh.heap.get? a=some o→((sh.heap.push (Cx "list" #[] 0)).update sh.heap.objs.size (Ep (· ++ys.toList.toArray))).get? a=some o:= λa o z=>((Eo _ sh.heap.objs.size _).2 a (C4 (Bz z))).trans (Dd _ z)
 have hsz1:sh.heap.objs.size≤((sh.heap.push (Cx "list" #[] 0)).update sh.heap.objs.size (Ep (· ++ys.toList.toArray))).objs.size:=by rw [OT,CI];exact CZ _
 generalize (sh.heap.push (Cx "list" #[] 0)).update sh.heap.objs.size (Ep (· ++ys.toList.toArray))=h1 at keep1 hsz1⊢
 have hp:FRs w ω.fz (h1.push (Cx "list" ys.toList.toArray 0)) xs ys.toList:=FRs.mono (λ_ q=>q) (λa _ o z=>Dd _ (keep1 a o z)) hr
 exact H0q (sh:={sh with heap:=h1.push (Cx "list" ys.toList.toArray 0)}) (BQ _ rfl) (I0O (hx▸hp)) hzl λp tk hp hi=>⟨_,rfl,ZV (sh:=sh) (vs:=ys.toList) (h1:=h1) S hsz1 keep1 (hp▸I0K hx hr p hi) (e▸P)⟩
theorem K0d: ∀{kvs:List (Str×Ab)} {vs:List Ab},vs.length=kvs.length→(∀(i:Nat) (v:Ab),vs[i]?=some v→∃k x,kvs[i]?=some (k,x)∧(strKind pg w).is k v=true)→JF vs (kvs.map (·.1)):= λ{kvs}=>by
 induction kvs with
 |nil=>exact λh _=>J1.mp h▸.nil
 |cons e kvs ih=>
  intro vs h hv
  cases vs with
  |nil=>cases h
  |cons v vs=>
   obtain ⟨k',x',q1,q2⟩:=hv 0 v rfl
   obtain ⟨t,rfl⟩:=HB q2
   cases q1
   exact .cons _ t (ih (I1 h) λi v hi=>hv (i+1) v hi)
theorem RD.names{C k:Nat}: ∀{es:List (Nm×List (Nat×FV))} {j:Nat} {kvs:List (Str×Ab)},RD w ω h C k es j kvs→kvs.map (·.1)=(es.map (·.1)).map S':= λ{es}=>by
 induction es with
 |nil=>exact λe=>e.nil (P:= λkvs=>kvs.map (·.1)=(([]:List (Nm×List (Nat×FV))).map (·.1)).map S') rfl
 |cons a r ih=>exact λe=>e.cons (P:= λkvs=>kvs.map (·.1)=S' a.1::(r.map (·.1)).map S') λy l x b=>x.casesOn λ_ e _ _ _=>e▸congrArg _ (ih b)
theorem G0U: ∀{vs:List Ab} {ns:List Nm},JF vs (ns.map S')→FRs w ω.fz h (ns.map FV.str) vs:= λ{vs ns}=>by
 induction ns generalizing vs with
 |nil=>intro e;cases e;rfl
 |cons x r ih=>
  intro e
  cases e with
  |cons y t e'=>exact .mk ⟨t,rfl⟩ (ih e')
theorem J0Q(B':Base h₀ mg mb){R:Aw}{E:Ab→Ac→Prop}{sh:Ac}{Q:Ab→Ac→Prop}{d:Nat}{kvs:List (Str×Ab)}{ns:List Nm}(hR:Rm n R)(S:SR w h₀ N env ω s sh.heap)(hsys:(d==Ec)=false)(z2:sh.heap.DictOf (strKind pg w) d kvs)(z3:kvs.map (·.1)=ns.map S')(hlen:kvs.length<64)
  (P:PostE w h₀ N env [] ω sh s (.f (.lst ((EY ns).map FV.str))) Q):wpAny (Ag pg w) R (call (.builtin "sorted") [.ref d]) Q E sh:=by
 have hlt:kvs.length≤16777216:=CY (H9 hlen (by decide))
 obtain ⟨ep,hd⟩:=z2.dictAt
 refine ZW (EF (kdu_collect (kdl_dict (knd:=strKind pg w) hsys) hR.1 hd (by rw [Co];exact hlt) λh1 tk1 acc keep1 hacc hh1=>?_))
 have hal:acc.toList.length=kvs.length:=hacc.1
 refine ⟨hal▸hlt,?_⟩
 have hS:JF acc.toList (kvs.map (·.1)):=K0d hal λi v hi=>hacc.2 i v (by rw [←I0];exact hi)
 refine list_sort_treeK (s:={sh with heap:=h1.push (Cx "list" acc.toList.toArray 0),toks:=tk1}) strKind_oneLt (BQ _ rfl) hS.keysOf (λv₁ v₂ rest e=>keyKind_strs (e▸hS)) (hal▸hlen) λst' a1 a2=>⟨_,rfl,?_⟩
 obtain ⟨ss',b1,b2,b3⟩:=sorted_out_str hS a1 a2
 rw [z3] at b2
 obtain rfl:=K0o b2 b3
 exact ZV (sh:=sh) S hh1 keep1 (G0U b1) P
theorem NQ(B':Base h₀ mg mb):Op1 w h₀ n (λx=>call (.builtin "sorted") [x]) Hu:=by
 intro R N env ω s a r sh x Q E hR S e va P
 refine Ax e λo hv e=>?_
 cases o with
 |list xs=>exact SR.view (P:= λx=>wpAny _ _ (call _ [x]) Q E sh) S hv va λd l=>J0R S l e P
 |ddict C es=>exact ifE e λhlen e=>S.viewX B' (P:= λx=>wpAny _ _ (call _ [x]) Q E sh) hv rfl va λd hd l=>DdP.casesOn l λkvs ep z2 _ _ z3=>J0Q B' hR S hd z2 z3.names (RelI.len z3▸hlen) (An e▸P)
 |_=>exact noS e
end
theorem F0d{α:Type}{a:Nm}{v:α}: ∀{es:List (Nm×α)} {i:Nat},(es.map (·.1)).Nodup→es[i]?=some (a,v)→Ay es a=some v:= λ{es}=>by
 induction es with
 |nil=>exact λ_ h=>Mine.noS h
 |cons p r ih=>
  intro i hn h
  have hn:=CQ.mp hn
  cases i with
  |zero=>cases h;exact if_pos rfl
  |succ i=>exact (if_neg λ(q:p.1=a)=>hn.1 ((q▸GP (f:=(·.1)) (As (l:=r) h):p.1∈r.map (·.1)))).trans (ih hn.2 h)
section
variable{w:A5}{h₀:Heap}{N M:Names}{env env':Env}{ω ω':Wd}{h h':Heap}{s s1 s2:St}{n np:Nat}{A B C:List Nat}{mg mb:Str→Option Ab}{K:Frag}
theorem B0V: ∀{es:List (Nm×FV)} {kvs:List (Str×Ab)},FRd w ω.fz h es kvs→kvs.map (·.1)=(es.map (·.1)).map S':= λ{es}=>by
 induction es with
 |nil=>exact λe=>e.nil (P:= λkvs=>kvs.map (·.1)=(([]:List (Nm×FV)).map (·.1)).map S') rfl
 |cons a r ih=>exact λe=>e.cons (P:= λkvs=>kvs.map (·.1)=S' a.1::(r.map (·.1)).map S') λy l x b=>x.casesOn λ_ e _=>Au e▸congrArg _ (ih b)
section
variable{x d y:Str}{p1 p2 p3 p4 p5 p6 p7 p8 pos:Pos}{scope:Cn}{k:Nat}{i0:Int}{es:List (Nm×FV)}{kvs:List (Str×Ab)}{ep i:Nat}{c I D:Addr}{R:Aw}{sh:Ac}{nm:Option V}{E:Ab→Ac→Prop}{again:Ac→Prop}{tk:Nat}{h₁:Heap}{ω₁:Wd}{ys:List FV}{RR:BR→Ac→Prop}
noncomputable def kS(nm:Option V)(k:Nat)(i:Int)(s:St):St:=⟨[nm,some (.c k),some (.f (.int i))],s.l,s.g⟩
def KSt(w:A5)(I c:Addr)(kvs:List (Str×Ab))(ep:Nat)(i:Nat)(h:Heap):Prop:=h.IsKeyIter I c i kvs.length ep∧h.DictAt (strKind pg w) c kvs ep
abbrev ET(x:Str):Prop:=(x==("__debug__":Str))=false∧(x==("__classdict__":Str))=false
theorem G0Y(hR:Rm n R)(hcI:c≠I)(ht: ∀it v,I8 (.Name x p2) it v=pure ())(z3:FRd w ω.fz h es kvs):Wk0 w R (.Name x p2) I [I] [c] (es.map λe=>.str e.1) (λ_ _=>True) (KSt w I c kvs ep):=
 .of_walks (M0N (knd:=strKind pg w) hR.1 I c hcI kvs ep) (λb hb=>(AW.mp hb).elim (λq=>.inl (q▸.head _)) .inr) (by rw [AD,FRd.length z3]) (λ_ _ _ _ _ _ _=>trivial)
  (λfz h i x v _ hx hp=>by
   obtain ⟨en,hx1,rfl⟩:=Ub.mp (CH ..▸hx)
   obtain ⟨k,z,p1,p2⟩:=hp
   refine RelL.get z3 hx1 λy y1 y2=>y2.casesOn λu e _=>?_
   rw [y1,e] at p1
   cases p1
   obtain ⟨t,rfl⟩:=HB p2
   exact ⟨t,rfl⟩)
  λ_ _ _ _ _ _ q=>CG (ht _ _) q
theorem G0W{j:Int}{a:Nm}(hM:M.ns=[x,d,y])(dx:ET x)(dd:ET d)(dy:ET y)(hs: ∀o j,IB (.Name x p5) false o j=I9 [o,j] (HE o j))(hm:L5 .Eq (.Name y p7)=false)
  (S:SR w h₀ M env ω (kS (some (.f (.str a))) k i0 s) sh.heap) (hc:ω.c k=some c) (hd:sh.heap.DictAt (strKind pg w) c kvs ep) (z3:FRd w ω.fz sh.heap es kvs) (hg:Ay es a=some (.int j)) {Q:Bool→Ac→Prop} (q: ∀tk,Q (decide (j=i0)) {sh with toks:=tk}):
  wpAny (Ag pg w) R (Rx env [.Compare (.Subscript (.Name d p4) (.Name x p5) p6) [.Eq] [.Name y p7] p8]) Q E sh:=by
 have h0:M.ns[0]?=some x:=by rw [hM];rfl
 have h1:M.ns[1]?=some d:=by rw [hM];rfl
 have h2:M.ns[2]?=some y:=by rw [hM];rfl
 refine N0x (N0m (Ud (IC (Hs S h1 rfl dd.2 λw1 vw1=>IC (Hs S h0 rfl dx.2 λw2 vw2=>?_) dx.1) dd.1)) hm)
 obtain ⟨c2,w1e,rfl⟩:=vw1
 obtain rfl:c=c2:=An (hc.symm.trans w1e)
 obtain ⟨tw,rfl⟩:=vw2.toStr
 refine (FRd.at z3).some hg λyv g1 g2=>?_
 obtain ⟨tj,rfl⟩:=g2
 exact A0U (T:= "dict") hd.dictOf.typeIs Uk.lookup (B0L (Fq pg w _ _) hd.dictOf.mapOf g1 (IC (Hs (sh:={sh with toks:=sh.toks+1}) S h2 rfl dy.2 λw3 vw3=>by
  obtain ⟨t3,rfl⟩:=vw3.toInt
  exact WW (JP (q _))) dy.1)) (hs _ _)
theorem G0S{s:Mine.St}{a:Nm}(hM:M.ns=[x,d,y])(hl:env.kindOf x=some .local)(hcC:c≠env.locals):Asg w h₀ M env R (λa=>a=env.locals) (λ_ _=>True) [c] (.Name x p2) (.str a) (kS nm k i0 s) (kS (some (.f (.str a))) k i0 s):=λ_ _ _ _ _ S _ hy q=>assign_Name (Oi (k:=0) (v:=.f (.str a)) S (by rw [hM];rfl) hl hy λh' tk S' hs _=>q h' tk S' (S8 S hs) λb hb o e=>(hs.2 b λz=>hcC (Bx.mp hb▸z)).trans e)
inductive KeyI(w:A5)(h₀:Heap)(M:Names)(env:Env)(k:Nat)(i0:Int)(I D c:Addr)(kvs:List (Str×Ab))(ep:Nat)(es:List (Nm×FV))(ys:List FV)(ω:Wd)(s:Mine.St)(sh:Ac)(m:Nat):Ac→Prop
 |mk {i:Nat} {ω₁:Wd} {nm:Option V} {done:List FV} {h₁:Heap} {tk:Nat}:i+m=es.length→SR w h₀ M env ω₁ (kS nm k i0 s) h₁→LI h₀ env [] (λa=>a=env.locals∨a∈[D,I]) [D,I] (λ_ _=>True) (KSt w I c kvs ep) ω sh.heap i ω₁ h₁→ω₁.c=ω.c→LAcc w D i ω₁.fz h₁ done→(∃rest,N7 i0 (es.drop i)=some rest∧ys=done++rest)→KeyI w h₀ M env k i0 I D c kvs ep es ys ω s sh m {sh with heap:=h₁,toks:=tk}
theorem G0X{s:Mine.St}{j:Int}{a:Nm}{done:List FV}(hM:M.ns=[x,d,y])(dx:ET x)(dd:ET d)(dy:ET y)(hs: ∀o j,IB (.Name x p5) false o j=I9 [o,j] (HE o j))(hm:L5 .Eq (.Name y p7)=false)(hl:env.kindOf x=some .local)(hcC:c≠env.locals)(hcD:c≠D)(hDI:D≠I)
  (W:Wk0 w R (.Name x p2) I [I] [c] (es.map λe=>.str e.1) (λ_ _=>True) (KSt w I c kvs ep)) (S:SR w h₀ M env ω₁ (kS nm k i0 s) h₁) (J:LI h₀ env [] (λa=>a=env.locals∨a∈[D,I]) [D,I] (λ_ _=>True) (KSt w I c kvs ep) ω sh.heap i ω₁ h₁) (hc:ω₁.c k=some c) (z3:FRd w ω₁.fz h₁ es kvs) (hg:Ay es a=some (.int j)) (hx:es[i]?=some (a,.int j)) (hi:i<16777216) (ac:LAcc w D i ω₁.fz h₁ done)
  (q: ∀ω₂ h₂ tk nm,SR w h₀ M env ω₂ (kS nm k i0 s) h₂→LI h₀ env [] (λa=>a=env.locals∨a∈[D,I]) [D,I] (λ_ _=>True) (KSt w I c kvs ep) ω sh.heap (i+1) ω₂ h₂→ω₂.c=ω₁.c→LAcc w D (i+1) ω₂.fz h₂ (if j=i0 then done++[.str a] else done)→again {sh with heap:=h₂,toks:=tk}) {en:Ac→Prop}:
  Ed w R (.Name x p2) (.ref I) env E en (HI w R env [.Compare (.Subscript (.Name d p4) (.Name x p5) p6) [.Eq] [.Name y p7] p8] E (λK=>wpAny (Ag pg w) R (eval (.Name x p1) env) (λv=>wpAny (Ag pg w) R (call (.builtin "list.append") [.ref D,v]) (λ_=>K) E) E) again) {sh with heap:=h₁,toks:=tk}:=
 J.turn W S (x:=.str a) (by rw [CH,hx];rfl) (G0S hM hl hcC) (λ_ q=>⟨.inl q,.inl q⟩) (λa q=>⟨.tail _ q,.inr (.tail _ q)⟩) λω2 h2 tk2 S2 J2 st hcc=>by
  have gD:=J2.g D (.head _)
  have mono:FRd w ω2.fz h2 es kvs:=FRd.mono st.fz st.fzk z3
  have ac2:LAcc w D i ω2.fz h2 done:=⟨ac.len,ac.at_.elim λzs q=>q.elim λm q=>⟨zs,m,st.keep D (J.g D (.head _)).1 (λz=>z.elim (λz=>gD.2.2.2.2 (.inl z)) λz=>hDI (Bx.mp z)) _ q.1,FRs.mono st.fz st.fzk q.2⟩⟩
  refine G0W (sh:={sh with heap:=h2,toks:=tk2}) hM dx dd dy hs hm S2 (hcc▸hc) J2.cur.2 mono hg λtk3=>?_
  by_cases hj:j=i0
  ·rw [decide_eq_true hj]
   rw [if_pos hj] at q
   refine IC (Hs (sh:={sh with heap:=h2,toks:=tk3}) S2 (k:=0) (by rw [hM];rfl) rfl dx.2 λw4 vw4=>?_) dx.1
   exact LAcc.push (A:=[]) (sh:={sh with heap:=h2,toks:=tk3}) (Q:= λ_=>again) S2 StepE.refl (λb q=>J2.g b (Bx.mp q▸.head _)) ac2 hi vw4 λω3 h3 tk4 S3 st3 ac3 kp hc3=>q ω3 h3 tk4 _ S3 (J2.step W st3.toStep (λ_ q=>q) (λ_ e=>.inr (e▸.head _)) (λb q=>⟨.tail _ q,λz=>hDI (z.symm.trans (Bx.mp q))⟩) λb hb=>kp b λz=>hcD (Bx.mp hb▸z)) (hc3.trans hcc) ac3
  ·rw [decide_eq_false hj]
   rw [if_neg hj] at q
   exact q ω2 h2 tk3 _ S2 J2 hcc ⟨Gm ac2.len,ac2.at_⟩
theorem G0T{s:Mine.St}(hM:M.ns=[x,d,y])(dx:ET x)(dd:ET d)(dy:ET y)(hs: ∀o j,IB (.Name x p5) false o j=I9 [o,j] (HE o j))(hm:L5 .Eq (.Name y p7)=false)(hl:env.kindOf x=some .local)(hcC:c≠env.locals)(hcD:c≠D)(hDI:D≠I)
  (W:Wk0 w R (.Name x p2) I [I] [c] (es.map λe=>.str e.1) (λ_ _=>True) (KSt w I c kvs ep)) (S:SR w h₀ M env ω (kS nm k i0 s) sh.heap) (g:Ghs h₀ env ω sh.heap [D,I]) (hst:KSt w I c kvs ep 0 sh.heap) (hc:ω.c k=some c) (z3:FRd w ω.fz sh.heap es kvs) (hen:(es.map (·.1)).Nodup) (hlen:es.length≤16777216)
  (ha:sh.heap.get? D=some (C5 #[] 0)) (e:N7 i0 es=some ys) (q: ∀ω' h' tk nm,SR w h₀ M env ω' (kS nm k i0 s) h'→StepW [] (λa=>a=env.locals∨a∈[D,I]) ω sh.heap ω' h'→Ghs h₀ env ω' h' [D,I]→(∃zs m,h'.get? D=some (C5 zs m)∧FRs w ω'.fz h' ys zs.toList)→RR (.ok .next) {sh with heap:=h',toks:=tk}):
  Dw (Ag pg w) R (.compLoop (.ListComp (.Name x p1) [⟨.Name x p2,.Name d p3,[.Compare (.Subscript (.Name d p4) (.Name x p5) p6) [.Eq] [.Name y p7] p8],0⟩] scope pos) 0 (.ref I) (.ref D) env) RR sh:=by
 refine WT (KeyI w h₀ M env k i0 I D c kvs ep es ys ω s sh) (λm s₁ J=>?_) es.length (.mk (Cc _) (done:=[]) S (.start g trivial hst) rfl ⟨A9 _,#[],0,ha,rfl⟩ ⟨ys,e,rfl⟩)
 obtain @⟨i,ω₁,nm,done,h₁,tk,hi,S₁,J,hcc,ac,e⟩:=J
 have hw: ∀a∈[I],a∈[D,I]∧(a=env.locals∨a∈[D,I]):= λa q=>⟨.tail _ q,.inr (.tail _ q)⟩
 cases m with
 |zero=>
  have hi:i=es.length:=(TX _).symm.trans hi
  obtain ⟨rest,e,hy⟩:=e
  rw [A07 (DC hi.symm)] at e
  have hy:ys=done:=hy.trans (An e▸CX _)
  exact LI.done W (by rw [AD,←hi];exact J) S₁ hw λω₂ h₂ tk S2 st g2 p hc2=>q ω₂ h₂ tk _ S2 ⟨st,λk a e=>by rw [hc2,hcc];exact e⟩ g2 (hy▸ac.at_.elim λzs q=>q.elim λm q=>⟨zs,m,p.keep D (J.g D (.head _)).1 (λz=>hDI (Bx.mp z)) _ q.1,FRs.mono p.fz p.fzk q.2⟩)
 |succ m=>
  obtain ⟨p,hx,hd⟩:=RV hi
  obtain ⟨a,v⟩:=p
  obtain ⟨rest,e,hy⟩:=e
  rw [hd] at e
  exact IF e λj hj e=>Ax e λys' h1 e2=>by
   subst hj
   have hye:ys=(if j=i0 then done++[.str a] else done)++ys':=by
    rw [hy,←An e2]
    by_cases hj:j=i0
    ·rw [if_pos hj,if_pos hj,CO];rfl
    ·rw [if_neg hj,if_neg hj]
   exact G0X hM dx dd dy hs hm hl hcC hcD hDI W S₁ J (hcc▸hc) (FRd.mono J.st.fz J.st.fzk z3) (F0d hen hx) hx (Bc (by rw [←hi];exact H8 (FH m)) hlen) ac λω₂ h₂ tk nm S2 J2 hc2 ac2=>⟨m,C8 _,.mk (by rw [←hi,TS,J8 1]) S2 J2 (hc2.trans hcc) ac2 ⟨ys',h1,hye⟩⟩
theorem J0T{p q:Nat}(B':Base h₀ mg mb)(Bk:Blk N M scope [(1,p),(2,q)])(hM:M.ns=[x,d,y])(hd:N.ns[p]?=some d)(_hy:N.ns[q]?=some y)(hxl:scope.names.lookup x=some .local)(dx:ET x)(dd:ET d)(dy:ET y)
  (hs: ∀o j,IB (.Name x p5) false o j=I9 [o,j] (HE o j)) (hm:L5 .Eq (.Name y p7)=false) (hfs: ∀env v,FL (.Name d p3) env v=pure v) (ht: ∀it v,I8 (.Name x p2) it v=pure ()):
  Sound w h₀ n [] N (.ListComp (.Name x p1) [⟨.Name x p2,.Name d p3,[.Compare (.Subscript (.Name d p4) (.Name x p5) p6) [.Eq] [.Name y p7] p8],0⟩] scope pos) (Mine.UE p q):=by
 intro R env ω s s' v sh Q E hR S e P
 refine Ax e λu hp e=>V.onCE e λk hk e=>Ax e λv' hq e=>V.onFE e λz hz e=>IF e λi0 hi0 e=>Ax e λo hc e=>HO e λes ho e=>ifE e λhlen e=>Ax e λys hys e=>?_
 have e:=Dk e
 obtain ⟨cl,hcl,c1,c2⟩:=MW Bk S.fr.ok
 obtain ⟨c,z0,z1,_,kvs,z2,z3⟩:=S.l k _ (hc.trans (congrArg some ho))
 obtain ⟨ep,hdat⟩:=z2.dictAt
 have hen:(es.map (·.1)).Nodup:=(OH.mp (B0V z3▸KO z2)).imp λh q=>h (congrArg S' q)
 have hclt:c<sh.heap.objs.size:=(S.low c (by rw [z1];exact nofun)).2
 rw [M0Y]
 refine B0I (use:=CE) rfl (hfs env) hcl Bk.kind Bk.first (IC (Hs S hd hp dd.2 λy0 vy0=>?_) dd.1)
 rw [hk] at vy0
 obtain ⟨c',y1,rfl⟩:=vy0
 obtain rfl:c=c':=An (z0.symm.trans y1)
 refine N0r (F2 B' S z1) hdat ?_
 have G:=DT (ω:=ω) (h:=sh.heap) {cls:=.type "dict_keyiterator",data:=.fields #[.ref c,.int 0 0,.int kvs.length 0,.int ep 0]}
 have S1:=S.grow G
 have g:Ghs h₀ env ω _ [sh.heap.objs.size]:=Kv (b:=0) (o:={cls:=.type "dict_keyiterator",data:=.fields #[.ref c,.int 0 0,.int kvs.length 0,.int ep 0]}) S S.fwlt
 have hs1:(sh.heap.push {cls:=.type "dict_keyiterator",data:=.fields #[.ref c,.int 0 0,.int kvs.length 0,.int ep 0]}).objs.size=sh.heap.objs.size+1:=CI ..
 have hst:KSt w sh.heap.objs.size c kvs ep 0 (sh.heap.push {cls:=.type "dict_keyiterator",data:=.fields #[.ref c,.int 0 0,.int kvs.length 0,.int ep 0]}):=⟨⟨_,BQ _ rfl,rfl,rfl⟩,hdat.at' λo e=>G.keep _ _ e⟩
 have W:=G0Y (x:=x) (p2:=p2) (ep:=ep) (I:=sh.heap.objs.size) hR (C4 hclt) ht z3
 generalize sh.heap.push {cls:=.type "dict_keyiterator",data:=.fields #[.ref c,.int 0 0,.int kvs.length 0,.int ep 0]}=h1 at*
 have n2:c≠h1.objs.size:=by rw [hs1];exact C4 (FG hclt)
 have n1:c≠h1.objs.size+1:=by rw [hs1];exact C4 (FG (FG hclt))
 have n3:h1.objs.size≠sh.heap.objs.size:=by rw [hs1];exact TZ _
 have hbm:({s with m:=F0 3 [(1,p),(2,q)] s.m}:Mine.St)=kS CE k i0 s:=by
  have hp:s.m[p]?.join=some (.c k):=hp.trans (congrArg some hk)
  have hq:s.m[q]?.join=some (.f (.int i0)):=hq.trans (congrArg some (hz.trans (congrArg V.f hi0)))
  unfold kS F0
  simp only [H5,List.foldl_nil,hp,hq]
  rfl
 refine Nc (T:= "list") (data:=.seq #[]) (sh:=sh) (tk:=sh.toks) (Q:= λacc cenv s=>Dw (Ag pg w) R (.compStart _ 0 (.ref sh.heap.objs.size) acc cenv) (I5 (Ag pg w) R E CE Q acc cenv.locals) s) rfl (C9 _) rfl Bk S1 g c1 c2 (nl:=3) (by rw [hM];rfl) W trivial hst λh2 tk2 hsz keep hD Sb g2 hDw _ hst2=>?_
 rw [hbm] at Sb
 have loop:Dw (Ag pg w) R (.compLoop (.ListComp (.Name x p1) [⟨.Name x p2,.Name d p3,[.Compare (.Subscript (.Name d p4) (.Name x p5) p6) [.Eq] [.Name y p7] p8],0⟩] scope pos) 0 (.ref sh.heap.objs.size) (.ref h1.objs.size) (GX scope cl (h1.objs.size+1) env)) (I5 (Ag pg w) R E CE Q (.ref h1.objs.size) (h1.objs.size+1)) {sh with heap:=h2,toks:=tk2}:=
  G0T (sh:={sh with heap:=h2,toks:=tk2}) (s:=s) (nm:=CE) hM dx dd dy hs hm (LD hxl) n1 n2 n3 W Sb g2 hst2 z0 (FRd.mono (λ_ q=>q) (λa z o e=>keep a o (G.keep a o e)) z3) hen hlen hD hys λω3 h3 tk3 nm S3 st3 g3 hd3=>by
   obtain ⟨mm3,n3,_⟩:=S3.fr.ns
   obtain ⟨zs,m,ha3,hd3⟩:=hd3
   have co:=Nd (A:=[]) (C:=[]) S1 G.step g (λa z=>Bx.mp z▸A9 _) rfl hsz keep S3 st3 g3 (λv _=>BO v) (λ_ z=>nomatch z) (λ_ z=>nomatch z)
   exact ⟨mm3,n3,λh' hs'=>P _ _ tk3 _ (e.2▸(co.2 h' hs').1) (co.2 h' hs').2 (e.1▸SA (S3.fr.off _ (.inl rfl)).2.1 hs' ha3 (C4 (C8 _)) hd3)⟩
 exact M0U loop (W.self 0 _ _ _ hst2 loop)
end
end
section
variable{w:A5}{h₀:Heap}{N:Names}{env:Env}{ω ω':Wd}{h h':Heap}{s s1 s2:St}{n np:Nat}{A B C:List Nat}{mg mb:Str→Option Ab}{K:Frag}
theorem RD.kv{C k j i:Nat}{es:List (Nm×List (Nat×FV))}{kvs:List (Str×Ab)}{e:Nm×List (Nat×FV)}{P:Prop}(rd:RD w ω h C k es j kvs)(q:es[i]?=some e)(p: ∀b,kvs[i]?=some (S' e.1,.ref b)→ω.d k (j+i)=some b→P):P:=RelI.get rd q λy y1 y2=>y2.casesOn λb e d _ _=>p b (e▸y1) d
theorem D0u{W:Addr→Prop}(st:Step [] W ω h ω h'){v:V}{y:Ab}(e:VR w ω h v y):VR w ω h' v y:=by
 cases v with
 |f x=>exact FR.mono st.fz st.fzk e
 |_=>exact e
theorem D0E{elts:List Ak}{kd:Nat}{tp:Pos}{a b:Nat}{ns:List Str}{ps:Str→Pos}{u v:V}{x y:Ab}{t:Addr}{s0 s':St}{R:Aw}{sh:Ac}{Q:Unit→Ac→Prop}{E:Ab→Ac→Prop}(T:TgtT N elts [a,b] ns ps)(hR:Rm n R)(S:SR w h₀ N env ω s sh.heap)
  (ht:sh.heap.IsTuple t #[x,y]) (hu:VR w ω sh.heap u x) (hv:VR w ω sh.heap v y) (e0:E1 s a u=some s0) (e1:E1 s0 b v=some s')
  (q: ∀h' tk,SR w h₀ N env ω s' h'→Step [] (FW env) ω sh.heap ω h'→Q () {sh with heap:=h',toks:=tk}):wpAny (Ag pg w) R (De (.Tuple elts kd tp) env (.ref t)) Q E sh:=by
 rw [Ue]
 unfold U4
 rw [T.star,T.each,T.len]
 obtain rfl:=FD e0
 obtain rfl:=FD e1
 obtain ⟨x0,z1,z2⟩:=T.at_ 0 a rfl
 obtain ⟨x1,z3,z4⟩:=T.at_ 1 b rfl
 have hn:ns=[x0,x1]:=TG λi=>by
  match i with
  |0=>exact z1
  |1=>exact z3
  |i+2=>exact (GN (A8 (DC T.nlen) (OL 2 i))).trans rfl
 subst hn
 refine Aq (Gw (Aq (Cp (Ov hR S ht rfl λh' tk S1 G=>?_))))
 show wpAny _ _ (Ea [y] (De (.Name x0 (ps x0)) env x)>>= λ_=>(Ea [] (De (.Name x1 (ps x1)) env y)>>= λ_=>pure ())) _ _ _
 refine Aq (Cp (assign_Name (GK (sh:={sh with heap:=h',toks:=tk}) S1 z2 (hu.grow G) λh2 tk2 S2 st2 _=>?_)))
 refine Aq (Cp (assign_Name (GK (sh:={sh with heap:=h2,toks:=tk2}) S2 z4 (D0u st2 (hv.grow G)) λh3 tk3 S3 st3 _=>?_)))
 exact AJ (q h3 tk3 S3 (((B5 G.step).trans st2 (C:=[]) (λ_ q=>q) (λ_ q=>q)).trans st3 (λ_ q=>q) (λ_ q=>q)))
inductive ForDI(w:A5)(h₀:Heap)(N:Names)(env:Env)(it d:Addr)(L ep:Nat)(ω:Wd)(sh:Ac)(Run:Nat→Nat→Mine.St→Prop)(m:Nat):Ac→Prop
 |mk {i:Nat} {ω₁:Wd} {σ:Mine.St} {h₁:Heap} {tk:Nat} {ok ov:Ab}:i+m=L→SR w h₀ N env ω₁ σ h₁→Step [] (λa=>FW env a∨a∈[it]) ω sh.heap ω₁ h₁→Ghs h₀ env ω₁ h₁ [it]→Lz h₁ it d i L ep ok ov→Run m i σ→ForDI w h₀ N env it d L ep ω sh Run m {sh with heap:=h₁,toks:=tk}
variable{elts:List Ak}{kd:Nat}{tp:Pos}{a b k:Nat}{ns:List Str}{ps:Str→Pos}{body:List Bm}{bd:Sv}{it d:Addr}{L ep i m tk:Nat}{R:Aw}{sh:Ac}{RR:BR→Ac→Prop}{s' σ:Mine.St}{fl:Fl}{ω₁:Wd}{h₁:Heap}{ok ov:Ab}{E:Ab→Ac→Prop}{again en rest:Ac→Prop}
theorem SR.dd{C:Nat}{es:List (Nm×List (Nat×FV))}{P:Prop}(S:SR w h₀ N env ω s h)(hd:ω.g k=some d)(hep:ω.d k EPI=some ep)(hc:BI s k=some (.ddict C es))(q: ∀kvs,RD w ω h C k es 0 kvs→h.DictAt (strKind pg w) d kvs ep→P):P:=by
 obtain ⟨d',z0,_,_,kvs,ep',z2,z4,z5,z3⟩:=S.g k _ hc
 obtain rfl:d=d':=An (hd.symm.trans z0)
 obtain rfl:ep=ep':=An (hep.symm.trans z4)
 exact q kvs z3 z5
theorem F0C(hR:Rm n R)(S:SR w h₀ N env ω s sh.heap)(st:Step [] (λa=>FW env a∨a∈[it]) ω₁ h₁ ω sh.heap)(g:Ghs h₀ env ω sh.heap [it])(hd:ω.g k=some d)(hep:ω.d k EPI=some ep)(hit:Lz sh.heap it d L L ep ok ov)(hl:Ji k s=some L)
  (q: ∀ω' h' tk,SR w h₀ N env ω' s h'→Step [] (λa=>FW env a∨a∈[it]) ω₁ h₁ ω' h'→en {sh with heap:=h',toks:=tk}):
  Ed w R (.Tuple elts kd tp) (.ref it) env E en rest sh:=
 Ax hl λo hc hl=>M9 hl λC es ho hl=>S.dd hd hep (hc.trans (congrArg some ho)) λkvs z3 z5=>by
  have hlen:=(RelI.len z3).symm.trans (An hl)
  refine EF (N0u hR.1 (hlen▸hit) z5 (GN (A9 _)) λh' he hsz=>?_)
  obtain ⟨S2,p⟩:=S.ghosts (new:= λ_=>False) g hsz (λb o hb e=>he b o (λq=>hb (q▸.head _)) e) (λ_ z=>z.elim)
  exact q _ h' sh.toks S2 (st.trans (p.weak (C:=[]) (λ_ q=>q) λ_ q=>.inr q) (λ_ q=>q) (λ_ q=>q))
theorem F0E{C:Nat}{es:List (Nm×List (Nat×FV))}{en:Nm×List (Nat×FV)}{s0:Mine.St}(T:TgtT N elts [a,b] ns ps)(hR:Rm n R)(S:SR w h₀ N env ω s sh.heap)(st:Step [] (λa=>FW env a∨a∈[it]) ω₁ h₁ ω sh.heap)(g:Ghs h₀ env ω sh.heap [it])(hd:ω.g k=some d)(hep:ω.d k EPI=some ep)(hit:Lz sh.heap it d i es.length ep ok ov)
  (hc:BI s k=some (.ddict C es)) (hen:es[i]?=some en) (e0:E1 s a (.f (.str en.1))=some s0) (e1:E1 s0 b (.d k i)=some s1) {nx:Ac→Prop}
  (q: ∀ω' h' tk ok ov,SR w h₀ N env ω' s1 h'→Step [] (λa=>FW env a∨a∈[it]) ω₁ h₁ ω' h'→Ghs h₀ env ω' h' [it]→Lz h' it d (i+1) es.length ep ok ov→rest {sh with heap:=h',toks:=tk}):
  Ed w R (.Tuple elts kd tp) (.ref it) env E nx rest sh:=S.dd hd hep hc λkvs z3 z5=>by
 refine RD.kv z3 hen λb0 y1 y2=>?_
 rw [Cc] at y2
 have gi:=g it (.head _)
 rw [RelI.len z3] at hit q
 refine N0v hit z5 y1 λkey h2 hk hout hT hsz keep=>N0n (s:={sh with heap:=h2}) hout λh3 hi3 hsb=>?_
 have k3: ∀b o,b∉[it]→sh.heap.get? b=some o→h3.get? b=some o:= λb o hb e=>
  have hb:b≠it:= λq=>hb (q▸.head _)
  (hsb.2 b hb).trans (keep b o hb e)
 obtain ⟨S2,p⟩:=S.ghosts (new:= λ_=>False) g (by rw [hsb.1];show _≤h2.objs.size;rw [hsz];exact CZ _) k3 (λ_ z=>z.elim)
 have g2:=g.step p
 obtain ⟨t,rfl⟩:=HB hk
 refine D0E (sh:={sh with heap:=h3}) (u:=.f (.str en.1)) (v:=.d k i) T hR S2 ⟨_,(hsb.2 _ λz=>absurd gi.2.2.2.1 (by rw [z];exact Bu _)).trans hT,rfl,0,rfl⟩ ⟨t,rfl⟩ ⟨b0,y2,rfl⟩ e0 e1 λh4 tk4 S4 st4=>?_
 have gi2:=g2 it (.head _)
 exact q _ h4 tk4 _ _ S4 ((st.trans (p.weak (C:=[]) (λ_ q=>q) λ_ q=>.inr q) (C:=[]) (λ_ q=>q) (λ_ q=>q)).trans (st4.weak (C:=[]) (λ_ q=>q) λ_ q=>.inl q) (C:=[]) (λ_ q=>q) (λ_ q=>q)) (g2.step st4) (st4.keep it gi2.1 gi2.2.2.2.2 _ hi3)
theorem F0D(T:TgtT N elts [a,b] ns ps)(hb:SoundB w h₀ n [] N body bd)(hR:Rm n R)
  (S:SR w h₀ N env ω s sh.heap) (g:Ghs h₀ env ω sh.heap [it]) (hit:Lz sh.heap it d 0 L ep ok ov) (hd:ω.g k=some d) (hep:ω.d k EPI=some ep) (e:Mine.F0B k a b bd L 0 s=some (fl,s')) (hl:Ji k s'=some L)
  (q: ∀ω' h' tk flow,SR w h₀ N env ω' s' h'→Step [] (λa=>FW env a∨a∈[it]) ω sh.heap ω' h'→FlR w ω' h' fl flow→RR (.ok flow) {sh with heap:=h',toks:=tk}):
  Dw (Ag pg w) R (.forLoop (.Tuple elts kd tp) (.ref it) body [] env) RR sh:=by
 let X (Q:Flow→Ac→Prop):=wpAny (Ag pg w) R (HD body env) Q (Ph (Ag pg w) R env λe s'=>RR (.error e) s')
 have turn: ∀m s₁,ForDI w h₀ N env it d L ep ω sh (λm i σ=>Mine.F0B k a b bd m i σ=some (fl,s')) m s₁→Ed w R (.Tuple elts kd tp) (.ref it) env (Ph (Ag pg w) R env λe s'=>RR (.error e) s') (RR (.ok .next)) (X (Ha RR λs=> ∃m',m'<m∧ForDI w h₀ N env it d L ep ω sh (λm i σ=>Mine.F0B k a b bd m i σ=some (fl,s')) m' s)) s₁:= λm s₁ J=>by
  obtain @⟨i,ω₁,σ,h₁,tk,ok,ov,hi,S₁,st₁,g₁,hit₁,e₁⟩:=J
  have hd₁:=st₁.g k (λz=>nomatch z) d hd
  have hep₁:=st₁.d k (λz=>nomatch z) EPI ep hep
  cases m with
  |zero=>
   have e₁:Fl.nx=fl∧σ=s':=Dk e₁
   have hi:i=L:=(TX _).symm.trans hi
   exact F0C (L:=L) (sh:={sh with heap:=h₁,toks:=tk}) hR S₁ st₁ g₁ hd₁ hep₁ (hi▸hit₁) (e₁.2▸hl) λω' h' tk' S' st'=>q ω' h' tk' .next (e₁.2▸S') st' (e₁.1▸.nx)
  |succ m=>
   exact Ax e₁ λo hc e₁=>M9 e₁ λC es ho e₁=>ifE e₁ λhlen e₁=>Ax e₁ λen hen e₁=>Ax e₁ λs0 hs0 e₁=>Ax e₁ λs1 hs1 e₁=>Ax e₁ λp hbody e₁=>
    have hL:es.length=L:=hlen.trans hi
    F0E (sh:={sh with heap:=h₁,toks:=tk}) T hR S₁ st₁ g₁ hd₁ hep₁ (hL▸hit₁) (hc.trans (congrArg some ho)) hen hs0 hs1 λω4 h4 tk4 ok4 ov4 S4 st4 g4 it4=>
     hb R env ω4 s1 p.2 p.1 {sh with heap:=h4,toks:=tk4} _ _ hR S4 hbody λω5 h5 tk5 flow S5 st5 hfl=>
      have st5':=st4.trans (st5.weak (W':= λa=>FW env a∨a∈[it]) (λ_ q=>q) λ_ q=>.inl q) (C:=[]) (λ_ q=>q) (λ_ q=>q)
      HV e₁ (λr e₁=>have e₁:=Dk e₁;UQ (P:= λf=>Ha RR _ f _) hfl r λ_ hfl=>q ω5 h5 tk5 _ (e₁.2▸S5) st5' (e₁.1▸hfl))
       λr e₁=>
        have gi:=g4 it (.head _)
        have fin: ∃m',m'<m+1∧ForDI w h₀ N env it d L ep ω sh (λm i σ=>Mine.F0B k a b bd m i σ=some (fl,s')) m' {sh with heap:=h5,toks:=tk5}:=⟨m,C8 _,.mk (by rw [←hi,TS,J8 1]) S5 st5' (g4.step st5) (hL▸st5.keep it gi.1 gi.2.2.2.2 _ it4) e₁⟩
        UP (P:= λf=>Ha RR _ f _) hfl r fin fin
 exact B0x _ (λm s J=>Bo (turn m s J) (λr s z=>by
  cases r with
  |none=>exact LP z
  |some v=>exact Bo z (λ_ _ z=>Bo z (λ_ _ z=>Bo z (λf _ z=>by cases f<;>exact z) λ_ _ z=>z) λ_ _ z=>z) λ_ _ z=>z) λ_ _ z=>z) L (.mk (Cc _) S (Step.refl.weak (λ_ h=>nomatch h) λ_ h=>h) g hit e)
theorem D0k{pos pos' apos:Pos}{o:Ak}{nm:Str}{f:Ev}(G:Base h₀ mg mb)(M:MCall0 o nm apos pos' "dict" "dict.items")(T:TgtT N elts [a,b] ns ps)(hf:Sound w h₀ n [] N o f)(hb:SoundB w h₀ n [] N body bd)(hfs: ∀env x,FL (.Call (.Attribute o nm apos) [] [] pos') env x=pure x):
  SoundS w h₀ n [] N (.For (.Tuple elts kd tp) (.Call (.Attribute o nm apos) [] [] pos') body [] pos) (QX a b f bd):=by
 intro R env ω s s' fl sh Q E hR S q P
 refine Ax q λp q1 q=>V.onGE q λk hk q=>Ax q λL hl q=>Ax q λr hloop q=>ifE q λhl2 q=>Ax hl λo hc hl=>M9 hl λC es ho hl=>?_
 have q:=Dk q
 have hc:=hc.trans (congrArg some ho)
 refine B0D (LN (args:=[]) (M.base env) rfl M.line M.attrs M.slot M.ty (hf R env ω s p.2 p.1 sh _ E hR S q1 λω1 h1 tk1 y S1 st1 vy=>?_)) (hfs env)
 rw [hk] at vy
 obtain ⟨d,y1,rfl⟩:=vy
 obtain ⟨d',z0,z1,_,kvs,ep,z2,z4,z5,z3⟩:=S1.g k _ hc
 obtain rfl:d=d':=An (y1.symm.trans z0)
 refine ⟨z2.typeIs (s:={sh with heap:=h1,toks:=tk1}),(K0 (sh:={sh with heap:=h1,toks:=tk1}) z2).2,A0Q (JJ (s:={sh with heap:=h1,toks:=tk1}) OS z2.typeIs M02 (M00 _) (N0c (strKind pg w) d (F2 G S1 z1)) ⟨⟨kvs,z2⟩,?_⟩)⟩
 have G1:=DT (ω:=ω1) (h:=h1) {cls:=.type "dict_items",data:=.fields #[.ref d]}
 have S2:=S1.grow G1
 refine N0s (s:={sh with heap:=h1.push {cls:=.type "dict_items",data:=.fields #[.ref d]},toks:=tk1}) ⟨_,BQ _ rfl,rfl,rfl⟩ (z5.push {cls:=.type "dict_items",data:=.fields #[.ref d]}) ?_
 have G2:=DT (ω:=ω1) (h:=h1.push {cls:=.type "dict_items",data:=.fields #[.ref d]}) {cls:=.type "dict_itemiterator",data:=.fields #[.none,.bool false,.ref d,.int 0 0,.int kvs.length 0,.int ep 0,.none,.none]}
 have hsz:(h1.push {cls:=.type "dict_items",data:=.fields #[.ref d]}).objs.size=h1.objs.size+1:=CI ..
 have hlen:L=kvs.length:=(An hl).symm.trans (RelI.len z3)
 exact F0D (sh:={sh with heap:=_,toks:=tk1}) T hb hR (S2.grow G2) (Kv (b:=0) S2 S2.fwlt) (ok:=.none) (ov:=.none) (by rw [hlen];exact BQ _ rfl) z0 z4 hloop hl2 λω3 h3 tk3 flow S3 st3 hfl=>P _ _ _ _ (q.2▸S3) (Step.drop (C:=[]) (W:=FW env) (B5 ((st1.trans G1.step (C:=[]) (λ_ q=>q) (λ_ q=>q)).trans G2.step (C:=[]) (λ_ q=>q) (λ_ q=>q)) (W:=FW env)) st3 (λa ha=>Bx.mp ha▸A8 st1.size (by rw [hsz];exact CZ _)) (λ_ q=>q) (λ_ q=>q) (λ_ q=>q)) (q.1▸hfl)
end
section
variable{w:A5}{h₀:Heap}{N M:Names}{env env':Env}{ω ω':Wd}{h h':Heap}{s s1 s2:St}{n np:Nat}{A B C:List Nat}{mg mb:Str→Option Ab}{K:Frag}
theorem D0r{k:Nat}{y:Str}{py spos:Pos}{tg elt iter:Ak}{ifs:List Ak}{scope:Cn}{pos:Pos}{nl:Nat}{fr:List (Nat×Nat)}{it:Iv}{t:Tg}{c:Cv}{f:Ev}(hx:N.ns[k]?=some y)(hy:y∈N.ls)(hl:(py.line==(O00 elt [⟨tg,iter,ifs,0⟩] scope pos).pos.line)=true)(hn:(scope.names.any λx=>x.1==y&&(x.2==.local||x.2==.cell))=false)
  (Bk:Blk N M scope fr) (hnl:M.ns.length=nl) (T:TgR M tg t) (L: ∀k∈t.ks,∀x,M.ns[k]?=some x→scope.names.lookup x=some .local)
  (hi:SoundI w h₀ n B N tg iter it) (hc:SoundT w h₀ n A M ifs c) (hf:SoundG w h₀ n A M elt f) (hA: ∀k∈A,k∈C) (hB: ∀k∈B,k∈C) (hfs: ∀env x,FL iter env x=pure x):
  SoundSG w h₀ n C N (.Assign [.Name y py] (.ListComp elt [⟨tg,iter,ifs,0⟩] scope pos) spos) (Bp k (Ft A nl fr it t c f)):=by
 intro R env ω s s' fl sh Q E hR S q P
 refine Ax q λp q1 q=>D8 q λq2 q3=>?_
 rw [M0Z _ _ _ _ (A0c (.inl ⟨_,_,_,rfl⟩) hl hn S.fr.ok.kind (S.fr.ok.lcl _ hy))]
 refine DA (A4 ?_)
 show wpG _ R (do let _←L9 (.ListComp elt [⟨tg,iter,ifs,0⟩] scope pos) scope env _ (B04 []) false (eval iter env) (some (De (.Name y py) env))) _ _ sh
 exact A4 (El (E0K (Q:= λ_ s'=>Q .next s') (use:=some (De (.Name y py) env)) Bk hnl T L hi hc hf hA hB hfs hR S q1 λω' h3 tk D Cd mm hC hns gC fin=>
  have f:=fin h3 ⟨rfl,λ_ _=>rfl⟩
  WR hx f.2.2 hns gC hC ⟨f.1,f.2.1⟩ (FD q2▸P.eq q3)) (λ_ s' hq=>Bb (Bb hq)) λ_ _ e=>e)
theorem VK{k:Nat}{cs:List Bm}{b:Sv}(B:Base h₀ mg mb)(hb:SoundBG w h₀ n A N cs b):SoundBG w h₀ n A N cs (Ae (D4 k) b):=by
 intro R env ω s s' fl sh Q E hR S q P
 refine Ax q λp q1 q=>?_
 obtain ⟨f,s1⟩:=p
 exact D8 q1 λe1 e2=>by
  cases e2
  exact (Xw B S e1).elim λω1 r=>hb R env ω1 s1 s' fl sh Q E hR r.1 q λω2 h2 tk2 flow S2 st2 x=>P ω2 h2 tk2 flow S2 (r.2.trans st2 (λ_ q=>nomatch q) (λ_ q=>q)) x
end
def PW:Sv:=
  (Ae (BN (Cf (A.list [(B8 [(Af (.str [46,114,111,100,97,116,97])),(Af (.str [114,111,100,97,116,97]))]),(B8 [(Af (.str [46,100,97,116,97])),(Af (.str [100,97,116,97]))]),(B8 [(Af (.str [46,98,115,115])),(Af (.str [98,115,115]))]),(B8 [(Af (.str [46,116,101,120,116,46,109,111,114,101])),(Af (.str [116,101,120,116]))]),(B8 [(Af (.str [46,100,97,116,97,46,116,119,111])),(Af (.str [100,97,116,97]))]),(B8 [(Af (.str [46,98,115,115,46,116,119,111])),(Af (.str [98,115,115]))]),(B8 [(Af (.str [46,114,111,100,97,116,97,46,116,119,111])),(Af (.str [114,111,100,97,116,97]))])])))
  Ar)
def Mb:List V→List (Option O)→Option (V×List (Option O)):=run 0 0 PW
def Qf:Sv:=
  (Ae (BN (Dq 0 (A.list [(Ft [] 1 [] (I.of (Ao Ip (Aa 0) (Af (.int 24)))) (.one 0) HH (Ao DJ (Al SS (Aa 0)) (Af (.int 2147483647)))),(Af (.int 0)),(Ao Bf (Af (.int 70001)) (Al Ei (Aa 0)))])))
  Ar)
def Q2:List V→List (Option O)→Option (V×List (Option O)):=run 1 0 Qf
def PY:Sv:=
  (Ae (Bp 2 (Ao AQ (Aa 0) (Af (.int 1))))
  (Ae (Di (Aa 0) (Af (.int 1)) (Ao Bf (Aa 2) (Af (.int 1))))
  (Ae (Bp 3 (E5 (AA Hk (Aa 2) (Al Ei (Ao AQ (Aa 0) (Af (.int 0))))) (Ao AQ (Ao AQ (Aa 0) (Af (.int 0))) (Aa 2)) (Af (.int 0))))
  (Ae (Di (Aa 0) (Af (.int 2)) (Ao DJ (Ao Bf (Ao Bf (Ao Bf (Ao EU (Ao AQ (Aa 0) (Af (.int 2))) (Af (.int 48271))) (Ao EU (Aa 3) (Af (.int 23)))) (Ao EU (Af (.int 3)) (Aa 2))) (Af (.int 19))) (Af (.int 2147483647))))
  (Ae (BN (E5 (AA Hk (Aa 2) (Al Ei (Ao AQ (Aa 0) (Af (.int 0))))) (Ao DJ (Aa 3) (Aa 1)) (Ao DJ (Ao Gi (Ao AQ (Aa 0) (Af (.int 2))) (Af (.int 7))) (Aa 1))))
  Ar)))))
def Cq:List V→List (Option O)→Option (V×List (Option O)):=run 4 0 PY
noncomputable def M3:Sv:=
  (Ae (IK [6,7] (Q6 (AH Gb (Aa 4)) (AB [] Cq [(Aa 0),(Al Ei (Aa 4))])))
  (Ae (CJ (AH (CK []) (Aa 3)) (B8 [(Aa 6),(Aa 7),(Ao AQ (Cf (A.list [(Af (.int 1)),(Af (.int 2)),(Af (.int 4)),(Af (.int 8)),(Af (.int 16))])) (AB [] Cq [(Aa 0),(Af (.int 5))])),(AB [] Cq [(Aa 0),(Af (.int 21))])]))
  Ar))
noncomputable def M4:Sv:=
  (Ae (IK [6,7,10,11] (Ao AQ (Aa 3) (AB [] Cq [(Aa 0),(Al Ei (Aa 3))])))
  (Ae (CJ (AH (CK []) (Aa 8)) (B8 [(Ao Bf (Ao AQ (Cf (A.list [(Af (.str [103])),(Af (.str [95,97])),(Af (.str [122,122]))])) (AB [] Cq [(Aa 0),(Af (.int 3))])) (Al Im (Ao Bf (Ao EU (Af (.int 10)) (Aa 2)) (Aa 9)))),(Aa 6),(AB [] Cq [(Aa 0),(Ao Bf (Aa 11) (Af (.int 1)))]),(Af (.int 0))]))
  Ar))
noncomputable def M5:Sv:=
  (Ae (CJ (AH (CK []) (Aa 8)) (B8 [(Ao Bf (Af (.str [98,111,116,104])) (Al Im (Aa 5))),(Af (.str [42,99,111,109,109,111,110])),(Ao AQ (Cf (A.list [(Af (.int 1)),(Af (.int 2)),(Af (.int 4)),(Af (.int 8))])) (AB [] Cq [(Aa 0),(Af (.int 4))])),(Ao Bf (Af (.int 1)) (AB [] Cq [(Aa 0),(Af (.int 9))]))]))
  Ar)
noncomputable def M6:Sv:=
  (Ae (Dr 3 1 (A.list [(B8 [(Af (.str [46,116,101,120,116])),(Af (.str [116,101,120,116])),(Ao AQ (Cf (A.list [(Af (.int 1)),(Af (.int 2)),(Af (.int 4)),(Af (.int 16))])) (AB [] Cq [(Aa 0),(Af (.int 4))])),(Ao Bf (Af (.int 4)) (AB [] Cq [(Aa 0),(Af (.int 9))]))])]))
  (Ae (BB (FN (AA Hj (Aa 2) (Af (.int 0))) (AA Bj (AB [] Cq [(Aa 0),(Af (.int 3))]) (Af (.int 0)))) (Ae (Dr 3 1 (A.list []))
  Ar) Ar)
  (Ae (Dr 4 2 (Pu (AB [] Mb [])))
  (Ae (Bn (.one 5) (I.range (AB [] Cq [(Aa 0),(Af (.int 4))])) M3)
  (Ae (Dr 8 3 (Pr (AA Bj (Aa 2) (Af (.int 0))) (A.list [(B8 [(Af (.str [115,116,97,114,116])),(Af (.str [46,116,101,120,116])),(Af (.int 0)),(Af (.int 0))])]) (A.list [])))
  (Ae (Bn (.one 9) (I.range (E5 (AA E9 (Aa 3) (Cf (A.list []))) (AB [] Cq [(Aa 0),(Af (.int 3))]) (Af (.int 0)))) M4)
  (Ae (Bn (.one 5) (I.range (AB [] Cq [(Aa 0),(Af (.int 3))])) M5)
  (Ae (Ee 1)
  (Ae (Ee 3)
  (Ae (CJ (AH (CK []) (Aa 1)) (B8 [(Ao AQ (Cf (A.list [(Af (.str [97,46,99])),(Af (.str [98,46,99])),(Af (.str [115,116,97,114,116]))])) (Aa 2)),(Aa 3),(Aa 8)]))
  Ar))))))))))
def Qd:Sv:=
  (Ae (Dr 1 0 (A.list []))
  (Ae (Bn (.one 2) (I.range (Ao Bf (Af (.int 1)) (AB [] Cq [(Aa 0),(Af (.int 3))]))) M6)
  (Ae (Ee 0)
  (Ae (BN (Aa 1))
  Ar))))
def Q1:List V→List (Option O)→Option (V×List (Option O)):=run 12 4 Qd
def PU:Sv:=
  (Ae (Ba (Aa 0) 0 (Aa 1))
  (Ae (Ba (Aa 0) 1 (Aa 2))
  (Ae (Ba (Aa 0) 2 (Aa 3))
  (Ae (Ba (Aa 0) 3 (Dq 17 (U8)))
  (Ae (Ba (Aa 0) 4 (Af (.int 0)))
  (Ae (Ba (Aa 0) 5 (Dq 18 (A.list [])))
  Ar))))))
def Ma:List V→List (Option O)→Option (V×List (Option O)):=run 4 0 PU
def PV:Sv:=
  (Ae (BN (E5 (AA Bj (Al (Ap 1) (Aa 0)) (Af (.str [98,115,115]))) (Al (Ap 4) (Aa 0)) (Al Ei (Al (Ap 3) (Aa 0)))))
  Ar)
def FO:List V→List (Option O)→Option (V×List (Option O)):=run 1 0 PV
def PR:Sv:=
  (Ae (Ba (Aa 0) 0 (Aa 1))
  (Ae (Ba (Aa 0) 6 (Aa 2))
  (Ae (Ba (Aa 0) 7 (Aa 3))
  (Ae (Ba (Aa 0) 8 (Aa 4))
  (Ae (Ba (Aa 0) 9 (Aa 5))
  Ar)))))
def JR:List V→List (Option O)→Option (V×List (Option O)):=run 6 0 PR
def PT:Sv:=
  (Ae (BN (E6 (AA E9 (Al (Ap 6) (Aa 0)) (Af (.str [])))))
  Ar)
def Qz:List V→List (Option O)→Option (V×List (Option O)):=run 1 0 PT
def PQ:Sv:=
  (Ae (Ba (Aa 0) 0 (Aa 1))
  (Ae (Ba (Aa 0) 10 (Dq 13 (A.list [])))
  (Ae (Ba (Aa 0) 11 (Dq 14 (A.list [])))
  (Ae (Ba (Aa 0) 12 (Dq 15 (A.list [])))
  Ar))))
def Qy:List V→List (Option O)→Option (V×List (Option O)):=run 2 0 PQ
noncomputable def M0:Sv:=
  (Ae (Bp 8 (AB [16,17,18] (mk 16 147 Ma) [(Aa 4),(Aa 5),(Aa 6)]))
  (Ae (BB (AA Bj (Aa 5) (Af (.str [98,115,115]))) (Ae (Ba (Aa 8) 4 (Aa 7))
  Ar) (Ae (Ba (Aa 8) 3 (Dq 19 (A.ba (Aa 7))))
  Ar))
  (Ae (D4 17)
  (Ae (D4 19)
  (Ae (D4 18)
  (Ae (D4 16)
  (Ae (CJ (AH (CK []) (Al (Ap 10) (Aa 3))) (Aa 8))
  (Ae (CJ (AH (CK [20]) (Al (Ap 11) (Aa 3))) (JW 20 (AB [20] (mk 20 175 JR) [(Ao Bf (Af (.str [111,119,110])) (Aa 4)),(Aa 4),(Aa 7),(Af (.str [108,111,99,97,108])),(Af (.int 0))])))
  Ar))))))))
noncomputable def M1:Sv:=
  (Ae (CJ (AH (CK [20]) (Al (Ap 11) (Aa 3))) (JW 20 (AB [20] (mk 20 175 JR) [(Aa 4),(Aa 9),(Aa 10),(Af (.str [103,108,111,98,97,108])),(Aa 7)])))
  Ar)
def Qc:Sv:=
  (Ae (Bp 3 (AB [12,13,14,15] (mk 12 224 Qy) [(Aa 0)]))
  (Ae (Bn (.many [4,5,6,7]) (I.of (Aa 1)) M0)
  (Ae (Bn (.many [4,9,10,7]) (I.of (Aa 2)) M1)
  (Ae (D4 13)
  (Ae (D4 14)
  (Ae (D4 15)
  (Ae (D4 12)
  (Ae (BN (Aa 3))
  Ar))))))))
def Mf:List V→List (Option O)→Option (V×List (Option O)):=run 11 0 Qc
def Pw:Sv:=
  (Ae (Ba (Aa 0) 17 (Aa 1))
  (Ae (Ba (Aa 0) 18 (Aa 2))
  (Ae (Ba (Aa 0) 19 (Aa 3))
  (Ae (Ba (Aa 0) 9 (Al (Ap 9) (Aa 3)))
  (Ae (Ba (Aa 0) 2 (E5 (AA Bj (Aa 1) (Af (.int 2))) (Al (Ap 7) (Aa 3)) (Af (.int 1))))
  (Ae (Ba (Aa 0) 20 (Af (.int 0)))
  Ar))))))
def LQ:List V→List (Option O)→Option (V×List (Option O)):=run 4 0 Pw
def Qj:Sv:=
  (Ae (BB (AA Bj (Al (Ap 6) (Aa 0)) (Af (.str [42,99,111,109,109,111,110]))) (Ae (BN (Af (.int 2)))
  Ar) Ar)
  (Ae (BN (E5 (AA Bj (Al (Ap 8) (Aa 0)) (Af (.str [119,101,97,107]))) (Af (.int 1)) (Af (.int 3))))
  Ar))
def Q3:List V→List (Option O)→Option (V×List (Option O)):=run 1 0 Qj
def PB:Sv:=
  (Ae (Ba (Aa 0) 14 (Aa 1))
  (Ae (Ba (Aa 0) 21 (Dq 2 (A.list [])))
  (Ae (Ba (Aa 0) 22 (Dq 3 (A.jlist)))
  (Ae (Ba (Aa 0) 23 (Dq 4 (B0O 377)))
  (Ae (Ba (Aa 0) 24 (Dq 5 (Gx)))
  (Ae (Ba (Aa 0) 25 (Dq 6 (B0P)))
  (Ae (Ba (Aa 0) 26 (Dq 7 (Gx)))
  (Ae (Ba (Aa 0) 15 (Dq 8 (A.list [])))
  (Ae (Ba (Aa 0) 3 (Dq 9 (U8)))
  (Ae (Ba (Aa 0) 4 (Af (.int 0)))
  Ar))))))))))
def LX:List V→List (Option O)→Option (V×List (Option O)):=run 2 0 PB
def Pz:Sv:=
  (Ae (Bp 2 (Al (Ap 0) (Al (Ap 19) (Aa 1))))
  (Ae (Bp 3 (Ao SQ (AH EA (Al (Ap 23) (Aa 0))) (Aa 2)))
  (Ae (BB (AA RJ (Aa 3) (Af .none)) (Ae (QY 4 (Al (Ap 23) (Aa 0)) (Aa 2) (Aa 1))
  Ar) (Ae (BB (FN (AA Bj (Al (Ap 17) (Aa 3)) (Af (.int 3))) (AA Bj (Al (Ap 17) (Aa 1)) (Af (.int 3)))) FQ (Ae (BB (FN (AA Bj (Al (Ap 17) (Aa 3)) (Af (.int 2))) (AA Bj (Al (Ap 17) (Aa 1)) (Af (.int 2)))) (Ae (Ba (Aa 3) 9 (Ao Il (Al (Ap 9) (Aa 3)) (Al (Ap 9) (Aa 1))))
  (Ae (Ba (Aa 3) 2 (Ao Il (Al (Ap 2) (Aa 3)) (Al (Ap 2) (Aa 1))))
  Ar)) (Ae (BB (AA Hj (Al (Ap 17) (Aa 1)) (Al (Ap 17) (Aa 3))) (Ae (QY 4 (Al (Ap 23) (Aa 0)) (Aa 2) (Aa 1))
  Ar) Ar)
  Ar))
  Ar))
  Ar))
  Ar)))
def Qo:List V→List (Option O)→Option (V×List (Option O)):=run 4 0 Pz
noncomputable def II:Sv:=
  (Ae (BB (AA F4 (Al (Ap 0) (Aa 4)) (Aa 3)) FQ Ar)
  (Ae (Di (Aa 3) (Al (Ap 0) (Aa 4)) (Aa 4))
  (Ae (BB (AA Bj (Al (Ap 8) (Aa 4)) (Af (.str [108,111,99,97,108]))) (Ae VD
  Ar) Ar)
  (Ae (BB (ID (AB [] Qz [(AH (BL 175 []) (Aa 4))])) (Ae (Hc (AB [4] Qo [(AH (BL 553 [10]) (Aa 0)),(AB [10] (mk 10 377 LQ) [(AB [] Q3 [(Aa 4)]),(Aa 2),(Aa 4)])]))
  Ar) (Ae (BB (AA E9 (Al (Ap 8) (Aa 4)) (Af (.str [119,101,97,107]))) (Ae (Ra (AH EA (Al (Ap 24) (Aa 0))) (Al (Ap 0) (Aa 4)) (Al (Ap 0) (Aa 1)))
  Ar) Ar)
  Ar))
  Ar))))
def PL:Sv:=
  (Ae (IJ [2,3] [.e (Al Ei (Al (Ap 21) (Aa 0))),.a 0 Gx])
  (Ae (CJ (AH (CK []) (Al (Ap 21) (Aa 0))) (Aa 1))
  (Ae (CJ (AH (CK []) (Al (Ap 22) (Aa 0))) (Aa 3))
  (Ae (Bn (.one 4) (I.of (Al (Ap 11) (Aa 1))) II)
  Ar))))
def Qw:List V→List (Option O)→Option (V×List (Option O)):=run 5 1 PL
def PH:Sv:=
  (Ae (BN (Ft [] 2 [(1,0)] (UT (Al (Ap 24) (Aa 0))) (.one 0) (AA G6 (Aa 0) (Al (Ap 23) (Aa 1))) (Aa 0)))
  Ar)
def Qt:List V→List (Option O)→Option (V×List (Option O)):=run 1 0 PH
def Py:Sv:=
  (Ae (MC (I.of (AB [] Qt [(AH (BL 553 []) (Aa 0))])))
  Ar)
def Qn:List V→List (Option O)→Option (V×List (Option O)):=run 2 0 Py
noncomputable def Mm:Sv:=
  (Ae (BB (AA Bj (Al (Ap 1) (Aa 6)) (Aa 1)) (Ae (BB (AA G6 (Al (Ap 0) (Aa 6)) (Aa 2)) (Ae (Di (Aa 2) (Al (Ap 0) (Aa 6)) (Al Ei (Aa 3)))
  (Ae (QV (AH Gb (Aa 3)))
  Ar)) Ar)
  (Ae (MB (Aa 3) (Ao AQ (Aa 2) (Al (Ap 0) (Aa 6))) 4 6)
  Ar)) Ar)
  Ar)
noncomputable def QD:Sv:=
  (Ae (Bn (.one 6) (I.of (Al (Ap 10) (Aa 5))) Mm)
  Ar)
def P8:Sv:=
  (Ae (IJ [2,3] [.a 0 Gx,.a 1 A.list2])
  (Ae (Bn (.many [4,5]) (Gy (Al (Ap 21) (Aa 0))) QD)
  (Ae (Ee 1)
  (Ae (BN (Aa 3))
  Ar))))
def LU:List V→List (Option O)→Option (V×List (Option O)):=run 7 2 P8
noncomputable def JZ:Sv:=
  (Ae (BB (AA Bj (Al (Ap 17) (Aa 3)) (Af (.int 2))) (Ae (Bp 1 (Ao Bf (Aa 1) (Ao DJ (Al KQ (Aa 1)) (Ao Il (Af (.int 1)) (Al (Ap 2) (Aa 3))))))
  (Ae (Ba (Aa 3) 20 (Aa 1))
  (Ae (CJ (AH (CK []) (Al (Ap 15) (Aa 0))) (B8 [(Af (.str [42,99,111,109,109,111,110])),(Aa 2),(Aa 1),(Al (Ap 9) (Aa 3))]))
  (Ae (Bp 1 (Ao Bf (Aa 1) (Al (Ap 9) (Aa 3))))
  Ar)))) Ar)
  Ar)
def PF:Sv:=
  (Ae (QX 2 3 (Al (Ap 23) (Aa 0)) JZ)
  (Ae (BN (Aa 1))
  Ar))
def Qr:List V→List (Option O)→Option (V×List (Option O)):=run 4 0 PF
noncomputable def Mn:Sv:=
  (Ae (Bp 1 (Ao Bf (Aa 1) (Ao DJ (Al KQ (Aa 1)) (Al (Ap 2) (Aa 5)))))
  (Ae (Di (Al (Ap 25) (Aa 0)) (B8 [(Aa 4),(Al (Ap 0) (Aa 5))]) (Aa 1))
  (Ae (CJ (AH (CK []) (Al (Ap 15) (Aa 0))) (B8 [(Al (Ap 0) (Aa 5)),(Al (Ap 0) (Ao AQ (Al (Ap 21) (Aa 0)) (Aa 4))),(Aa 1),(AB [] FO [(AH (BL 147 []) (Aa 5))])]))
  (Ae (Bp 1 (Ao Bf (Aa 1) (AB [] FO [(AH (BL 147 []) (Aa 5))])))
  Ar))))
noncomputable def Mo:Sv:=
  (Ae (Bn (.many [4,5]) (I.of (Aa 3)) Mn)
  Ar)
noncomputable def Mp:Sv:=
  (Ae (Bp 1 (Ao Bf (Aa 1) (Ao DJ (Al KQ (Aa 1)) (Af (.int 4)))))
  (Ae (BB (AA Bj (Aa 2) (Af (.str [98,115,115]))) (Ae (Di (Al (Ap 26) (Aa 0)) (Af (.str [95,95,98,115,115,95,115,116,97,114,116])) (Aa 1))
  Ar) Ar)
  (Ae (Bn (.one 3) (I.of (AB [] LU [(AH (BL 553 []) (Aa 0)),(Aa 2)])) Mo)
  (Ae (BB (AA Bj (Aa 2) (Af (.str [98,115,115]))) (Ae (Bp 1 (AB [] Qr [(AH (BL 553 []) (Aa 0)),(Aa 1)]))
  Ar) Ar)
  (Ae (Di (Al (Ap 26) (Aa 0)) (IE NO (AH EA (Cf (A.dict [[116,101,120,116],[100,97,116,97],[98,115,115]] [(Af (.str [95,101,116,101,120,116])),(Af (.str [95,101,100,97,116,97])),(Af (.str [95,101,110,100]))]))) (Aa 2) (Af (.str []))) (Aa 1))
  Ar)))))
noncomputable def Mq:Sv:=
  (Ae (BB (AA E9 (Al (Ap 1) (Aa 5)) (Af (.str [98,115,115]))) (Ae (Bp 7 (Ao Io (Ao AQ (Al (Ap 25) (Aa 0)) (B8 [(Aa 4),(Al (Ap 0) (Aa 5))])) (Al (Ap 14) (Aa 0))))
  (Ae (QZ (Al (Ap 3) (Aa 0)) (Aa 7) (Ao Bf (Aa 7) (AB [] FO [(AH (BL 147 []) (Aa 5))])) (Al (Ap 3) (Aa 5)))
  Ar)) Ar)
  Ar)
noncomputable def Mr:Sv:=
  (Ae (Bn (.one 5) (I.of (Al (Ap 10) (Aa 6))) Mq)
  Ar)
def PE:Sv:=
  (Ae (Bp 1 (Al (Ap 14) (Aa 0)))
  (Ae (Bn (.one 2) (I.of (Af (.tup [(.str [116,101,120,116]),(.str [114,111,100,97,116,97]),(.str [100,97,116,97]),(.str [98,115,115])]))) Mp)
  (Ae (BB (AA Hj (Aa 1) (Af (.int 4294967296))) FQ Ar)
  (Ae (Ba (Aa 0) 4 (Ao Io (Aa 1) (Ao AQ (Al (Ap 26) (Aa 0)) (Af (.str [95,95,98,115,115,95,115,116,97,114,116])))))
  (Ae (Ba (Aa 0) 3 (Dq 19 (A.ba (Ao Io (Ao AQ (Al (Ap 26) (Aa 0)) (Af (.str [95,95,98,115,115,95,115,116,97,114,116]))) (Al (Ap 14) (Aa 0))))))
  (Ae (Bn (.many [4,6]) (Gy (Al (Ap 21) (Aa 0))) Mr)
  Ar))))))
def Qq:List V→List (Option O)→Option (V×List (Option O)):=run 8 0 PE
def PJ:Sv:=
  (Ae (BB (AA Bj (Al (Ap 6) (Aa 2)) (Af (.str [42,97,98,115,111,108,117,116,101]))) FQ Ar)
  (Ae (BB (AA G6 (B8 [(Aa 1),(Al (Ap 6) (Aa 2))]) (Al (Ap 25) (Aa 0))) FQ Ar)
  (Ae (BN (Ao Bf (Ao AQ (Al (Ap 25) (Aa 0)) (B8 [(Aa 1),(Al (Ap 6) (Aa 2))])) (Al (Ap 7) (Aa 2))))
  Ar)))
def LZ:List V→List (Option O)→Option (V×List (Option O)):=run 3 0 PJ
def P7:Sv:=
  (Ae (BB (AA F4 (Aa 1) (Al (Ap 23) (Aa 0))) (Ae (Bp 2 (Ao AQ (Al (Ap 23) (Aa 0)) (Aa 1)))
  (Ae (BB (AA Bj (Al (Ap 17) (Aa 2)) (Af (.int 2))) (Ae (BN (Al (Ap 20) (Aa 2)))
  Ar) Ar)
  (Ae (BN (AB [] LZ [(AH (BL 553 []) (Aa 0)),(Al (Ap 18) (Aa 2)),(Al (Ap 19) (Aa 2))]))
  Ar))) Ar)
  (Ae FQ
  Ar))
def LS:List V→List (Option O)→Option (V×List (Option O)):=run 3 0 P7
noncomputable def QK:Sv:=
  (Ae (MC (I.of (Al (Ap 5) (Aa 4))))
  Ar)
def PM:Sv:=
  (Ae (Dr 3 0 Gx)
  (Ae (Bn (.one 4) (I.of (Al (Ap 10) (Aa 2))) QK)
  (Ae (Ee 0)
  (Ae (BN (Aa 3))
  Ar))))
def Qx:List V→List (Option O)→Option (V×List (Option O)):=run 7 1 PM
noncomputable def QB:Sv:=
  (Ae (IJ [5,6] [.e (Ao AQ (Al (Ap 25) (Aa 0)) (B8 [(Aa 1),(Al (Ap 0) (Aa 4))])),.e (AB [] FO [(AH (BL 147 []) (Aa 4))])])
  (Ae (MC (I.of (Al (Ap 5) (Aa 4))))
  Ar))
noncomputable def QC:Sv:=
  (Ae (Bp 3 (AB [] Qx [(AH (BL 553 []) (Aa 0)),(Aa 1),(Aa 2)]))
  (Ae (Bn (.one 4) (I.of (Al (Ap 10) (Aa 2))) QB)
  Ar))
def P6:Sv:=
  (Ae (Bn (.many [1,2]) (Gy (Al (Ap 21) (Aa 0))) QC)
  Ar)
def Qp:List V→List (Option O)→Option (V×List (Option O)):=run 10 0 P6
noncomputable def QG:Sv:=
  (Ae (Di (Aa 1) (Aa 2) (AB [] LS [(AH (BL 553 []) (Aa 0)),(Aa 2)]))
  Ar)
noncomputable def QH:Sv:=
  (Ae (BB (AA G6 (Aa 2) (Aa 1)) (Ae (Di (Aa 1) (Aa 2) (Ao AQ (Al (Ap 26) (Aa 0)) (Aa 2)))
  Ar) Ar)
  Ar)
def PK:Sv:=
  (Ae (Dr 1 0 Gx)
  (Ae (Bn (.one 2) (I.of (Al Hu (Al (Ap 23) (Aa 0)))) QG)
  (Ae (Bn (.one 2) (I.of (Af (.tup [(.str [95,101,116,101,120,116]),(.str [95,101,100,97,116,97]),(.str [95,95,98,115,115,95,115,116,97,114,116]),(.str [95,101,110,100])]))) QH)
  (Ae (Ee 0)
  (Ae (BN (Aa 1))
  Ar)))))
def Qv:List V→List (Option O)→Option (V×List (Option O)):=run 3 1 PK
noncomputable def QE:Sv:=
  (Ae (BB (AA E9 (Al (Ap 12) (Aa 3)) (Cf (A.list []))) FQ Ar)
  Ar)
def PG:Sv:=
  (Ae (Dr 1 0 (A.list []))
  (Ae (Bn (.many [2,3]) (Gy (Al (Ap 21) (Aa 0))) QE)
  (Ae (BN (Al Hu (Aa 1)))
  Ar)))
def Qs:List V→List (Option O)→Option (V×List (Option O)):=run 6 1 PG
def PD:Sv:=
  (Ae (BN (JU (E6 (AA F4 (Aa 2) (Al (Ap 23) (Aa 0)))) (E6 (AA Bj (Al (Ap 18) (Ao AQ (Al (Ap 23) (Aa 0)) (Aa 2))) (Aa 1)))))
  Ar)
def LY:List V→List (Option O)→Option (V×List (Option O)):=run 3 0 PD
noncomputable def Ka:Sv:=
  (Ae (Bp 6 (JV (E6 (AA Bj (Al (Ap 8) (Aa 5)) (Af (.str [108,111,99,97,108])))) (AB [] LY [(AH (BL 553 []) (Aa 0)),(Aa 2),(Al (Ap 0) (Aa 5))])))
  (Ae (Bp 7 (JU (E6 (AA F4 (Al (Ap 6) (Aa 5)) (Aa 4))) (E6 (AA Hk (Al (Ap 7) (Aa 5)) (Ao AQ (Aa 4) (Al (Ap 6) (Aa 5)))))))
  (Ae (BB (FN (ID (Aa 7)) (FN (ID (Aa 6)) (Qk (ID (Ao SW (AH isStr (Al (Ap 0) (Aa 5))) (Af (.str [46]))))))) (Ae (CJ (AH (CK []) (Aa 1)) (B8 [(AB [] LZ [(AH (BL 553 []) (Aa 0)),(Aa 2),(Aa 5)]),(Al (Ap 0) (Aa 5))]))
  Ar) Ar)
  Ar)))
noncomputable def QF:Sv:=
  (Ae (Bp 4 (Q4 1 [] (I.of (Al (Ap 10) (Aa 3))) (.one 0) (AA Bj (Al (Ap 1) (Aa 0)) (Af (.str [116,101,120,116]))) (Al (Ap 0) (Aa 0)) (AB [] FO [(AH (BL 147 []) (Aa 0))])))
  (Ae (Bn (.one 5) (I.of (Al (Ap 11) (Aa 3))) Ka)
  Ar))
def PI:Sv:=
  (Ae (Dr 1 0 (A.list []))
  (Ae (Bn (.many [2,3]) (Gy (Al (Ap 21) (Aa 0))) QF)
  (Ae (BN (Al Hu (Aa 1)))
  Ar)))
def Qu:List V→List (Option O)→Option (V×List (Option O)):=run 8 1 PI
def Px:Sv:=
  (Ae (Ba (Aa 0) 13 (Aa 1))
  (Ae (Ba (Aa 0) 14 (Aa 2))
  (Ae (Ba (Aa 0) 3 (Aa 3))
  (Ae (Ba (Aa 0) 4 (Aa 4))
  (Ae (Ba (Aa 0) 11 (Aa 5))
  (Ae (Ba (Aa 0) 15 (Cf (A.list [])))
  (Ae (Ba (Aa 0) 12 (Cf (A.list [])))
  (Ae (Ba (Aa 0) 16 (Cf (A.list [])))
  Ar))))))))
def LR:List V→List (Option O)→Option (V×List (Option O)):=run 6 0 Px
def P9:Sv:=
  (Ae (Hc (AB [] Qn [(AH (BL 553 []) (Aa 0))]))
  (Ae (Hc (AB [19] Qq [(AH (BL 553 []) (Aa 0))]))
  (Ae (D4 8)
  (Ae (Hc (AB [] Qp [(AH (BL 553 []) (Aa 0))]))
  (Ae (Bp 2 (AB [11] (mk 11 356 LR) [(AB [] LS [(AH (BL 553 []) (Aa 0)),(Aa 1)]),(Al (Ap 14) (Aa 0)),(Al Zf (Al (Ap 3) (Aa 0))),(Al (Ap 4) (Aa 0)),(AB [] Qv [(AH (BL 553 []) (Aa 0))])]))
  (Ae (Ba (Aa 2) 15 (Al (Ap 15) (Aa 0)))
  (Ae (Ba (Aa 2) 12 (AB [] Qs [(AH (BL 553 []) (Aa 0))]))
  (Ae (Ba (Aa 2) 16 (AB [] Qu [(AH (BL 553 []) (Aa 0))]))
  (Ae (D4 11)
  (Ae (BN (Aa 2))
  Ar))))))))))
def LV:List V→List (Option O)→Option (V×List (Option O)):=run 3 0 P9
noncomputable def QO:Sv:=
  (Ae (Hc (AB [4,10] Qw [(AH (BL 553 []) (Aa 3)),(Aa 4)]))
  Ar)
def Qh:Sv:=
  (Ae (Bp 3 (AB [1,2,3,4,5,6,7,8,9] (mk 1 553 LX) [(Aa 2)]))
  (Ae (Bn (.one 4) (I.of (Aa 0)) QO)
  (Ae (D4 2)
  (Ae (Ra (AH EA (Al (Ap 24) (Aa 3))) (Aa 1) (Af (.str [116,104,101,32,101,110,116,114,121])))
  (Ae (D4 5)
  (Ae (BN (AB [11,19] LV [(AH (BL 553 []) (Aa 3)),(Aa 1)]))
  Ar))))))
def Mg:List V→List (Option O)→Option (V×List (Option O)):=run 5 0 Qh
noncomputable def M7:Sv:=
  (Ae (CJ (AH (CK []) (Aa 1)) (Ao Bf (Ao Bf (Ao Bf (Ao Bf (Ao Bf (Ao Bf (Al KP (Aa 4)) (Af (.str [32]))) (Al Im (Aa 5))) (Af (.str [32]))) (Aa 2)) (Af (.str [32]))) (Aa 3)))
  Ar)
noncomputable def M8:Sv:=
  (Ae (CJ (AH (CK []) (Aa 1)) (Ao Bf (Ao Bf (Al KP (Aa 4)) (Af (.str [32]))) (Aa 3)))
  Ar)
def Qi:Sv:=
  (Ae (Dr 1 0 (A.list [(Ao Bf (Af (.str [101,110,116,114,121,32])) (Al KP (Al (Ap 13) (Aa 0))))]))
  (Ae (Bn (.many [2,3,4,5]) (I.of (Al (Ap 15) (Aa 0))) M7)
  (Ae (Bp 6 (Al Hu (Ft [] 2 [] (I.items (Al (Ap 11) (Aa 0))) (.many [0,1]) HH (B8 [(Aa 1),(Aa 0)]))))
  (Ae (Bn (.many [4,3]) (I.of (Aa 6)) M8)
  (Ae (BN (Ao Bf (Ao NP (AH isStr (Af (.str [10]))) (Aa 1)) (Af (.str [10]))))
  Ar)))))
def Mh:List V→List (Option O)→Option (V×List (Option O)):=run 7 1 Qi
noncomputable def Mu:Sv:=
  (Ae (Bp 0 (Ao Gi (Aa 0) (Af (.int 16))))
  (Ae (Bp 1 (Ao Bf (Ao AQ (Af (.str [48,49,50,51,52,53,54,55,56,57,97,98,99,100,101,102])) (Ao DJ (Aa 0) (Af (.int 16)))) (Aa 1)))
  Ar))
def Qa:Sv:=
  (Ae (Bp 1 (Ao AQ (Af (.str [48,49,50,51,52,53,54,55,56,57,97,98,99,100,101,102])) (Ao DJ (Aa 0) (Af (.int 16)))))
  (Ae (Rb 64 (AA Hj (Aa 0) (Af (.int 15))) Mu)
  (Ae (BN (Ao Bf (Af (.str [48,120])) (Aa 1)))
  Ar)))
def JS:List V→List (Option O)→Option (V×List (Option O)):=run 2 0 Qa
noncomputable def QN:Sv:=
  (Ae (QW (AH Gb (Aa 2)) (Ft [] 2 [(1,1)] (I.of (Aa 4)) (.one 0) (AA Bj (Ao AQ (Aa 0) (Af (.int 1))) (Aa 1)) (Ao AQ (Aa 0) (Af (.int 0)))))
  Ar)
def Qe:Sv:=
  (Ae (Dr 2 0 (A.list []))
  (Ae (Bn (.many [3,4,5]) (I.of (Aa 0)) QN)
  (Ae (Ee 0)
  (Ae (BN (Ft [] 3 [(2,2)] (Gy (Aa 2)) (.many [0,1]) (AA G6 (Aa 1) (Ao Ip (Aa 2) (Aa 0))) (Aa 1)))
  Ar))))
def JT:List V→List (Option O)→Option (V×List (Option O)):=run 6 1 Qe
noncomputable def Ms:Sv:=
  (Ae (BB (AA Bj (Aa 6) (Af (.str [42,99,111,109,109,111,110]))) (Ae (IK [9,10] (IE NO (AH EA (Aa 1)) (Aa 5) (B8 [(Af (.int 0)),(Af (.int 0))])))
  (Ae (Di (Aa 1) (Aa 5) (B8 [(Ao Il (Aa 9) (Aa 7)),(Ao Il (Aa 10) (Aa 8))]))
  Ar)) Ar)
  Ar)
noncomputable def QL:Sv:=
  (Ae (Bn (.many [5,6,7,8]) (I.of (Aa 4)) Ms)
  Ar)
def PX:Sv:=
  (Ae (Dr 1 0 Gx)
  (Ae (Bn (.many [2,3,4]) (I.of (Aa 0)) QL)
  (Ae (Ee 0)
  (Ae (BN (Aa 1))
  Ar))))
def Md:List V→List (Option O)→Option (V×List (Option O)):=run 11 1 PX
noncomputable def Mv:Sv:=
  (Ae (BB (AA Bj (Aa 16) (Aa 11)) (Ae (Di (Aa 4) (Aa 15) (Ao Bf (Aa 2) (Aa 17)))
  Ar) Ar)
  Ar)
noncomputable def Mw:Sv:=
  (Ae (BB (AA Bj (Aa 11) (Aa 7)) (Ae (Bp 2 (Ao EU (Ao Gi (Ao Io (Ao Bf (Aa 2) (Aa 13)) (Af (.int 1))) (Aa 13)) (Aa 13)))
  (Ae (CJ (AH (CK []) (Aa 3)) (B8 [(Aa 2),(Aa 14),(Aa 11),(Aa 8)]))
  (Ae (Bn (.many [15,16,17,18]) (I.of (Aa 10)) Mv)
  (Ae (Bp 2 (Ao Bf (Aa 2) (Aa 14)))
  Ar)))) Ar)
  Ar)
noncomputable def QM:Sv:=
  (Ae (Bn (.many [11,12,13,14]) (I.of (Aa 9)) Mw)
  Ar)
noncomputable def HM:Sv:=
  (Ae (Bn (.many [8,9,10]) (I.of (Aa 0)) QM)
  Ar)
noncomputable def Mx:Sv:=
  (Ae (Bp 2 (Ao EU (Ao Gi (Ao Io (Ao Bf (Aa 2) (Ao AQ (Aa 19) (Af (.int 0)))) (Af (.int 1))) (Ao AQ (Aa 19) (Af (.int 0)))) (Ao AQ (Aa 19) (Af (.int 0)))))
  (Ae (CJ (AH (CK []) (Aa 3)) (B8 [(Aa 2),(Ao AQ (Aa 19) (Af (.int 1))),(Af (.str [42,99,111,109,109,111,110])),(Aa 11)]))
  (Ae (Di (Aa 4) (Aa 11) (Aa 2))
  (Ae (Bp 2 (Ao Bf (Aa 2) (Ao AQ (Aa 19) (Af (.int 1)))))
  Ar))))
noncomputable def My:Sv:=
  (Ae (Bp 2 (Ao EU (Ao Gi (Ao Bf (Aa 2) (Af (.int 3))) (Af (.int 4))) (Af (.int 4))))
  (Ae (BB (AA Bj (Aa 6) (Af (.str [98,115,115]))) (Ae (Di (Aa 5) (Af (.str [95,95,98,115,115,95,115,116,97,114,116])) (Aa 2))
  Ar) Ar)
  (Ae (Bn (.one 7) (I.of (AB [] JT [(Aa 0),(Aa 6)])) HM)
  (Ae (BB (AA Bj (Aa 6) (Af (.str [98,115,115]))) (Ae (Bn (.many [11,19]) (I.items (AB [] Md [(Aa 0)])) Mx)
  Ar) Ar)
  (Ae (Di (Aa 5) (Ao AQ (Cf (A.dict [[116,101,120,116],[114,111,100,97,116,97],[100,97,116,97],[98,115,115]] [(Af (.str [95,101,116,101,120,116])),(Af (.str [])),(Af (.str [95,101,100,97,116,97])),(Af (.str [95,101,110,100]))])) (Aa 6)) (Aa 2))
  Ar)))))
noncomputable def Mz:Sv:=
  (Ae (Di (Aa 4) (Aa 11) (Ao AQ (Aa 5) (Aa 11)))
  Ar)
def Qb:Sv:=
  (Ae (VE [2,3,4,5] [.e (Aa 1),.a 0 (A.list []),.a 1 Gx,.a 2 Gx])
  (Ae (Bn (.one 6) (I.of (B8 [(Af (.str [116,101,120,116])),(Af (.str [114,111,100,97,116,97])),(Af (.str [100,97,116,97])),(Af (.str [98,115,115]))])) My)
  (Ae (Bn (.one 11) (I.of (B8 [(Af (.str [95,101,116,101,120,116])),(Af (.str [95,101,100,97,116,97])),(Af (.str [95,95,98,115,115,95,115,116,97,114,116])),(Af (.str [95,101,110,100]))])) Mz)
  (Ae (Ee 0)
  (Ae (Ee 1)
  (Ae (BN (B8 [(Aa 3),(Aa 4)]))
  Ar))))))
def Q0:List V→List (Option O)→Option (V×List (Option O)):=run 20 3 Qb
noncomputable def Mt:Sv:=
  (Ae (CJ (AH (CK []) (Aa 4)) (Ao NP (AH isStr (Af (.str [32]))) (Cf (A.list [(AB [] JS [(Aa 5)]),(Al Im (Aa 6)),(Aa 7),(Aa 8)]))))
  Ar)
noncomputable def Kb:Sv:=
  (Ae (Bp 10 (Al SV (Aa 9)))
  (Ae (Bp 11 (Al SU (UE 9 10)))
  (Ae (CJ (AH (CK []) (Aa 4)) (Ao Bf (Ao Bf (AB [] JS [(Q7 (AH EA (Aa 9)) (Aa 11))]) (Af (.str [32]))) (Aa 11)))
  Ar)))
def PZ:Sv:=
  (Ae (IK [2,3] (AB [] Q0 [(Aa 0),(Aa 1)]))
  (Ae (Dr 4 0 (A.list [(Ao Bf (Af (.str [101,110,116,114,121,32])) (AB [] JS [(Ao AQ (Aa 3) (Af (.str [115,116,97,114,116])))]))]))
  (Ae (Bn (.many [5,6,7,8]) (I.of (Aa 2)) Mt)
  (Ae (Dr 9 1 (A.dictOf (Aa 3)))
  (Ae (Rb 64 (AA E9 (Aa 9) (Cf (A.dict [] []))) Kb)
  (Ae (Ee 0)
  (Ae (BN (Aa 4))
  Ar)))))))
def Me:List V→List (Option O)→Option (V×List (Option O)):=run 12 2 PZ
def Qg:Sv:=
  (Ae (Bp 1 (AB [0] Q2 [(Aa 0)]))
  (Ae (IJ [2,3] [.e (AB [] Q1 [(Aa 1)]),.e (Ao AQ (Cf (A.list [(Af (.int 0)),(Af (.int 4096)),(Af (.int 4098)),(Af (.int 65535)),(Af (.int 1048576)),(Af (.int 4100))])) (AB [] Cq [(Aa 1),(Af (.int 6))]))])
  (Ae (Bp 4 (Ft [12,13,14,15,16,17,18,19,20] 3 [] (I.of (Aa 2)) (.many [0,1,2]) HH (AB [12,13,14,15,16,17,18,19,20] Mf [(Aa 0),(Aa 1),(Aa 2)])))
  (Ae (Bp 5 (AB [] Mh [(AB [1,2,3,4,5,6,7,8,9,10,11,12,13,14,15,16,17,18,19] Mg [(Aa 4),(Af (.str [115,116,97,114,116])),(Aa 3)])]))
  (Ae (BN (E6 (AA Bj (Aa 5) (Ao Bf (Ao NP (AH isStr (Af (.str [10]))) (AB [] Me [(Aa 2),(Aa 3)])) (Af (.str [10]))))))
  Ar)))))
def UC:List V→List (Option O)→Option (V×List (Option O)):=run 6 0 Qg
noncomputable def N0N:List Bm:=O0x.main.body
noncomputable def YT:Bm:=.Pass ⟨0,0,0,0⟩
noncomputable def fnS(i:Nat):Bm:=(N0N.drop i).headD YT
noncomputable def mtS(i j:Nat):Bm:=match fnS i with
 |.ClassDef _ _ _ b _ _ _ _ _ _ _=>(b.drop j).headD YT
 |s=>s
noncomputable def bdS:Bm→List Bm
 |.FunctionDef _ _ b _ _ _ _ _ _ _=>b
 |_=>[]
noncomputable def scS:Bm→Cn
 |.FunctionDef _ _ _ _ _ _ s _ _ _=>s
 |_=>default
noncomputable def arS:Bm→Ug
 |.FunctionDef _ a _ _ _ _ _ _ _ _=>a
 |_=>default
noncomputable def MQ(a:Ug):List Str:=a.args.map (·.arg)
theorem K0U{x:Str}: ∀{ns:List Str} {xs:List Ab},xs.length=ns.length→x∈ns→((ns.zip xs).lookup x).isNone=false:= λ{ns}=>by
 induction ns with
 |nil=>exact λ_ h=>absurd h Lp
 |cons n ns ih=>
  intro xs hl h
  cases xs with
  |nil=>cases hl
  |cons v xs=>
   show (match x==n with|true=>some v|false=>(ns.zip xs).lookup x).isNone=false
   cases q:x==n with
   |true=>rfl
   |false=>exact ih (I1 hl) ((AW.mp h).resolve_left λz=>C3 (q.symm.trans (beq_iff_eq.mpr z)))
theorem K0T{l:List (Str×Ab)}: ∀{ns:List Str} {xs:List Ab},ns.Nodup→xs.length=ns.length→(∀n∈ns,l.lookup n=(ns.zip xs).lookup n)→ns.filterMap (λn=>(l.lookup n).map (n,·))=ns.zip xs:= λ{ns}=>by
 induction ns with
 |nil=>exact λ_ _ _=>rfl
 |cons n ns ih=>
  intro xs hn hl h
  cases xs with
  |nil=>cases hl
  |cons v xs=>
   have hn:=CQ.mp hn
   have h0:l.lookup n=some v:=(h n (.head _)).trans (by show (match n==n with|true=>some v|false=>(ns.zip xs).lookup n)=some v;rw [beq_self_eq_true])
   refine (L0u (h0▸rfl)).trans (congrArg _ (ih hn.2 (I1 hl) λm hm=>(h m (.tail _ hm)).trans ?_))
   show (match m==n with|true=>some v|false=>(ns.zip xs).lookup m)=_
   rw [beq_eq_false_iff_ne.mpr λ(q:m=n)=>hn.1 (q▸hm)]
theorem F0J{β:Type}{as:List Str}{k:Nat}{s:β}{f:Str×Ab→β→Sem (ForInStep β)}:forIn (as.zip (List.drop k ([]:List Ab))) s f=pure s:=by rw [List.drop_nil,List.zip_nil_right];rfl
noncomputable def Tb(a:Ug):Bool:=a.posonlyargs.isEmpty&&a.vararg.isNone&&a.kwonlyargs.isEmpty&&a.kwarg.isNone
theorem E0l{fd:Ly}{xs:List Ab}(hp:Tb fd.params=true)(hd:fd.defaults=.none)(hn:(MQ fd.params).Nodup)(hl:xs.length=(MQ fd.params).length):B0r fd ⟨xs,[]⟩=pure ((MQ fd.params).zip xs):=by
 obtain ⟨nm,qn,⟨po,ar,va,ko,kd,kw,df⟩,body,scope,gl,cl,dv,kv,doc,pm,an,code,ct,bl⟩:=fd
 simp only [Tb,Bv,L02,A0P] at hp
 obtain ⟨⟨⟨rfl,rfl⟩,rfl⟩,rfl⟩:=hp
 cases hd
 have hl:xs.length=(ar.map (·.arg)).length:=hl
 have h1: ¬((decide (xs.length>(ar.map (·.arg)).length)&&true)=true):=by rw [decide_eq_false (show¬xs.length>_ from hl▸Bu _)];exact C3
 have h2: ∀m,¬((!(((ar.map (·.arg)).take m).filter λn=>(((ar.map (·.arg)).zip xs).lookup n).isNone).isEmpty)=true):= λm=>by rw [L0v.mpr λn hm=>by rw [K0U hl (TP hm)];exact C3];exact C3
 refine (if_neg h1).trans ((if_neg (h2 _)).trans ((congrArg (λm=>m>>=_) F0J).trans ?_))
 exact congrArg (pure (f:=Sem)) ((congrArg (List.filterMap λn=>(((ar.map (·.arg)).zip xs).lookup n).map (n,·)) (CX (ar.map (·.arg)))).trans (K0T hn hl λ_ _=>rfl))
def Mk(h₀:Heap)(f:Addr)(st:Bm):Prop:=∃o fd,h₀.get? f=some o∧o.data=.func fd∧h₀.CodeRec fd.code fd.qualname∧fd.body=.stmts (bdS st)∧fd.closure=[]∧fd.globals=Fm∧fd.builtins=OZ∧fd.scope=scS st∧fd.params=arS st∧fd.defaults=.none
noncomputable def Nv(N:Names)(np nl:Nat)(st:Bm):Bool:=
 decide ((scS st).kind=.function)&& !(scS st).isCoroutine&& !(scS st).isGenerator&&Tb (arS st)&&decide (MQ (arS st)=N.ns.take np)&&
 N.gs.all (λx=>decide ((scS st).names.lookup x=some .globalImplicit))&&N.cs.all (λx=>decide ((scS st).names.lookup x=some .cell))&&decide (N.ns.Nodup)&&decide (np≤N.ns.length)&&decide (N.ns.length=nl)&&
 N.ns.all (λx=>decide ((scS st).names.lookup x=some .local)||decide ((scS st).names.lookup x=some .cell))&&N.ls.all (λx=>decide ((scS st).names.lookup x=some .local))
noncomputable def WA(N M:Names)(sc:Cn)(fr:List (Nat×Nat)):Bool:=
 decide (sc.kind=.function)&&sc.names.all (λy=>decide (y.2≠.cell))&&sc.names.all (λy=> !decide (y.2=.local)||decide (sc.names.lookup y.1=some .local))&&
 sc.names.all (λy=> !decide (y.2=.free)||(decide (y.1∈N.cs)&&decide (sc.names.lookup y.1=some .free)))&&decide (M.ns.Nodup)&&M.cs.isEmpty&&M.ls.isEmpty&&
 M.ns.all (λx=>decide (sc.names.lookup x=some .local)||decide ((x,DZ)∈sc.names))&&M.gs.all (λx=>decide (sc.names.lookup x=some .globalImplicit))&&
 fr.all (λp=>match M.ns[p.1]? with
  |some x=>decide (N.ns[p.2]?=some x)&&decide ((x,DZ)∈sc.names)
  |none=>false)
section
variable{w:A5}{h₀:Heap}{N M:Names}{n np nl q:Nat}{A:List Nat}{mg mb:Str→Option Ab}{f:Addr}{st:Bm}{b:Sv}
theorem Xn(H:Mk h₀ f st)(c:Nv N np nl st=true): ∃fd,Fn h₀ N np f fd (bdS st)∧N.ns.length=nl∧∀x∈N.ns,fd.scope.names.lookup x=some .local∨fd.scope.names.lookup x=some .cell:=by
 obtain ⟨o,fd,h1,h2,h3,h4,h5,h6,h7,h8,h9,h10⟩:=H
 unfold Nv at c
 simp only [Bv,decide_eq_true_eq,DW,D1,O6] at c
 obtain ⟨⟨⟨⟨⟨⟨⟨⟨⟨⟨⟨c1,c2⟩,c3⟩,c4⟩,c5⟩,c6⟩,c7⟩,c8⟩,c9⟩,c10⟩,c11⟩,c12⟩:=c
 refine ⟨fd,⟨⟨o,h1,h2⟩,h3,h4,h5,h6,h7,by rw [h8];exact c1,by rw [h8];exact c2,by rw [h8];exact c3,λxs hx=>?_,by rw [h8];exact c6,by rw [h8];exact c7,c8,c9,by rw [h8];exact c12⟩,c10,by rw [h8];exact c11⟩
 rw [←c5,←h9]
 have hlen:(N.ns.take np).length=np:=by rw [TM];omega
 refine E0l (by rw [h9];exact c4) h10 ?_ ?_
 ·rw [h9,c5];exact c8.sublist (A0H _ _)
 ·rw [h9,c5,hlen];exact hx
theorem BV(B:Base h₀ mg mb)(H:Mk h₀ f st)(c:Nv N np nl st=true)(hb:SoundB w h₀ n A N (bdS st) b):SoundF w h₀ (n+1) np A f (Mine.run nl q b):=by
 obtain ⟨fd,F,h1,h2⟩:=Xn H c
 exact SoundF.of_cells B F hb h1 h2
theorem Iy(B:Base h₀ mg mb)(H:Mk h₀ f st)(c:Nv N np nl st=true)(hb:SoundBG w h₀ n A N (bdS st) b):SoundFG w h₀ (n+1) np A f (Mine.run nl q b):=by
 obtain ⟨fd,F,h1,h2⟩:=Xn H c
 exact D0c B F hb h1 h2
theorem Hh{sc:Cn}{fr:List (Nat×Nat)}(c:WA N M sc fr=true):Blk N M sc fr:=by
 unfold WA at c
 simp only [Bv,decide_eq_true_eq,DW,D1,O6,L02,decide_eq_false_iff_not] at c
 obtain ⟨⟨⟨⟨⟨⟨⟨⟨⟨c1,c2⟩,c3⟩,c4⟩,c5⟩,c6⟩,c6'⟩,c7⟩,c8⟩,c9⟩:=c
 refine ⟨c1,c2,λy hy e=>(c3 y hy).resolve_left (λz=>z e),λy hy e=>((c4 y hy).resolve_left (λz=>z e)).1,c5,c6,c6',c7,λx hx=>((c4 (x,.free) hx).resolve_left (λz=>z rfl)).2,c8,λp hp=>?_⟩
 have:=c9 p hp
 split at this
 ·rename_i x hx
  simp only [Bv,decide_eq_true_eq] at this
  exact ⟨x,hx,this.1,this.2⟩
 ·cases this
end
noncomputable def X7:List (Str×Nat):=[("_law_SECTIONS",571),("_law_well",576),("_law_draw",583),("_law_plan",590),("_law_object",597),("rank_of",388),("link_objects",564),("map_text",26),("_law_figures",604),("_law_titles",609),("_law_common",616),("_law_laid",623),("_law_due",628),("Section",147),("ObjectSymbol",175),("ObjectFile",224),("Image",356),("Definition",377),("Linker",553)]
noncomputable def WB:List Str:=["len","int","str","hex","bytes","sorted","max","min","range","enumerate","bytearray","list","dict"]
noncomputable def RH:List (Str×FV):=[("STRONG",(.int 3)),("SHARED",(.int 2)),("WEAK",(.int 1)),("KIND_ALIGN",(.int 4)),("MEMORY_END",(.int 4294967296)),("COMMON",(.str [42,99,111,109,109,111,110])),("ABSOLUTE",(.str [42,97,98,115,111,108,117,116,101])),("UNDEFINED",(.str [])),("SECTION_KINDS",(.tup [(.str [116,101,120,116]),(.str [114,111,100,97,116,97]),(.str [100,97,116,97]),(.str [98,115,115])])),("PROVIDED",(.tup [(.str [95,101,116,101,120,116]),(.str [95,101,100,97,116,97]),(.str [95,95,98,115,115,95,115,116,97,114,116]),(.str [95,101,110,100])]))]
noncomputable def RL:List (Nat×Bm):=[(571,(fnS 53)),(576,(fnS 54)),(583,(fnS 55)),(590,(fnS 56)),(130,(mtS 24 0)),(137,(mtS 24 1)),(165,(mtS 25 0)),(172,(mtS 25 1)),(193,(mtS 26 0)),(597,(fnS 57)),(374,(mtS 47 0)),(388,(fnS 48)),(409,(mtS 50 0)),(423,(mtS 50 2)),(416,(mtS 50 1)),(428,(mtS 50 3)),(435,(mtS 50 4)),(442,(mtS 50 5)),(456,(mtS 50 7)),(449,(mtS 50 6)),(463,(mtS 50 8)),(470,(mtS 50 9)),(512,(mtS 50 15)),(505,(mtS 50 14)),(526,(mtS 50 17)),(531,(mtS 50 18)),(543,(mtS 50 20)),(536,(mtS 50 19)),(353,(mtS 46 0)),(550,(mtS 50 21)),(564,(fnS 51)),(26,(fnS 2)),(604,(fnS 58)),(609,(fnS 59)),(616,(fnS 60)),(623,(fnS 61)),(628,(fnS 62)),(633,(fnS 63))]
noncomputable def I0h:List (Nat×Str×Nat):=[(147,"size",137),(175,"is_defined",172),(553,"define",423),(553,"take_object",416),(553,"missing",428),(553,"check_missing",435),(553,"groups",442),(553,"lay_common",456),(553,"lay",449),(553,"symbol_address",463),(553,"global_address",470),(553,"upper_parts",512),(553,"fix",505),(553,"symbols",526),(553,"lines",531),(553,"is_taken",543),(553,"names",536),(553,"image",550)]
noncomputable def E0z:List (Nat×Nat):=[(147,130),(175,165),(224,193),(356,353),(377,374),(553,409)]
structure TopF(w:A5)(K:Frag)(h₀:Heap)(mg mb:Str→Option Ab):Prop where
 gd:Gd K h₀ mg mb
 glb: ∀(i:Nat) (p:Str×Nat),X7[i]?=some p→mg p.1=some (.ref p.2)∧I2 K (.ref p.2)=true
 miss: ∀(i:Nat) (x:Str),WB[i]?=some x→mg x=none
 val: ∀(i:Nat) (p:Str×FV),RH[i]?=some p→∃v,mg p.1=some v∧FR w (· <h₀.objs.size) h₀ p.2 v
 defs: ∀(i:Nat) (e:Nat×Bm),RL[i]?=some e→Mk h₀ e.1 e.2
 mth: ∀(i:Nat) (e:Nat×Str×Nat),I0h[i]?=some e→MthA K e.1 e.2.1 e.2.2
 cls: ∀(i:Nat) (e:Nat×Nat),E0z[i]?=some e→Us K e.1=true∧EI K (.ref e.1) "__init__"=some (some (.ref e.2))∧L2 K (.ref e.2)=some (.type "function")
theorem Am{B:List Nat}: ∀k∈([]:List Nat),k∈B:= λ_ h=>nomatch h
theorem Cu(env:Env)(h:env.scope.kind=.function):HF env=false:=by unfold HF;rw [h];rfl
noncomputable def asN:Ak→Option (Str×Pos)
 |.Name x p=>some (x,p)
 |_=>none
noncomputable def toN(q:Str×Pos):Ak:=.Name q.1 q.2
theorem D0D{e:Ak}{q:Str×Pos}(h:asN e=some q):e=toN q:=by
 unfold asN at h
 split at h
 ·cases h;rfl
 ·cases h
theorem YO: ∀{elts:List Ak},(elts.filterMap asN).length=elts.length→elts=(elts.filterMap asN).map toN
 |[],_=>rfl
 |e::r,h=>by
  rw [A08] at h⊢
  cases q:asN e with
  |none=>
   rw [q] at h
   have:=List.length_filterMap_le asN r
   simp only [Dm] at h
   omega
  |some y=>
   rw [q] at h
   simp only [Dm,Nat.add_right_cancel_iff] at h
   simp only [Em]
   rw [←YO h,D0D q]
theorem Nn{env:Env}: ∀{qs:List (Str×Pos)},OY (qs.map toN) env=qs.map λq=>(false,De (toN q) env)
 |[]=>rfl
 |q::r=>by
  show (false,De (.Name q.1 q.2) env)::OY (r.map toN) env=_
  rw [Nn];rfl
theorem J0g{qs:List (Str×Pos)}:(qs.map (·.1)).Nodup→∀q∈qs,qs.lookup q.1=some q.2:=by
 induction qs with
 |nil=>exact λ_ _ h=>nomatch h
 |cons y r ih=>
  intro hn q hq
  simp only [Em,CQ] at hn
  obtain ⟨a,b⟩:=y
  simp only [E3]
  rcases AW.mp hq with rfl|h
  ·rw [beq_self_eq_true]
  ·have:(q.1==a)=false:=beq_eq_false_iff_ne.mpr λz=>hn.1 (BE.mpr ⟨q,h,z⟩)
   rw [this];exact ih hn.2 q h
noncomputable def A0j(N:Names)(elts:List Ak)(ks:List Nat):Bool:=decide ((elts.filterMap asN).length=elts.length)&&decide (((elts.filterMap asN).map (·.1)).Nodup)&&decide (ks.map (λk=>N.ns[k]?)=((elts.filterMap asN).map (·.1)).map some)
theorem C2{N:Names}{elts:List Ak}{ks:List Nat}(c:A0j N elts ks=true):TgtT N elts ks ((elts.filterMap asN).map (·.1)) (λx=>((elts.filterMap asN).lookup x).getD ⟨0,0,0,0⟩):=by
 unfold A0j at c
 simp only [Bv,decide_eq_true_eq] at c
 obtain ⟨⟨c1,c2⟩,c3⟩:=c
 have e:=YO c1
 generalize elts.filterMap asN=qs at*
 subst e
 have hl:ks.length=qs.length:=by have:=congrArg J0 c3;simpa using this
 refine ⟨λenv=>?_,λenv=>by rw [Nn,AD,hl],λenv=>?_,by rw [AD,hl],λi k h=>?_⟩
 ·rw [Nn,CP,CP]
  refine J5 λq hq=>?_
  show De (toN q) env= λv=>De (.Name q.1 _) env v
  rw [J0g c2 q hq];rfl
 ·rw [Nn,List.findIdx?_eq_none_iff]
  intro x hx
  obtain ⟨q,_,rfl⟩:=BE.mp hx
  rfl
 ·have hi:=congrArg (λl=>l[i]?) c3
  simp only [CH,h,L0Z] at hi
  obtain ⟨x,x1,x2⟩: ∃x,(qs.map (·.1))[i]?=some x∧N.ns[k]?=some x:=by
   rw [CH]
   cases z:qs[i]? with
   |none=>rw [z] at hi;cases hi
   |some y=>rw [z] at hi;exact ⟨y.1,rfl,by simpa using hi⟩
  exact ⟨x,x1,x2⟩
noncomputable def H0v(M:Names)(sc:Cn)(t:Tg):Bool:=t.ks.all λk=>match M.ns[k]? with
 |some x=>decide (sc.names.lookup x=some .local)
 |none=>true
theorem Ie{M:Names}{sc:Cn}{t:Tg}(c:H0v M sc t=true): ∀k∈t.ks,∀x,M.ns[k]?=some x→sc.names.lookup x=some .local:= λk hk x hx=>by
 have:=D1.mp c k hk
 rw [hx] at this
 exact of_decide_eq_true this
section
variable{w:A5}{K:Frag}{h₀:Heap}{mg mb:Str→Option Ab}{N:Names}{n:Nat}{gs:List Str}
theorem SoundI.weak{A B:List Nat}{tg e:Ak}{f:Iv}(hf:SoundI w h₀ n A N tg e f)(hA: ∀k∈A,k∈B):SoundI w h₀ n B N tg e f:=by
 intro R env ω s s' xs sh Q E hR S q k
 exact hf R env ω s s' xs sh Q E hR S q λω' h' tk I wr fr Src St S' st W a b c d=>k ω' h' tk I wr fr Src St S' (st.weak hA) W a b c d
theorem Om{n1 n2:Str}{p1 p2 p' tp:Pos}{kd kd':Nat}{e1 e2:Ak}{env:Env}(hl:(p2.line==p1.line)=true)(hst:([e1,e2].any λ |.Starred ..=>true|_=>false)=false)(hne:(n2==n1)=false)(hf:[e1,e2].all (N0a 8)=false)(hc:[e1,e2].all (M0X 8)=false)
  (hk:env.scope.kind=.function) (h1:env.kindOf n1=some .local) (h2:env.kindOf n2=some .local):Pm [.Tuple [.Name n1 p1,.Name n2 p2] kd tp] (.Tuple [e1,e2] kd' p') env=pure (some [n1,n2]):=by
 have hb:env.blockKind=.function:=by unfold M0x;rw [hk];rfl
 have hd:[n1,n2].eraseDups.length=2:=by simp [List.eraseDups_cons,hne]
 unfold Pm
 dsimp only
 rw [hb]
 have b1: ∀{c:Bool} {α:Type} {x y:Sem α},c=false→(if c=true then x else y)=y:= λh=>by rw [h];rfl
 refine (b1 rfl).trans ((b1 hst).trans ?_)
 have hn:([M0z n1 p1,M0z n2 p2].filterMap λ
  |.Name id pos=>if env.kindOf id==some .local&&pos.line==p1.line then some id else none
  |_=>none)=[n1,n2]:=by simp only [A08,List.filterMap_nil,h1,h2,hl,beq_self_eq_true,L0b,if_true]
 refine A03 (congrArg (λl:List Str=>if (l.length !=2||l.eraseDups.length !=l.length)=true then pure CE else if [e1,e2].all (N0a 8)=true then pure CE else if [e1,e2].all (M0X 8)=true then _ else pure (some l)) hn) ?_
 simp [hd,hf,hc]
theorem Dj{x:Str}{pos:Pos}{fv:FV}(T:TopF w K h₀ mg mb)(i:Nat)(h:RH[i]?=some (x,fv))(hx:x∈N.gs)(hd:(x==("__debug__":Str))=false):Sound w h₀ n [] N (.Name x pos) (Af fv):=by
 obtain ⟨v,h1,h2⟩:=T.val i _ h
 exact C0X T.gd.toBase hx h1 h2 hd
theorem F0V(T:TopF w K h₀ mg mb)(h:("_law_SECTIONS":Str)∈gs):Glb K mg gs "_law_SECTIONS" 571:=⟨h,(T.glb 0 _ rfl).1,(T.glb 0 _ rfl).2,rfl⟩
theorem G0c(T:TopF w K h₀ mg mb)(h:("_law_well":Str)∈gs):Glb K mg gs "_law_well" 576:=⟨h,(T.glb 1 _ rfl).1,(T.glb 1 _ rfl).2,rfl⟩
theorem DS(T:TopF w K h₀ mg mb)(h:("_law_draw":Str)∈gs):Glb K mg gs "_law_draw" 583:=⟨h,(T.glb 2 _ rfl).1,(T.glb 2 _ rfl).2,rfl⟩
theorem G0a(T:TopF w K h₀ mg mb)(h:("_law_plan":Str)∈gs):Glb K mg gs "_law_plan" 590:=⟨h,(T.glb 3 _ rfl).1,(T.glb 3 _ rfl).2,rfl⟩
theorem F0Z(T:TopF w K h₀ mg mb)(h:("_law_object":Str)∈gs):Glb K mg gs "_law_object" 597:=⟨h,(T.glb 4 _ rfl).1,(T.glb 4 _ rfl).2,rfl⟩
theorem G0f(T:TopF w K h₀ mg mb)(h:("rank_of":Str)∈gs):Glb K mg gs "rank_of" 388:=⟨h,(T.glb 5 _ rfl).1,(T.glb 5 _ rfl).2,rfl⟩
theorem G0d(T:TopF w K h₀ mg mb)(h:("link_objects":Str)∈gs):Glb K mg gs "link_objects" 564:=⟨h,(T.glb 6 _ rfl).1,(T.glb 6 _ rfl).2,rfl⟩
theorem G0e(T:TopF w K h₀ mg mb)(h:("map_text":Str)∈gs):Glb K mg gs "map_text" 26:=⟨h,(T.glb 7 _ rfl).1,(T.glb 7 _ rfl).2,rfl⟩
theorem Sh(T:TopF w K h₀ mg mb)(h:("_law_figures":Str)∈gs):Glb K mg gs "_law_figures" 604:=⟨h,(T.glb 8 _ rfl).1,(T.glb 8 _ rfl).2,rfl⟩
theorem G0b(T:TopF w K h₀ mg mb)(h:("_law_titles":Str)∈gs):Glb K mg gs "_law_titles" 609:=⟨h,(T.glb 9 _ rfl).1,(T.glb 9 _ rfl).2,rfl⟩
theorem F0W(T:TopF w K h₀ mg mb)(h:("_law_common":Str)∈gs):Glb K mg gs "_law_common" 616:=⟨h,(T.glb 10 _ rfl).1,(T.glb 10 _ rfl).2,rfl⟩
theorem F0Y(T:TopF w K h₀ mg mb)(h:("_law_laid":Str)∈gs):Glb K mg gs "_law_laid" 623:=⟨h,(T.glb 11 _ rfl).1,(T.glb 11 _ rfl).2,rfl⟩
theorem F0X(T:TopF w K h₀ mg mb)(h:("_law_due":Str)∈gs):Glb K mg gs "_law_due" 628:=⟨h,(T.glb 12 _ rfl).1,(T.glb 12 _ rfl).2,rfl⟩
theorem F0U(T:TopF w K h₀ mg mb)(h:("Section":Str)∈gs):Glb K mg gs "Section" 147:=⟨h,(T.glb 13 _ rfl).1,(T.glb 13 _ rfl).2,rfl⟩
theorem X0(T:TopF w K h₀ mg mb)(h:("ObjectSymbol":Str)∈gs):Glb K mg gs "ObjectSymbol" 175:=⟨h,(T.glb 14 _ rfl).1,(T.glb 14 _ rfl).2,rfl⟩
theorem F0T(T:TopF w K h₀ mg mb)(h:("ObjectFile":Str)∈gs):Glb K mg gs "ObjectFile" 224:=⟨h,(T.glb 15 _ rfl).1,(T.glb 15 _ rfl).2,rfl⟩
theorem F0R(T:TopF w K h₀ mg mb)(h:("Image":Str)∈gs):Glb K mg gs "Image" 356:=⟨h,(T.glb 16 _ rfl).1,(T.glb 16 _ rfl).2,rfl⟩
theorem F0Q(T:TopF w K h₀ mg mb)(h:("Definition":Str)∈gs):Glb K mg gs "Definition" 377:=⟨h,(T.glb 17 _ rfl).1,(T.glb 17 _ rfl).2,rfl⟩
theorem F0S(T:TopF w K h₀ mg mb)(h:("Linker":Str)∈gs):Glb K mg gs "Linker" 553:=⟨h,(T.glb 18 _ rfl).1,(T.glb 18 _ rfl).2,rfl⟩
theorem Hg(T:TopF w K h₀ mg mb)(h:("len":Str)∈gs):Blt mg gs "len" (.builtin "len"):=⟨h,T.miss 0 _ rfl,by left,by decide,rfl⟩
theorem D0L(T:TopF w K h₀ mg mb)(h:("int":Str)∈gs):Blt mg gs "int" (.type "int"):=⟨h,T.miss 1 _ rfl,by left,by decide,rfl⟩
theorem MV(T:TopF w K h₀ mg mb)(h:("str":Str)∈gs):Blt mg gs "str" (.type "str"):=⟨h,T.miss 2 _ rfl,by left,by decide,rfl⟩
theorem Ru(T:TopF w K h₀ mg mb)(h:("hex":Str)∈gs):Blt mg gs "hex" (.builtin "hex"):=⟨h,T.miss 3 _ rfl,by left,by decide,rfl⟩
theorem D0J(T:TopF w K h₀ mg mb)(h:("bytes":Str)∈gs):Blt mg gs "bytes" (.type "bytes"):=⟨h,T.miss 4 _ rfl,by left,by decide,rfl⟩
theorem MU(T:TopF w K h₀ mg mb)(h:("sorted":Str)∈gs):Blt mg gs "sorted" (.builtin "sorted"):=⟨h,T.miss 5 _ rfl,by left,by decide,rfl⟩
theorem Ki(T:TopF w K h₀ mg mb)(h:("max":Str)∈gs):Blt mg gs "max" (.builtin "max"):=⟨h,T.miss 6 _ rfl,by left,by decide,rfl⟩
theorem Ww(T:TopF w K h₀ mg mb)(h:("min":Str)∈gs):Blt mg gs "min" (.builtin "min"):=⟨h,T.miss 7 _ rfl,by left,by decide,rfl⟩
theorem MT(T:TopF w K h₀ mg mb)(h:("range":Str)∈gs):Blt mg gs "range" (.type "range"):=⟨h,T.miss 8 _ rfl,by left,by decide,rfl⟩
theorem IW(T:TopF w K h₀ mg mb)(h:("enumerate":Str)∈gs):Blt mg gs "enumerate" (.type "enumerate"):=⟨h,T.miss 9 _ rfl,by left,by decide,rfl⟩
theorem MS(T:TopF w K h₀ mg mb)(h:("bytearray":Str)∈gs):Blt mg gs "bytearray" (.type "bytearray"):=⟨h,T.miss 10 _ rfl,by left,by decide,rfl⟩
theorem D0M(T:TopF w K h₀ mg mb)(h:("list":Str)∈gs):Blt mg gs "list" (.type "list"):=⟨h,T.miss 11 _ rfl,by left,by decide,rfl⟩
theorem D0K(T:TopF w K h₀ mg mb)(h:("dict":Str)∈gs):Blt mg gs "dict" (.type "dict"):=⟨h,T.miss 12 _ rfl,by left,by decide,rfl⟩
theorem K9(T:TopF w K h₀ mg mb):MthA K 147 "size" 137:=T.mth 0 _ rfl
theorem H0F(T:TopF w K h₀ mg mb):MthA K 175 "is_defined" 172:=T.mth 1 _ rfl
theorem H02(T:TopF w K h₀ mg mb):MthA K 553 "define" 423:=T.mth 2 _ rfl
theorem H0D(T:TopF w K h₀ mg mb):MthA K 553 "take_object" 416:=T.mth 3 _ rfl
theorem H0A(T:TopF w K h₀ mg mb):MthA K 553 "missing" 428:=T.mth 4 _ rfl
theorem H01(T:TopF w K h₀ mg mb):MthA K 553 "check_missing" 435:=T.mth 5 _ rfl
theorem H04(T:TopF w K h₀ mg mb):MthA K 553 "groups" 442:=T.mth 6 _ rfl
theorem H08(T:TopF w K h₀ mg mb):MthA K 553 "lay_common" 456:=T.mth 7 _ rfl
theorem H07(T:TopF w K h₀ mg mb):MthA K 553 "lay" 449:=T.mth 8 _ rfl
theorem Yv(T:TopF w K h₀ mg mb):MthA K 553 "symbol_address" 463:=T.mth 9 _ rfl
theorem Yu(T:TopF w K h₀ mg mb):MthA K 553 "global_address" 470:=T.mth 10 _ rfl
theorem H0E(T:TopF w K h₀ mg mb):MthA K 553 "upper_parts" 512:=T.mth 11 _ rfl
theorem H03(T:TopF w K h₀ mg mb):MthA K 553 "fix" 505:=T.mth 12 _ rfl
theorem H0C(T:TopF w K h₀ mg mb):MthA K 553 "symbols" 526:=T.mth 13 _ rfl
theorem H09(T:TopF w K h₀ mg mb):MthA K 553 "lines" 531:=T.mth 14 _ rfl
theorem H06(T:TopF w K h₀ mg mb):MthA K 553 "is_taken" 543:=T.mth 15 _ rfl
theorem H0B(T:TopF w K h₀ mg mb):MthA K 553 "names" 536:=T.mth 16 _ rfl
theorem H05(T:TopF w K h₀ mg mb):MthA K 553 "image" 550:=T.mth 17 _ rfl
end
noncomputable abbrev tb:String→Option Dc:=Fast.tw14364793385576792824
noncomputable def NB:Env:={scope:=pg.main.scope,locals:=mainNs,globals:=mainNs,cells:=[],code:=.ref 13,frame:=some 14}
noncomputable def SE:List Bm:=behindTheImports pg
noncomputable def cE:Code:=.body SE NB
noncomputable def A0l:Nat→List Obj→BT→BT
 |_,[],t=>t
 |n,o::r,t=>A0l (n+1) r (t.ins n o)
noncomputable def toT(s:Ac):B0m:=⟨A0l 0 s.heap.objs.toList .nil,s.heap.objs.size,s.heap.life,s.gens,s.drawn,s.toks,s.os⟩
noncomputable def S0(w:A5)(os:Gq):Ac:=⟨EH w.params,#[],Uq,Ur,os⟩
noncomputable def Hd:Option Ab:=some (.ref 6)
noncomputable def goA(w:A5)(os:Gq):=Fast.tw15667345088766844465 tb pg w 11 Hd 12 (S0 w os) (Uv pg)
noncomputable def qv:B0h:=PySem.W.view pg [63]
noncomputable def R5:List Addr:=E0z.map (·.1)
noncomputable def E0f:List Addr:=R5++RL.map (·.1)
noncomputable def Zt(h:Heap)(a:Addr):List Addr:=match h.get? a with
 |some ⟨_,_,.func fd,_⟩=>(match fd.code with|.ref c=>[c]|_=>[])
 |some ⟨_,_,.cls cd,_⟩=>[cd.ns]
 |_=>[]
noncomputable def Xt(h:Heap):Frag:=(R5++R5.flatMap (Zt h)++E0f++E0f.flatMap (Zt h)).filterMap λa=>(h.get? a).map λo=>(a,o)
noncomputable def Fd:Type:=FuncBody×List (Str×Addr)×Addr×Addr×Cn×Ug×Ab
noncomputable def Kq(h:Heap)(f:Addr):Option Fd:=match h.get? f with
 |some ⟨_,_,.func fd,_⟩=>some (fd.body,fd.closure,fd.globals,fd.builtins,fd.scope,fd.params,fd.defaults)
 |_=>none
noncomputable def RX(st:Bm):Option Fd:=some (.stmts (bdS st),[],Fm,OZ,scS st,arS st,.none)
noncomputable def WK(K:Frag)(h:Heap)(f:Addr):Bool:=match h.get? f with
 |some ⟨_,_,.func fd,_⟩=>codeIn K fd.code fd.qualname
 |_=>false
noncomputable def vEq(a b:Option (Option Ab)):Bool:=a==b
noncomputable def Na(K:Frag)(C a:Nat):Bool:=plainGet K C (Bh a)&&hasDictIn K C&&vEq (EI K (.ref C) (Bh a)) (some none)&&vEq (EI K (.ref C) "__setattr__") (some (some (.builtin "object.__setattr__")))&&plainOver K C&&vEq (takerIn K C (Bh a)) (some none)
noncomputable def SJ(K:Frag)(e:Nat×Str×Nat):Bool:=vEq (EI K (.ref e.1) "__getattribute__") (some (some (.builtin "object.__getattribute__")))&&vEq (EI K (.ref e.1) "__getattr__") (some none)&&vEq (EI K (.ref e.1) e.2.1) (some (some (.ref e.2.2)))&&
 (L2 K (.ref e.2.2)==some (.type "function"))&&I2 K (.ref e.2.2)&&(HT e.1).all λa=> !(Bh a==e.2.1)
noncomputable def SG(K:Frag)(e:Nat×Nat):Bool:=Us K e.1&&vEq (EI K (.ref e.1) "__init__") (some (some (.ref e.2)))&&(L2 K (.ref e.2)==some (.type "function"))
noncomputable def XX(K:Frag)(h:Heap):Bool:=X7.all (λp=>I2 K (.ref p.2))&&R5.all (λC=>(HT C).all (Na K C))&&I0h.all (SJ K)&&E0z.all (SG K)&&RL.all (λp=>WK K h p.1)
noncomputable def YX(h:Heap):Bool:=X7.all (λp=>h.nsMap Fm p.1==some (.ref p.2))&&WB.all (λx=>(h.nsMap Fm x).isNone)&&h.nsMap Fm "law"==some (.ref 633)
noncomputable def Ld(s:Nm)(v:Ab):Bool:=match v with
 |.str x _=>x==S' s
 |_=>false
noncomputable def RG(h:Heap)(x:FV)(v:Ab):Bool:=match x,v with
 |.int i,.int j _=>i==j
 |.str s,v=>Ld s v
 |.tup xs,.ref a=>(match h.get? a with
  |some ⟨.type "tuple",none,.seq ys _,_⟩=>xs.length==ys.toList.length&&(xs.zip ys.toList).all λp=>match p.1 with
   |.str s=>Ld s p.2
   |_=>false
  |_=>false)
 |_,_=>false
noncomputable def WV(h:Heap):Bool:=RH.all λp=>match h.nsMap Fm p.1 with
 |some v=>RG h p.2 v
 |none=>false
noncomputable def XtB(s:Ac):Bool:=YX s.heap&&WV s.heap&&XX (Xt s.heap) s.heap
noncomputable def Jn(s:Ac):List (Option Fd):=RL.map λp=>Kq s.heap p.1
noncomputable def Jy:List (Option Fd):=RL.map λp=>RX p.2
noncomputable def Oa{α:Type}(w:A5)(os:Gq)(F:Flow×B0m×Code×Pos→α):Option α:=match goA w os with
 |some (s,_)=>(Fast.tw10110043849684766642 tb pg w 11 Hd 1 6000 (toT s) (piecesOf SE NB cE default [Ut default])).map F
 |none=>none
noncomputable def Ig:List Str:=pg.boundNames.filter λn=> !(n==("law":Str))
noncomputable def NH:List Str:=importedModules pg.main.body
noncomputable def K4(H0:Heap)(s:Ac):Bool:=staticsOk NH H0 s.heap&&namesBound pg s.heap&&gensDone s&&laidKept H0 s.heap
noncomputable def S9(H0:Heap)(r:Flow×B0m×Code×Pos):=(r.1,r.2.2.1,Jn r.2.1.abs,K4 H0 r.2.1.abs,M0I qv Ig NH XtB true r.2.1.abs)
noncomputable def Sl:=(Flow.next,cE,Jy,true,B0p qv Ig)
theorem E0g(w:A5)(os:Gq):Oa (w.withFollow "special-get-raises" false) os (S9 (EH (w.withFollow "special-get-raises" false).params))=some Sl:=by left
theorem E0h(w:A5)(os:Gq):Oa (w.withFollow "special-get-raises" true) os (S9 (EH (w.withFollow "special-get-raises" true).params))=some Sl:=by left
section
variable{s s1 s2:St}{f g h:Ev}{a b r v:V}{c:Cv}
theorem bS{α β:Type}{o:Option α}{x:α}{F:α→Option β}{y:Option β}(h:o=some x)(h2:F x=y):o.bind F=y:=h▸h2
theorem mS{α β:Type}{o:Option α}{x:α}{F:α→β}(h:o=some x):o.map F=some (F x):=h▸rfl
theorem atS{β:Type}{s:St}{o:Option β}{x:β}(h:o=some x):at_ s o=some (x,s):=h▸rfl
theorem iS{α:Type}{c:Prop}[Decidable c]{x:α}{y z:α}(h:c)(h2:x=z):(if c then x else y)=z:=(if_pos h).trans h2
theorem AG{op:St→V→V→Option V}(hf:f s=some (a,s1))(hg:g s1=some (b,s2))(ho:op s2 a b=some r):Ao op f g s=some (r,s2):=bS hf (bS hg (atS ho))
theorem A7{op:St→V→Option V}(hf:f s=some (a,s1))(ho:op s1 a=some r):Al op f s=some (r,s1):=bS hf (atS ho)
theorem By{op:St→V→V→Option Bool}{t:Bool}(hf:f s=some (a,s1))(hg:g s1=some (b,s2))(ho:op s2 a b=some t):AA op f g s=some (t,s2):=bS hf (bS hg (atS ho))
theorem WU{α:Type}{t:Bool}{x y R:α}(h1:t=true→x=R)(h2:t=false→y=R):cond t x y=R:=by
 cases t with
 |false=>exact h2 rfl
 |true=>exact h1 rfl
theorem G8{t:Bool}{R:Option (V×St)}(hc:c s=some (t,s1))(h1:t=true→f s1=R)(h2:t=false→g s1=R):E5 c f g s=R:=bS hc (WU h1 h2)
theorem Js{A B:Sv}(h:A s=some (.nx,s1)):Ae A B s=B s1:=bS h rfl
theorem Aj{A B:Sv}{R:Option (Fl×St)}(h:A s=some (.nx,s1))(h2:B s1=R):Ae A B s=R:=bS h h2
theorem CV{A B:Sv}(h:A s=some (.rt v,s1)):Ae A B s=some (.rt v,s1):=bS h rfl
theorem ED{o:Option St}(h:o=some s):nxt o=some (.nx,s):=h▸rfl
theorem BF{k:Nat}(h:f s=some (v,s1))(h2:E1 s1 k v=some s2):Bp k f s=some (.nx,s2):=bS h (ED h2)
theorem C1(h:f s=some (v,s1)):BN f s=some (.rt v,s1):=mS h
theorem Kp(h:f s=some (v,s1)):Hc f s=some (.nx,s1):=mS h
theorem Bs{t:Bool}{A B:Sv}{R:Option (Fl×St)}(hc:c s=some (t,s1))(h1:t=true→A s1=R)(h2:t=false→B s1=R):BB c A B s=R:=bS hc (WU h1 h2)
theorem E0{o i e:Ev}{w u j:V}{t t' s0:St}(h1:e s0=some (w,s))(h2:o s=some (u,s1))(h3:i s1=some (j,t))(h4:Mine.setItem u j w t=some t'):Di o i e s0=some (.nx,t'):=bS h1 (bS h2 (bS h3 (ED h4)))
theorem EX{o e:Ev}{k:Nat}{w u:V}{t s0:St}(h1:e s0=some (w,s))(h2:o s=some (u,s1))(h4:Mine.setAttr k u w s1=some t):Ba o k e s0=some (.nx,t):=bS h1 (bS h2 (ED h4))
theorem DR{o e:Ev}{w u:V}{t s0:St}(h1:o s0=some (u,s))(h2:e s=some (w,s1))(h4:Mine.append u w s1=some t):CJ o e s0=some (.nx,t):=bS h1 (bS h2 (ED h4))
theorem Bl{p:St→V→Bool}(hf:f s=some (a,s1))(hp:p s1 a=true):AH p f s=some (a,s1):=bS hf (if_pos hp)
theorem sq0:DD [] s=some ([],s):=rfl
theorem sq1{fs:List Ev}{vs:List V}(h1:f s=some (a,s1))(h2:DD fs s1=some (vs,s2)):DD (f::fs) s=some (a::vs,s2):=bS h1 (mS h2)
theorem Br{A:List Nat}{den:List V→List (Option O)→Option (V×List (Option O))}{fs:List Ev}{vs:List V}{m:List (Option V)}{l g g':List (Option O)}(h1:DD fs s=some (vs,⟨m,l,g⟩))(h2:vs.all V.noC=true)(h3:(A.all λj=> !(m.any (BP (V.onG j))))=true)(h4:den vs g=some (v,g')):
  AB A den fs s=some (v,⟨m,l,g'⟩):=bS h1 (iS (by rw [h2,h3];rfl) (mS h4))
theorem DL{fs:List Ev}{vs:List V}{xs:List FV}(h1:DD fs s=some (vs,s1))(h2:G4 vs=some xs):B8 fs s=some (.f (.tup xs),s1):=bS h1 (mS h2)
theorem Zv{v:V}(hv:v.noC=true):v.ret?=some v:=by cases v<;>first|rfl|cases hv
theorem J0w{n q:Nat}{B:Sv}{vs:List V}{g0:List (Option O)}(h:B ⟨vs.map some++BW (n - vs.length) none,BW q none,g0⟩=some (.rt v,s1))(hv:v.noC=true):Mine.run n q B vs g0=some (v,s1.g):=bS h (mS (Zv hv))
theorem Cw{n q:Nat}{B:Sv}{vs:List V}{g0 g1:List (Option O)}{m1:List (Option V)}{l1:List (Option O)}(h:B ⟨vs.map some++BW (n - vs.length) none,BW q none,g0⟩=some (.rt v,⟨m1,l1,g1⟩))(hv:v.noC=true):Mine.run n q B vs g0=some (v,g1):=bS h (mS (Zv hv))
theorem Hz{n q:Nat}{B:Sv}{vs:List V}{g0 g1:List (Option O)}{m1:List (Option V)}{l1:List (Option O)}(h:B ⟨vs.map some++BW (n - vs.length) none,BW q none,g0⟩=some (.nx,⟨m1,l1,g1⟩)):Mine.run n q B vs g0=some (.f .none,g1):=bS h rfl
theorem BK{t:Tg}{it:Iv}{B:Sv}{xs:List FV}{R:Option (Fl×St)}(h:it s=some (xs,s1))(h2:CB t B xs s1=R):Bn t it B s=R:=bS h h2
theorem J0n{i:Int}(h:f s=some (.f (.int i),s1))(hs:small i=true):I.range f s=some ((FF i.toNat).map λj=>FV.int (j:Nat),s1):=bS h (if_pos hs)
end
theorem Bt{t:Tg}{b:Sv}{x:FV}{s s1:St}{R:Option (Fl×St)}(h:t.put x s=some s1)(h2:b s1=R):stp t b x s=R:=bS h h2
theorem D5{t:Tg}{b:Sv}{x:FV}{r:List FV}{s s1:St}{fl:Fl}{R:Option (Fl×St)}(h:stp t b x s=some (fl,s1))(n:fl.isRt=false)(h2:CB t b r s1=R):CB t b (x::r) s=R:=bS h (by rw [n];exact h2)
inductive StepQ(t:Tg)(b:Sv)(x:FV)(Q:St→Prop)(σ:St):Prop
 |mk (fl:Fl) (σ1:St) (h:stp t b x σ=some (fl,σ1)) (n:fl.isRt=false) (i:Q σ1)
theorem F0F{t:Tg}{b:Sv}{I:List FV→St→Prop}(step: ∀x r σ,I (x::r) σ→StepQ t b x (I r) σ){P:Prop}: ∀{xs σ},I xs σ→(∀σ',CB t b xs σ=some (.nx,σ')→I [] σ'→P)→P:= λ{xs}=>by
 induction xs with
 |nil=>exact λh k=>k _ rfl h
 |cons x r ih=>exact λh k=>(step x r _ h).casesOn λfl σ1 e n i=>ih i λσ' e' i'=>k σ' (D5 e n e') i'
noncomputable def rng(i n:Nat):List FV:=(List.range' i n).map λ(j:Nat)=>FV.int j
theorem J0q(n:Nat):((FF ((n:Int)).toNat).map λj=>FV.int (j:Nat))=rng 0 n:=by rw [O9,List.range_eq_range'];rfl
theorem Zz(i n:Nat):(rng i n).length=n:=(AD _).trans List.length_range'
theorem Sa{t:Tg}{b:Sv}{I:Nat→St→Prop}{N:Nat}(step: ∀i σ,i<N→I i σ→StepQ t b (.int i) (I (i+1)) σ){P:Prop}: ∀{n i σ},i+n=N→I i σ→(∀σ',CB t b (rng i n) σ=some (.nx,σ')→I N σ'→P)→P:= λ{n}=>by
 induction n with
 |zero=>exact λe h k=>k _ rfl (e▸h)
 |succ n ih=>exact λe h k=>(step _ _ (by lia) h).casesOn λfl σ1 q m i=>ih (by lia) i λσ' e' i'=>k σ' (D5 q m e') i'
theorem Dy{α:Type}{f:α→FV}{t:Tg}{b:Sv}{xs:List α}{I:List α→St→Prop}(step: ∀d x r σ,xs=d++x::r→I d σ→StepQ t b (f x) (I (d++[x])) σ){P:Prop}: ∀{r d σ},xs=d++r→I d σ→(∀σ',CB t b (r.map f) σ=some (.nx,σ')→I xs σ'→P)→P:= λ{r}=>by
 induction r with
 |nil=>exact λe h k=>k _ rfl ((e.trans (CX _))▸h)
 |cons x r ih=>exact λe h k=>(step _ x r _ e h).casesOn λfl σ1 q m i=>ih (e.trans (OB _ _ _)) i λσ' e' i'=>k σ' (D5 q m e') i'
theorem Kr{α:Type}{f:α→FV}{t:Tg}{b:Sv}{xs:List α}{I:List α→St→Prop}(step: ∀d x r σ,xs=d++x::r→I d σ→StepQ t b (.tup [.int d.length,f x]) (I (d++[x])) σ){P:Prop}: ∀{r d σ},xs=d++r→I d σ→(∀σ',CB t b (Hl d.length (r.map f)) σ=some (.nx,σ')→I xs σ'→P)→P:= λ{r}=>by
 induction r with
 |nil=>exact λe h k=>k _ rfl ((e.trans (CX _))▸h)
 |cons x r ih=>exact λ{d _} e h k=>(step _ x r _ e h).casesOn λfl σ1 q m i=>ih (e.trans (OB _ _ _)) i λσ' e' i'=>k σ' (D5 q m ((show (d++[x]).length=d.length+1 from AU)▸e')) i'
theorem Nw{t:Tg}{f:Ev}{b:Sv}{n:Nat}{s s1:St}{R:Option (Fl×St)}(h:f s=some (.f (.int n),s1))(hn:small (n:Int)=true)(h2:CB t b (rng 0 n) s1=R):Bn t (I.range f) b s=R:=BK ((J0n h hn).trans (by rw [J0q])) h2
section
variable{t:Tg}{c:Cv}{e k:Ev}{x y:FV}{r xs ys:List FV}{s s1 s2 s3 s4:St}{A:List Nat}{n:Nat}{fr:List (Nat×Nat)}{it:Iv}{m m':List (Option V)}{l l' g g':List (Option O)}{es acc:List (Nm×FV)}{a:Nm}
theorem Kl(h1:t.put x s=some s1)(h2:c s1=some (true,s2))(h3:e s2=some (.f y,s3))(h4:DE t c e r s3=some (ys,s4)):DE t c e (x::r) s=some (y::ys,s4):=bS h1 (bS h2 (bS h3 (bS h4 rfl)))
theorem RE{R:Option (List FV×St)}(h1:t.put x s=some s1)(h2:c s1=some (false,s2))(h4:DE t c e r s2=R):DE t c e (x::r) s=R:=bS h1 (bS h2 h4)
theorem Kk(h1:it s=some (xs,⟨m,l,g⟩))(hl:xs.length≤16777216)(hA:(A.all λj=> !(m.any (BP (V.onG j))))=true)(h2:DE t c e xs ⟨F0 n fr m,l,g⟩=some (ys,⟨m',l',g'⟩)):Ft A n fr it t c e s=some (.f (.lst ys),⟨m,l',g'⟩):=bS h1 (iS (by rw [hA,Bool.and_true];exact decide_eq_true hl) (bS h2 rfl))
theorem E0J(h1:it s=some (xs,⟨m,l,g⟩))(hl:xs.length≤16777216)(h2:Mine.RC t c k e xs [] ⟨F0 n fr m,l,g⟩=some (es,⟨m',l',g'⟩)):Q4 n fr it t c k e s=some (.f (.dct es),⟨m,l',g'⟩):=bS h1 (iS hl (bS h2 rfl))
theorem E0I{R:Option (List (Nm×FV)×St)}(h1:t.put x s=some s1)(h2:c s1=some (true,s2))(h3:k s2=some (.f (.str a),s3))(h4:e s3=some (.f y,s4))(h5:Mine.RC t c k e r (AE acc a y) s4=R):Mine.RC t c k e (x::r) acc s=R:=bS h1 (bS h2 (bS h3 (bS h4 h5)))
theorem E0H{R:Option (List (Nm×FV)×St)}(h1:t.put x s=some s1)(h2:c s1=some (false,s2))(h5:Mine.RC t c k e r acc s2=R):Mine.RC t c k e (x::r) acc s=R:=bS h1 (bS h2 h5)
end
noncomputable def wl(ys:List Int)(p:Nat)(st:Int):Option O:=some (.list [.lst (ys.map FV.int),.int p,.int st])
inductive W:Option O→Prop
 |mk (ys:List Int) (p:Nat) (st:Int) (hl:ys.length≤24) (h0:0≤st) (h1:st<2147483647):W (wl ys p st)
def Drw(o o':Option O)(n:Int)(r:Nat):Prop:= ∀gr,Cq [.g 0,.f (.int n)] (o::gr)=some (.f (.int r),o'::gr)
theorem Iw{i:Int}(h0:0≤i)(h1:i<2147483647):small i=true:=by unfold small lim;simp only [Bv,decide_eq_true_eq];omega
theorem Ii{s:St}{i j:Int}(h:0<j):DJ s (.f (.int i)) (.f (.int j))=some (.f (.int (i % j))):=if_pos h
theorem NJ{s:St}{i j:Int}(h:small j=true):EU s (.f (.int i)) (.f (.int j))=some (.f (.int (i*j))):=if_pos (by rw [h];rfl)
theorem YI{s:St}{i j:Int}(h:small i=true):EU s (.f (.int i)) (.f (.int j))=some (.f (.int (i*j))):=if_pos (by rw [h,Bool.or_true])
theorem Nt{s:St}{i j:Int}(h:0<j)(hi:small i=true)(hj:small j=true):Gi s (.f (.int i)) (.f (.int j))=some (.f (.int (i/j))):=(if_pos h).trans ((if_pos hi).trans (if_pos hj))
theorem Jj{n:Nat}(h:n<1000000):Sz n=some (.f (.int n)):=if_pos (by lia)
theorem Nl{ys:List Int}{m:List (Option V)}{x:FV}{z:Int}{gr:List (Option O)}{p:Nat}(hl:ys.length≤24)(a:C0 ⟨m,[],some (.list [.lst (ys.map FV.int),x,.int z])::gr⟩ 0=some (.g 0))(b:C0 ⟨m,[],some (.list [.lst (ys.map FV.int),x,.int z])::gr⟩ 2=some (.f (.int p))):
  AA Hk (Aa 2) (Al Ei (Ao AQ (Aa 0) (Af (.int 0)))) ⟨m,[],some (.list [.lst (ys.map FV.int),x,.int z])::gr⟩=some (decide ((p:Int)<ys.length),⟨m,[],some (.list [.lst (ys.map FV.int),x,.int z])::gr⟩):=
 By (atS b) (A7 (AG (atS a) rfl rfl) ((Jj (by rw [AD];lia)).trans (by rw [AD]))) rfl
noncomputable def nst(st y:Int)(p:Nat):Int:=(st*48271+y*23+3*(p:Int)+19) % 2147483647
theorem Xd{ys:List Int}{p:Nat}{st n y r:Int}{gr:List (Option O)}
  (e1:E5 (AA Hk (Aa 2) (Al Ei (Ao AQ (Aa 0) (Af (.int 0))))) (Ao AQ (Ao AQ (Aa 0) (Af (.int 0))) (Aa 2)) (Af (.int 0))
   ⟨[some (.g 0),some (.f (.int n)),some (.f (.int p)),none],[],wl ys (p+1) st::gr⟩=some (.f (.int y),⟨[some (.g 0),some (.f (.int n)),some (.f (.int p)),none],[],wl ys (p+1) st::gr⟩))
  (e2:E5 (AA Hk (Aa 2) (Al Ei (Ao AQ (Aa 0) (Af (.int 0))))) (Ao DJ (Aa 3) (Aa 1)) (Ao DJ (Ao Gi (Ao AQ (Aa 0) (Af (.int 2))) (Af (.int 7))) (Aa 1))
   ⟨[some (.g 0),some (.f (.int n)),some (.f (.int p)),some (.f (.int y))],[],wl ys (p+1) (nst st y p)::gr⟩=some (.f (.int r),⟨[some (.g 0),some (.f (.int n)),some (.f (.int p)),some (.f (.int y))],[],wl ys (p+1) (nst st y p)::gr⟩)):
  Cq [.g 0,.f (.int n)] (wl ys p st::gr)=some (.f (.int r),wl ys (p+1) (nst st y p)::gr):=
 J0w (Aj (s1:=⟨[some (.g 0),some (.f (.int n)),some (.f (.int p)),none],[],wl ys p st::gr⟩) rfl (Aj (s1:=⟨[some (.g 0),some (.f (.int n)),some (.f (.int p)),none],[],wl ys (p+1) st::gr⟩) rfl (Aj (BF e1 rfl) (Aj (E0 (AG (AG (AG (AG (AG (AG rfl rfl rfl) rfl (NJ (by decide))) (AG rfl rfl (NJ (by decide))) rfl) (AG rfl rfl (YI (by decide))) rfl) rfl rfl) rfl (Ii (by decide))) rfl rfl rfl) (CV (C1 e2)))))) rfl
theorem XT{xs:List FV}{i:Nat}{x:FV}(h:xs[i]?=some x)(hl:i<1000000):Jh xs i=some (.f x):=(if_pos (Jz i)).trans ((if_pos (by unfold lim;lia)).trans (by rw [O9,h];rfl))
theorem G0y{s:St}{xs:List FV}{i:Int}{r:Option V}(h:Jh xs i=r):AQ s (.f (.lst xs)) (.f (.int i))=r:=h
theorem Kx{s:St}{xs:List FV}{i:Nat}{x:FV}(h:xs[i]?=some x)(hl:i<1000000):AQ s (.f (.lst xs)) (.f (.int i))=some (.f x):=G0y (XT h hl)
theorem YH{s:St}{i j r:Int}(h:0<j)(e:i % j=r):DJ s (.f (.int i)) (.f (.int j))=some (.f (.int r)):=e▸Ii h
theorem W.draw{o:Option O}{n:Int}(w:W o)(hn:0<n){P:Prop}(k: ∀(r:Nat) (o':Option O),Drw o o' n r→(r:Int)<n→W o'→P):P:=by
 cases w with|mk ys p st hl h0 h1=>
 have z: ∀y,0≤nst st y p∧nst st y p<2147483647:= λy=>⟨TC _ (by decide),TB _ (by decide)⟩
 by_cases hp:(p:Int)<ys.length
 ·have hq:p<ys.length:=Gl.mp hp
  have e:(ys.map FV.int)[p]?=some (.int ys[p]):=by rw [CH,Fc hq];rfl
  refine (A04 (TC ys[p] (TF hn))).elim λr hr=>?_
  exact k r (wl ys (p+1) (nst st ys[p] p)) (λgr=>Xd (y:=ys[p]) (G8 (Nl hl rfl rfl) (λ_=>AG rfl rfl (Kx e (by lia))) λh=>absurd hp (of_decide_eq_false h)) (G8 (Nl hl rfl rfl) (λ_=>AG rfl rfl (YH hn hr)) λh=>absurd hp (of_decide_eq_false h))) (hr▸TB _ hn) ⟨ys,p+1,_,hl,(z _).1,(z _).2⟩
 ·refine (A04 (TC (nst st 0 p/7) (TF hn))).elim λr hr=>?_
  exact k r (wl ys (p+1) (nst st 0 p)) (λgr=>Xd (y:=0) (G8 (Nl hl rfl rfl) (λh=>absurd (of_decide_eq_true h) hp) λ_=>rfl) (G8 (Nl hl rfl rfl) (λh=>absurd (of_decide_eq_true h) hp) λ_=>AG (AG (a:=.f (.int (nst st 0 p))) rfl rfl (Nt (by decide) (Iw (z 0).1 (z 0).2) (by decide))) rfl (YH hn hr))) (hr▸TB _ hn) ⟨ys,p+1,_,hl,(z _).1,(z _).2⟩
section
structure Sec where
 nm:Nm
 kd:Nm
 al:Nat
 sz:Nat
structure Nam where
 nm:Nm
 pl:Nm
 va:Nat
 sz:Nat
structure Ob where
 ti:Nm
 ss:List Sec
 ns:List Nam
noncomputable def Ca(s:Sec):FV:=.tup [.str s.nm,.str s.kd,.int s.al,.int s.sz]
noncomputable def Cz(n:Nam):FV:=.tup [.str n.nm,.str n.pl,.int n.va,.int n.sz]
noncomputable def fOb(o:Ob):FV:=.tup [.str o.ti,.lst (o.ss.map Ca),.lst (o.ns.map Cz)]
noncomputable def nText:Nm:=[46,116,101,120,116]
noncomputable def B9:Nm:=[116,101,120,116]
noncomputable def AX:Nm:=[42,99,111,109,109,111,110]
noncomputable def B1:Nm:=[115,116,97,114,116]
noncomputable def tab:List (Nm×Nm):=[([46,114,111,100,97,116,97],[114,111,100,97,116,97]),([46,100,97,116,97],[100,97,116,97]),([46,98,115,115],[98,115,115]),([46,116,101,120,116,46,109,111,114,101],[116,101,120,116]),([46,100,97,116,97,46,116,119,111],[100,97,116,97]),([46,98,115,115,46,116,119,111],[98,115,115]),([46,114,111,100,97,116,97,46,116,119,111],[114,111,100,97,116,97])]
noncomputable def Nr(t:Nm×Nm):FV:=.tup [.str t.1,.str t.2]
noncomputable def Lf:List Nm:=[[97,46,99],[98,46,99],[115,116,97,114,116]]
noncomputable def Ez:List Nm:=[[103],[95,97],[122,122]]
noncomputable def F1(j:Nat):Nm:=[98,111,116,104]++CS j
def HL(s:Sec):Prop:=(s.nm,s.kd)∈(nText,B9)::tab∧s.al∈[1,2,4,8,16]∧s.sz≤20
def US(k:Nat)(ss:List Sec)(j:Nat)(n:Nam):Prop:=(∃p∈Ez,n.nm=p++CS (10*k+j))∧(∃s∈ss,n.pl=s.nm∧n.va≤s.sz)∧n.sz=0
def UR(j:Nat)(n:Nam):Prop:=n.nm=F1 j∧n.pl=AX∧n.va∈[1,2,4,8]∧1≤n.sz∧n.sz≤9
noncomputable def st0(k:Nat):List Nam:=if k=0 then [⟨B1,nText,0,0⟩] else []
structure GOb(k:Nat)(o:Ob):Prop where
 ti:Lf[k]?=some o.ti
 sl:o.ss.length≤4
 ss: ∀s∈o.ss,HL s
 nd:(o.ss.map (·.nm)).Nodup
 tx:k=0→∃s∈o.ss,s.nm=nText
 ns: ∃own com,o.ns=st0 k++own++com∧own.length≤2∧com.length≤2∧(∀j n,own[j]?=some n→US k o.ss j n)∧∀j n,com[j]?=some n→UR j n
structure Good(pl:List Ob):Prop where
 len:pl.length≤3
 ne:pl≠[]
 ob: ∀k o,pl[k]?=some o→GOb k o
theorem J00{g:List (Option O)}:Mb [] g=some (.f (.lst (tab.map Nr)),g):=rfl
section
variable{m:List (Option V)}{l gr:List (Option O)}{o:Option O}
theorem Drw.e{o':Option O}{n:Int}{r:Nat}(d:Drw o o' n r){e:Ev}(h0:C0 ⟨m,l,o::gr⟩ 0=some (.g 0))(he:e ⟨m,l,o::gr⟩=some (.f (.int n),⟨m,l,o::gr⟩)):AB [] Cq [Aa 0,e] ⟨m,l,o::gr⟩=some (.f (.int r),⟨m,l,o'::gr⟩):=Br (sq1 (atS h0) (sq1 he sq0)) rfl rfl (d gr)
theorem ZA{s:St}: ∀xs:List FV,DD (xs.map Af) s=some (xs.map V.f,s)
 |[]=>rfl
 |x::r=>sq1 rfl (ZA r)
theorem Wb: ∀xs:List FV,G4 (xs.map V.f)=some xs
 |[]=>rfl
 |_::r=>mS (Wb r)
theorem Q5{s:St}{xs:List FV}:Cf (A.list (xs.map Af)) s=some (.f (.lst xs),s):=bS (bS (ZA xs) (mS (Wb xs))) rfl
def Pk(o o':Option O)(xs:List FV)(x:FV):Prop:= ∀m l gr,C0 ⟨m,l,o::gr⟩ 0=some (.g 0)→Ao AQ (Cf (A.list (xs.map Af))) (AB [] Cq [Aa 0,Af (.int xs.length)]) ⟨m,l,o::gr⟩=some (.f x,⟨m,l,o'::gr⟩)
theorem W.pick{α:Type}(w:W o)(f:α→FV)(xs:List α)(h0:0<xs.length)(hl:xs.length<100){P:Prop}(k: ∀a o',a∈xs→W o'→Pk o o' (xs.map f) (f a)→P):P:=
 w.draw (n:=(xs.map f).length) (by rw [AD];exact Gl.mpr h0) λr o' d hr w'=>
  have h:r<xs.length:=AD f▸Gl.mp hr
  k xs[r] o' (Lo h) w' λ_ _ _ e=>AG Q5 (d.e e rfl) (Kx (by rw [CH,Fc h];rfl) (by lia))
noncomputable def fI(i:Nat):FV:=.int i
end
noncomputable def J(j:Option FV):Option V:=j.map V.f
theorem D6{c:Nat}{j:Option FV}:BP (V.isC c) (J j)=false:=by cases j<;>rfl
theorem AS{c:Nat}{x:FV}{j:Option FV}:(J j).map (V.subC c x)=J j:=by cases j<;>rfl
theorem J0a{f g:Ev}{s s1:St}{k:Nat}{i:Nat}{xs:List FV}{m:List (Option V)}{l gr:List (Option O)}{x:FV}(hf:f s=some (.c k,s1))(hp:Gb s1 (.c k)=true)(hg:g s1=some (.f (.int i),⟨m,l,gr⟩))(hc:BY ⟨m,l,gr⟩ k=some (.list xs))(hi:xs[i]?=some x)(hl:xs.length≤16777216):
  Q6 (AH Gb f) g s=some (.f x,⟨m,l.set k (some (.list (xs.eraseIdx i))),gr⟩):=
 bS (Bl hf hp) (bS hg (bS hc (iS ⟨Jz i,hl⟩ (by rw [O9,hi];rfl))))
theorem Ow{ks:List Nat}{f:Ev}{s s1 s2:St}{xs:List FV}(h:f s=some (.f (.tup xs),s1))(h2:Hx ks xs s1=some s2):IK ks f s=some (.nx,s2):=bS h (ED h2)
theorem Hf{k:Nat}{xs:List FV}{x:FV}{m:List (Option V)}{l gr:List (Option O)}(h:BY ⟨m,l,gr⟩ k=some (.list xs))(hl:xs.length<AM):Mine.append (.c k) (.f x) ⟨m,l,gr⟩=some ⟨m,l.set k (some (.list (xs++[x]))),gr⟩:=bS h (if_pos hl)
theorem Ym{m:List (Option V)}{l gr:List (Option O)}{k:Nat}{xs:List FV}(h:BY ⟨m,l,gr⟩ k=some (.list xs))(hl:xs.length<1000000):Ei ⟨m,l,gr⟩ (.c k)=some (.f (.int xs.length)):=bS h (Jj hl)
theorem K0k: ∀a∈(nText,B9)::tab,∀b∈(nText,B9)::tab,a.1=b.1→a.2=b.2:=by decide
theorem Xk{α β:Type}(f:α→β): ∀(l:List α) (i:Nat),(l.map f).eraseIdx i=(l.eraseIdx i).map f
 |[],_=>rfl
 |_::_,0=>rfl
 |a::r,i+1=>congrArg (f a:: ·) (Xk f r i)
theorem Xl{α:Type}: ∀(l:List α) (i:Nat) (x:α),l[i]?=some x→(x::l.eraseIdx i).Perm l
 |[],_,_,h=>by simp at h
 |a::r,0,x,h=>by simp only [List.getElem?_cons_zero,N0V] at h;subst h;exact N0T _
 |a::r,i+1,x,h=>(L0q a x _).trans ((Xl r i x (by simpa using h)).cons a)
section
variable(k:Nat)(fd:List FV)(ln:Option O)(j8 j9 j10 j11:Option FV)(gr:List (Option O))
inductive PS(n:Nat):St→Prop
 |mk (secs:List Sec) (lf:List (Nm×Nm)) (o:Option O) (j5 j6 j7:Option FV) (S F:List FV) (eS:S=secs.map Ca) (eF:F=lf.map Nr) (w:W o) (h1:4+n≤lf.length) (h2:lf.length≤7) (h3:secs.length+n≤4) (hs: ∀s∈secs,HL s) (ht: ∀t∈lf,t∈tab) (nd:(secs.map (·.nm)++lf.map (·.1)).Nodup) (tx:k=0→∃s∈secs,s.nm=nText):
  PS n ⟨[some (.g 0),some (.c 0),some (.f (.int k)),some (.c 1),some (.c 2),J j5,J j6,J j7,J j8,J j9,J j10,J j11],[some (.list fd),some (.list S),some (.list F),ln],o::gr⟩
end
variable{k n:Nat}{fd:List FV}{ln:Option O}{j8 j9 j10 j11:Option FV}{gr:List (Option O)}
theorem I0o{secs:List Sec}{lf:List (Nm×Nm)}{i:Nat}{sc:Sec}{t:Nm×Nm}(h:lf[i]?=some t)(e:sc.nm=t.1)(nd:(secs.map (·.nm)++lf.map (·.1)).Nodup):((secs++[sc]).map (·.nm)++(lf.eraseIdx i).map (·.1)).Nodup:=by
 rw [B3,CO]
 have z:[sc].map (·.nm)++(lf.eraseIdx i).map (·.1)=(t::lf.eraseIdx i).map (·.1):=congrArg (· ::_) e
 rw [z]
 exact (((Xl lf i t h).map _).append_left _).nodup_iff.mpr nd
theorem ZL{α:Type}{p:α→Prop}{xs:List α}{x:α}(h: ∀y∈xs,p y)(hx:p x): ∀y∈xs++[x],p y:= λ_ hy=>(C7.mp hy).elim (h _) λz=>Bx.mp z▸hx
theorem J0h(z:FV)(r:List FV)(σ:St)(h:PS k fd ln j8 j9 j10 j11 gr (r.length+1) σ):StepQ (.one 5) M3 z (PS k fd ln j8 j9 j10 j11 gr r.length) σ:=
 h.casesOn λsecs lf o j5 j6 j7 S F eS eF w h1 h2 h3 hs ht nd tx=>
 have lF:F.length=lf.length:=eF▸AD _
 have lS:S.length=secs.length:=eS▸AD _
 w.draw (n:=F.length) (by lia) λi o1 d1 hi w1=>
 have hi:i<lf.length:=by lia
 have e:lf[i]?=some lf[i]:=Fc hi
 w1.pick fI [1,2,4,8,16] (by decide) (by decide) λal o2 hal w2 p2=>
 w2.draw (n:=21) (by decide) λq o3 d3 hq w3=>
 .mk .nx _ (Bt rfl (Aj (Ow (J0a (k:=2) (x:=Nr lf[i]) rfl rfl (d1.e rfl (A7 rfl (Ym rfl (by lia)))) rfl (by rw [eF,CH,e];rfl) (by lia)) rfl) (Aj (DR (Bl rfl rfl) (DL (sq1 rfl (sq1 rfl (sq1 (p2 _ _ _ rfl) (sq1 (d3.e rfl rfl) sq0)))) rfl) (Hf rfl (by unfold AM;lia))) rfl))) rfl
  (.mk (secs++[⟨lf[i].1,lf[i].2,al,q⟩]) (lf.eraseIdx i) o3 (some z) (some (.str lf[i].1)) (some (.str lf[i].2)) _ _ (by rw [eS,B3];rfl) (by rw [eF,Xk]) w3 (by rw [L05 hi];lia) (by rw [L05 hi];lia) (by rw [AU];show secs.length+1+r.length≤4;lia)
   (ZL hs ⟨.tail _ (ht _ (Lo hi)),hal,by lia⟩) (λt h=>ht t (List.mem_of_mem_eraseIdx h)) (I0o e rfl nd) λz=>(tx z).imp λ_ h=>⟨Ff _ h.1,h.2⟩)
end
section
theorem Ko{n k:Nat}(h:n<10^k)(hk:0<k):(CS n).length≤k:=by unfold CS;rw [AD];exact (L0R (by decide) hk).mpr h
theorem Oj{s:St}{n:Nat}{i:Int}(hi:i=(n:Int))(h:n<1000000000):Im s (.f (.int i))=some (.f (.str (CS n))):=by subst hi;exact if_pos h
theorem Fw{s:St}{x y:Nm}(h:x.length+y.length≤AM):Bf s (.f (.str x)) (.f (.str y))=some (.f (.str (x++y))):=if_pos h
theorem G0x{m:List (Option V)}{l gr:List (Option O)}{k:Nat}{i:Int}{xs:List FV}{r:Option V}(h:BY ⟨m,l,gr⟩ k=some (.list xs))(e:Jh xs i=r):AQ ⟨m,l,gr⟩ (.c k) (.f (.int i))=r:=bS h e
theorem G0w{m:List (Option V)}{l gr:List (Option O)}{k i:Nat}{xs:List FV}{x:FV}(h:BY ⟨m,l,gr⟩ k=some (.list xs))(hx:xs[i]?=some x)(hi:i<1000000):AQ ⟨m,l,gr⟩ (.c k) (.f (.int i))=some (.f x):=G0x h (XT hx hi)
theorem Tp{α:Type}{P:Nat→α→Prop}{l:List α}{a:α}(h: ∀j x,l[j]?=some x→P j x)(ha:P l.length a): ∀j x,(l++[a])[j]?=some x→P j x:= λj x hx=>by
 rcases L0U j l.length with q|q|q
 ·rw [L0z q] at hx;exact h j x hx
 ·subst q;simp at hx;subst hx;exact ha
 ·rw [GN (by simp;omega)] at hx;cases hx
theorem Ts(k:Nat):(st0 k).length≤1:=by unfold st0;split<;>simp
section
variable(k:Nat)(secs:List Sec)(S fd:List FV)(lv:Option O)(j5:Option FV)(gr:List (Option O))
inductive PN(i:Nat):St→Prop
 |mk (own:List Nam) (o:Option O) (j6 j7 j9 j10 j11:Option FV) (N:List FV) (eN:N=(st0 k++own).map Cz) (w:W o) (hl:own.length=i) (h: ∀j x,own[j]?=some x→US k secs j x):
  PN i ⟨[some (.g 0),some (.c 0),some (.f (.int k)),some (.c 1),some (.c 2),J j5,J j6,J j7,some (.c 3),J j9,J j10,J j11],[some (.list fd),some (.list S),lv,some (.list N)],o::gr⟩
end
variable{k i:Nat}{secs:List Sec}{S fd:List FV}{lv ls:Option O}{j5 j6 j7 j9 j10 j11:Option FV}{gr:List (Option O)}{base:List Nam}
theorem ZN{own:List Nam}{N:List FV}{x:Nam}(e:N=(base++own).map Cz):N++[Cz x]=(base++(own++[x])).map Cz:=by rw [e,←CO,B3 (l₂:=[x])];rfl
theorem I0U(hk:k<3)(hi2:i<2)(eS:S=secs.map Ca)(hs0:secs≠[])(hs4:secs.length≤4)(hsz: ∀s∈secs,s.sz≤20)(σ:St)(h:PN k secs S fd lv j5 gr i σ):StepQ (.one 9) M4 (.int i) (PN k secs S fd lv j5 gr (i+1)) σ:=
 h.casesOn λown o j6 j7 j9 j10 j11 N eN w hl h=>
 have hs1:=List.length_pos_iff.mpr hs0
 have lS:S.length=secs.length:=eS▸AD _
 have lN:N.length=(st0 k).length+own.length:=eN▸(AD _).trans AU
 have s0:=Ts k
 w.draw (n:=S.length) (by lia) λa o1 d1 ha w1=>
 have ha:a<secs.length:=by lia
 have e:secs[a]?=some secs[a]:=Fc ha
 have z:=hsz _ (Lo ha)
 w1.pick .str Ez (by decide) (by decide) λp o2 hp w2 p2=>
 w2.draw (n:=(secs[a].sz:Int)+1) (by lia) λq o3 d3 hq w3=>
 have hd:(CS (10*k+i)).length≤2:=Ko (by lia) (by decide)
 have hpl:=(by decide: ∀p∈Ez,p.length≤2) p hp
 .mk .nx _ (Bt rfl (Aj (Ow (AG rfl (d1.e rfl (A7 rfl (Ym rfl (by lia)))) (G0w rfl (by rw [eS,CH,e];rfl) (by lia))) rfl)
  (Aj (DR (Bl rfl rfl) (DL (sq1 (AG (p2 _ _ _ rfl) (A7 (AG (AG rfl rfl (YI (by decide))) rfl rfl) (Oj (n:=10*k+i) (by lia) (by lia))) (Fw (by unfold AM;lia))) (sq1 rfl (sq1 (d3.e rfl rfl) (sq1 rfl sq0)))) rfl) (Hf rfl (by unfold AM;lia))) rfl))) rfl
  (.mk (own++[⟨p++CS (10*k+i),secs[a].nm,q,0⟩]) o3 (some (.str secs[a].nm)) (some (.str secs[a].kd)) (some (.int i)) (some (.int secs[a].al)) (some (.int secs[a].sz)) _ (ZN (x:=⟨p++CS (10*k+i),secs[a].nm,q,0⟩) eN) w3 (by rw [AU,hl])
   (Tp h ⟨⟨p,hp,by rw [hl]⟩,⟨_,Lo ha,rfl,by show q≤_;lia⟩,rfl⟩))
section
variable(base:List Nam)(k:Nat)(fd:List FV)(lv ls:Option O)(j6 j7 j9 j10 j11:Option FV)(gr:List (Option O))
inductive PC(i:Nat):St→Prop
 |mk (com:List Nam) (o:Option O) (j5:Option FV) (N:List FV) (eN:N=(base++com).map Cz) (w:W o) (hl:com.length=i) (h: ∀j x,com[j]?=some x→UR j x):
  PC i ⟨[some (.g 0),some (.c 0),some (.f (.int k)),some (.c 1),some (.c 2),J j5,J j6,J j7,some (.c 3),J j9,J j10,J j11],[some (.list fd),ls,lv,some (.list N)],o::gr⟩
end
theorem Wa{q:Nat}:some (V.f (.int (1+(q:Int))))=some (V.f (.int ((1+q:Nat):Int))):=by rw [L0i];rfl
theorem D01{q:Nat}(a:Nat):some (V.f (.int ((a:Int)+(q:Int))))=some (V.f (.int ((a+q:Nat):Int))):=by rw [L0i]
theorem I0Q(hn:i<2)(hb:base.length≤3)(σ:St)(h:PC base k fd lv ls j6 j7 j9 j10 j11 gr i σ):StepQ (.one 5) M5 (.int i) (PC base k fd lv ls j6 j7 j9 j10 j11 gr (i+1)) σ:=
 h.casesOn λcom o j5 N eN w hl h=>
 have lN:N.length=base.length+com.length:=eN▸(AD _).trans AU
 w.pick fI [1,2,4,8] (by decide) (by decide) λal o2 hal w2 p2=>
 w2.draw (n:=9) (by decide) λq o3 d3 hq w3=>
 have hd:(CS i).length≤1:=Ko (by lia) (by decide)
 .mk .nx _ (Bt rfl (Aj (DR (Bl rfl rfl) (DL (sq1 (AG rfl (A7 rfl (Oj (n:=i) rfl (by lia))) (Fw (by show 4+_≤_;unfold AM;lia))) (sq1 rfl (sq1 (p2 _ _ _ rfl) (sq1 (AG rfl (d3.e rfl rfl) Wa) sq0)))) rfl) (Hf rfl (by unfold AM;lia))) rfl)) rfl
  (.mk (com++[Nam.mk (F1 i) AX al (1+q)]) o3 (some (.int i)) _ (ZN (x:=Nam.mk (F1 i) AX al (1+q)) eN) w3 (by rw [AU,hl];rfl) (Tp h ⟨by rw [hl],rfl,hal,by show 1≤1+q;lia,by show 1+q≤9;lia⟩))
end
theorem Ik{k c:Nat}{a:Av}{s s1 s2:St}{o:O}(h:a s=some (o,s1))(h2:Mine.SN k c o s1=some s2):Dr k c a s=some (.nx,s2):=bS h (ED h2)
theorem KL{k c:Nat}{o:O}{m:List (Option V)}{l g:List (Option O)}(hf:(m.set k none).any (BP (V.isC c))=false)(hc:A0J (c+1) l.length=true)(hk:A0J (k+1) m.length=true)(ho:o.okL=true):Mine.SN k c o ⟨m,l,g⟩=some ⟨m.set k (some (.c c)),l.set c (some o),g⟩:=if_pos (by unfold Se;dsimp only;rw [hf,ho,decide_eq_true (show c<l.length from ON hc),decide_eq_true (show k<m.length from ON hk)];rfl)
theorem F7{k:Nat}{m m':List (Option V)}{l g:List (Option O)}{o:O}{x:FV}(h:BY ⟨m,l,g⟩ k=some o)(hx:o.freeze=some x)(hm:m.map (·.map (V.subC k x))=m'):Ee k ⟨m,l,g⟩=some (.nx,⟨m',l.set k none,g⟩):=ED (by
 unfold Mine.Xx;rw [h];dsimp only;rw [hx,←hm];rfl)
theorem K3{fs:List Ev}{s s1:St}{vs:List V}{xs:List FV}(h1:DD fs s=some (vs,s1))(h2:G4 vs=some xs):A.list fs s=some (.list xs,s1):=bS h1 (mS h2)
theorem H0o{f:Ev}{s s1:St}{xs:List FV}(h:f s=some (.f (.lst xs),s1))(hl:xs.length≤16777216):Pu f s=some (.list xs,s1):=bS h (if_pos hl)
theorem Wi{c d:Cv}{s s1 s2:St}{t:Bool}(h1:c s=some (true,s1))(h2:d s1=some (t,s2)):FN c d s=some (t,s2):=bS h1 h2
theorem Rp{c d:Cv}{s s1:St}(h1:c s=some (false,s1)):FN c d s=some (false,s1):=bS h1 rfl
theorem Og{i:Nat}(h:i<1000):small (i:Int)=true:=Iw (by lia) (by lia)
noncomputable def z4(b:Bool):Option V:=if b then some (.c 2) else none
theorem XN{c:Nat}{b:Bool}(h:B6 2 c=false):BP (V.isC c) (z4 b)=false:=by
 cases b
 ·rfl
 ·exact h
theorem nc{p:V→Bool}{a:Option V}{r:List (Option V)}(h:BP p a=false)(t:r.any (BP p)=false):(a::r).any (BP p)=false:=by rw [OA,h,t];rfl
theorem NL{c k:Nat}{j6 j7 j9 j10 j11:Option FV}{a3 a4 a5 a8:Option V}(h:B6 0 c=false)(h3:BP (V.isC c) a3=false)(h4:BP (V.isC c) a4=false)(h5:BP (V.isC c) a5=false)(h8:BP (V.isC c) a8=false):[some (.g 0),some (.c 0),some (.f (.int k)),a3,a4,a5,J j6,J j7,a8,J j9,J j10,J j11].any (BP (V.isC c))=false:=nc rfl (nc h (nc rfl (nc h3 (nc h4 (nc h5 (nc D6 (nc D6 (nc h8 (nc D6 (nc D6 (nc D6 rfl)))))))))))
theorem pJ{p:V→Bool}{j:Option FV}(h: ∀x,p (.f x)=false):BP p (J j)=false:=by
 cases j with
 |none=>rfl
 |some x=>exact h x
theorem fJ{f:V→V}{j:Option FV}(h: ∀x,f (.f x)=.f x):(J j).map f=J j:=by
 cases j with
 |none=>rfl
 |some x=>exact congrArg some (h x)
theorem mc{f:V→V}{a b:Option V}{r s:List (Option V)}(h:a.map f=b)(t:r.map (·.map f)=s):(a::r).map (·.map f)=b::s:=h▸t▸rfl
theorem Tu{c:Nat}{x:FV}{a1 a2 a3 a4 a8 b1 b2 b3 b4 b8:Option V}{j5 j6 j7 j9 j10 j11:Option FV}(h1:a1.map (V.subC c x)=b1)(h2:a2.map (V.subC c x)=b2)(h3:a3.map (V.subC c x)=b3)(h4:a4.map (V.subC c x)=b4)(h8:a8.map (V.subC c x)=b8):
  [some (.g 0),a1,a2,a3,a4,J j5,J j6,J j7,a8,J j9,J j10,J j11].map (·.map (V.subC c x))=[some (.g 0),b1,b2,b3,b4,J j5,J j6,J j7,b8,J j9,J j10,J j11]:=
 mc rfl (mc h1 (mc h2 (mc h3 (mc h4 (mc AS (mc AS (mc AS (mc h8 (mc AS (mc AS (mc AS rfl)))))))))))
inductive PO(gr:List (Option O))(i:Nat):St→Prop
 |mk (obs:List Ob) (o l1 l2 l3:Option O) (b:Bool) (j2 j3 j5 j6 j7 j8 j9 j10 j11:Option FV) (B:List FV) (eB:B=obs.map fOb) (w:W o) (hl:obs.length=i) (h: ∀k x,obs[k]?=some x→GOb k x):
  PO gr i ⟨[some (.g 0),some (.c 0),J j2,J j3,z4 b,J j5,J j6,J j7,J j8,J j9,J j10,J j11],[some (.list B),l1,l2,l3],o::gr⟩
noncomputable def T3b:Sv:=
  (Ae (Dr 8 3 (Pr (AA Bj (Aa 2) (Af (.int 0))) (A.list [(B8 [(Af (.str [115,116,97,114,116])),(Af (.str [46,116,101,120,116])),(Af (.int 0)),(Af (.int 0))])]) (A.list [])))
  (Ae (Bn (.one 9) (I.range (E5 (AA E9 (Aa 3) (Cf (A.list []))) (AB [] Cq [(Aa 0),(Af (.int 3))]) (Af (.int 0)))) M4)
  (Ae (Bn (.one 5) (I.range (AB [] Cq [(Aa 0),(Af (.int 3))])) M5)
  (Ae (Ee 1)
  (Ae (Ee 3)
  (Ae (CJ (AH (CK []) (Aa 1)) (B8 [(Ao AQ (Cf (A.list [(Af (.str [97,46,99])),(Af (.str [98,46,99])),(Af (.str [115,116,97,114,116]))])) (Aa 2)),(Aa 3),(Aa 8)]))
  Ar))))))
noncomputable def T3a:Sv:=
  (Ae (Dr 4 2 (Pu (AB [] Mb [])))
  (Ae (Bn (.one 5) (I.range (AB [] Cq [(Aa 0),(Af (.int 4))])) M3) T3b))
noncomputable def T3s:Av:=A.list [(B8 [(Af (.str [46,116,101,120,116])),(Af (.str [116,101,120,116])),(Ao AQ (Cf (A.list [(Af (.int 1)),(Af (.int 2)),(Af (.int 4)),(Af (.int 16))])) (AB [] Cq [(Aa 0),(Af (.int 4))])),(Ao Bf (Af (.int 4)) (AB [] Cq [(Aa 0),(Af (.int 9))]))])]
section
variable{k:Nat}{B:List FV}{l1 l2 l3 o:Option O}{j3 j5 j6 j7 j8 j9 j10 j11:Option FV}{gr:List (Option O)}{b:Bool}{P:Prop}
def KA(P:Prop)(R:Option (Fl×St))(k:Nat)(B:List FV)(l3:Option O)(j8 j9 j10 j11:Option FV)(gr:List (Option O)):Prop:=
 ∀(secs:List Sec) F o5 a5 a6 a7,W o5→secs.length≤4→(∀s∈secs,HL s)→(secs.map (·.nm)).Nodup→(k=0→∃s∈secs,s.nm=nText)→
  R=T3b ⟨[some (.g 0),some (.c 0),some (.f (.int k)),some (.c 1),some (.c 2),J a5,J a6,J a7,J j8,J j9,J j10,J j11],[some (.list B),some (.list (secs.map Ca)),F,l3],o5::gr⟩→P
theorem Zm{secs:List Sec}(w:W o)(hs: ∀s∈secs,HL s)(hl:secs.length≤1)(nd:(secs.map (·.nm)++tab.map (·.1)).Nodup)(tx:k=0→∃s∈secs,s.nm=nText)
  (K:KA P (T3a ⟨[some (.g 0),some (.c 0),some (.f (.int k)),some (.c 1),z4 b,J j5,J j6,J j7,J j8,J j9,J j10,J j11],[some (.list B),some (.list (secs.map Ca)),l2,l3],o::gr⟩) k B l3 j8 j9 j10 j11 gr):P:=
 w.draw (n:=4) (by decide) λq o4 d hq w4=>
 F0F (I:= λr=>PS k B l3 j8 j9 j10 j11 gr r.length) J0h (xs:=rng 0 q) (.mk secs tab o4 j5 j6 j7 _ _ rfl rfl w4 (by rw [Zz];show _≤7;lia) (by decide) (by rw [Zz];lia) hs (λ_ h=>h) nd tx) λσ' e i=>by
  cases i with
  |mk secs lf o j5 j6 j7 S F eS eF w h1 h2 h3 hs ht nd tx=>
   subst eS
   exact K secs _ o j5 j6 j7 w h3 hs (J7.mp nd).1 tx (Aj (Ik (H0o (xs:=tab.map Nr) (Br sq0 rfl rfl J00) (by decide)) (KL (NL rfl rfl rfl D6 D6) rfl rfl rfl)) (Js (Nw (d.e rfl rfl) (Og (by lia)) e)))
theorem I0X{m:List (Option V)}{l:List (Option O)}(w:W o)(h0:C0 ⟨m,l,o::gr⟩ 0=some (.g 0))(h2:C0 ⟨m,l,o::gr⟩ 2=some (.f (.int k)))(K: ∀b o',W o'→(k=0→b=false)→(∀{A B:Sv} {R},(b=true→A ⟨m,l,o'::gr⟩=R)→(b=false→B ⟨m,l,o'::gr⟩=R)→BB (FN (AA Hj (Aa 2) (Af (.int 0))) (AA Bj (AB [] Cq [(Aa 0),(Af (.int 3))]) (Af (.int 0)))) A B ⟨m,l,o::gr⟩=R)→P):P:=by
 cases k with
 |zero=>exact K false o w (λ_=>rfl) λa b=>Bs (Rp (By (atS h2) rfl rfl)) a b
 |succ k=>exact w.draw (n:=3) (by decide) λq o' d _ w'=>K (decide ((q:Int)=0)) o' w' nofun λa b=>Bs (Wi (By (atS h2) rfl (congrArg some (decide_eq_true (by lia)))) (By (d.e h0 rfl) rfl rfl)) a b
theorem I0V(w:W o)(K:KA P (M6 ⟨[some (.g 0),some (.c 0),some (.f (.int k)),J j3,z4 b,J j5,J j6,J j7,J j8,J j9,J j10,J j11],[some (.list B),l1,l2,l3],o::gr⟩) k B l3 j8 j9 j10 j11 gr):P:=
 w.pick fI [1,2,4,16] (by decide) (by decide) λal o1 hal w1 p1=>
 w1.draw (n:=9) (by decide) λq o2 d2 hq w2=>
 have e1:Dr 3 1 T3s ⟨[some (.g 0),some (.c 0),some (.f (.int k)),J j3,z4 b,J j5,J j6,J j7,J j8,J j9,J j10,J j11],[some (.list B),l1,l2,l3],o::gr⟩=some (.nx,⟨[some (.g 0),some (.c 0),some (.f (.int k)),some (.c 1),z4 b,J j5,J j6,J j7,J j8,J j9,J j10,J j11],[some (.list B),some (.list ([⟨nText,B9,al,4+q⟩].map Ca)),l2,l3],o2::gr⟩):=by
  refine Ik (o:=.list ([⟨nText,B9,al,4+q⟩].map Ca)) (K3 (sq1 (DL (sq1 rfl (sq1 rfl (sq1 (p1 _ _ _ rfl) (sq1 (AG rfl (d2.e rfl rfl) (D01 4)) sq0)))) rfl) sq0) rfl) ?_
  exact KL (NL rfl rfl (XN rfl) D6 D6) rfl rfl rfl
 have e2: ∀o,Ae (Dr 3 1 (A.list [])) Ar ⟨[some (.g 0),some (.c 0),some (.f (.int k)),some (.c 1),z4 b,J j5,J j6,J j7,J j8,J j9,J j10,J j11],[some (.list B),some (.list ([⟨nText,B9,al,4+q⟩].map Ca)),l2,l3],o::gr⟩=some (.nx,⟨[some (.g 0),some (.c 0),some (.f (.int k)),some (.c 1),z4 b,J j5,J j6,J j7,J j8,J j9,J j10,J j11],[some (.list B),some (.list []),l2,l3],o::gr⟩):= λ_=>by
  refine Aj (Ik (o:=.list []) rfl ?_) rfl
  exact KL (NL rfl rfl (XN rfl) D6 D6) rfl rfl rfl
 I0X w2 rfl rfl λc o3 w3 hc h=>by
  cases c with
  |false=>exact Zm (secs:=[⟨nText,B9,al,4+q⟩]) w3 (λs hs=>Bx.mp hs▸⟨.head _,(by decide: ∀a∈[1,2,4,16],a∈[1,2,4,8,16]) _ hal,by show 4+q≤20;lia⟩) (A9 _) (by show (nText::tab.map (·.1)).Nodup;decide) (λ_=>⟨_,.head _,rfl⟩) λa b c d f g w x y z u t=>K a b c d f g w x y z u ((Aj e1 (Js (h (λq=>noT q) λ_=>rfl))).trans t)
  |true=>exact Zm (secs:=[]) w3 (λ_ h=>nomatch h) (C9 _) (by show (tab.map (·.1)).Nodup;decide) (λz=>noF (hc z)) λa b c d f g w x y z u t=>K a b c d f g w x y z u ((Aj e1 (Js (h (λ_=>e2 _) λq=>noF q))).trans t)
theorem J0Y{s:St}(h:C0 s 2=some (.f (.int k))):Pr (AA Bj (Aa 2) (Af (.int 0))) (A.list [(B8 [(Af (.str [115,116,97,114,116])),(Af (.str [46,116,101,120,116])),(Af (.int 0)),(Af (.int 0))])]) (A.list []) s=some (.list ((st0 k).map Cz),s):=by
 cases k with
 |zero=>exact bS (By (atS h) rfl rfl) rfl
 |succ k=>exact bS (By (atS h) rfl (congrArg some (decide_eq_false (by lia)))) rfl
theorem I0u{m:List (Option V)}{l:List (Option O)}{xs:List FV}(w:W o)(h0:C0 ⟨m,l,o::gr⟩ 0=some (.g 0))(h3:C0 ⟨m,l,o::gr⟩ 3=some (.c 1))(h1:BY ⟨m,l,o::gr⟩ 1=some (.list xs))(K: ∀(q:Nat) o',q≤2→(0<q→xs≠[])→W o'→E5 (AA E9 (Aa 3) (Cf (A.list []))) (AB [] Cq [(Aa 0),(Af (.int 3))]) (Af (.int 0)) ⟨m,l,o::gr⟩=some (.f (.int q),⟨m,l,o'::gr⟩)→P):P:=by
 have e:AA E9 (Aa 3) (Cf (A.list [])) ⟨m,l,o::gr⟩=some (!xs.isEmpty,⟨m,l,o::gr⟩):=By (atS h3) rfl (bS h1 rfl)
 cases xs with
 |nil=>exact K 0 o (C9 _) (λh=>nomatch h) w (G8 e (λz=>noT z) λ_=>rfl)
 |cons x r=>exact w.draw (n:=3) (by decide) λq o' d hq w'=>K q o' (by lia) (λ_=>nofun) w' (G8 e (λ_=>d.e h0 rfl) λz=>noF z)
theorem I0W{secs:List Sec}{F:Option O}{obs:List Ob}{a5 a6 a7:Option FV}(w:W o)(hk:k<3)(h4:secs.length≤4)(hs: ∀s∈secs,HL s)(nd:(secs.map (·.nm)).Nodup)(tx:k=0→∃s∈secs,s.nm=nText)(eB:B=obs.map fOb)(ho:obs.length=k)(h: ∀k x,obs[k]?=some x→GOb k x)
  (K: ∀σ',T3b ⟨[some (.g 0),some (.c 0),some (.f (.int k)),some (.c 1),some (.c 2),J a5,J a6,J a7,J j8,J j9,J j10,J j11],[some (.list B),some (.list (secs.map Ca)),F,l3],o::gr⟩=some (.nx,σ')→PO gr (k+1) σ'→P):P:=
 I0u (m:=[some (.g 0),some (.c 0),some (.f (.int k)),some (.c 1),some (.c 2),J a5,J a6,J a7,some (.c 3),J j9,J j10,J j11]) (l:=[some (.list B),some (.list (secs.map Ca)),F,some (.list ((st0 k).map Cz))]) w rfl rfl rfl λq o7 hq hne w7 h7=>
 Sa (I:=PN k secs (secs.map Ca) B F a5 gr) (N:=q) (λi σ hi=>I0U hk (by lia) rfl (λz=>hne (by lia) (by rw [z];rfl)) h4 (λs h=>(hs s h).2.2) σ) (Cc q) (.mk [] o7 a6 a7 j9 j10 j11 _ (by rw [CX]) w7 rfl nofun) λσ8 e8 i8=>by
  cases i8 with
  |mk own o8 b6 b7 b9 b10 b11 N eN w8 hl hown=>
   refine w8.draw (n:=3) (by decide) λq9 o9 d9 hq9 w9=>Sa (I:=PC (st0 k++own) k B F (some (.list (secs.map Ca))) b6 b7 b9 b10 b11 gr) (N:=q9) (λi σ hi=>I0Q (by lia) (by have:=Ts k;rw [AU];lia) σ) (Cc q9) (.mk [] o9 a5 N (eN.trans (by rw [CX])) w9 rfl nofun) λσ9 e9 i9=>?_
   cases i9 with
   |mk com o10 c5 M eM w10 hl9 hcom=>
    exact K _ (Aj (Ik (J0Y rfl) (KL (NL rfl rfl rfl D6 rfl) rfl rfl rfl)) (Aj (Nw h7 (Og (by lia)) e8) (Aj (Nw (d9.e rfl rfl) (Og (by lia)) e9) (Aj (F7 rfl rfl (Tu rfl rfl rfl rfl rfl)) (Aj (F7 rfl rfl (Tu rfl rfl rfl rfl rfl)) (Aj (DR (Bl rfl rfl) (DL (sq1 (AG (Q5 (xs:=Lf.map .str)) (atS rfl) (Kx (x:=.str Lf[k]) (by rw [CH,Fc hk];rfl) (by lia))) (sq1 (atS rfl) (sq1 (atS rfl) sq0))) rfl) (Hf rfl (by rw [eB,AD];unfold AM;lia))) rfl))))))
     (.mk (obs++[⟨Lf[k],secs,st0 k++own++com⟩]) o10 none F none true (some (.int k)) (some (.lst (secs.map Ca))) c5 b6 b7 (some (.lst M)) b9 b10 b11 _ (by rw [eB,eM,B3 (l₂:=[_])];rfl) w10 (by rw [AU,ho];rfl) (Tp h (by rw [ho];exact ⟨Fc hk,h4,hs,nd,tx,own,com,rfl,by lia,by lia,hown,hcom⟩)))
theorem I0Y(hk:k<3)(σ:St)(h:PO gr k σ):StepQ (.one 2) M6 (.int k) (PO gr (k+1)) σ:=
 h.casesOn λobs o l1 l2 l3 b j2 j3 j5 j6 j7 j8 j9 j10 j11 B eB w hl h=>I0V w λsecs F o5 a5 a6 a7 w5 h4 hs nd tx e=>I0W w5 hk h4 hs nd tx eB hl h λσ' e' i=>.mk .nx σ' (Bt rfl (e.trans e')) rfl i
end
theorem K0g{x:FV}{b:Bool}:(z4 b).map (V.subC 0 x)=z4 b:=by cases b<;>rfl
theorem GH{A B C:Sv}{s s1 s2:St}{v:V}(h:A s=some (.nx,s1))(h2:B s1=some (.rt v,s2)):Ae A (Ae B C) s=some (.rt v,s2):=Aj h (CV h2)
theorem I0T{o:Option O}{gr:List (Option O)}(w:W o){P:Prop}(K: ∀(pl:List Ob) (o':Option O),Q1 [.g 0] (o::gr)=some (.f (.lst (pl.map fOb)),o'::gr)→Good pl→W o'→P):P:=
 w.draw (n:=3) (by decide) λq o1 d hq w1=>
 Sa (I:=PO gr) (N:=1+q) (λi σ hi=>I0Y (by lia) σ) (Cc _) (.mk [] o1 none none none false none none none none none none none none none _ rfl w1 rfl nofun) λσ e i=>by
  cases i with
  |mk obs o2 l2 l3 l4 b j2 j3 j5 j6 j7 j8 j9 j10 j11 B eB w2 hl h=>
   subst eB
   exact K obs o2 (Cw (Aj rfl (Aj (Nw (AG rfl (d.e rfl rfl) Wa) (Og (by lia)) e) (GH (F7 rfl rfl (Tu rfl AS AS K0g AS)) (C1 (atS rfl))))) rfl) ⟨by lia,λz=>by (rw [z] at hl;exact Nat.zero_ne_add_one q (hl.trans (J8 1 q))),h⟩ w2
theorem SM{k:Nat}{a:Av}{s:St}{o:O}{m:List (Option V)}{l g:List (Option O)}(h:a s=some (o,⟨m,l,g⟩))(hc:(Nx k ⟨m,l,g⟩&&decide (k<g.length)&&o.okG)=true):Dq k a s=some (.g k,⟨m,l,g.set k (some o)⟩):=bS h (if_pos hc)
theorem N0D{g:List (Option O)}{ys:List Int}: ∀{j:Option V},∃j',DE (.one 0) HH (Ao DJ (Al SS (Aa 0)) (Af (.int 2147483647))) (ys.map FV.int) ⟨[j],[],g⟩=some ((ys.map (· % 2147483647)).map FV.int,⟨[j'],[],g⟩):=by
 induction ys with
 |nil=>exact λ{j}=>⟨j,rfl⟩
 |cons y r ih=>exact λ{j}=>(ih (j:=some (.f (.int y)))).imp λj' e=>Kl rfl rfl (AG (A7 (atS rfl) rfl) rfl (Ii (by decide))) e
theorem A0q{s:St}{xs:List FV}{n:Nat}(h:xs.length≤16777216):Ip s (.f (.lst xs)) (.f (.int n))=some (.f (.lst (xs.take n))):=by
 show Oy xs (n:Int)=_
 unfold Oy
 rw [if_pos (Jz n),if_pos h]
 rfl
theorem K0C{xs:List Int}(hl:xs.length≤63): ∃o:Option O,Q2 [.f (.lst (xs.map FV.int))] (BW 21 none)=some (.g 0,o::BW 20 none)∧W o:=
 have h:(xs.map FV.int).length=xs.length:=AD _
 have hu:I.of (Ao Ip (Aa 0) (Af (.int 24))) ⟨[some (.f (.lst (xs.map FV.int)))],[],BW 21 none⟩=some ((xs.take 24).map FV.int,⟨[some (.f (.lst (xs.map FV.int)))],[],BW 21 none⟩):=bS (AG (atS rfl) rfl (A0q (by lia))) (by rw [List.map_take];rfl)
 have hn: ∀s,Ei s (.f (.lst (xs.map FV.int)))=some (.f (.int xs.length)):= λ_=>by
  show Sz (xs.map FV.int).length=_
  rw [h];exact Jj (by lia)
 N0D.elim λj' e=>⟨wl ((xs.take 24).map (· % 2147483647)) 0 (70001+xs.length),by
  refine Cw (m1:=[some (.f (.lst (xs.map FV.int)))]) (l1:=[]) (CV (C1 ?_)) rfl
  exact SM (k:=0) (m:=[some (.f (.lst (xs.map FV.int)))]) (l:=[]) (g:=BW 21 none) (K3 (sq1 (Kk hu (by rw [AD,TM];lia) rfl e) (sq1 rfl (sq1 (AG rfl (A7 (atS rfl) (hn _)) rfl) sq0))) rfl) rfl,.mk _ 0 _ (by rw [AD,TM];lia) (by lia) (by lia)⟩
noncomputable def AO:Nm:=[98,115,115]
noncomputable def BA(s:Sec):FV:=.obj 147 [(0,.str s.nm),(1,.str s.kd),(2,.int s.al),(3,.fba (if s.kd=AO then 0 else s.sz)),(4,.int ((if s.kd=AO then s.sz else 0:Nat):Int)),(5,.lst [])]
noncomputable def EV(x:Nm):Nm:=[111,119,110]++x
noncomputable def NK:Nm:=[108,111,99,97,108]
noncomputable def YL:Nm:=[103,108,111,98,97,108]
noncomputable def CN(nm pl:Nm)(va:Nat)(bi:Nm)(sz:Nat):FV:=.obj 175 [(0,.str nm),(6,.str pl),(7,.int va),(8,.str bi),(9,.int sz)]
noncomputable def GF(s:Sec):FV:=CN (EV s.nm) s.nm s.sz NK 0
noncomputable def Dz(n:Nam):FV:=CN n.nm n.pl n.va YL n.sz
noncomputable def AP(o:Ob):FV:=.obj 224 [(0,.str o.ti),(10,.lst (o.ss.map BA)),(11,.lst (o.ss.map GF++o.ns.map Dz)),(12,.lst [])]
theorem GC{c:Nat}{j:Option FV}:BP (V.onG c) (J j)=false:=pJ λ_=>rfl
theorem A0a{c:Nat}{x:FV}{j:Option FV}:(J j).map (V.subG c x)=J j:=fJ λ_=>rfl
theorem F6{k:Nat}{m m':List (Option V)}{l g g':List (Option O)}{o:O}{x:FV}(h:BI ⟨m,l,g⟩ k=some o)(hx:o.freeze=some x)(hm:m.map (·.map (V.subG k x))=m')(hg:(g.set k none).map (·.map (QP (V.subG k x)))=g'):Mine.Jd k ⟨m,l,g⟩=some ⟨m',l,g'⟩:=by unfold Mine.Jd;rw [h];dsimp only;rw [hx,←hm,←hg];rfl
theorem Gj{k:Nat}{s s1:St}(h:Mine.Jd k s=some s1):D4 k s=some (.nx,s1):=ED h
theorem Kh{k:Nat}{xs:List FV}{x:FV}{m:List (Option V)}{l gr:List (Option O)}(h:BI ⟨m,l,gr⟩ k=some (.list xs))(hl:xs.length<AM):Mine.append (.g k) (.f x) ⟨m,l,gr⟩=some ⟨m,l,gr.set k (some (.list (xs++[x])))⟩:=bS h (if_pos hl)
theorem W0{f:Ev}{s s1:St}{n:Nat}(h:f s=some (.f (.int n),s1))(hn:n≤AM):A.ba f s=some (.ba n,s1):=bS h (if_pos hn)
theorem H0O{k:Nat}{f:Ev}{s s1 s2:St}{o:O}{x:FV}(h:f s=some (.g k,s1))(hc:BI s1 k=some o)(hx:o.freeze=some x)(hz:Mine.Jd k s1=some s2):JW k f s=some (.f x,s2):=bS h (iS (J9 k) (bS hc (bS hx (mS hz))))
noncomputable def gOb(wl secs syms:List FV)(ti:FV):List (Option O):=[some (.list wl),none,none,none,none,none,none,none,none,none,none,none,some (.inst 224 [(0,.f ti),(10,.g 13),(11,.g 14),(12,.g 15)]),some (.list secs),some (.list syms),some (.list []),none,none,none,none,none]
section
variable{wl secs syms:List FV}{ti sl nl:FV}{v:V}{j4 j5 j6 j7:Option FV}{v8:Option V}{j9 j10:Option FV}
noncomputable def mO(ti sl nl:FV)(v:V)(j4 j5 j6 j7:Option FV)(v8:Option V)(j9 j10:Option FV):List (Option V):=[some (.f ti),some (.f sl),some (.f nl),some v,J j4,J j5,J j6,J j7,v8,J j9,J j10]
theorem K7{p:V→Bool}(h: ∀x,p (.f x)=false)(hv:p v=false)(h8:BP p v8=false):(mO ti sl nl v j4 j5 j6 j7 v8 j9 j10).any (BP p)=false:=nc (h _) (nc (h _) (nc (h _) (nc hv (nc (pJ h) (nc (pJ h) (nc (pJ h) (nc (pJ h) (nc h8 (nc (pJ h) (nc (pJ h) rfl))))))))))
theorem SF{f:V→V}(h: ∀x,f (.f x)=.f x):(mO ti sl nl v j4 j5 j6 j7 v8 j9 j10).map (·.map f)=mO ti sl nl (f v) j4 j5 j6 j7 (v8.map f) j9 j10:=mc (congrArg some (h _)) (mc (congrArg some (h _)) (mc (congrArg some (h _)) (mc rfl (mc (fJ h) (mc (fJ h) (mc (fJ h) (mc (fJ h) (mc rfl (mc (fJ h) (mc (fJ h) rfl))))))))))
theorem H00{k:Nat}(hv:V.onG k v=false)(h8:BP (V.onG k) v8=false):([k].all λj=> !((mO ti sl nl v j4 j5 j6 j7 v8 j9 j10).any (BP (V.onG j))))=true:=by
 show (!_&&true)=true
 rw [K7 (λ_=>rfl) hv h8];rfl
theorem A0e{es:List Ev}{j8:Option FV}{nm pl bi:Nm}{va sz:Nat}(h:DD es ⟨mO ti sl nl (.g 12) j4 j5 j6 j7 (J j8) j9 j10,[],gOb wl secs syms ti⟩=some ([.f (.str nm),.f (.str pl),.f (.int va),.f (.str bi),.f (.int sz)],⟨mO ti sl nl (.g 12) j4 j5 j6 j7 (J j8) j9 j10,[],gOb wl secs syms ti⟩))(hl:syms.length<AM):
  CJ (AH (CK [20]) (Al (Ap 11) (Aa 3))) (JW 20 (AB [20] (mk 20 175 JR) es)) ⟨mO ti sl nl (.g 12) j4 j5 j6 j7 (J j8) j9 j10,[],gOb wl secs syms ti⟩=some (.nx,⟨mO ti sl nl (.g 12) j4 j5 j6 j7 (J j8) j9 j10,[],gOb wl secs (syms++[CN nm pl va bi sz]) ti⟩):=
 DR (u:=.g 14) (w:=.f (CN nm pl va bi sz)) (s:=⟨mO ti sl nl (.g 12) j4 j5 j6 j7 (J j8) j9 j10,[],gOb wl secs syms ti⟩) (s1:=⟨mO ti sl nl (.g 12) j4 j5 j6 j7 (J j8) j9 j10,[],gOb wl secs syms ti⟩) (Bl rfl rfl)
  (H0O (Br (g':=(gOb wl secs syms ti).set 20 (some (.inst 175 [(0,.f (.str nm)),(6,.f (.str pl)),(7,.f (.int va)),(8,.f (.str bi)),(9,.f (.int sz))]))) h rfl (H00 rfl GC) rfl) rfl rfl (F6 rfl rfl ((SF λ_=>rfl).trans (congrArg (mO ti sl nl (.g 12) j4 j5 j6 j7 · j9 j10) A0a)) rfl)) (Kh rfl hl)
end
section
variable{wl secs syms:List FV}{ti sl nl:FV}{j4 j5 j6 j7 j8 j9 j10:Option FV}{s:Sec}
noncomputable def Hn(wl secs syms:List FV)(ti:FV)(s:Sec)(f3 f4 f5:V)(c17 c18 c19:Option O):List (Option O):=
 [some (.list wl),none,none,none,none,none,none,none,none,none,none,none,some (.inst 224 [(0,.f ti),(10,.g 13),(11,.g 14),(12,.g 15)]),some (.list secs),some (.list syms),some (.list []),some (.inst 147 [(0,.f (.str s.nm)),(1,.f (.str s.kd)),(2,.f (.int s.al)),(3,f3),(4,f4),(5,f5)]),c17,c18,c19,none]
noncomputable def Ew(ti sl nl:FV)(j9 j10:Option FV)(s:Sec)(v8:Option V):List (Option V):=mO ti sl nl (.g 12) (some (.str s.nm)) (some (.str s.kd)) (some (.int s.al)) (some (.int s.sz)) v8 j9 j10
theorem K8{f:V→V}{v8 w:Option V}(h: ∀x,f (.f x)=.f x)(h12:f (.g 12)=.g 12)(e:v8.map f=w):(Ew ti sl nl j9 j10 s v8).map (·.map f)=Ew ti sl nl j9 j10 s w:=(SF h).trans (by rw [h12,e];rfl)
theorem J0y:Bp 8 (AB [16,17,18] (mk 16 147 Ma) [(Aa 4),(Aa 5),(Aa 6)]) ⟨Ew ti sl nl j9 j10 s (J j8),[],gOb wl secs syms ti⟩=some (.nx,⟨Ew ti sl nl j9 j10 s (some (.g 16)),[],Hn wl secs syms ti s (.g 17) (.f (.int 0)) (.g 18) (some (.ba 0)) (some (.list [])) none⟩):=
 BF (Br (g':=Hn wl secs syms ti s (.g 17) (.f (.int 0)) (.g 18) (some (.ba 0)) (some (.list [])) none) (sq1 (atS rfl) (sq1 (atS rfl) (sq1 (atS rfl) sq0))) rfl (by
  show (!_&&(!_&&(!_&&true)))=true
  unfold Ew
  rw [K7 (λ_=>rfl) rfl GC,K7 (λ_=>rfl) rfl GC,K7 (λ_=>rfl) rfl GC];rfl) rfl) rfl
theorem J0x{R:Sv}(hsz:s.sz≤AM):Ae (BB (AA Bj (Aa 5) (Af (.str [98,115,115]))) (Ae (Ba (Aa 8) 4 (Aa 7)) Ar) (Ae (Ba (Aa 8) 3 (Dq 19 (A.ba (Aa 7)))) Ar)) (Ae (D4 17) (Ae (D4 19) R)) ⟨Ew ti sl nl j9 j10 s (some (.g 16)),[],Hn wl secs syms ti s (.g 17) (.f (.int 0)) (.g 18) (some (.ba 0)) (some (.list [])) none⟩=
  R ⟨Ew ti sl nl j9 j10 s (some (.g 16)),[],Hn wl secs syms ti s (.f (.fba (if s.kd=AO then 0 else s.sz))) (.f (.int ((if s.kd=AO then s.sz else 0:Nat):Int))) (.g 18) none (some (.list [])) none⟩:=by
 have c:AA Bj (Aa 5) (Af (.str [98,115,115])) ⟨Ew ti sl nl j9 j10 s (some (.g 16)),[],Hn wl secs syms ti s (.g 17) (.f (.int 0)) (.g 18) (some (.ba 0)) (some (.list [])) none⟩=some (decide (s.kd=AO),⟨Ew ti sl nl j9 j10 s (some (.g 16)),[],Hn wl secs syms ti s (.g 17) (.f (.int 0)) (.g 18) (some (.ba 0)) (some (.list [])) none⟩):=By (atS rfl) rfl rfl
 by_cases k:s.kd=AO
 ·rw [decide_eq_true k] at c
  rw [if_pos k,if_pos k]
  refine Aj (Bs c (λ_=>Aj (s1:=⟨Ew ti sl nl j9 j10 s (some (.g 16)),[],Hn wl secs syms ti s (.g 17) (.f (.int s.sz)) (.g 18) (some (.ba 0)) (some (.list [])) none⟩) rfl rfl) λz=>noF z) (Aj (Gj (F6 rfl rfl (K8 (λ_=>rfl) rfl rfl) rfl)) (Js rfl))
 ·rw [decide_eq_false k] at c
  rw [if_neg k,if_neg k]
  refine Aj (Bs c (λz=>noT z) λ_=>Aj (EX (SM (W0 (atS rfl) hsz) ?_) (atS rfl) (t:=⟨Ew ti sl nl j9 j10 s (some (.g 16)),[],Hn wl secs syms ti s (.g 19) (.f (.int 0)) (.g 18) (some (.ba 0)) (some (.list [])) (some (.ba s.sz))⟩) rfl) rfl) (Aj (Gj (F6 (x:=.fba 0) rfl rfl (K8 (λ_=>rfl) rfl rfl) rfl)) (Js (Gj (F6 (x:=.fba s.sz) rfl rfl (K8 (λ_=>rfl) rfl rfl) rfl))))
  show (!_&&_&&_&&_)=true
  unfold Ew
  rw [K7 (λ_=>rfl) rfl rfl];rfl
theorem I0I(hs:HL s)(h1:secs.length<AM)(h2:syms.length<AM):
  stp (.many [4,5,6,7]) M0 (Ca s) ⟨mO ti sl nl (.g 12) j4 j5 j6 j7 (J j8) j9 j10,[],gOb wl secs syms ti⟩=
   some (.nx,⟨Ew ti sl nl j9 j10 s (J (some (BA s))),[],gOb wl (secs++[BA s]) (syms++[GF s]) ti⟩):=
 have hz:=hs.2.2
 Bt (s1:=⟨Ew ti sl nl j9 j10 s (J j8),[],gOb wl secs syms ti⟩) rfl (Aj J0y ((J0x (by unfold AM;lia)).trans (Aj (Gj (F6 rfl rfl (K8 (λ_=>rfl) rfl rfl) rfl)) (Aj (Gj (F6 (x:=BA s) (g':=gOb wl secs syms ti) rfl rfl (K8 (λ_=>rfl) rfl rfl) rfl)) (Aj (DR (u:=.g 13) (Bl rfl rfl) (atS rfl) (Kh (xs:=secs) (x:=BA s) rfl h1)) (Aj (A0e (secs:=secs++[BA s]) (j8:=some (BA s)) (sq1 (AG rfl (atS rfl) (Fw (by
  have:=(by decide: ∀t∈(nText,B9)::tab,t.1.length≤12) _ hs.1
  show 3+_≤_;unfold AM;lia))) (sq1 (atS rfl) (sq1 (atS rfl) (sq1 rfl (sq1 (a:=.f (.int (0:Nat))) rfl sq0))))) h2) rfl))))))
theorem I0J{n:Nam}(h2:syms.length<AM):
  stp (.many [4,9,10,7]) M1 (Cz n) ⟨mO ti sl nl (.g 12) j4 j5 j6 j7 (J j8) j9 j10,[],gOb wl secs syms ti⟩=
   some (.nx,⟨mO ti sl nl (.g 12) (some (.str n.nm)) j5 j6 (some (.int n.sz)) (J j8) (some (.str n.pl)) (some (.int n.va)),[],gOb wl secs (syms++[Dz n]) ti⟩):=
 Bt rfl (Aj (A0e (j4:=some (.str n.nm)) (j9:=some (.str n.pl)) (j10:=some (.int n.va)) (j7:=some (.int n.sz)) rfl h2) rfl)
inductive OI(wl:List FV)(ti sl nl:FV)(S Y:List FV):St→Prop
 |mk (j4 j5 j6 j7 j8 j9 j10:Option FV):OI wl ti sl nl S Y ⟨mO ti sl nl (.g 12) j4 j5 j6 j7 (J j8) j9 j10,[],gOb wl S Y ti⟩
theorem SH{α:Type}{f:α→FV}{d:List α}{x:α}:(d++[x]).map f=d.map f++[f x]:=B3
theorem leF{α:Type}{xs d r:List α}{x:α}(e:xs=d++x::r):d.length<xs.length:=by rw [e,AU];exact H8 (FH _)
theorem Eh{α:Type}{xs d r:List α}{x:α}(e:xs=d++x::r):x∈xs:=e▸GO _ (.head _)
theorem Ny{k:Nat}{v v':V}{l g g':List (Option O)}{o:O}{x:FV}(h:BI ⟨mO ti sl nl v j4 j5 j6 j7 (J j8) j9 j10,l,g⟩ k=some o)(hx:o.freeze=some x)(hv:V.subG k x v=v')(hg:(g.set k none).map (·.map (QP (V.subG k x)))=g'):D4 k ⟨mO ti sl nl v j4 j5 j6 j7 (J j8) j9 j10,l,g⟩=some (.nx,⟨mO ti sl nl v' j4 j5 j6 j7 (J j8) j9 j10,l,g'⟩):=Gj (F6 h hx ((SF λ_=>rfl).trans (by rw [hv,A0a])) hg)
end
theorem I02{wl:List FV}{o:Ob}(hl:o.ss.length≤4)(hs: ∀s∈o.ss,HL s)(hn:o.ns.length≤5):
  Mf [.f (.str o.ti),.f (.lst (o.ss.map Ca)),.f (.lst (o.ns.map Cz))] (some (.list wl)::BW 20 none)=some (.f (AP o),some (.list wl)::BW 20 none):=
 Dy (xs:=o.ss) (I:= λd=>OI wl (.str o.ti) (.lst (o.ss.map Ca)) (.lst (o.ns.map Cz)) (d.map BA) (d.map GF)) (f:=Ca) (t:=.many [4,5,6,7]) (b:=M0) (λd x r σ e h=>h.casesOn λj4 j5 j6 j7 j8 j9 j10=>
  have:=leF e
  .mk .nx _ (I0I (hs x (Eh e)) (by rw [AD];unfold AM;lia) (by rw [AD];unfold AM;lia)) rfl (by rw [SH,SH];exact .mk _ _ _ _ _ _ _)) (r:=o.ss) (d:=[]) rfl (.mk none none none none none none none) λσ e h=>by
 cases h with
 |mk j4 j5 j6 j7 j8 j9 j10=>
  refine Dy (xs:=o.ns) (I:= λd=>OI wl (.str o.ti) (.lst (o.ss.map Ca)) (.lst (o.ns.map Cz)) (o.ss.map BA) (o.ss.map GF++d.map Dz)) (f:=Cz) (t:=.many [4,9,10,7]) (b:=M1) (λd x r σ e h=>h.casesOn λj4 j5 j6 j7 j8 j9 j10=>
   have:=leF e
   .mk .nx _ (I0J (by rw [AU,AD,AD];unfold AM;lia)) rfl (by rw [SH,←CO];exact .mk _ _ _ _ _ _ _)) (r:=o.ns) (d:=[]) rfl (by rw [TN,CX];exact .mk j4 j5 j6 j7 j8 j9 j10) λσ e2 h=>?_
  cases h with
  |mk j4 j5 j6 j7 j8 j9 j10=>exact Cw (Aj (s1:=⟨mO (.str o.ti) (.lst (o.ss.map Ca)) (.lst (o.ns.map Cz)) (.g 12) none none none none (J none) none none,[],gOb wl [] [] (.str o.ti)⟩) rfl (Aj (BK (atS rfl) e) (Aj (BK (atS rfl) e2) (Aj (Ny rfl rfl rfl rfl) (Aj (Ny rfl rfl rfl rfl) (Aj (Ny rfl rfl rfl rfl) (GH (Ny (x:=AP o) rfl rfl rfl rfl) (C1 (atS rfl))))))))) rfl
structure Df where
 num:Nat
 n:Nam
 sz:Nat
 al:Nat
 ad:Nat
noncomputable def rk(n:Nam):Nat:=if n.pl=AX then 2 else 3
noncomputable def dFs(d:Df):List (Nat×FV):=[(17,.int (rk d.n)),(18,.int d.num),(19,Dz d.n),(9,.int d.sz),(2,.int d.al),(20,.int d.ad)]
noncomputable def ent(d:Df):Nm×List (Nat×FV):=(d.n.nm,dFs d)
noncomputable def DH(num:Nat)(n:Nam):Df:=⟨num,n,n.sz,if n.pl=AX then n.va else 1,0⟩
noncomputable def Ir{α:Type}(f:α→Nm):List α→Nm→Option Nat
 |[],_=>none
 |d::r,x=>if f d=x then some 0 else (Ir f r x).map (· +1)
noncomputable abbrev CD:List Df→Nm→Option Nat:=Ir λd=>d.n.nm
noncomputable def F9(d:Df)(n:Nam):Df:={d with sz:=max d.sz n.sz,al:=max d.al n.va}
noncomputable def Ds(num:Nat)(ds:List Df)(n:Nam):List Df:=match CD ds n.nm with
 |none=>ds++[DH num n]
 |some i=>match ds[i]? with
  |some d=>ds.set i (F9 d n)
  |none=>ds
theorem F8{α:Type}{c:Prop}[Decidable c]{x y z:α}{P:Prop}(h:(if c then x else y)=z)(h1:c→x=z→P)(h0: ¬c→y=z→P):P:=if q:c then h1 q ((if_pos q).symm.trans h) else h0 q ((if_neg q).symm.trans h)
theorem RS{x:Nm}{ds:List Df}:Ga (ds.map ent) x=CD ds x:=by
 induction ds with
 |nil=>rfl
 |cons d r ih=>exact congrArg (λz:Option Nat=>if d.n.nm=x then some 0 else z.map (· +1)) ih
theorem Xh{x:Nm}{ds:List Df}:CD ds x=none→Ay (ds.map ent) x=none:=by
 induction ds with
 |nil=>exact λ_=>rfl
 |cons d r ih=>exact λh=>F8 h (λ_ z=>noZ z) λq z=>(if_neg q).trans (ih (Ua.mp z))
theorem Td{α:Type}{f:α→Nm}{x:Nm}{ds:List α}: ∀{i:Nat},Ir f ds x=some i→∃d,ds[i]?=some d∧f d=x:=by
 induction ds with
 |nil=>exact λh=>noS h
 |cons d r ih=>exact λh=>F8 h (λq z=>An z▸⟨d,rfl,q⟩) λq z=>AV z λj e w=>w▸ih e
theorem KX{x:Nm}{ds:List Df}{i:Nat}(h:CD ds x=some i): ∃d,ds[i]?=some d∧d.n.nm=x:=Td h
theorem J0d{α:Type}{f:α→Nm}{x:Nm}{g:α}(e:f g=x){gs:List α}:Ir f gs x=none→Ir f (gs++[g]) x=some gs.length:=by
 induction gs with
 |nil=>exact λ_=>if_pos e
 |cons a r ih=>exact λh=>F8 h (λ_ z=>noZ z) λq z=>(if_neg q).trans (congrArg (Fh (· +1)) (ih (Ua.mp z)))
noncomputable def k10:Option Df→Option O
 |none=>none
 |some d=>some (.inst 377 [(17,.f (.int (rk d.n))),(18,.f (.int d.num)),(19,.f (Dz d.n)),(9,.f (.int d.sz)),(2,.f (.int d.al)),(20,.f (.int d.ad))])
theorem SP{k:Nat}{d:Option Df}:Ey (V.onG k) (k10 d)=false:=by cases d<;>rfl
noncomputable def LA(wl:List FV)(base:Int)(objs:List FV)(tabs:Nat)(ds:List Df)(d10:Option Df):List (Option O):=
 [some (.list wl),some (.inst 553 [(14,.f (.int base)),(21,.g 2),(22,.g 3),(23,.g 4),(24,.g 5),(25,.g 6),(26,.g 7),(15,.g 8),(3,.g 9),(4,.f (.int 0))]),some (.list objs),some (.jlist tabs),some (.ddict 377 (ds.map ent)),some (.dict []),some (.tdict []),some (.dict []),some (.list []),some (.ba 0),k10 d10,none,none,none,none,none,none,none,none,none,none]
theorem H0n{wl:List FV}{base:Int}:mk 1 553 LX [.f (.int base)] (some (.list wl)::BW 20 none)=some (.g 1,LA wl base [] 0 [] none):=by left
theorem G0B{n:Nam}{g:List (Option O)}(h:n.pl≠[]):Qz [.f (Dz n)] g=some (.f (.bool true),g):=by
 refine Cw (m1:=[some (.f (Dz n))]) (l1:=[]) (CV (C1 (mS (By (a:=.f (.str n.pl)) (b:=.f (.str [])) (t:=true) rfl rfl ?_)))) rfl
 show some (!decide (n.pl=[]))=_
 rw [decide_eq_false h];rfl
theorem NY{n:Nam}(h:n.pl=AX):rk n=2:=if_pos h
theorem Zy{n:Nam}(h:n.pl≠AX):rk n=3:=if_neg h
theorem J0o{n:Nam}{g:List (Option O)}:Q3 [.f (Dz n)] g=some (.f (.int (rk n)),g):=by
 have c:AA Bj (Al (Ap 6) (Aa 0)) (Af (.str [42,99,111,109,109,111,110])) ⟨[some (.f (Dz n))],[],g⟩=some (decide (n.pl=AX),⟨[some (.f (Dz n))],[],g⟩):=rfl
 by_cases h:n.pl=AX
 ·rw [NY h];exact Cw (CV (Bs c (λ_=>rfl) λz=>absurd h (of_decide_eq_false z))) rfl
 ·rw [Zy h];exact Cw (Aj (Bs c (λz=>absurd (of_decide_eq_true z) h) λ_=>rfl) rfl) rfl
theorem YG{k C:Nat}{init:List V→List (Option O)→Option (V×List (Option O))}{vs:List V}{g g':List (Option O)}(h1:A0J (k+1) g.length=true)(h2:g.any (Ey (V.onG k))=false)(h3:vs.any (V.onG k)=false)(h4:init (.g k::vs) (g.set k (some (.inst C [])))=some (.f .none,g')):mk k C init vs g=some (.g k,g'):=iS (by rw [decide_eq_true (show k<g.length from ON h1),h2,h3];rfl) (bS h4 rfl)
theorem rc{p:V→Bool}{a:Option O}{r:List (Option O)}(h:Ey p a=false)(t:r.any (Ey p)=false):(a::r).any (Ey p)=false:=by rw [OA,h,t];rfl
theorem I0q{num:Nat}{n:Nam}{s:St}(h1:C0 s 1=some (.f (.int (rk n))))(h3:C0 s 3=some (.f (Dz n))):E5 (AA Bj (Aa 1) (Af (.int 2))) (Al (Ap 7) (Aa 3)) (Af (.int 1)) s=some (.f (.int (DH num n).al),s):=by
 unfold DH
 by_cases q:n.pl=AX
 ·rw [NY q] at h1;rw [if_pos q];exact G8 (By (atS h1) rfl rfl) (λ_=>A7 (atS h3) rfl) λz=>noF z
 ·rw [Zy q] at h1;rw [if_neg q];exact G8 (By (atS h1) rfl rfl) (λz=>noT z) λ_=>rfl
theorem I0r{wl:List FV}{base:Int}{objs:List FV}{tabs:Nat}{ds:List Df}{d10:Option Df}{num:Nat}{n:Nam}:mk 10 377 LQ [.f (.int (rk n)),.f (.int num),.f (Dz n)] (LA wl base objs tabs ds d10)=some (.g 10,LA wl base objs tabs ds (some (DH num n))):=by
 refine YG rfl (rc rfl (rc rfl (rc rfl (rc rfl (rc rfl (rc rfl (rc rfl (rc rfl (rc rfl (rc rfl (rc SP rfl))))))))))) rfl ?_
 exact Hz (m1:=[some (.g 10),some (.f (.int (rk n))),some (.f (.int num)),some (.f (Dz n))]) (l1:=[]) (Aj (EX (atS rfl) (atS rfl) rfl) (Aj (EX (atS rfl) (atS rfl) rfl) (Aj (EX (atS rfl) (atS rfl) rfl) (Aj (EX (A7 (atS rfl) rfl) (atS rfl) rfl) (Aj (EX (I0q rfl rfl) (atS rfl) rfl) rfl)))))
section
variable{wl:List FV}{base:Int}{objs:List FV}{tabs:Nat}{ds:List Df}{d10:Option Df}{m:List (Option V)}{l:List (Option O)}{a i:Nat}{d d':Df}{x:FV}
theorem Jb(hd:ds[i]?=some d):(ds.map ent)[i]?=some (ent d):=by rw [CH,hd];rfl
theorem Rt(hd:ds[i]?=some d)(ha:okA 377 a=true)(hx:GB (dFs d) a=some x):Ap a ⟨m,l,LA wl base objs tabs ds d10⟩ (.d 4 i)=some (.f x):=bS (Jb hd) (iS ha (mS hx))
theorem ZE(hd:ds[i]?=some d)(ha:okA 377 a=true)(hx:ent d'=(d.n.nm,Ht (dFs d) a x)):Mine.setAttr a (.d 4 i) (.f x) ⟨m,l,LA wl base objs tabs ds d10⟩=some ⟨m,l,LA wl base objs tabs (ds.set i d') d10⟩:=bS (Jb hd) (iS (by rw [ha];rfl) (by unfold LA;rw [TO,hx];rfl))
theorem KC{s:St}{a b:Nat}:Il s (.f (.int a)) (.f (.int b))=some (.f (.int ((max a b:Nat):Int))):=congrArg (λz=>some (V.f (.int z))) (show (if (a:Int)<b then (b:Int) else a)=_ by split<;>lia)
theorem G05{num:Nat}{n:Nam}(hm:m.any (BP (V.onD 4))=false)(hp:CD ds n.nm=none)(hl:ds.length<1000):Mine.N0J 4 (.g 4) (.f (.str n.nm)) (.g 10) ⟨m,l,LA wl base objs tabs ds (some (DH num n))⟩=some ⟨m,l,LA wl base objs tabs (ds++[DH num n]) none⟩:=by
 show (match Ay (ds.map ent) n.nm with|none=>_|some _=>none)=_
 rw [Xh hp]
 refine iS ?_ ?_
 ·show (true&&true&&true&&decide ((ds.map ent).length<16000000)&& !m.any (BP (V.onD 4))&&true)=true
  rw [hm,decide_eq_true (by rw [AD];lia)];rfl
 ·unfold LA;rw [B3];rfl
noncomputable def sDf(wl:List FV)(base:Int)(objs:List FV)(tabs num:Nat)(n:Nam)(v:Option V)(ds:List Df)(d10:Option Df):St:=⟨[some (.g 1),some (.g 10),some (.f (.str n.nm)),v],[],LA wl base objs tabs ds d10⟩
theorem E0X{num:Nat}{n:Nam}(hok: ∀d∈ds,d.n.nm=n.nm→d.n.pl=AX∧n.pl=AX)(hl:ds.length<1000):
  ∃d10',Qo [.g 1,.g 10] (LA wl base objs tabs ds (some (DH num n)))=some (.f .none,LA wl base objs tabs (Ds num ds n) d10'):=by
 unfold Ds
 have g:SQ (sDf wl base objs tabs num n none ds (some (DH num n))) (.g 4) (.f (.str n.nm))=some (orD 4 (CD ds n.nm)):=by rw [←RS];rfl
 cases hp:CD ds n.nm with
 |none=>exact ⟨none,Hz (m1:=[some (.g 1),some (.g 10),some (.f (.str n.nm)),some (.f .none)]) (l1:=[]) (Aj (s1:=sDf wl base objs tabs num n none ds (some (DH num n))) rfl (Aj (BF (AG (Bl rfl rfl) (atS rfl) (g.trans (congrArg (λz=>some (orD 4 z)) hp))) (s2:=sDf wl base objs tabs num n (some (.f .none)) ds (some (DH num n))) rfl) (Aj (Bs (t:=true) rfl (λ_=>Aj (bS rfl (bS rfl (bS rfl (ED (G05 rfl hp hl))))) rfl) λz=>noF z) rfl)))⟩
 |some i=>
  refine (KX hp).elim λd hd=>?_
  have c:=hok d (As hd.1) hd.2
  have r1:=NY c.1
  have r2:=NY c.2
  have al:(DH num n).al=n.va:=if_pos c.2
  have hi:=(DN.mp hd.1).1
  dsimp only;rw [hd.1]
  have e17: ∀{x:Int} {b:Bool},decide (2=x)=b→AA Bj (Al (Ap 17) (Aa 3)) (Af (.int x)) (sDf wl base objs tabs num n (some (.d 4 i)) ds (some (DH num n)))=some (b,sDf wl base objs tabs num n (some (.d 4 i)) ds (some (DH num n))):= λe=>By (A7 (atS rfl) (Rt hd.1 rfl rfl)) rfl (by rw [r1,←e];rfl)
  exact ⟨some (DH num n),Hz (m1:=[some (.g 1),some (.g 10),some (.f (.str n.nm)),some (.d 4 i)]) (l1:=[]) (Aj (s1:=sDf wl base objs tabs num n none ds (some (DH num n))) rfl (Aj (BF (AG (Bl rfl rfl) (atS rfl) (g.trans (congrArg (λz=>some (orD 4 z)) hp))) (s2:=sDf wl base objs tabs num n (some (.d 4 i)) ds (some (DH num n))) rfl) (Aj (Bs (t:=false) rfl (λz=>noT z) λ_=>Aj (Bs (Rp (e17 rfl)) (λz=>noT z) λ_=>Aj (Bs (Wi (e17 rfl) (By (a:=.f (.int (rk n))) rfl rfl (by rw [r2];rfl))) (λ_=>
   Aj (EX (AG (A7 (atS rfl) (Rt hd.1 rfl rfl)) (A7 (atS rfl) rfl) KC) (atS rfl) (ZE (d':={d with sz:=max d.sz n.sz}) hd.1 rfl rfl))
   (Aj (EX (w:=.f (.int (F9 d n).al)) (AG (A7 (atS rfl) (Rt (OF hi) rfl rfl)) (A7 (atS rfl) rfl) (by rw [al];exact KC)) (atS rfl) (ZE (d':=F9 d n) (OF hi) rfl rfl)) (by rw [L0J];rfl))) λz=>noF z) rfl) rfl) rfl)))⟩
end
theorem RP{α:Type}{x:Nm}{es:List (Nm×α)}:x∉es.map (·.1)→Ay es x=none:=by
 induction es with
 |nil=>exact λ_=>rfl
 |cons a r ih=>exact λh=>(if_neg λq:a.1=x=>h (q▸.head _)).trans (ih λz=>h (.tail _ z))
theorem Nk{α:Type}{x:Nm}{y:α}{es:List (Nm×α)}:x∉es.map (·.1)→AE es x y=es++[(x,y)]:=by
 induction es with
 |nil=>exact λ_=>rfl
 |cons a r ih=>exact λh=>(if_neg λq:a.1=x=>h (q▸.head _)).trans (congrArg (a:: ·) (ih λz=>h (.tail _ z)))
theorem VZ{num:Nat}{ds:List Df}{n:Nam}{P:Prop}(h1:CD ds n.nm=none→Ds num ds n=ds++[DH num n]→P)(h2: ∀i d,CD ds n.nm=some i→ds[i]?=some d→d.n.nm=n.nm→Ds num ds n=ds.set i (F9 d n)→P):P:=by
 unfold Ds at h1 h2
 cases hp:CD ds n.nm with
 |none=>exact h1 hp (by rw [hp])
 |some i=>exact (KX hp).elim λd h=>h2 i d hp h.1 h.2 (by rw [hp];dsimp only;rw [h.1])
theorem D00{num:Nat}{ds:List Df}{n:Nam}{d:Df}(h:d∈Ds num ds n):(∃d0∈ds,d0.n=d.n)∨d.n=n:=VZ (λ_ e=>(C7.mp (e▸h)).elim (λh=>.inl ⟨d,h,rfl⟩) λh=>.inr (Bx.mp h▸rfl)) λi d1 _ h1 _ e=>(TQ (show d∈ds.set i (F9 d1 n) from e▸h)).elim (λh=>.inl ⟨d,h,rfl⟩) λh=>.inl ⟨d1,As h1,h▸rfl⟩
theorem D0z{num:Nat}{ds:List Df}{n:Nam}:(Ds num ds n).length≤ds.length+1:=VZ (λ_ e=>by rw [e,AU];exact A9 _) λ_ _ _ _ _ e=>by rw [e,H7];exact CZ _
theorem Xp{num:Nat}{ns:List Nam}{d:Df}: ∀{ds:List Df},d∈ns.foldl (Ds num) ds→(∃d0∈ds,d0.n=d.n)∨d.n∈ns:=by
 induction ns with
 |nil=>exact λh=>.inl ⟨d,h,rfl⟩
 |cons n r ih=>exact λh=>(ih h).elim (λh=>h.elim λd0 h=>(D00 h.1).elim (λk=>.inl (k.imp λ_ k=>⟨k.1,k.2.trans h.2⟩)) λk=>.inr (h.2▸k▸.head _)) λh=>.inr (.tail _ h)
theorem Xo{num:Nat}{ns:List Nam}: ∀{ds:List Df},(ns.foldl (Ds num) ds).length≤ds.length+ns.length:=by
 induction ns with
 |nil=>exact A9 _
 |cons n r ih=>exact λ{ds}=>A8 ih (by have:=D0z (num:=num) (ds:=ds) (n:=n);show _≤_+(r.length+1);lia)
def HN(ds:List Df)(rn:List Nam):Prop:= ∀n∈rn,∀d∈ds,d.n.nm=n.nm→d.n.pl=AX∧n.pl=AX
noncomputable def mT(ob:FV)(num:Nat)(j4:Option FV):List (Option V):=[some (.g 1),some (.f ob),some (.f (.int num)),some (.c 0),J j4]
theorem NM{α β:Type}{f:α→β}{A:List β}{xs d r:List α}{x:α}(e:xs=d++x::r)(h:(A++xs.map f).Nodup):f x∉A++d.map f:=by
 rw [e,B3,←CO] at h
 exact λz=>(J7.mp h).2.2 _ z _ (.head _) rfl
theorem Xr{t:Tg}{b:Sv}{xs ys:List FV}{s1:St}{R:Option (Fl×St)}(h2:CB t b ys s1=R): ∀{s},CB t b xs s=some (.nx,s1)→CB t b (xs++ys) s=R:=by
 induction xs with
 |nil=>exact λh=>by cases h;exact h2
 |cons x r ih=>exact λh=>Ax h λp e h=>HV h (λn h=>by cases h;cases n) λn h=>D5 e n (ih h)
theorem Lc{f:Ev}{s s1 s2:St}{v:V}{r:List Src}{vs:List Got}(h:f s=some (v,s1))(h2:EZ r s1=some (vs,s2)):EZ (.e f::r) s=some (.v v::vs,s2):=bS (mS h) (mS h2)
theorem J0X{c:Nat}{f:Av}{s s1 s2:St}{v:O}{r:List Src}{vs:List Got}(h:f s=some (v,s1))(h2:EZ r s1=some (vs,s2)):EZ (.a c f::r) s=some (.o c v::vs,s2):=bS (mS h) (mS h2)
theorem SK{ks:List Nat}{fs:List Src}{s s1 s2:St}{vs:List Got}(h:EZ fs s=some (vs,s1))(h2:Ia ks.reverse vs.reverse s1=some s2):IJ ks fs s=some (.nx,s2):=bS h (ED h2)
section
variable{wl:List FV}{base:Int}{objs:List FV}{tabs:Nat}{ds:List Df}{d10:Option Df}{ob:FV}{num:Nat}{j4:Option FV}{es:List (Nm×FV)}
theorem A0k{nm pl bi:Nm}{va sz:Nat}(hk:nm∉es.map (·.1))(hl:es.length<1000){R:Sv}:stp (.one 4) (Ae (BB (AA F4 (Al (Ap 0) (Aa 4)) (Aa 3)) FQ Ar) (Ae (Di (Aa 3) (Al (Ap 0) (Aa 4)) (Aa 4)) R)) (CN nm pl va bi sz) ⟨mT ob num j4,[some (.dict es)],LA wl base objs tabs ds d10⟩=
  R ⟨mT ob num (some (CN nm pl va bi sz)),[some (.dict (es++[(nm,CN nm pl va bi sz)]))],LA wl base objs tabs ds d10⟩:=
 Bt (s1:=⟨mT ob num (some (CN nm pl va bi sz)),[some (.dict es)],LA wl base objs tabs ds d10⟩) rfl (Aj (Bs (t:=false) (By (A7 (atS rfl) rfl) (atS rfl) (congrArg some (show (Ay es nm).isSome=false by rw [RP hk];rfl))) (λz=>noT z) λ_=>rfl) (Js (E0 (atS rfl) (atS rfl) (A7 (atS rfl) rfl) (iS (by unfold AM;lia) (by rw [Nk hk];rfl)))))
noncomputable def eO(s:Sec):Nm×FV:=(EV s.nm,GF s)
noncomputable def eG(n:Nam):Nm×FV:=(n.nm,Dz n)
theorem K0u{s:Sec}(hk:EV s.nm∉es.map (·.1))(hl:es.length<1000):stp (.one 4) II (GF s) ⟨mT ob num j4,[some (.dict es)],LA wl base objs tabs ds d10⟩=
  some (.ct,⟨mT ob num (some (GF s)),[some (.dict (es++[eO s]))],LA wl base objs tabs ds d10⟩):=(A0k (nm:=EV s.nm) (pl:=s.nm) (va:=s.sz) (bi:=NK) (sz:=0) hk hl).trans rfl
theorem K0t{n:Nam}(hk:n.nm∉es.map (·.1))(hl:es.length<1000)(hp:n.pl≠[])(hok: ∀d∈ds,d.n.nm=n.nm→d.n.pl=AX∧n.pl=AX)(hd:ds.length<1000): ∃d10',stp (.one 4) II (Dz n) ⟨mT ob num j4,[some (.dict es)],LA wl base objs tabs ds d10⟩=
  some (.nx,⟨mT ob num (some (Dz n)),[some (.dict (es++[eG n]))],LA wl base objs tabs (Ds num ds n) d10'⟩):=
 (E0X (wl:=wl) (base:=base) (objs:=objs) (tabs:=tabs) (num:=num) hok hd).imp λd10' hdef=>(A0k (nm:=n.nm) (pl:=n.pl) (va:=n.va) (bi:=YL) (sz:=n.sz) hk hl).trans
  (Aj (s1:=⟨mT ob num (some (Dz n)),[some (.dict (es++[eG n]))],LA wl base objs tabs ds d10⟩) (Bs (t:=false) rfl (λz=>noT z) λ_=>rfl) (Aj (Bs (t:=true) (bS (Br (sq1 (Bl (atS rfl) rfl) sq0) rfl rfl (G0B hp)) rfl) (λ_=>Aj (Kp (Br (sq1 (Bl (atS rfl) rfl) (sq1 (Br (sq1 (Br (sq1 (atS rfl) sq0) rfl rfl J0o) (sq1 (atS rfl) (sq1 (atS rfl) sq0))) rfl rfl I0r) sq0)) rfl rfl hdef)) rfl) λz=>noF z) rfl))
end
section
variable(wl:List FV)(base:Int)(objs:List FV)(tabs:Nat)(ob:FV)(num:Nat)
inductive TI(es:List (Nm×FV))(ds:List Df):St→Prop
 |mk (d10:Option Df) (j4:Option FV):TI es ds ⟨mT ob num j4,[some (.dict es)],LA wl base objs tabs ds d10⟩
end
theorem K0l{wl:List FV}{base:Int}{objs:List FV}{tabs:Nat}{ds:List Df}{d10:Option Df}{o:Ob}(hds:ds.length≤100)(hnd:((o.ss.map λs=>EV s.nm)++o.ns.map (·.nm)).Nodup)(hln:o.ss.length+o.ns.length≤100)(hob:objs.length<1000)(htb:tabs<1000)(hpl: ∀n∈o.ns,n.pl≠[])(hH:HN ds o.ns):
  ∃d10',Qw [.g 1,.f (AP o)] (LA wl base objs tabs ds d10)=some (.f .none,LA wl base (objs++[AP o]) (tabs+1) (o.ns.foldl (Ds objs.length) ds) d10'):=
 have k1: ∀d:List Sec,(d.map eO).map (·.1)=d.map λs=>EV s.nm:= λd=>CP
 Dy (xs:=o.ss) (I:= λd=>TI wl base (objs++[AP o]) (tabs+1) (AP o) objs.length (d.map eO) ds) (t:=.one 4) (b:=II) (f:=GF) (λd x r σ e h=>h.casesOn λd10 j4=>
  have:=leF e
  .mk .ct _ (K0u (by rw [k1];exact NM (f:= λs:Sec=>EV s.nm) (A:=[]) e (J7.mp hnd).1) (by rw [AD];lia)) rfl (by rw [B3];exact .mk _ _)) (r:=o.ss) (d:=[]) rfl (.mk d10 none) λσ1 e1 h=>by
 cases h with
 |mk d10 j4=>
  refine Dy (xs:=o.ns) (I:= λd=>TI wl base (objs++[AP o]) (tabs+1) (AP o) objs.length (o.ss.map eO++d.map eG) (d.foldl (Ds objs.length) ds)) (t:=.one 4) (b:=II) (f:=Dz) (λd x r σ e h=>h.casesOn λd10 j4=>
   have l1:=leF e
   have nx:=NM e hnd
   have l2:=Xo (num:=objs.length) (ns:=d) (ds:=ds)
   (K0t (ds:=d.foldl (Ds objs.length) ds) (es:=o.ss.map eO++d.map eG) (n:=x) (by rw [B3,k1,CP];exact nx) (by rw [AU,AD,AD];lia) (hpl x (Eh e)) (λd' hd q=>(Xp hd).elim (λk=>k.elim λd0 k=>k.2▸hH x (Eh e) d0 k.1 (by rw [k.2];exact q)) λk=>absurd (GO _ (q▸GP k)) nx) (by lia)).elim λd11 e=>.mk .nx _ e rfl (by rw [B3,←CO,H4];exact .mk _ _)) (r:=o.ns) (d:=[]) rfl (by rw [TN,CX];exact .mk d10 j4) λσ2 e2 h=>?_
  cases h with
  |mk d10 j4=>exact ⟨d10,Hz (Aj (SK (Lc (A7 (a:=.g 2) (A7 (atS rfl) rfl) (Jj (by lia))) (J0X rfl rfl)) rfl) (Aj (DR (u:=.g 2) (Bl rfl rfl) (atS rfl) (Kh (xs:=objs) (x:=AP o) rfl (by unfold AM;lia))) (Aj (DR (u:=.g 3) (w:=.c 0) (Bl rfl rfl) (atS rfl) (s1:=⟨mT (AP o) objs.length none,[some (.dict [])],LA wl base (objs++[AP o]) tabs ds _⟩) (t:=⟨mT (AP o) objs.length none,[some (.dict [])],LA wl base (objs++[AP o]) (tabs+1) ds _⟩) (if_pos (by unfold AM;lia))) (Aj (BK (bS (A7 (atS rfl) rfl) (atS rfl)) (Xr e2 e1)) rfl))))⟩
theorem Of{s:Sec}{g:List (Option O)}(h:s.sz≤20):FO [.f (BA s)] g=some (.f (.int s.sz),g):=Cw (m1:=[some (.f (BA s))]) (l1:=[]) (CV (C1 (G8 (t:=decide (s.kd=AO)) rfl (λhk=>A7 (a:=.f (BA s)) (atS rfl) (congrArg (λn:Nat=>some (V.f (.int n))) (if_pos (of_decide_eq_true hk)))) λhk=>A7 (a:=.f (.fba (if s.kd=AO then 0 else s.sz))) (A7 (atS rfl) rfl) (by rw [if_neg (of_decide_eq_false hk)];exact Jj (by lia))))) rfl
noncomputable abbrev Grp:=Nm×List (Nat×Sec)
noncomputable def itm(p:Nat×Sec):FV:=.tup [.int p.1,BA p.2]
noncomputable abbrev Hw:List Grp→Nm→Option Nat:=Ir λg=>g.1
noncomputable def E7(gs:List Grp)(p:Nat×Sec):List Grp:=match Hw gs p.2.nm with
 |none=>gs++[(p.2.nm,[p])]
 |some k=>match gs[k]? with
  |some g=>gs.set k (g.1,g.2++[p])
  |none=>gs
theorem MO{gs:List Grp}{p:Nat×Sec}{P:Prop}(h1:Hw gs p.2.nm=none→E7 gs p=gs++[(p.2.nm,[p])]→P)(h2: ∀i g,Hw gs p.2.nm=some i→gs[i]?=some g→g.1=p.2.nm→E7 gs p=gs.set i (g.1,g.2++[p])→P):P:=by
 unfold E7 at h1 h2
 cases hp:Hw gs p.2.nm with
 |none=>exact h1 hp (by rw [hp])
 |some i=>exact (Td hp).elim λd h=>h2 i d hp h.1 h.2 (by rw [hp];dsimp only;rw [h.1])
noncomputable def D7:List Grp→Nat→List (Nm×FV)
 |[],_=>[]
 |g::r,i=>(g.1,.int i)::D7 r (i+1)
theorem I0k{gs:List Grp}: ∀{i},(D7 gs i).length=gs.length:=by
 induction gs with
 |nil=>exact rfl
 |cons a r ih=>exact congrArg (· +1) ih
theorem YM{x:Nm}{gs:List Grp}: ∀{i:Nat},Ay (D7 gs i) x=(Hw gs x).map λk=>FV.int ((i+k:Nat):Int):=by
 induction gs with
 |nil=>exact rfl
 |cons g r ih=>
  intro i
  show (if g.1=x then _ else Ay (D7 r (i+1)) x)=((if g.1=x then _ else _:Option Nat)).map _
  by_cases q:g.1=x
  ·rw [if_pos q,if_pos q];rfl
  ·rw [if_neg q,if_neg q,ih,Option.map_map]
   exact congrArg (Fh · _) (funext λk=>congrArg (λn:Nat=>FV.int n) (TV i 1 k))
theorem I0l{x:Nm}{g:List (Nat×Sec)}{gs:List Grp}: ∀{i:Nat},Hw gs x=none→AE (D7 gs i) x (.int ((i+gs.length:Nat):Int))=D7 (gs++[(x,g)]) i:=by
 induction gs with
 |nil=>exact λ_=>rfl
 |cons a r ih=>exact λ{i} h=>F8 h (λ_ z=>noZ z) λq z=>(if_neg q).trans (congrArg (_:: ·) ((TV i 1 r.length)▸ih (Ua.mp z)))
theorem I0m{g:Grp}{xs:List (Nat×Sec)}{gs:List Grp}: ∀{i j:Nat},gs[j]?=some g→D7 (gs.set j (g.1,xs)) i=D7 gs i:=by
 induction gs with
 |nil=>exact λh=>noS h
 |cons a r ih=>
  intro i j
  cases j with
  |zero=>exact λh=>An h▸rfl
  |succ j=>exact λh=>congrArg (_:: ·) (ih h)
noncomputable def Eg(gs:List Grp):List (List FV):=gs.map λg=>g.2.map itm
noncomputable def mG(kind:Nm)(j4 j5 j6:Option FV):List (Option V):=[some (.g 1),some (.f (.str kind)),some (.c 0),some (.c 1),J j4,J j5,J j6]
section
variable{kind:Nm}{j4 j5 j6:Option FV}{g:List (Option O)}{gs gs':List Grp}{k j:Nat}{s:Sec}{gr:Grp}
noncomputable def sG(kind:Nm)(k:Nat)(j5:Option FV)(s:Sec)(gs gs':List Grp)(g:List (Option O)):St:=⟨mG kind (some (.int k)) j5 (some (BA s)),[some (.dict (D7 gs 0)),some (.list2 (Eg gs'))],g⟩
theorem D07{o i:Ev}{p1 p2:Nat}{u w x y:V}{s s1 s2 t:St}(h1:o s=some (u,s1))(h2:i s1=some (w,s2))(hx:C0 s2 p1=some x)(hy:C0 s2 p2=some y)(h:Mine.N01 u w x y s2=some t):MB o i p1 p2 s=some (.nx,t):=bS h1 (bS h2 (bS hx (bS hy (ED h))))
theorem I07{α:Type}{xss:List (List FV)}{F:List (List FV)→Option α}{z:Option α}(h:F xss=z):O.onList2 (.list2 xss) F=z:=h
theorem D04{c:Nat}{x y:FV}{m:List (Option V)}{l g:List (Option O)}{xss:List (List FV)}{xs:List FV}(hc:BY ⟨m,l,g⟩ c=some (.list2 xss))(hf:xss[j]?=some xs)(hj:j<1000)(hl:xs.length<1000):Mine.N01 (.c c) (.f (.int j)) (.f x) (.f y) ⟨m,l,g⟩=some ⟨m,l.set c (some (.list2 (xss.set j (xs++[.tup [x,y]])))),g⟩:=bS hc (I07 (iS ⟨Jz j,by lia⟩ (by rw [O9];exact bS hf (iS (by lia) rfl))))
theorem H0j{m:List (Option V)}{l gr:List (Option O)}{k:Nat}{xs:List (List FV)}(h:BY ⟨m,l,gr⟩ k=some (.list2 xs))(hl:xs.length<1000000):Ei ⟨m,l,gr⟩ (.c k)=some (.f (.int xs.length)):=bS h (Jj hl)
theorem Jt{c:Nat}{x:FV}{y:Nm}{m:List (Option V)}{l g:List (Option O)}{es:List (Nm×FV)}(hc:BY ⟨m,l,g⟩ c=some (.dict es))(hl:es.length<AM):Mine.setItem (.c c) (.f (.str y)) (.f x) ⟨m,l,g⟩=some ⟨m,l.set c (some (.dict (AE es y x))),g⟩:=bS hc (if_pos hl)
theorem D06{o:Ev}{c:Nat}{s:St}{m:List (Option V)}{l g:List (Option O)}{xss:List (List FV)}(h:o s=some (.c c,⟨m,l,g⟩))(hc:BY ⟨m,l,g⟩ c=some (.list2 xss))(hl:xss.length<AM):QV o s=some (.nx,⟨m,l.set c (some (.list2 (xss++[[]]))),g⟩):=bS h (bS hc (if_pos hl))
theorem Wt(hp:Hw gs s.nm=some j)(hg:gs[j]?=some gr)(hj:j<1000)(hl:gr.2.length<1000):
  MB (Aa 3) (Ao AQ (Aa 2) (Al (Ap 0) (Aa 6))) 4 6 (sG kind k j5 s gs gs g)=some (.nx,sG kind k j5 s (gs.set j (gr.1,gr.2++[(k,s)])) (gs.set j (gr.1,gr.2++[(k,s)])) g):=
 (D07 (atS rfl) (AG (r:=.f (.int j)) (atS rfl) (A7 (atS rfl) rfl) (by show (Ay (D7 gs 0) s.nm).map V.f=_;rw [YM,hp];show some (V.f (.int ((0+j:Nat):Int)))=_;rw [Cc])) rfl rfl
  (D04 (xss:=Eg gs) (xs:=gr.2.map itm) rfl (by unfold Eg;rw [CH,hg];rfl) hj (by rw [AD];exact hl))).trans (by unfold sG;rw [I0m hg];unfold Eg;rw [TO,B3];rfl)
theorem N08:AA G6 (Al (Ap 0) (Aa 6)) (Aa 2) (sG kind k j5 s gs gs g)=some (!(Hw gs s.nm).isSome,sG kind k j5 s gs gs g):=By (A7 (atS rfl) rfl) (atS rfl) (congrArg (λb=>some (!b)) (show (Ay (D7 gs 0) s.nm).isSome=_ by rw [YM,L0Y]))
noncomputable def DK(kind:Nm)(gs:List Grp)(p:Nat×Sec):List Grp:=if p.2.kd=kind then E7 gs p else gs
theorem G0n(hgl:gs.length<1000)(hl: ∀gr∈gs,gr.2.length<1000):stp (.one 6) Mm (BA s) ⟨mG kind (some (.int k)) j5 j6,[some (.dict (D7 gs 0)),some (.list2 (Eg gs))],g⟩=
  some (.nx,sG kind k j5 s (DK kind gs (k,s)) (DK kind gs (k,s)) g):=by
 refine Bt (s1:=sG kind k j5 s gs gs g) rfl (Aj (s1:=sG kind k j5 s (DK kind gs (k,s)) (DK kind gs (k,s)) g) (Bs (t:=decide (s.kd=kind)) rfl (λh=>?_) λh=>?_) rfl)
 ·have e:DK kind gs (k,s)=E7 gs (k,s):=if_pos (of_decide_eq_true h)
  rw [e]
  refine MO (gs:=gs) (p:=(k,s)) (λhp ha=>?_) λi gr hp hg _ ha=>?_
  ·have lf:(Eg gs).length=gs.length:=AD _
   have e3:=Wt (kind:=kind) (j5:=j5) (g:=g) (k:=k) (J0d (f:= λg:Grp=>g.1) (g:=(s.nm,[])) rfl hp) (List.getElem?_concat_length) (by lia) (by show 0<1000;decide)
   rw [L0I _ _ (A9 _),OO] at e3
   rw [ha]
   exact Aj (Bs (t:=true) (N08.trans (by rw [hp];rfl)) (λ_=>Aj (E0 (A7 (atS rfl) (H0j (xs:=Eg gs) rfl (by lia))) (atS rfl) (A7 (atS rfl) rfl) (t':=sG kind k j5 s (gs++[(s.nm,[])]) gs g) ((Jt (es:=D7 gs 0) rfl (by rw [I0k];unfold AM;lia)).trans (by unfold sG;rw [←I0l (g:=[]) hp,Cc,lf];rfl)))
    (Aj (D06 (Bl (atS rfl) rfl) (xss:=Eg gs) rfl (by rw [lf];unfold AM;lia)) rfl)) λz=>noF z) (Aj (s1:=sG kind k j5 s (gs++[(s.nm,[(k,s)])]) (gs++[(s.nm,[(k,s)])]) g) (by unfold sG Eg at e3⊢;rw [B3] at e3;exact e3) rfl)
  ·rw [ha]
   have:=(DN.mp hg).1
   exact Aj (Bs (t:=false) (N08.trans (by rw [hp];rfl)) (λz=>noT z) λ_=>rfl) (Aj (Wt hp hg (by lia) (hl gr (As hg))) rfl)
 ·have e:DK kind gs (k,s)=gs:=if_neg (of_decide_eq_false h)
  rw [e];rfl
end
noncomputable def AZ:List Ob→Nat→List (Nat×Sec)
 |[],_=>[]
 |o::r,k=>o.ss.map (k,·)++AZ r (k+1)
noncomputable def Ck(kind:Nm)(pl:List Ob):List Grp:=(AZ pl 0).foldl (DK kind) []
def BdG(gs:List Grp)(c:Nat):Prop:=gs.length≤c∧∀gr∈gs,gr.2.length≤c
theorem BdG.step{gs:List Grp}{c:Nat}{kind:Nm}{p:Nat×Sec}(h:BdG gs c):BdG (DK kind gs p) (c+1):=by
 unfold DK
 by_cases q:p.2.kd=kind
 ·rw [if_pos q]
  exact MO (λ_ e=>by rw [e];exact ⟨by rw [AU];exact Gn h.1,ZL (λgr hg=>Gm (h.2 gr hg)) (Gn (C9 _))⟩)
   λi g _ hg _ e=>by rw [e];exact ⟨by rw [H7];exact Gm h.1,λgr hgr=>(TQ hgr).elim (λz=>Gm (h.2 gr z)) λz=>by rw [z];show (g.2++[p]).length≤_;rw [AU];exact Gn (h.2 g (As hg))⟩
 ·rw [if_neg q];exact ⟨Gm h.1,λgr hg=>Gm (h.2 gr hg)⟩
theorem BdG.fold{kind:Nm}{ps:List (Nat×Sec)}: ∀{gs:List Grp} {c:Nat},BdG gs c→BdG (ps.foldl (DK kind) gs) (c+ps.length):=by
 induction ps with
 |nil=>exact λh=>h
 |cons p r ih=>exact λ{gs c} h=>(show c+1+r.length=c+(r.length+1) by lia)▸ih (h.step (p:=p))
theorem Jc{f:Ev}{s s1:St}{xs:List FV}(h:f s=some (.f (.lst xs),s1)):Gy f s=some (Hl 0 xs,s1):=bS h rfl
theorem CM{f:Ev}{s s1:St}{xs:List FV}(h:f s=some (.f (.lst xs),s1)):I.of f s=some (xs,s1):=bS h rfl
theorem Th{r:List Ob}{d:List Ob}: ∀{k},AZ (d++r) k=AZ d k++AZ r (k+d.length):=by
 induction d with
 |nil=>exact rfl
 |cons o d ih=>exact λ{k}=>(congrArg (o.ss.map (k,·)++ ·) (ih (k:=k+1))).trans ((CO ..).symm.trans (congrArg (AZ (o::d) k++AZ r ·) (TV k 1 d.length)))
inductive GI(kind:Nm)(g:List (Option O))(gs:List Grp):St→Prop
 |mk (j4 j5 j6:Option FV):GI kind g gs ⟨mG kind j4 j5 j6,[some (.dict (D7 gs 0)),some (.list2 (Eg gs))],g⟩
inductive GJ(kind:Nm)(g:List (Option O))(j4 j5:Option FV)(gs:List Grp):St→Prop
 |mk (j6:Option FV):GJ kind g j4 j5 gs ⟨mG kind j4 j5 j6,[some (.dict (D7 gs 0)),some (.list2 (Eg gs))],g⟩
theorem G0m{kind:Nm}{g:List (Option O)}{pl:List Ob}(hg: ∀m l,Ap 21 ⟨m,l,g⟩ (.g 1)=some (.f (.lst (pl.map AP))))(hb:(AZ pl 0).length≤100):
  LU [.g 1,.f (.str kind)] g=some (.f (.lst ((Ck kind pl).map λgr=>.lst (gr.2.map itm))),g):=
 Kr (xs:=pl) (I:= λd=>GI kind g (Ck kind d)) (f:=AP) (t:=.many [4,5]) (b:=QD) (λd o r σ e h=>h.casesOn λj4 j5 j6=>by
  have e2:Ck kind (d++[o])=(o.ss.map (d.length,·)).foldl (DK kind) (Ck kind d):=by unfold Ck;rw [Th,H4,Cc];exact congrArg (A0A _ _) (CX _)
  have l1:(AZ d 0).length+o.ss.length≤100:=by
   rw [e,Th,AU] at hb
   have:(AZ (o::r) (0+d.length)).length=o.ss.length+_:=AU.trans (congrArg (· +_) (AD _))
   lia
  have b0:BdG (Ck kind d) (0+(AZ d 0).length):=BdG.fold ⟨A9 _,λ_ h=>nomatch h⟩
  exact Dy (xs:=o.ss) (I:= λe=>GJ kind g (some (.int d.length)) (some (AP o)) ((e.map (d.length,·)).foldl (DK kind) (Ck kind d))) (f:=BA) (t:=.one 6) (b:=Mm) (λe s r σ eq h=>h.casesOn λj6=>
    have b:=b0.fold (kind:=kind) (ps:=e.map (d.length,·))
    have le:=leF eq
    have lm:(e.map (d.length,·)).length=e.length:=AD _
    .mk .nx _ (G0n (by have:=b.1;lia) λgr hgr=>by have:=b.2 gr hgr;lia) rfl (by rw [B3,H4];exact .mk _)) (r:=o.ss) (d:=[]) rfl (.mk j6) λσ' e' i=>.mk .nx σ' (Bt (s1:=⟨mG kind (some (.int d.length)) (some (AP o)) j6,[some (.dict (D7 (Ck kind d) 0)),some (.list2 (Eg (Ck kind d)))],g⟩) rfl (Aj (BK (CM (A7 (a:=.f (AP o)) (atS rfl) rfl)) e') rfl)) rfl (i.casesOn λj6=>by rw [e2];exact .mk _ _ _)) (r:=pl) (d:=[]) rfl (.mk none none none) λσ e h=>by
 cases h with
 |mk j4 j5 j6=>
  have lf:.lst ((Eg (Ck kind pl)).map FV.lst)=FV.lst ((Ck kind pl).map λgr=>.lst (gr.2.map itm)):=congrArg FV.lst CP
  rw [←lf]
  exact Cw (m1:=[some (.g 1),some (.f (.str kind)),some (.c 0),some (.f (.lst ((Eg (Ck kind pl)).map FV.lst))),J j4,J j5,J j6]) (l1:=[some (.dict (D7 (Ck kind pl) 0)),none]) (Aj (s1:=⟨mG kind none none none,[some (.dict (D7 [] 0)),some (.list2 (Eg []))],g⟩) rfl (Aj (BK (Jc (A7 (a:=.g 1) (atS rfl) (hg _ _))) e) (GH (F7 rfl rfl (mc rfl (mc rfl (mc rfl (mc rfl (mc AS (mc AS (mc AS rfl)))))))) (C1 (atS rfl))))) rfl
structure Pc where
 nm:Nm
 ti:Nm
 at_:Nat
 sz:Nat
noncomputable def fPc(p:Pc):FV:=.tup [.str p.nm,.str p.ti,.int p.at_,.int p.sz]
noncomputable abbrev Sts:=List ((Int×Nm)×FV)
noncomputable def up(a al:Nat):Nat:=(a+al - 1)/al*al
theorem T2{a al:Nat}(h:0<al):(a:Int)+ -(a:Int) % (al:Int)=((up a al:Nat):Int):=by
 unfold up
 have h1:=Int.emod_add_mul_ediv (-(a:Int)) al
 have h2:=TC (-(a:Int)) (b:=(al:Int)) (by lia)
 have h3:=TB (-(a:Int)) (b:=(al:Int)) (by lia)
 have h4:((a+al - 1:Nat):Int)=(a:Int)+al - 1:=by lia
 generalize (-(a:Int)) % (al:Int)=r at*
 generalize (-(a:Int))/(al:Int)=q at*
 have h5:((a+al - 1:Nat):Int)/(al:Int)= -q:=by
  rw [h4]
  have:(a:Int)+al - 1=(al - 1 - r)+(al:Int)*(-q):=by rw [Int.mul_neg];lia
  rw [this,Int.add_mul_ediv_left _ _ (by lia),Int.ediv_eq_zero_of_lt (by lia) (by lia),L0o]
 rw [Int.natCast_mul,Int.natCast_ediv,h5,Int.neg_mul,Int.mul_comm]
 lia
structure Lay where
 at_:Nat
 sts:Sts
 pcs:List Pc
noncomputable def Iz(pl:List Ob)(i:Nat):Nm:=((pl[i]?).map (·.ti)).getD []
noncomputable def CC(pl:List Ob)(y:Lay)(p:Nat×Sec):Lay:=⟨up y.at_ p.2.al+p.2.sz,AE y.sts ((p.1:Int),p.2.nm) (.int (up y.at_ p.2.al)),y.pcs++[⟨p.2.nm,Iz pl p.1,up y.at_ p.2.al,p.2.sz⟩]⟩
noncomputable def KJ:Nm:=[116,104,101,32,101,110,116,114,121]
structure LE where
 wl:List FV
 base:Nat
 pl:List Ob
 tabs:Nat
 d10:Option Df
 c11:Option O
noncomputable def LB(e:LE)(ds:List Df)(sts:Sts)(marks:List (Nm×FV))(pcs:List Pc):List (Option O):=
 [some (.list e.wl),some (.inst 553 [(14,.f (.int e.base)),(21,.f (.lst (e.pl.map AP))),(22,.g 3),(23,.g 4),(24,.f (.dct [(B1,.str KJ)])),(25,.g 6),(26,.g 7),(15,.g 8),(3,.g 9),(4,.f (.int 0))]),none,some (.jlist e.tabs),some (.ddict 377 (ds.map ent)),none,some (.tdict sts),some (.dict marks),some (.list (pcs.map fPc)),some (.ba 0),k10 e.d10,e.c11,none,none,none,none,none,none,none,none,none]
noncomputable def mL(a:Nat)(kind:FV)(j3 j4 j5:Option FV):List (Option V):=[some (.g 1),some (.f (.int a)),some (.f kind),J j3,J j4,J j5,none,none]
def MA(pl:List Ob)(p:Nat×Sec):Prop:=0<p.2.al∧p.2.sz≤20∧∃o,pl[p.1]?=some o
theorem HW{κ α:Type}[DecidableEq κ]{k:κ}{v:α}{es:List (κ×α)}:(AE es k v).length≤es.length+1:=by
 induction es with
 |nil=>exact A9 _
 |cons a r ih=>
  show (if a.1=k then _ else _:List _).length≤_
  by_cases q:a.1=k
  ·rw [if_pos q];exact CZ _
  ·rw [if_neg q];exact Gn ih
theorem IV{s:St}{a b:Nat}:Bf s (.f (.int a)) (.f (.int b))=some (.f (.int ((a+b:Nat):Int))):=rfl
theorem Yh{pl:List Ob}{y:Lay}{p:Nat×Sec}:(CC pl y p).sts.length≤y.sts.length+1∧(CC pl y p).pcs.length≤y.pcs.length+1:=⟨HW,by show (y.pcs++_).length≤_;rw [AU];exact A9 _⟩
theorem Yj{pl:List Ob}{ps:List (Nat×Sec)}: ∀{y:Lay},(ps.foldl (CC pl) y).sts.length≤y.sts.length+ps.length∧(ps.foldl (CC pl) y).pcs.length≤y.pcs.length+ps.length:=by
 induction ps with
 |nil=>exact ⟨A9 _,A9 _⟩
 |cons p r ih=>exact λ{y}=>⟨A8 ih.1 (by have:=(Yh (pl:=pl) (y:=y) (p:=p)).1;show _≤_+(r.length+1);lia),A8 ih.2 (by have:=(Yh (pl:=pl) (y:=y) (p:=p)).2;show _≤_+(r.length+1);lia)⟩
theorem J06{k:Nat}{x:FV}{a:Int}{y:Nm}{m:List (Option V)}{l g:List (Option O)}{es:Sts}(hc:BI ⟨m,l,g⟩ k=some (.tdict es))(hl:es.length<AM):Mine.setItem (.g k) (.f (.tup [.int a,.str y])) (.f x) ⟨m,l,g⟩=some ⟨m,l,g.set k (some (.tdict (AE es (a,y) x)))⟩:=bS hc (if_pos hl)
section
variable{e:LE}{ds:List Df}{marks:List (Nm×FV)}{kind:FV}{j3 j4 j5:Option FV}{y:Lay}{p:Nat×Sec}
noncomputable def sL(e:LE)(ds:List Df)(marks:List (Nm×FV))(kind:FV)(j3:Option FV)(p:Nat×Sec)(a:Nat)(sts:Sts)(pcs:List Pc):St:=⟨mL a kind j3 (some (.int p.1)) (some (BA p.2)),[],LB e ds sts marks pcs⟩
theorem szL{a:Nat}{sts:Sts}{pcs:List Pc}(h:p.2.sz≤20):AB [] FO [(AH (BL 147 []) (Aa 5))] (sL e ds marks kind j3 p a sts pcs)=some (.f (.int p.2.sz),sL e ds marks kind j3 p a sts pcs):=Br (sq1 (Bl (atS rfl) rfl) sq0) rfl rfl (Of h)
theorem H0f(hp:MA e.pl p)(hn:e.pl.length≤100)(hs:y.sts.length<1000)(hc:y.pcs.length<1000):
  stp (.many [4,5]) Mn (itm p) ⟨mL y.at_ kind j3 j4 j5,[],LB e ds y.sts marks y.pcs⟩=some (.nx,sL e ds marks kind j3 p (CC e.pl y p).at_ (CC e.pl y p).sts (CC e.pl y p).pcs):=
 hp.2.2.elim λo ho=>
 have hi:=(DN.mp ho).1
 Bt (s1:=sL e ds marks kind j3 p y.at_ y.sts y.pcs) rfl (Aj (BF (AG (atS rfl) (AG (A7 (atS rfl) rfl) (A7 (atS rfl) rfl) (Ii (Gl.mpr hp.1))) (congrArg (λi=>some (V.f (.int i))) (T2 hp.1))) (s2:=sL e ds marks kind j3 p (up y.at_ p.2.al) y.sts y.pcs) rfl)
  (Aj (E0 (atS rfl) (A7 (atS rfl) rfl) (DL (sq1 (atS rfl) (sq1 (A7 (atS rfl) rfl) sq0)) rfl) (t':=sL e ds marks kind j3 p (up y.at_ p.2.al) (CC e.pl y p).sts y.pcs) (J06 rfl (by unfold AM;lia)))
  (Aj (DR (u:=.g 8) (Bl (A7 (atS rfl) rfl) rfl) (DL (sq1 (A7 (atS rfl) rfl) (sq1 (a:=.f (.str o.ti)) (A7 (AG (A7 (atS rfl) rfl) (atS rfl) (Kx (x:=AP o) (by rw [CH,ho];rfl) (by lia))) rfl) (sq1 (atS rfl) (sq1 (szL hp.2.1) sq0)))) rfl) (t:=sL e ds marks kind j3 p (up y.at_ p.2.al) (CC e.pl y p).sts (CC e.pl y p).pcs)
   ((Kh (xs:=y.pcs.map fPc) rfl (by rw [AD];unfold AM;lia)).trans (by unfold sL LB CC Iz;rw [ho,B3];rfl)))
  (Aj (BF (AG (atS rfl) (szL hp.2.1) IV) rfl) rfl))))
noncomputable def CU(pl:List Ob)(kind:Nm)(y:Lay):Lay:=((Ck kind pl).flatMap (·.2)).foldl (CC pl) y
inductive LnI(e:LE)(ds:List Df)(marks:List (Nm×FV))(kind:FV)(y:Lay):St→Prop
 |mk (j3 j4 j5:Option FV):LnI e ds marks kind y ⟨mL y.at_ kind j3 j4 j5,[],LB e ds y.sts marks y.pcs⟩
inductive LJ(e:LE)(ds:List Df)(marks:List (Nm×FV))(kind:FV)(j3:Option FV)(y:Lay):St→Prop
 |mk (j4 j5:Option FV):LJ e ds marks kind j3 y ⟨mL y.at_ kind j3 j4 j5,[],LB e ds y.sts marks y.pcs⟩
theorem Yk{kn:Nm}(hb:(AZ e.pl 0).length≤100)(hn:e.pl.length≤100)(hr: ∀gr∈Ck kn e.pl,∀p∈gr.2,MA e.pl p)(hk:y.sts.length+y.pcs.length+((Ck kn e.pl).flatMap (·.2)).length≤900):
  ∃j3' j4' j5',Bn (.one 3) (I.of (AB [] LU [(AH (BL 553 []) (Aa 0)),(Aa 2)])) Mo ⟨mL y.at_ (.str kn) j3 j4 j5,[],LB e ds y.sts marks y.pcs⟩=
   some (.nx,⟨mL (CU e.pl kn y).at_ (.str kn) j3' j4' j5',[],LB e ds (CU e.pl kn y).sts marks (CU e.pl kn y).pcs⟩):=
 Dy (xs:=Ck kn e.pl) (I:= λd=>LnI e ds marks (.str kn) ((d.flatMap (λx:Grp=>x.2)).foldl (CC e.pl) y)) (f:= λgr:Grp=>FV.lst (gr.2.map itm)) (t:=.one 3) (b:=Mo) (λd gr r σ eq h=>h.casesOn λj3 j4 j5=>
  have lt:(d.flatMap (λx:Grp=>x.2)).length+gr.2.length≤((Ck kn e.pl).flatMap (·.2)).length:=by rw [eq,OD,A09,AU,AU];lia
  have l1:=Yj (pl:=e.pl) (ps:=d.flatMap (λx:Grp=>x.2)) (y:=y)
  Dy (xs:=gr.2) (I:= λc=>LJ e ds marks (.str kn) (some (.lst (gr.2.map itm))) (c.foldl (CC e.pl) ((d.flatMap (λx:Grp=>x.2)).foldl (CC e.pl) y))) (f:=itm) (t:=.many [4,5]) (b:=Mn) (λc p r σ eq2 h=>h.casesOn λj4 j5=>
   have l2:=Yj (pl:=e.pl) (ps:=c) (y:=(d.flatMap (λx:Grp=>x.2)).foldl (CC e.pl) y)
   have l3:=leF eq2
   .mk .nx _ (H0f (hr gr (Eh eq) p (Eh eq2)) hn (by lia) (by lia)) rfl (by rw [H4];exact .mk _ _)) (r:=gr.2) (d:=[]) rfl (.mk j4 j5) λσ' e' i=>
   .mk .nx σ' (Bt (s1:=⟨mL ((d.flatMap (λx:Grp=>x.2)).foldl (CC e.pl) y).at_ (.str kn) (some (.lst (gr.2.map itm))) j4 j5,[],LB e ds ((d.flatMap (λx:Grp=>x.2)).foldl (CC e.pl) y).sts marks ((d.flatMap (λx:Grp=>x.2)).foldl (CC e.pl) y).pcs⟩) rfl (Aj (BK (CM (atS rfl)) e') rfl)) rfl (i.casesOn λj4 j5=>by rw [OD,H4,L0w];exact .mk _ _ _)) (r:=Ck kn e.pl) (d:=[]) rfl (.mk j3 j4 j5) λσ e' i=>by
 cases i with
 |mk a3 a4 a5=>exact ⟨a3,a4,a5,BK (CM (Br (sq1 (Bl (atS rfl) rfl) (sq1 (atS rfl) sq0)) rfl rfl (G0m (λ_ _=>rfl) hb))) e'⟩
end
theorem FZ{m:List (Option V)}{l g:List (Option O)}{ds:List Df}{a i:Nat}{d:Df}{x:FV}(hg:BI ⟨m,l,g⟩ 4=some (.ddict 377 (ds.map ent)))(hd:ds[i]?=some d)(ha:okA 377 a=true)(hx:GB (dFs d) a=some x):Ap a ⟨m,l,g⟩ (.d 4 i)=some (.f x):=bS hg (bS (Jb hd) (iS ha (mS hx)))
theorem J01{m:List (Option V)}{l g:List (Option O)}{ds:List Df}{a i:Nat}{d d':Df}{x:FV}(hg:BI ⟨m,l,g⟩ 4=some (.ddict 377 (ds.map ent)))(hd:ds[i]?=some d)(ha:okA 377 a=true)(hx:ent d'=(d.n.nm,Ht (dFs d) a x)):Mine.setAttr a (.d 4 i) (.f x) ⟨m,l,g⟩=some ⟨m,l,g.set 4 (some (.ddict 377 ((ds.set i d').map ent)))⟩:=bS hg (bS (Jb hd) (iS (by rw [ha];rfl) (by rw [TO,hx];rfl)))
noncomputable def Be:Nat→List Pc→List Df→Nat×List Pc×List Df
 |a,pcs,[]=>(a,pcs,[])
 |a,pcs,d::r=>if rk d.n=2 then
   let b:=up a (max 1 d.al)
   let q:=Be (b+d.sz) (pcs++[⟨AX,d.n.nm,b,d.sz⟩]) r
   (q.1,q.2.1,{d with ad:=b}::q.2.2)
  else
   let q:=Be a pcs r
   (q.1,q.2.1,d::q.2.2)
noncomputable def mC(a:Nat)(j2:Option FV)(v:Option V):List (Option V):=[some (.g 1),some (.f (.int a)),J j2,v]
theorem Xq{k a b n i C:Nat}{body:Sv}{s s0 s1 s2:St}{es:List (Nm×List (Nat×FV))}{e:Nm×List (Nat×FV)}{fl:Fl}{R:Option (Fl×St)}(hc:BI s k=some (.ddict C es))(hl:es.length=i+n+1)(he:es[i]?=some e)(h0:E1 s a (.f (.str e.1))=some s0)(h1:E1 s0 b (.d k i)=some s1)(hb:body s1=some (fl,s2))(nr:fl.isRt=false)(h:Mine.F0B k a b body n (i+1) s2=R):Mine.F0B k a b body (n+1) i s=R:=bS hc (iS hl (bS he (bS h0 (bS h1 (bS hb (by rw [nr];exact h))))))
theorem J09{k a b n:Nat}{f:Ev}{body:Sv}{s s' s2:St}{fl:Fl}(hf:f s=some (.g k,s'))(hl:Ji k s'=some n)(h:Mine.F0B k a b body n 0 s'=some (fl,s2))(h2:Ji k s2=some n):QX a b f body s=some (fl,s2):=bS hf (bS hl (bS h (if_pos h2)))
section
variable{e:LE}{sts:Sts}{marks:List (Nm×FV)}{ds:List Df}{a i:Nat}{pcs:List Pc}{d:Df}
noncomputable def sC(e:LE)(sts:Sts)(marks:List (Nm×FV))(d:Df)(i a:Nat)(ds:List Df)(pcs:List Pc):St:=⟨mC a (some (.str d.n.nm)) (some (.d 4 i)),[],LB e ds sts marks pcs⟩
noncomputable def ad(a:Nat)(d:Df):Nat:=up a (max 1 d.al)
noncomputable def adD(a:Nat)(d:Df):Df:={d with ad:=ad a d}
theorem E0D(hd:ds[i]?=some d)(hr:rk d.n≠2):JZ (sC e sts marks d i a ds pcs)=some (.nx,sC e sts marks d i a ds pcs):=Aj (Bs (t:=false) (By (A7 (atS rfl) (FZ rfl hd rfl rfl)) rfl (congrArg some (decide_eq_false λh=>hr (L0l h)))) (λz=>noT z) λ_=>rfl) rfl
theorem E0B(hd:ds[i]?=some d)(hr:rk d.n=2)(hp:pcs.length<1000):JZ (sC e sts marks d i a ds pcs)=some (.nx,sC e sts marks d i (ad a d+d.sz) (ds.set i (adD a d)) (pcs++[⟨AX,d.n.nm,ad a d,d.sz⟩])):=
 have hm:0<max 1 d.al:=Bc Nat.one_pos (Nat.le_max_left ..)
 have hi:(ds.set i (adD a d))[i]?=some (adD a d):=OF (DN.mp hd).1
 Aj (Bs (t:=true) (By (A7 (atS rfl) (FZ rfl hd rfl rfl)) rfl (by rw [hr];rfl)) (λ_=>Aj (BF (AG (atS rfl) (AG (A7 (atS rfl) rfl) (AG (a:=.f (.int ((1:Nat):Int))) rfl (A7 (atS rfl) (FZ rfl hd rfl rfl)) KC) (Ii (Gl.mpr hm))) (congrArg (λi=>some (V.f (.int i))) (T2 hm))) (s2:=sC e sts marks d i (ad a d) ds pcs) rfl)
  (Aj (EX (atS rfl) (atS rfl) (t:=sC e sts marks d i (ad a d) (ds.set i (adD a d)) pcs) (J01 (d':=adD a d) rfl hd rfl rfl))
  (Aj (DR (u:=.g 8) (Bl (A7 (atS rfl) rfl) rfl) (DL (sq1 rfl (sq1 (atS rfl) (sq1 (atS rfl) (sq1 (A7 (atS rfl) (FZ rfl hi rfl rfl)) sq0)))) rfl) (t:=sC e sts marks d i (ad a d) (ds.set i (adD a d)) (pcs++[⟨AX,d.n.nm,ad a d,d.sz⟩])) ((Kh (xs:=pcs.map fPc) rfl (by rw [AD];unfold AM;lia)).trans (by unfold sC LB;rw [B3];rfl)))
  (Aj (BF (AG (atS rfl) (A7 (atS rfl) (FZ rfl hi rfl rfl)) IV) rfl) rfl)))) λz=>noF z) rfl
theorem E0C{rest:List Df}: ∀{done:List Df} {a:Nat} {pcs:List Pc} {j2:Option FV} {v:Option V},pcs.length+rest.length≤900→
  ∃j2' v',Mine.F0B 4 2 3 JZ rest.length done.length ⟨mC a j2 v,[],LB e (done++rest) sts marks pcs⟩=
   some (.nx,⟨mC (Be a pcs rest).1 j2' v',[],LB e (done++(Be a pcs rest).2.2) sts marks (Be a pcs rest).2.1⟩):=by
 induction rest with
 |nil=>exact λ{done a pcs j2 v} _=>⟨j2,v,rfl⟩
 |cons d rest ih=>
  intro done a pcs j2 v hl
  have hd:(done++d::rest)[done.length]?=some d:=by rw [A0B (A9 _),OO];rfl
  have hl':pcs.length+(rest.length+1)≤900:=hl
  have hn:((done++d::rest).map ent).length=done.length+rest.length+1:=(AD _).trans AU
  have hs: ∀x:Df,(done++[x]).length=done.length+1:= λx=>AU
  have eq:Be a pcs (d::rest)=if rk d.n=2 then _ else _:=rfl
  by_cases hr:rk d.n=2
  ·rw [eq,if_pos hr]
   have h:=ih (done:=done++[adD a d]) (a:=ad a d+d.sz) (pcs:=pcs++[⟨AX,d.n.nm,ad a d,d.sz⟩]) (j2:=some (.str d.n.nm)) (v:=some (.d 4 done.length)) (by rw [AU];show pcs.length+1+_≤_;lia)
   rw [hs,CO,CO] at h
   exact h.imp λj2' h=>h.imp λv' h=>Xq rfl hn (Jb hd) rfl rfl (E0B hd hr (by lia)) rfl (by
    have z:(done++d::rest).set done.length (adD a d)=done++adD a d::rest:=by rw [L0I _ _ (A9 _),OO];rfl
    rw [z];exact h)
  ·rw [eq,if_neg hr]
   have h:=ih (done:=done++[d]) (a:=a) (pcs:=pcs) (j2:=some (.str d.n.nm)) (v:=some (.d 4 done.length)) (by lia)
   rw [hs,CO,CO] at h
   exact h.imp λj2' h=>h.imp λv' h=>Xq rfl hn (Jb hd) rfl rfl (E0D hd hr) rfl h
theorem E0A{ds:List Df}: ∀{a:Nat} {pcs:List Pc},(Be a pcs ds).2.2.length=ds.length:=by
 induction ds with
 |nil=>exact rfl
 |cons d r ih=>
  intro a pcs
  have eq:Be a pcs (d::r)=if rk d.n=2 then _ else _:=rfl
  rw [eq]
  by_cases hr:rk d.n=2
  ·rw [if_pos hr];exact congrArg (· +1) ih
  ·rw [if_neg hr];exact congrArg (· +1) ih
theorem E0F(hl:pcs.length+ds.length≤900):Qr [.g 1,.f (.int a)] (LB e ds sts marks pcs)=some (.f (.int (Be a pcs ds).1),LB e (Be a pcs ds).2.2 sts marks (Be a pcs ds).2.1):=(E0C (e:=e) (sts:=sts) (marks:=marks) (done:=[]) (a:=a) (j2:=none) (v:=none) hl).elim λj2 h=>h.elim λv h=>Cw (GH (J09 (k:=4) (n:=ds.length) (atS rfl) (congrArg some (AD _)) h (congrArg some ((AD _).trans E0A))) (C1 (atS rfl))) rfl
end
noncomputable def Du:Nm:=[114,111,100,97,116,97]
noncomputable def CT:Nm:=[100,97,116,97]
noncomputable def nEt:Nm:=[95,101,116,101,120,116]
noncomputable def nEd:Nm:=[95,101,100,97,116,97]
noncomputable def nBs:Nm:=[95,95,98,115,115,95,115,116,97,114,116]
noncomputable def nEn:Nm:=[95,101,110,100]
noncomputable def ini(y:Lay):Lay:={y with at_:=up y.at_ 4}
section
variable{e:LE}{ds:List Df}{marks:List (Nm×FV)}{j2 j3 j4 j5:Option FV}
theorem A0o{a:Nat}{m:List (Option V)}{g:List (Option O)}(h:C0 ⟨m,[],g⟩ 1=some (.f (.int a))):Ao Bf (Aa 1) (Ao DJ (Al KQ (Aa 1)) (Af (.int 4))) ⟨m,[],g⟩=some (.f (.int (up a 4)),⟨m,[],g⟩):=AG (atS h) (AG (A7 (atS h) rfl) rfl (Ii (by decide))) (congrArg (λi=>some (V.f (.int i))) (T2 (by decide:0<4)))
theorem A0m{op:St→V→V→V→Option V}{f g h:Ev}{s s1 s2 s3:St}{a b c r:V}(hf:f s=some (a,s1))(hg:g s1=some (b,s2))(hh:h s2=some (c,s3))(ho:op s3 a b c=some r):IE op f g h s=some (r,s3):=bS hf (bS hg (bS hh (atS ho)))
theorem ZF{k:Nat}{x:FV}{y:Nm}{m:List (Option V)}{l g:List (Option O)}{es:List (Nm×FV)}(hc:BI ⟨m,l,g⟩ k=some (.dict es))(hl:es.length<AM):Mine.setItem (.g k) (.f (.str y)) (.f x) ⟨m,l,g⟩=some ⟨m,l,g.set k (some (.dict (AE es y x)))⟩:=bS hc (if_pos hl)
theorem Yw{kn mk:Nm}{a:Nat}{sts:Sts}{pcs:List Pc}(hmk:orV (Ay [(B9,FV.str nEt),(CT,FV.str nEd),(AO,FV.str nEn)] kn) (.f (.str []))=.f (.str mk))(hm:marks.length<1000):
  Di (Al (Ap 26) (Aa 0)) (IE NO (AH EA (Cf (A.dict [[116,101,120,116],[100,97,116,97],[98,115,115]] [(Af (.str [95,101,116,101,120,116])),(Af (.str [95,101,100,97,116,97])),(Af (.str [95,101,110,100]))]))) (Aa 2) (Af (.str []))) (Aa 1) ⟨mL a (.str kn) j3 j4 j5,[],LB e ds sts marks pcs⟩=
   some (.nx,⟨mL a (.str kn) j3 j4 j5,[],LB e ds sts (AE marks mk (.int a)) pcs⟩):=
 E0 (atS rfl) (A7 (atS rfl) rfl) (A0m (a:=.f (.dct [(B9,FV.str nEt),(CT,FV.str nEd),(AO,FV.str nEn)])) (s1:=⟨mL a (.str kn) j3 j4 j5,[],LB e ds sts marks pcs⟩) rfl (atS rfl) rfl (congrArg some hmk)) (ZF rfl (by unfold AM;lia))
def KOK(e:LE)(kn:Nm)(n:Nat):Prop:=(AZ e.pl 0).length≤100∧e.pl.length≤100∧(∀gr∈Ck kn e.pl,∀p∈gr.2,MA e.pl p)∧n+((Ck kn e.pl).flatMap (·.2)).length≤900
noncomputable def mK(a:Nat)(j2 j3 j4 j5:Option FV):List (Option V):=[some (.g 1),some (.f (.int a)),J j2,J j3,J j4,J j5,none,none]
theorem N4{a:Nat}{g:List (Option O)}{kn:Nm}:AA Bj (Aa 2) (Af (.str [98,115,115])) ⟨mL a (.str kn) j3 j4 j5,[],g⟩=some (decide (kn=AO),⟨mL a (.str kn) j3 j4 j5,[],g⟩):=By (atS rfl) rfl rfl
theorem Sw{kn mk:Nm}{y:Lay}(hne:kn≠AO)(hmk:orV (Ay [(B9,FV.str nEt),(CT,FV.str nEd),(AO,FV.str nEn)] kn) (.f (.str []))=.f (.str mk))(hk:KOK e kn (y.sts.length+y.pcs.length))(hm:marks.length<1000):
  ∃j3' j4' j5',stp (.one 2) Mp (.str kn) ⟨mK y.at_ j2 j3 j4 j5,[],LB e ds y.sts marks y.pcs⟩=some (.nx,⟨mK (CU e.pl kn (ini y)).at_ (some (.str kn)) j3' j4' j5',[],LB e ds (CU e.pl kn (ini y)).sts (AE marks mk (.int (CU e.pl kn (ini y)).at_)) (CU e.pl kn (ini y)).pcs⟩):=
 (Yk (e:=e) (ds:=ds) (marks:=marks) (j3:=j3) (j4:=j4) (j5:=j5) (kn:=kn) (y:=ini y) hk.1 hk.2.1 hk.2.2.1 hk.2.2.2).imp λj3' h=>h.imp λj4' h=>h.imp λj5' h=>
  have f:=decide_eq_false hne
  Bt (s1:=⟨mL y.at_ (.str kn) j3 j4 j5,[],LB e ds y.sts marks y.pcs⟩) rfl (Aj (BF (A0o rfl) (s2:=⟨mL (up y.at_ 4) (.str kn) j3 j4 j5,[],LB e ds y.sts marks y.pcs⟩) rfl) (Aj (Bs N4 (λz=>noT (f.symm.trans z)) λ_=>rfl) (Aj h (Aj (Bs N4 (λz=>noT (f.symm.trans z)) λ_=>rfl) (Aj (Yw hmk hm) rfl)))))
theorem E0q{y:Lay}(hk:KOK e AO (y.sts.length+y.pcs.length))(hm:marks.length<900)(hc:(CU e.pl AO (ini y)).pcs.length+ds.length≤900):
  ∃j3' j4' j5',stp (.one 2) Mp (.str AO) ⟨mK y.at_ j2 j3 j4 j5,[],LB e ds y.sts marks y.pcs⟩=some (.nx,⟨mK (Be (CU e.pl AO (ini y)).at_ (CU e.pl AO (ini y)).pcs ds).1 (some (.str AO)) j3' j4' j5',[],LB e (Be (CU e.pl AO (ini y)).at_ (CU e.pl AO (ini y)).pcs ds).2.2 (CU e.pl AO (ini y)).sts (AE (AE marks nBs (.int (up y.at_ 4))) nEn (.int (Be (CU e.pl AO (ini y)).at_ (CU e.pl AO (ini y)).pcs ds).1)) (Be (CU e.pl AO (ini y)).at_ (CU e.pl AO (ini y)).pcs ds).2.1⟩):=
 (Yk (e:=e) (ds:=ds) (marks:=AE marks nBs (.int (up y.at_ 4))) (j3:=j3) (j4:=j4) (j5:=j5) (kn:=AO) (y:=ini y) hk.1 hk.2.1 hk.2.2.1 hk.2.2.2).imp λj3' h=>h.imp λj4' h=>h.imp λj5' h=>
  have hm2:=HW (k:=nBs) (v:=FV.int (up y.at_ 4)) (es:=marks)
  Bt (s1:=⟨mL y.at_ (.str AO) j3 j4 j5,[],LB e ds y.sts marks y.pcs⟩) rfl (Aj (BF (A0o rfl) (s2:=⟨mL (up y.at_ 4) (.str AO) j3 j4 j5,[],LB e ds y.sts marks y.pcs⟩) rfl) (Aj (Bs (N4 (kn:=AO)) (λ_=>Aj (E0 (atS rfl) (A7 (atS rfl) rfl) rfl (ZF rfl (by unfold AM;lia))) rfl) λz=>absurd rfl (of_decide_eq_false z)) (Aj h (Aj (Bs (N4 (kn:=AO)) (λ_=>Aj (BF (Br (sq1 (Bl (atS rfl) rfl) (sq1 (atS rfl) sq0)) rfl rfl (E0F hc)) rfl) rfl) λz=>absurd rfl (of_decide_eq_false z)) (Aj (Yw rfl (by lia)) rfl)))))
end
noncomputable def Y1(e:LE):Lay:=CU e.pl B9 (ini ⟨e.base,[],[]⟩)
noncomputable def Y2(e:LE):Lay:=CU e.pl Du (ini (Y1 e))
noncomputable def Y3(e:LE):Lay:=CU e.pl CT (ini (Y2 e))
noncomputable def Y4(e:LE):Lay:=CU e.pl AO (ini (Y3 e))
noncomputable def bsA(e:LE):Nat:=up (Y3 e).at_ 4
noncomputable def YC(e:LE)(ds:List Df):Nat×List Pc×List Df:=Be (Y4 e).at_ (Y4 e).pcs ds
noncomputable def mks(e:LE)(ds:List Df):List (Nm×FV):=[(nEt,.int (Y1 e).at_),([],.int (Y2 e).at_),(nEd,.int (Y3 e).at_),(nBs,.int (bsA e)),(nEn,.int (YC e ds).1)]
noncomputable def LC(e:LE)(ds:List Df)(sts:Sts)(marks:List (Nm×FV))(f15:V)(c8:Option O)(f4:Int)(n:Nat):List (Option O):=
 [some (.list e.wl),some (.inst 553 [(14,.f (.int e.base)),(21,.f (.lst (e.pl.map AP))),(22,.g 3),(23,.g 4),(24,.f (.dct [(B1,.str KJ)])),(25,.g 6),(26,.g 7),(15,f15),(3,.g 19),(4,.f (.int f4))]),none,some (.jlist e.tabs),some (.ddict 377 (ds.map ent)),none,some (.tdict sts),some (.dict marks),c8,some (.ba 0),k10 e.d10,e.c11,none,none,none,none,none,none,none,some (.ba n),none]
noncomputable def mQ(a:Int)(j2 j3 j4 j5 j6 j7:Option FV):List (Option V):=[some (.g 1),some (.f (.int a)),J j2,J j3,J j4,J j5,J j6,J j7]
theorem J0G{o i j f:Ev}{s s1 s2 s3 s4 t:St}{w v a b:V}(h1:f s=some (w,s1))(h2:o s1=some (v,s2))(h3:i s2=some (a,s3))(h4:j s3=some (b,s4))(h5:Mine.N0K v a b w s4=some t):QZ o i j f s=some (.nx,t):=bS h1 (bS h2 (bS h3 (bS h4 (ED h5))))
theorem E0c{k n t:Nat}{a b:Int}{m:List (Option V)}{l g:List (Option O)}(hc:BI ⟨m,l,g⟩ k=some (.ba t))(h:0≤a∧a≤b∧b≤(t:Int)∧b - a=(n:Int)∧t≤AM):Mine.N0K (.g k) (.f (.int a)) (.f (.int b)) (.f (.fba n)) ⟨m,l,g⟩=some ⟨m,l,g.set k (some (.ba t))⟩:=bS hc (if_pos h)
theorem So{k:Nat}{a:Int}{x:Nm}{v:FV}{m:List (Option V)}{l g:List (Option O)}{es:Sts}(hc:BI ⟨m,l,g⟩ k=some (.tdict es))(h:Ay es (a,x)=some v):AQ ⟨m,l,g⟩ (.g k) (.f (.tup [.int a,.str x]))=some (.f v):=bS hc (mS h)
theorem Jk{s:Sec}{pl d r:List Ob}{o:Ob}(e:pl=d++o::r)(hs:s∈o.ss):(d.length,s)∈AZ pl 0:=by
 rw [e,Th,Cc]
 exact GO _ (Ff _ (GP hs))
def OOK(e:LE)(sts:Sts)(n:Nat)(p:Nat×Sec):Prop:=p.2.sz≤20∧(p.2.kd≠AO→∃a:Nat,Ay sts ((p.1:Int),p.2.nm)=some (.int a)∧e.base≤a∧a+p.2.sz≤e.base+n)
section
variable{e:LE}{ds:List Df}{sts:Sts}{marks:List (Nm×FV)}{f15:V}{c8:Option O}{f4:Int}{n:Nat}{a:Int}{j2 j3 j4 j5 j6 j7:Option FV}
noncomputable def sQ(e:LE)(ds:List Df)(sts:Sts)(marks:List (Nm×FV))(f15:V)(c8:Option O)(f4:Int)(n:Nat)(a:Int)(j2 j3 j4 j5 j6 j7:Option FV):St:=⟨mQ a j2 j3 j4 j5 j6 j7,[],LC e ds sts marks f15 c8 f4 n⟩
theorem J0z{a:Int}{s:Sec}(h:s.sz≤20):AB [] FO [(AH (BL 147 []) (Aa 5))] (sQ e ds sts marks f15 c8 f4 n a j2 j3 j4 (some (BA s)) j6 j7)=some (.f (.int s.sz),sQ e ds sts marks f15 c8 f4 n a j2 j3 j4 (some (BA s)) j6 j7):=Br (sq1 (Bl (atS rfl) rfl) sq0) rfl rfl (Of h)
theorem I04{k:Nat}{s:Sec}(h:OOK e sts n (k,s))(hn:n≤AM):
  ∃j7',stp (.one 5) Mq (BA s) (sQ e ds sts marks f15 c8 f4 n a j2 j3 (some (.int k)) j5 j6 j7)=some (.nx,sQ e ds sts marks f15 c8 f4 n a j2 j3 (some (.int k)) (some (BA s)) j6 j7'):=by
 have c:AA E9 (Al (Ap 1) (Aa 5)) (Af (.str [98,115,115])) (sQ e ds sts marks f15 c8 f4 n a j2 j3 (some (.int k)) (some (BA s)) j6 j7)=some (!decide (s.kd=AO),sQ e ds sts marks f15 c8 f4 n a j2 j3 (some (.int k)) (some (BA s)) j6 j7):=By (A7 (atS rfl) rfl) rfl rfl
 by_cases q:s.kd=AO
 ·rw [decide_eq_true q] at c
  exact ⟨j7,Bt (s1:=sQ e ds sts marks f15 c8 f4 n a j2 j3 (some (.int k)) (some (BA s)) j6 j7) rfl (Aj (Bs c (λz=>noT z) λ_=>rfl) rfl)⟩
 ·rw [decide_eq_false q] at c
  refine (h.2 q).elim λx hx=>?_
  have h4:x+s.sz≤e.base+n:=hx.2.2
  have h3:=hx.2.1
  exact ⟨some (.int ((x:Int) - e.base)),Bt (s1:=sQ e ds sts marks f15 c8 f4 n a j2 j3 (some (.int k)) (some (BA s)) j6 j7) rfl (Aj (Bs c (λ_=>Aj (BF (AG (AG (A7 (atS rfl) rfl) (DL (sq1 (atS rfl) (sq1 (A7 (atS rfl) rfl) sq0)) rfl) (So rfl hx.1)) (A7 (atS rfl) rfl) rfl) (s2:=sQ e ds sts marks f15 c8 f4 n a j2 j3 (some (.int k)) (some (BA s)) j6 (some (.int ((x:Int) - e.base)))) rfl)
   (Aj (J0G (w:=.f (.fba s.sz)) (A7 (atS rfl) (congrArg (λn:Nat=>some (V.f (.fba n))) (if_neg q))) (A7 (atS rfl) rfl) (atS rfl) (AG (atS rfl) (J0z h.1) rfl) (E0c (t:=n) rfl ⟨by lia,by lia,by lia,by lia,hn⟩)) rfl)) λz=>noF z) rfl)⟩
inductive QI(e:LE)(ds:List Df)(sts:Sts)(marks:List (Nm×FV))(f15:V)(c8:Option O)(f4:Int)(n:Nat)(a:Int)(j2 j3:Option FV):St→Prop
 |mk (j4 j5 j6 j7:Option FV):QI e ds sts marks f15 c8 f4 n a j2 j3 (sQ e ds sts marks f15 c8 f4 n a j2 j3 j4 j5 j6 j7)
inductive QJ(e:LE)(ds:List Df)(sts:Sts)(marks:List (Nm×FV))(f15:V)(c8:Option O)(f4:Int)(n:Nat)(a:Int)(j2 j3 j4 j6:Option FV):St→Prop
 |mk (j5 j7:Option FV):QJ e ds sts marks f15 c8 f4 n a j2 j3 j4 j6 (sQ e ds sts marks f15 c8 f4 n a j2 j3 j4 j5 j6 j7)
theorem I05(hn:n≤AM)(h: ∀p∈AZ e.pl 0,OOK e sts n p){P:Prop}(K: ∀j4' j5' j6' j7',Bn (.many [4,6]) (Gy (Al (Ap 21) (Aa 0))) Mr (sQ e ds sts marks f15 c8 f4 n a j2 j3 j4 j5 j6 j7)=some (.nx,sQ e ds sts marks f15 c8 f4 n a j2 j3 j4' j5' j6' j7')→P):P:=
 Kr (xs:=e.pl) (I:= λ_=>QI e ds sts marks f15 c8 f4 n a j2 j3) (f:=AP) (t:=.many [4,6]) (b:=Mr) (λd o r σ eq i=>i.casesOn λj4 j5 j6 j7=>
  Dy (xs:=o.ss) (I:= λ_=>QJ e ds sts marks f15 c8 f4 n a j2 j3 (some (.int d.length)) (some (AP o))) (f:=BA) (t:=.one 5) (b:=Mq) (λc s r σ eq2 i=>i.casesOn λj5 j7=>
   (I04 (h _ (Jk eq (Eh eq2))) hn).elim λj7' h=>.mk .nx _ h rfl (.mk _ _)) (r:=o.ss) (d:=[]) rfl (.mk j5 j7) λσ' e' i=>
   .mk .nx σ' (Bt (s1:=sQ e ds sts marks f15 c8 f4 n a j2 j3 (some (.int d.length)) j5 (some (AP o)) j7) rfl (Aj (BK (CM (A7 (a:=.f (AP o)) (atS rfl) rfl)) e') rfl)) rfl (i.casesOn λj5 j7=>.mk _ _ _ _)) (r:=e.pl) (d:=[]) rfl (.mk j4 j5 j6 j7) λσ' e' i=>by
 cases i with
 |mk a4 a5 a6 a7=>exact K a4 a5 a6 a7 (BK (Jc (A7 (a:=.g 1) (atS rfl) rfl)) e')
structure LOK(e:LE)(ds:List Df):Prop where
 rows:(AZ e.pl 0).length≤100
 len:e.pl.length≤100
 row: ∀kn,∀gr∈Ck kn e.pl,∀p∈gr.2,MA e.pl p
 k1:((Ck B9 e.pl).flatMap (·.2)).length≤100
 k2:(Y1 e).sts.length+(Y1 e).pcs.length+((Ck Du e.pl).flatMap (·.2)).length≤900
 k3:(Y2 e).sts.length+(Y2 e).pcs.length+((Ck CT e.pl).flatMap (·.2)).length≤900
 k4:(Y3 e).sts.length+(Y3 e).pcs.length+((Ck AO e.pl).flatMap (·.2)).length≤900
 k5:(Y4 e).pcs.length+ds.length≤900
 top:(YC e ds).1≤4294967296
 bs:e.base≤bsA e
 oct:bsA e - e.base≤AM
 octs: ∀p∈AZ e.pl 0,OOK e (Y4 e).sts (bsA e - e.base) p
noncomputable def sZ(e:LE)(ds:List Df)(t3 t4 t5:Option FV)(f4:Int):St:=⟨mQ (YC e ds).1 (some (.str AO)) t3 t4 t5 none none,[],(LB e (YC e ds).2.2 (Y4 e).sts (mks e ds) (YC e ds).2.1).set 1 (some (.inst 553 [(14,.f (.int e.base)),(21,.f (.lst (e.pl.map AP))),(22,.g 3),(23,.g 4),(24,.f (.dct [(B1,.str KJ)])),(25,.g 6),(26,.g 7),(15,.g 8),(3,.g 9),(4,.f (.int f4))]))⟩
theorem nwZ{t3 t4 t5:Option FV}(h11:e.c11=none):(Nx 19 (sZ e ds t3 t4 t5 f4)&&decide (19<(sZ e ds t3 t4 t5 f4).g.length)&&(O.ba n).okG)=true:=by
 show (!_&& !_&&true&&true)=true
 rw [show (sZ e ds t3 t4 t5 f4).m.any (BP (V.onG 19))=false from nc rfl (nc rfl (nc rfl (nc GC (nc GC (nc GC (nc rfl (nc rfl rfl))))))),show (sZ e ds t3 t4 t5 f4).g.any (Ey (V.onG 19))=false from rc rfl (rc rfl (rc rfl (rc rfl (rc rfl (rc rfl (rc rfl (rc rfl (rc rfl (rc rfl (rc SP (rc (h11▸rfl) rfl)))))))))))]
 rfl
theorem H0g(ok:LOK e ds)(h11:e.c11=none): ∃f4,Qq [.g 1] (LB e ds [] [] [])=some (.f .none,LC e (YC e ds).2.2 (Y4 e).sts (mks e ds) (.g 8) (some (.list ((YC e ds).2.1.map fPc))) f4 (bsA e - e.base)):=
 (Sw (e:=e) (ds:=ds) (marks:=[]) (j2:=none) (j3:=none) (j4:=none) (j5:=none) (kn:=B9) (mk:=nEt) (y:=⟨e.base,[],[]⟩) (by decide) rfl ⟨ok.rows,ok.len,ok.row _,by have:=ok.k1;show 0+0+_≤_;lia⟩ (FH _)).elim λp3 h=>h.elim λp4 h=>h.elim λp5 s1=>
 (Sw (e:=e) (ds:=ds) (marks:=[(nEt,.int (Y1 e).at_)]) (j2:=some (.str B9)) (j3:=p3) (j4:=p4) (j5:=p5) (kn:=Du) (mk:=[]) (y:=Y1 e) (by decide) rfl ⟨ok.rows,ok.len,ok.row _,ok.k2⟩ (by show 1<1000;decide)).elim λp3 h=>h.elim λp4 h=>h.elim λp5 s2=>
 (Sw (e:=e) (ds:=ds) (marks:=[(nEt,.int (Y1 e).at_),([],.int (Y2 e).at_)]) (j2:=some (.str Du)) (j3:=p3) (j4:=p4) (j5:=p5) (kn:=CT) (mk:=nEd) (y:=Y2 e) (by decide) rfl ⟨ok.rows,ok.len,ok.row _,ok.k3⟩ (by show 2<1000;decide)).elim λp3 h=>h.elim λp4 h=>h.elim λp5 s3=>
 (E0q (e:=e) (ds:=ds) (marks:=[(nEt,.int (Y1 e).at_),([],.int (Y2 e).at_),(nEd,.int (Y3 e).at_)]) (j2:=some (.str CT)) (j3:=p3) (j4:=p4) (j5:=p5) (y:=Y3 e) ⟨ok.rows,ok.len,ok.row _,ok.k4⟩ (by show 3<900;decide) ok.k5).elim λt3 h=>h.elim λt4 h=>h.elim λt5 s4=>
 I05 (e:=e) (ds:=(YC e ds).2.2) (sts:=(Y4 e).sts) (marks:=mks e ds) (f15:=.g 8) (c8:=some (.list ((YC e ds).2.1.map fPc))) (f4:=((YC e ds).1:Int) - bsA e) (a:=(YC e ds).1) (j2:=some (.str AO)) (j3:=t3) (j4:=t4) (j5:=t5) (j6:=none) (j7:=none) ok.oct ok.octs λu4 u5 u6 u7 s5=>
 have top:=ok.top
 have bs:=ok.bs
 ⟨((YC e ds).1:Int) - bsA e,Hz (Aj (s1:=⟨mK e.base none none none none,[],LB e ds [] [] []⟩) rfl (Aj (BK (s1:=⟨mK e.base none none none none,[],LB e ds [] [] []⟩) rfl (D5 s1 rfl (D5 s2 rfl (D5 s3 rfl (D5 s4 rfl rfl))))) (Aj (Bs (t:=false) (By (atS rfl) rfl (by show some (decide ((4294967296:Int)<((YC e ds).1:Int)))=_;rw [decide_eq_false (by lia)])) (λz=>noT z) λ_=>rfl) (Aj (s1:=sZ e ds t3 t4 t5 (((YC e ds).1:Int) - bsA e)) rfl (Aj (EX (SM (W0 (n:=bsA e - e.base) (AG (a:=.f (.int (bsA e))) (b:=.f (.int e.base)) rfl (A7 (atS rfl) rfl) (congrArg (λi=>some (V.f (.int i))) (Int.ofNat_sub bs).symm)) ok.oct) (nwZ h11)) (atS rfl) rfl) (Aj s5 rfl))))))⟩
end
noncomputable def LF(e:LE)(ds:List Df)(sts:Sts)(marks:List (Nm×FV))(pcs:List Pc)(f4:Int)(n:Nat):List (Option O):=LC e ds sts marks (.f (.lst (pcs.map fPc))) none f4 n
section
variable{e:LE}{ds:List Df}{sts:Sts}{marks:List (Nm×FV)}{pcs:List Pc}{f4:Int}{n:Nat}
theorem RN{x:Nm}{ds:List Df}: ∀{i:Nat},CD ds x=some i→(Ay (ds.map ent) x).isSome=true:=by
 induction ds with
 |nil=>exact λh=>noS h
 |cons d r ih=>exact λh=>F8 h (λq _=>congrArg Lu (if_pos q)) λq z=>(congrArg Lu (if_neg q)).trans (AV z λ_ e _=>ih e)
theorem I0a{i:Nat}(h:CD ds B1=some i):Qn [.g 1] (LB e ds sts marks pcs)=some (.f .none,LB e ds sts marks pcs):=
 have h1:Qt [.g 1] (LB e ds sts marks pcs)=some (.f (.lst []),LB e ds sts marks pcs):=Cw (m1:=[some (.g 1)]) (l1:=[]) (CV (C1 (Kk (m:=[some (.g 1)]) (xs:=[.str B1]) rfl (by decide) rfl (RE (s1:=⟨[some (.f (.str B1)),some (.g 1)],[],LB e ds sts marks pcs⟩) rfl (By (atS rfl) (A7 (a:=.g 1) (atS rfl) (r:=.g 4) rfl) (congrArg (λb=>some (!b)) (RN h))) rfl)))) rfl
 Hz (m1:=[some (.g 1),none]) (l1:=[]) (Aj (bS (CM (Br (sq1 (Bl (atS rfl) rfl) sq0) rfl rfl h1)) rfl) rfl)
inductive UI(e:LE)(ds:List Df)(sts:Sts)(marks:List (Nm×FV))(pcs:List Pc)(f4:Int)(n k:Nat)(o:Ob):St→Prop
 |mk (j:Option FV):UI e ds sts marks pcs f4 n k o ⟨[some (.g 1),some (.f (.int k)),some (.f (AP o)),some (.c 0),J j,none,none],[some (.dict [])],LF e ds sts marks pcs f4 n⟩
theorem K02{k:Nat}{o:Ob}:Qx [.g 1,.f (.int k),.f (AP o)] (LF e ds sts marks pcs f4 n)=some (.f (.dct []),LF e ds sts marks pcs f4 n):=
 Dy (xs:=o.ss) (I:= λ_=>UI e ds sts marks pcs f4 n k o) (f:=BA) (t:=.one 4) (b:=QK) (λd s r σ eq i=>i.casesOn λj=>.mk .nx _ (Bt (s1:=⟨[some (.g 1),some (.f (.int k)),some (.f (AP o)),some (.c 0),J (some (BA s)),none,none],[some (.dict [])],LF e ds sts marks pcs f4 n⟩) rfl rfl) rfl (.mk _)) (r:=o.ss) (d:=[]) rfl (.mk none) λσ e' i=>by
 cases i with
 |mk j=>exact Cw (Aj rfl (Aj (BK (CM (A7 (a:=.f (AP o)) (atS rfl) rfl)) e') (GH (F7 rfl rfl (mc rfl (mc rfl (mc rfl (mc rfl (mc AS (mc rfl (mc rfl rfl)))))))) (C1 (atS rfl))))) rfl
def HS(pl:List Ob)(sts:Sts):Prop:= ∀p∈AZ pl 0,p.2.sz≤20∧∃a:Nat,Ay sts ((p.1:Int),p.2.nm)=some (.int a)
noncomputable def sF(e:LE)(ds:List Df)(sts:Sts)(marks:List (Nm×FV))(pcs:List Pc)(f4:Int)(n:Nat)(j1 j2 j3 j4 j5 j6:Option FV):St:=⟨[some (.g 1),J j1,J j2,J j3,J j4,J j5,J j6,none,none,none],[],LF e ds sts marks pcs f4 n⟩
inductive FI(e:LE)(ds:List Df)(sts:Sts)(marks:List (Nm×FV))(pcs:List Pc)(f4:Int)(n:Nat):St→Prop
 |mk (j1 j2 j3 j4 j5 j6:Option FV):FI e ds sts marks pcs f4 n (sF e ds sts marks pcs f4 n j1 j2 j3 j4 j5 j6)
inductive FJ(e:LE)(ds:List Df)(sts:Sts)(marks:List (Nm×FV))(pcs:List Pc)(f4:Int)(n:Nat)(j1 j2 j3:Option FV):St→Prop
 |mk (j4 j5 j6:Option FV):FJ e ds sts marks pcs f4 n j1 j2 j3 (sF e ds sts marks pcs f4 n j1 j2 j3 j4 j5 j6)
theorem F05(h:HS e.pl sts):Qp [.g 1] (LF e ds sts marks pcs f4 n)=some (.f .none,LF e ds sts marks pcs f4 n):=
 Kr (xs:=e.pl) (I:= λ_=>FI e ds sts marks pcs f4 n) (f:=AP) (t:=.many [1,2]) (b:=QC) (λd o r σ eq i=>i.casesOn λj1 j2 j3 j4 j5 j6=>
  Dy (xs:=o.ss) (I:= λ_=>FJ e ds sts marks pcs f4 n (some (.int d.length)) (some (AP o)) (some (.dct []))) (f:=BA) (t:=.one 4) (b:=QB) (λc s r σ eq2 i=>i.casesOn λj4 j5 j6=>
   have hr:=h _ (Jk eq (Eh eq2))
   hr.2.elim λa ha=>.mk .nx _ (Bt (s1:=sF e ds sts marks pcs f4 n (some (.int d.length)) (some (AP o)) (some (.dct [])) (some (BA s)) j5 j6) rfl (Aj (SK (Lc (AG (A7 (atS rfl) rfl) (DL (sq1 (atS rfl) (sq1 (A7 (atS rfl) rfl) sq0)) rfl) (So rfl ha)) (Lc (Br (sq1 (Bl (atS rfl) rfl) sq0) rfl rfl (Of hr.1)) rfl)) (s2:=sF e ds sts marks pcs f4 n (some (.int d.length)) (some (AP o)) (some (.dct [])) (some (BA s)) (some (.int a)) (some (.int s.sz))) rfl) rfl)) rfl (.mk _ _ _)) (r:=o.ss) (d:=[]) rfl (.mk j4 j5 j6) λσ' e' i=>
   .mk .nx σ' (Bt (s1:=sF e ds sts marks pcs f4 n (some (.int d.length)) (some (AP o)) j3 j4 j5 j6) rfl (Aj (BF (Br (sq1 (Bl (atS rfl) rfl) (sq1 (atS rfl) (sq1 (atS rfl) sq0))) rfl rfl K02) rfl) (Aj (BK (CM (A7 (a:=.f (AP o)) (atS rfl) rfl)) e') rfl))) rfl (i.casesOn λj4 j5 j6=>.mk _ _ _ _ _ _)) (r:=e.pl) (d:=[]) rfl (.mk none none none none none none) λσ e' i=>by
 cases i with
 |mk j1 j2 j3 j4 j5 j6=>exact Hz (Aj (BK (Jc (A7 (a:=.g 1) (atS rfl) rfl)) e') rfl)
inductive NI(e:LE)(ds:List Df)(sts:Sts)(marks:List (Nm×FV))(pcs:List Pc)(f4:Int)(n:Nat):St→Prop
 |mk (j2 j3:Option FV):NI e ds sts marks pcs f4 n ⟨[some (.g 1),some (.c 0),J j2,J j3,none,none],[some (.list [])],LF e ds sts marks pcs f4 n⟩
theorem H0k:Qs [.g 1] (LF e ds sts marks pcs f4 n)=some (.f (.lst []),LF e ds sts marks pcs f4 n):=
 Kr (xs:=e.pl) (I:= λ_=>NI e ds sts marks pcs f4 n) (f:=AP) (t:=.many [2,3]) (b:=QE) (λd o r σ eq i=>i.casesOn λj2 j3=>.mk .nx _ (Bt (s1:=⟨[some (.g 1),some (.c 0),J (some (.int d.length)),J (some (AP o)),none,none],[some (.list [])],LF e ds sts marks pcs f4 n⟩) rfl rfl) rfl (.mk _ _)) (r:=e.pl) (d:=[]) rfl (.mk none none) λσ e' i=>by
 cases i with
 |mk j2 j3=>exact Cw (m1:=[some (.g 1),some (.c 0),J j2,J j3,none,none]) (l1:=[some (.list [])]) (Aj rfl (GH (BK (Jc (A7 (a:=.g 1) (atS rfl) rfl)) e') (C1 (A7 (atS rfl) rfl)))) rfl
end
noncomputable def Ij:Nm:=[42,97,98,115,111,108,117,116,101]
def AOK(sts:Sts)(d:Df)(a:Nat):Prop:=(rk d.n=2∧a=d.ad)∨(rk d.n≠2∧d.n.pl≠Ij∧∃b:Nat,Ay sts ((d.num:Int),d.n.pl)=some (.int b)∧a=b+d.n.va)
section
variable{e:LE}{ds:List Df}{sts:Sts}{marks:List (Nm×FV)}{pcs:List Pc}{f4:Int}{n:Nat}
theorem Z7{k b va sz:Nat}{nm pl bi:Nm}(hp:pl≠Ij)(hb:Ay sts ((k:Int),pl)=some (.int b)):LZ [.g 1,.f (.int k),.f (CN nm pl va bi sz)] (LF e ds sts marks pcs f4 n)=some (.f (.int ((b+va:Nat):Int)),LF e ds sts marks pcs f4 n):=
 have ht:B8 [(Aa 1),(Al (Ap 6) (Aa 2))] ⟨[some (.g 1),some (.f (.int k)),some (.f (CN nm pl va bi sz))],[],LF e ds sts marks pcs f4 n⟩=some (.f (.tup [.int k,.str pl]),⟨[some (.g 1),some (.f (.int k)),some (.f (CN nm pl va bi sz))],[],LF e ds sts marks pcs f4 n⟩):=DL (sq1 (atS rfl) (sq1 (A7 (atS rfl) rfl) sq0)) rfl
 Cw (Aj (Bs (t:=false) (By (a:=.f (.str pl)) (A7 (atS rfl) rfl) rfl (congrArg some (decide_eq_false hp))) (λz=>noT z) λ_=>rfl) (Aj (Bs (t:=false) (By ht (A7 (atS rfl) rfl) (congrArg (λo:Option FV=>some (!o.isSome)) hb)) (λz=>noT z) λ_=>rfl) (CV (C1 (AG (AG (A7 (atS rfl) rfl) ht (So rfl hb)) (A7 (atS rfl) rfl) IV))))) rfl
noncomputable def sA(e:LE)(ds:List Df)(sts:Sts)(marks:List (Nm×FV))(pcs:List Pc)(f4:Int)(n:Nat)(x:Nm)(v:Option V):St:=⟨[some (.g 1),some (.f (.str x)),v],[],LF e ds sts marks pcs f4 n⟩
theorem X1{x:Nm}{i:Nat}{R:Sv}{v:V}{s2:St}(hp:CD ds x=some i)(h:R (sA e ds sts marks pcs f4 n x (some (.d 4 i)))=some (.rt v,s2)):Ae (BB (AA F4 (Aa 1) (Al (Ap 23) (Aa 0))) (Ae (Bp 2 (Ao AQ (Al (Ap 23) (Aa 0)) (Aa 1))) R) Ar) (Ae (Bp 2 B0U) Ar) (sA e ds sts marks pcs f4 n x none)=some (.rt v,s2):=CV (Bs (t:=true) (By (atS rfl) (A7 (atS rfl) rfl) (congrArg some (RN hp))) (λ_=>Aj (BF (AG (A7 (atS rfl) rfl) (atS rfl) (r:=.d 4 i) (by show (Ga (ds.map ent) x).map (V.d 4)=_;rw [RS,hp];rfl)) rfl) h) λz=>noF z)
theorem X2{x:Nm}{i a:Nat}{d:Df}(hp:CD ds x=some i)(hd:ds[i]?=some d)(ha:AOK sts d a):LS [.g 1,.f (.str x)] (LF e ds sts marks pcs f4 n)=some (.f (.int a),LF e ds sts marks pcs f4 n):=
 have c:AA Bj (Al (Ap 17) (Aa 2)) (Af (.int 2)) (sA e ds sts marks pcs f4 n x (some (.d 4 i)))=some (decide ((rk d.n:Int)=2),sA e ds sts marks pcs f4 n x (some (.d 4 i))):=By (A7 (atS rfl) (FZ rfl hd rfl rfl)) rfl rfl
 ha.elim (λh=>Cw (X1 hp (CV (Bs c (λ_=>CV (C1 (A7 (atS rfl) (FZ rfl hd rfl (h.2▸rfl))))) λz=>absurd (by rw [h.1];rfl) (of_decide_eq_false z)))) rfl)
  λh=>h.2.2.elim λb hb=>Cw (X1 hp (Aj (Bs c (λz=>absurd (L0l (of_decide_eq_true z)) h.1) λ_=>rfl) (CV (C1 (Br (sq1 (Bl (atS rfl) rfl) (sq1 (A7 (atS rfl) (FZ rfl hd rfl rfl)) (sq1 (A7 (atS rfl) (FZ rfl hd rfl rfl)) sq0))) rfl rfl (hb.2▸Z7 h.2.1 hb.1)))))) rfl
noncomputable def D9(A:Nm→Nat)(x:Nm):Nm×FV:=(x,.int (A x))
theorem A0d(A:Nm→Nat)(xs:List Nm):(xs.map (D9 A)).map (·.1)=xs:=CP.trans (Fe _)
noncomputable def prE(P:Nm→FV)(x:Nm):Nm×FV:=(x,P x)
theorem J0e(P:Nm→FV)(xs:List Nm):(xs.map (prE P)).map (·.1)=xs:=CP.trans (Fe _)
noncomputable def Dl:List Nm:=[nEt,nEd,nBs,nEn]
inductive SI(e:LE)(ds:List Df)(sts:Sts)(marks:List (Nm×FV))(pcs:List Pc)(f4:Int)(n:Nat)(es:List (Nm×FV)):St→Prop
 |mk (j:Option FV):SI e ds sts marks pcs f4 n es ⟨[some (.g 1),some (.c 0),J j],[some (.dict es)],LF e ds sts marks pcs f4 n⟩
theorem K0j{A:Nm→Nat}{xs:List Nm}{P:Nm→FV}(hxs:xs=EY (ds.map (·.n.nm)))(hA: ∀x∈xs,∃i d,CD ds x=some i∧ds[i]?=some d∧AOK sts d (A x))(hnd:xs.Nodup)(hpr: ∀x∈Dl,x∉xs)(hl:ds.length<64)(hl2:xs.length<100)(hm: ∀x∈Dl,Ay marks x=some (P x)):
  Qv [.g 1] (LF e ds sts marks pcs f4 n)=some (.f (.dct (xs.map (D9 A)++Dl.map (prE P))),LF e ds sts marks pcs f4 n):=
 have hs:Al Hu (Al (Ap 23) (Aa 0)) ⟨[some (.g 1),some (.c 0),J none],[some (.dict [])],LF e ds sts marks pcs f4 n⟩=some (.f (.lst (xs.map FV.str)),⟨[some (.g 1),some (.c 0),J none],[some (.dict [])],LF e ds sts marks pcs f4 n⟩):=A7 (a:=.g 4) (A7 (atS rfl) rfl) (iS (by rw [AD];exact hl) (by rw [CP,hxs];rfl))
 Dy (xs:=xs) (I:= λd=>SI e ds sts marks pcs f4 n (d.map (D9 A))) (f:=FV.str) (t:=.one 2) (b:=QG) (λd x r σ eq i=>i.casesOn λj=>
  (hA x (Eh eq)).elim λi h=>h.elim λdf h=>
  have l:=leF eq
  have nx:x∉(d.map (D9 A)).map (·.1):=by rw [A0d,←Fe d];exact NM (f:=id) (A:=[]) eq (by rw [Fe];exact hnd)
  .mk .nx _ (Bt (s1:=⟨[some (.g 1),some (.c 0),J (some (.str x))],[some (.dict (d.map (D9 A)))],LF e ds sts marks pcs f4 n⟩) rfl (Aj (E0 (Br (sq1 (Bl (atS rfl) rfl) (sq1 (atS rfl) sq0)) rfl rfl (X2 h.1 h.2.1 h.2.2)) (atS rfl) (atS rfl) (Jt (es:=d.map (D9 A)) rfl (by rw [AD];unfold AM;lia))) rfl)) rfl (by rw [Nk nx,B3];exact .mk _)) (r:=xs) (d:=[]) rfl (.mk none) λσ1 e1 i=>by
 cases i with
 |mk j=>
  refine Dy (xs:=Dl) (I:= λd=>SI e ds sts marks pcs f4 n (xs.map (D9 A)++d.map (prE P))) (f:=FV.str) (t:=.one 2) (b:=QH) (λd x r σ eq i=>i.casesOn λj=>
   have l:=leF eq
   have l4:Dl.length=4:=rfl
   have hx:x∈Dl:=Eh eq
   have nx:x∉(xs.map (D9 A)++d.map (prE P)).map (·.1):=by
    rw [B3,A0d,J0e]
    exact λz=>(C7.mp z).elim (hpr x hx) λz=>NM (f:=id) (A:=[]) eq (by decide) (by rw [Fe];exact z)
   .mk .nx _ (Bt (s1:=⟨[some (.g 1),some (.c 0),J (some (.str x))],[some (.dict (xs.map (D9 A)++d.map (prE P)))],LF e ds sts marks pcs f4 n⟩) rfl (Aj (Bs (t:=true) (By (a:=.f (.str x)) (b:=.c 0) (atS rfl) (atS rfl) (congrArg (λo:Option FV=>some (!o.isSome)) (RP nx))) (λ_=>Aj (E0 (AG (a:=.g 7) (A7 (atS rfl) rfl) (atS rfl) (congrArg (Fh V.f) (hm x hx))) (atS rfl) (atS rfl) (Jt (es:=xs.map (D9 A)++d.map (prE P)) rfl (by rw [AU,AD,AD];unfold AM;lia))) rfl) λz=>noF z) rfl)) rfl (by rw [Nk nx,B3,←CO];exact .mk _)) (r:=Dl) (d:=[]) rfl (by rw [TN,CX];exact .mk j) λσ2 e2 i=>?_
  cases i with
  |mk j=>exact Cw (Aj rfl (Aj (BK (CM hs) e1) (Aj (BK rfl e2) (GH (F7 rfl rfl (mc rfl (mc rfl (mc AS rfl)))) (C1 (atS rfl)))))) rfl
end
theorem I0G{f g:Ev}{s s1:St}(h:f s=some (.f (.bool true),s1)):JV f g s=some (.f (.bool true),s1):=bS h rfl
theorem I0F{f g:Ev}{s s1:St}{R:Option (V×St)}(h:f s=some (.f (.bool false),s1))(h2:g s1=R):JV f g s=R:=bS h h2
theorem W7{f g:Ev}{s s1:St}{R:Option (V×St)}(h:f s=some (.f (.bool true),s1))(h2:g s1=R):JU f g s=R:=bS h h2
theorem W6{f g:Ev}{s s1:St}(h:f s=some (.f (.bool false),s1)):JU f g s=some (.f (.bool false),s1):=bS h rfl
theorem Jo{c:Cv}{s s1:St}{b:Bool}(h:c s=some (b,s1)):E6 c s=some (.f (.bool b),s1):=mS h
theorem T4{f:Ev}{s s1:St}{b:Bool}(h:f s=some (.f (.bool b),s1)):ID f s=some (b,s1):=bS h rfl
theorem I0z{c:Cv}{s s1:St}{b:Bool}(h:c s=some (b,s1)):Qk c s=some (!b,s1):=mS h
theorem Wh{c d:Cv}{s:St}{b b':Bool}(h1:c s=some (b,s))(h2:d s=some (b',s)):FN c d s=some (b&&b',s):=bS h1 (by cases b with|false=>rfl|true=>exact h2)
section
variable{e:LE}{ds:List Df}{sts:Sts}{marks:List (Nm×FV)}{pcs:List Pc}{f4:Int}{n:Nat}{k va sz:Nat}{code:List (Nm×FV)}{nm pl bi:Nm}{j2 j3 j4 j5 j6 j7:Option FV}
theorem K0m{x:Nm}: ∃b:Bool,LY [.g 1,.f (.int k),.f (.str x)] (LF e ds sts marks pcs f4 n)=some (.f (.bool b),LF e ds sts marks pcs f4 n):=by
 have hin: ∀{b:Bool},(Ay (ds.map ent) x).isSome=b→E6 (AA F4 (Aa 2) (Al (Ap 23) (Aa 0))) ⟨[some (.g 1),some (.f (.int k)),some (.f (.str x))],[],LF e ds sts marks pcs f4 n⟩=some (.f (.bool b),⟨[some (.g 1),some (.f (.int k)),some (.f (.str x))],[],LF e ds sts marks pcs f4 n⟩):= λh=>Jo (By (atS rfl) (A7 (atS rfl) rfl) (congrArg some h))
 cases hp:CD ds x with
 |none=>exact ⟨false,Cw (CV (C1 (W6 (hin (congrArg Lu (Xh hp)))))) rfl⟩
 |some i=>exact (KX hp).elim λd hd=>⟨decide ((d.num:Int)=k),Cw (CV (C1 (W7 (hin (RN hp)) (Jo (By (A7 (AG (A7 (atS rfl) rfl) (atS rfl) (r:=.d 4 i) (by show (Ga (ds.map ent) x).map (V.d 4)=_;rw [RS,hp];rfl)) (FZ rfl hd.1 rfl rfl)) (atS rfl) rfl))))) rfl⟩
noncomputable def pFV(p:Nat×Nm):FV:=.tup [.int p.1,.str p.2]
def UB(sts:Sts)(k:Nat)(code:List (Nm×FV)):Prop:= ∀x v,Ay code x=some v→∃z:Nat,v=.int z∧x≠Ij∧∃b:Nat,Ay sts ((k:Int),x)=some (.int b)
noncomputable def sN(e:LE)(ds:List Df)(sts:Sts)(marks:List (Nm×FV))(pcs:List Pc)(f4:Int)(n:Nat)(j2 j3 j4 j5 j6 j7:Option FV)(ps:List (Nat×Nm)):St:=⟨[some (.g 1),some (.c 0),J j2,J j3,J j4,J j5,J j6,J j7],[some (.list (ps.map pFV))],LF e ds sts marks pcs f4 n⟩
inductive MI(e:LE)(ds:List Df)(sts:Sts)(marks:List (Nm×FV))(pcs:List Pc)(f4:Int)(n:Nat)(j2 j3 j4:Option FV)(b:Nat):St→Prop
 |mk (j5 j6 j7:Option FV) (ps:List (Nat×Nm)) (h:ps.length≤b):MI e ds sts marks pcs f4 n j2 j3 j4 b (sN e ds sts marks pcs f4 n j2 j3 j4 j5 j6 j7 ps)
theorem nm6{ps:List (Nat×Nm)}: ∃b:Bool,Bp 6 (JV (E6 (AA Bj (Al (Ap 8) (Aa 5)) (Af (.str [108,111,99,97,108])))) (AB [] LY [(AH (BL 553 []) (Aa 0)),(Aa 2),(Al (Ap 0) (Aa 5))])) (sN e ds sts marks pcs f4 n (some (.int k)) j3 j4 (some (CN nm pl va bi sz)) j6 j7 ps)=some (.nx,sN e ds sts marks pcs f4 n (some (.int k)) j3 j4 (some (CN nm pl va bi sz)) (some (.bool b)) j7 ps):=by
 have c:E6 (AA Bj (Al (Ap 8) (Aa 5)) (Af (.str [108,111,99,97,108]))) (sN e ds sts marks pcs f4 n (some (.int k)) j3 j4 (some (CN nm pl va bi sz)) j6 j7 ps)=some (.f (.bool (decide (bi=NK))),sN e ds sts marks pcs f4 n (some (.int k)) j3 j4 (some (CN nm pl va bi sz)) j6 j7 ps):=Jo (By (A7 (atS rfl) rfl) rfl rfl)
 by_cases h:bi=NK
 ·rw [decide_eq_true h] at c;exact ⟨true,BF (I0G c) rfl⟩
 ·rw [decide_eq_false h] at c;exact (K0m (x:=nm)).imp λb t=>BF (I0F c (Br (sq1 (Bl (atS rfl) rfl) (sq1 (atS rfl) (sq1 (A7 (atS rfl) rfl) sq0))) rfl rfl t)) rfl
theorem YS{o:Option FV}{b:Nat}(hc:UB sts k code)(hb:b<1000){σ:St}(h:MI e ds sts marks pcs f4 n (some (.int k)) o (some (.dct code)) b σ):StepQ (.one 5) Ka (CN nm pl va bi sz) (MI e ds sts marks pcs f4 n (some (.int k)) o (some (.dct code)) (b+1)) σ:=
 h.casesOn λj5 j6 j7 ps hl=>nm6.elim λb6 h6=>by
  have hin: ∀{b:Bool},(Ay code pl).isSome=b→E6 (AA F4 (Al (Ap 6) (Aa 5)) (Aa 4)) (sN e ds sts marks pcs f4 n (some (.int k)) o (some (.dct code)) (some (CN nm pl va bi sz)) (some (.bool b6)) j7 ps)=some (.f (.bool b),sN e ds sts marks pcs f4 n (some (.int k)) o (some (.dct code)) (some (CN nm pl va bi sz)) (some (.bool b6)) j7 ps):= λh=>Jo (By (b:=.f (.dct code)) (A7 (atS rfl) rfl) (atS rfl) (congrArg some h))
  cases hp:Ay code pl with
  |none=>exact .mk .nx (sN e ds sts marks pcs f4 n (some (.int k)) o (some (.dct code)) (some (CN nm pl va bi sz)) (some (.bool b6)) (some (.bool false)) ps) (Bt rfl (Aj h6 (Aj (BF (W6 (hin (congrArg Lu hp))) rfl) (Aj (Bs (t:=false) (Rp rfl) (λz=>noT z) λ_=>rfl) rfl)))) rfl (.mk _ _ _ ps (Gm hl))
  |some v=>
   refine (hc _ _ hp).elim λz hz=>hz.2.2.elim λa ha=>?_
   have hp:=hz.1▸hp
   have h7:=BF (k:=7) (s2:=sN e ds sts marks pcs f4 n (some (.int k)) o (some (.dct code)) (some (CN nm pl va bi sz)) (some (.bool b6)) (some (.bool (decide ((va:Int)<z)))) ps) (W7 (hin (congrArg Lu hp)) (Jo (By (op:=Hk) (b:=.f (.int z)) (f:=Al (Ap 7) (Aa 5)) (a:=.f (.int va)) (A7 (atS rfl) rfl) (AG (op:=AQ) (f:=Aa 4) (a:=.f (.dct code)) (atS rfl) (A7 (a:=.f (CN nm pl va bi sz)) (op:=Ap 6) (f:=Aa 5) (atS rfl) rfl) (congrArg (Fh V.f) hp)) rfl))) rfl
   have go:=Wh (T4 (f:=Aa 7) (atS rfl)) (Wh (T4 (f:=Aa 6) (atS rfl)) (I0z (T4 (AG (op:=SW) (g:=Af (.str [46])) (Bl (f:=Al (Ap 0) (Aa 5)) (p:=isStr) (s:=sN e ds sts marks pcs f4 n (some (.int k)) o (some (.dct code)) (some (CN nm pl va bi sz)) (some (.bool b6)) (some (.bool (decide ((va:Int)<z)))) ps) (A7 (atS rfl) rfl) rfl) rfl rfl))))
   cases q:(decide ((va:Int)<z)&&(b6&& !([46].isPrefixOf nm))) with
   |true=>exact .mk .nx (sN e ds sts marks pcs f4 n (some (.int k)) o (some (.dct code)) (some (CN nm pl va bi sz)) (some (.bool b6)) (some (.bool (decide ((va:Int)<z)))) (ps++[(a+va,nm)])) (Bt rfl (Aj h6 (Aj h7 (Aj (Bs (go.trans (congrArg (λb=>some (b,_)) q)) (λ_=>Aj (DR (u:=.c 0) (Bl (atS rfl) rfl) (DL (sq1 (Br (sq1 (Bl (atS rfl) rfl) (sq1 (atS rfl) (sq1 (atS rfl) sq0))) rfl rfl (Z7 hz.2.1 ha)) (sq1 (A7 (atS rfl) rfl) sq0)) rfl) ((Hf (xs:=ps.map pFV) (x:=pFV (a+va,nm)) rfl (by rw [AD];unfold AM;lia)).trans (by unfold sN;rw [B3];rfl))) rfl) λz=>noF z) rfl)))) rfl (.mk _ _ _ _ (by rw [AU];exact Gn hl))
   |false=>exact .mk .nx _ (Bt rfl (Aj h6 (Aj h7 (Aj (Bs (go.trans (congrArg (λb=>some (b,_)) q)) (λz=>noT z) λ_=>rfl) rfl)))) rfl (.mk _ _ _ ps (Gm hl))
theorem E08{P:List (Nm×FV)→Prop}{l g:List (Option O)}{ss:List Sec}: ∀{acc:List (Nm×FV)} {j:Option V},(∀s∈ss,s.sz≤20)→(∀s∈ss,∀es,P es→P (AE es s.nm (.int s.sz)))→P acc→
  ∃es j',Mine.RC (.one 0) (AA Bj (Al (Ap 1) (Aa 0)) (Af (.str [116,101,120,116]))) (Al (Ap 0) (Aa 0)) (AB [] FO [(AH (BL 147 []) (Aa 0))]) (ss.map BA) acc ⟨[j],l,g⟩=some (es,⟨[j'],l,g⟩)∧P es:=by
 induction ss with
 |nil=>exact λ{acc j} _ _ h=>⟨acc,j,rfl,h⟩
 |cons s r ih=>
  intro acc j h1 h2 h
  have c:AA Bj (Al (Ap 1) (Aa 0)) (Af (.str [116,101,120,116])) ⟨[some (.f (BA s))],l,g⟩=some (decide (s.kd=B9),⟨[some (.f (BA s))],l,g⟩):=By (A7 (atS rfl) rfl) rfl rfl
  by_cases q:s.kd=B9
  ·rw [decide_eq_true q] at c
   exact (ih (λx hx=>h1 x (.tail _ hx)) (λx hx=>h2 x (.tail _ hx)) (h2 s (.head _) acc h)).imp λes e=>e.imp λj' e=>⟨E0I (s1:=⟨[some (.f (BA s))],l,g⟩) rfl c (A7 (atS rfl) rfl) (Br (sq1 (Bl (atS rfl) rfl) sq0) rfl rfl (Of (h1 s (.head _)))) e.1,e.2⟩
  ·rw [decide_eq_false q] at c
   exact (ih (λx hx=>h1 x (.tail _ hx)) (λx hx=>h2 x (.tail _ hx)) h).imp λes e=>e.imp λj' e=>⟨E0H (s1:=⟨[some (.f (BA s))],l,g⟩) rfl c e.1,e.2⟩
theorem Ef{κ α:Type}[DecidableEq κ]{x y:κ}{v:α}{es:List (κ×α)}:Ay (AE es x v) y=if x=y then some v else Ay es y:=by
 induction es with
 |nil=>rfl
 |cons a r ih=>
  show Ay (if a.1=x then (a.1,v)::r else a::AE r x v) y=if x=y then some v else if a.1=y then some a.2 else Ay r y
  by_cases h:a.1=x
  ·rw [if_pos h]
   show (if a.1=y then some v else Ay r y)=_
   rw [h]
   by_cases q:x=y
   ·rw [if_pos q,if_pos q]
   ·rw [if_neg q,if_neg q,if_neg q]
  ·rw [if_neg h]
   show (if a.1=y then some a.2 else Ay (AE r x v) y)=_
   rw [ih]
   by_cases q:x=y
   ·rw [if_pos q,if_pos q,if_neg λz=>h (z.trans q.symm)]
   ·rw [if_neg q,if_neg q]
theorem Zl{ps:List (Nat×Nm)}:NT (ps.map pFV)=some (ps.map λp=>((p.1:Int),p.2)):=by
 induction ps with
 |nil=>rfl
 |cons p r ih=>exact bS rfl (mS ih)
theorem J0S{ps:List (Nat×Nm)}{m:List (Option V)}{g:List (Option O)}(hl:ps.length<64): ∃ys,Hu ⟨m,[some (.list (ps.map pFV))],g⟩ (.c 0)=some (.f (.lst ys)):=⟨_,iS (by rw [AD];exact hl) (mS Zl)⟩
inductive MJ(e:LE)(ds:List Df)(sts:Sts)(marks:List (Nm×FV))(pcs:List Pc)(f4:Int)(n:Nat)(b:Nat):St→Prop
 |mk (j2 j3 j4 j5 j6 j7:Option FV) (ps:List (Nat×Nm)) (h:ps.length≤b):MJ e ds sts marks pcs f4 n b (sN e ds sts marks pcs f4 n j2 j3 j4 j5 j6 j7 ps)
theorem I0n(h:HS e.pl sts)(hna: ∀p∈AZ e.pl 0,p.2.nm≠Ij)(hl: ∀o∈e.pl,o.ss.length+o.ns.length≤9)(hn:e.pl.length≤3): ∃ys,Qu [.g 1] (LF e ds sts marks pcs f4 n)=some (.f (.lst ys),LF e ds sts marks pcs f4 n):=
 Kr (xs:=e.pl) (I:= λd=>MJ e ds sts marks pcs f4 n (9*d.length)) (f:=AP) (t:=.many [2,3]) (b:=QF) (λd o r σ eq i=>i.casesOn λj2 j3 j4 j5 j6 j7 ps hps=>
  have hol:=hl o (Eh eq)
  have hdl:=leF eq
  (E08 (P:=UB sts d.length) (l:=[some (.list (ps.map pFV))]) (g:=LF e ds sts marks pcs f4 n) (ss:=o.ss) (acc:=[]) (j:=none) (λx hx=>(h _ (Jk eq hx)).1) (λx hx es hes y v hy=>F8 (Ef.symm.trans hy) (λq z=>⟨x.sz,(An z).symm,q▸hna _ (Jk eq hx),q▸(h _ (Jk eq hx)).2⟩) λ_ z=>hes y v z) (λ_ _ h=>noS h)).elim λcode c=>c.elim λj' c=>
  Dy (xs:=o.ss) (I:= λc=>MI e ds sts marks pcs f4 n (some (.int d.length)) (some (AP o)) (some (.dct code)) (9*d.length+c.length)) (f:=GF) (t:=.one 5) (b:=Ka) (λc2 s r σ eq2 i=>by
   have:=leF eq2
   rw [AU]
   exact YS c.2 (by lia) i) (r:=o.ss) (d:=[]) rfl (.mk j5 j6 j7 ps hps) λσ1 e1 i1=>
  Dy (xs:=o.ns) (I:= λc=>MI e ds sts marks pcs f4 n (some (.int d.length)) (some (AP o)) (some (.dct code)) (9*d.length+o.ss.length+c.length)) (f:=Dz) (t:=.one 5) (b:=Ka) (λc2 s r σ eq2 i=>by
   have:=leF eq2
   rw [AU]
   exact YS c.2 (by lia) i) (r:=o.ns) (d:=[]) rfl i1 λσ2 e2 i2=>
  .mk .nx σ2 (Bt (s1:=sN e ds sts marks pcs f4 n (some (.int d.length)) (some (AP o)) j4 j5 j6 j7 ps) rfl (Aj (BF (E0J (CM (xs:=o.ss.map BA) (A7 (a:=.f (AP o)) (atS rfl) rfl)) (by rw [AD];lia) c.1) rfl) (Aj (BK (CM (A7 (a:=.f (AP o)) (atS rfl) rfl)) (Xr e2 e1)) rfl))) rfl
   (i2.casesOn λj5 j6 j7 ps hp=>.mk _ _ _ _ _ _ ps (by rw [AU];show _≤9*(d.length+1);lia))) (r:=e.pl) (d:=[]) rfl (.mk none none none none none none [] (A9 _)) λσ e' i=>by
 cases i with
 |mk j2 j3 j4 j5 j6 j7 ps hp=>exact (J0S (by lia)).imp λys hy=>Cw (Aj rfl (Aj (BK (Jc (A7 (a:=.g 1) (atS rfl) rfl)) e') (CV (C1 (A7 (atS rfl) hy))))) rfl
end
section
variable{e:LE}{ds:List Df}
noncomputable def Jf(en base n:Nat)(f4:Int)(sy:List (Nm×FV))(pcs lns ys:List FV):FV:=.obj 356 [(13,.int en),(14,.int base),(3,.bytesN n),(4,.int f4),(11,.dct sy),(15,.lst pcs),(12,.lst lns),(16,.lst ys)]
noncomputable def Je(en base n:Nat)(f4:Int)(sy:List (Nm×FV))(pcs lns ys:List FV):O:=.inst 356 [(13,.f (.int en)),(14,.f (.int base)),(3,.f (.bytesN n)),(4,.f (.int f4)),(11,.f (.dct sy)),(15,.f (.lst pcs)),(12,.f (.lst lns)),(16,.f (.lst ys))]
noncomputable def sI(v:Option V)(g:List (Option O)):St:=⟨[some (.g 1),some (.f (.str B1)),v],[],g⟩
noncomputable def LG(e:LE)(ds:List Df)(f4:Int)(c:Option O):List (Option O):=LF {e with c11:=c} (YC e ds).2.2 (Y4 e).sts (mks e ds) (YC e ds).2.1 f4 (bsA e - e.base)
theorem G02{f4:Int}{en:Nat}{sy:List (Nm×FV)}:mk 11 356 LR [.f (.int en),.f (.int e.base),.f (.bytesN (bsA e - e.base)),.f (.int f4),.f (.dct sy)] (LG e ds f4 none)=some (.g 11,LG e ds f4 (some (Je en e.base (bsA e - e.base) f4 sy [] [] []))):=YG rfl (rc rfl (rc rfl (rc rfl (rc rfl (rc rfl (rc rfl (rc rfl (rc rfl (rc rfl (rc rfl (rc SP rfl))))))))))) rfl (Hz (m1:=[some (.g 11),some (.f (.int en)),some (.f (.int e.base)),some (.f (.bytesN (bsA e - e.base))),some (.f (.int f4)),some (.f (.dct sy))]) (l1:=[]) rfl)
theorem G01{i0:Nat}{A:Nm→Nat}{xs:List Nm}{P:Nm→FV}(ok:LOK e ds)(h11:e.c11=none)(hm:CD ds B1=some i0)(hs:HS e.pl (Y4 e).sts)(hna: ∀p∈AZ e.pl 0,p.2.nm≠Ij)(hl9: ∀o∈e.pl,o.ss.length+o.ns.length≤9)(hn3:e.pl.length≤3)
  (hxs:xs=EY ((YC e ds).2.2.map (·.n.nm))) (hA: ∀x∈xs,∃i d,CD (YC e ds).2.2 x=some i∧(YC e ds).2.2[i]?=some d∧AOK (Y4 e).sts d (A x)) (hst:B1∈xs) (hnd:xs.Nodup) (hpr: ∀x∈Dl,x∉xs) (hl:(YC e ds).2.2.length<64) (hl2:xs.length<100) (hP: ∀x∈Dl,Ay (mks e ds) x=some (P x)):
  ∃f4 ys g',LV [.g 1,.f (.str B1)] (LB e ds [] [] [])=some (.f (Jf (A B1) e.base (bsA e - e.base) f4 (xs.map (D9 A)++Dl.map (prE P)) ((YC e ds).2.1.map fPc) [] ys),g'):=
 (H0g ok h11).elim λf4 hlay=>(hA B1 hst).elim λi h=>h.elim λd a=>
 (I0n (e:={e with c11:=some (Je (A B1) e.base (bsA e - e.base) f4 (xs.map (D9 A)++Dl.map (prE P)) ((YC e ds).2.1.map fPc) [] [])}) (ds:=(YC e ds).2.2) (sts:=(Y4 e).sts) (marks:=mks e ds) (pcs:=(YC e ds).2.1) (f4:=f4) (n:=bsA e - e.base) hs hna hl9 hn3).elim λys hys=>
 ⟨f4,ys,_,Cw (Aj (Kp (Br (sq1 (Bl (atS rfl) rfl) sq0) rfl rfl (I0a hm))) (Aj (Kp (Br (sq1 (Bl (atS rfl) rfl) sq0) rfl rfl hlay)) (Aj (s1:=sI none (LG e ds f4 none)) (Gj (F6 (x:=.lst ((YC e ds).2.1.map fPc)) rfl rfl rfl (by unfold LC LG LF LC;rw [h11];cases e.d10<;>rfl)))
  (Aj (Kp (Br (sq1 (Bl (atS rfl) rfl) sq0) rfl rfl (F05 hs))) (Aj (BF (Br (sq1 (Br (sq1 (Bl (atS rfl) rfl) (sq1 (atS rfl) sq0)) rfl rfl (X2 a.1 a.2.1 a.2.2)) (sq1 (A7 (atS rfl) rfl) (sq1 (A7 (A7 (atS rfl) rfl) (r:=.f (.bytesN (bsA e - e.base))) (if_pos ok.oct)) (sq1 (A7 (atS rfl) rfl) (sq1 (Br (sq1 (Bl (atS rfl) rfl) sq0) rfl rfl (K0j hxs hA hnd hpr hl hl2 hP)) sq0))))) rfl rfl G02) (s2:=sI (some (.g 11)) (LG e ds f4 (some (Je (A B1) e.base (bsA e - e.base) f4 (xs.map (D9 A)++Dl.map (prE P)) [] [] [])))) rfl)
  (Aj (s1:=sI (some (.g 11)) (LG e ds f4 (some (Je (A B1) e.base (bsA e - e.base) f4 (xs.map (D9 A)++Dl.map (prE P)) ((YC e ds).2.1.map fPc) [] [])))) rfl
  (Aj (EX (Br (sq1 (Bl (atS rfl) rfl) sq0) rfl rfl H0k) (atS rfl) (t:=sI (some (.g 11)) (LG e ds f4 (some (Je (A B1) e.base (bsA e - e.base) f4 (xs.map (D9 A)++Dl.map (prE P)) ((YC e ds).2.1.map fPc) [] [])))) rfl)
  (Aj (EX (Br (sq1 (Bl (atS rfl) rfl) sq0) rfl rfl hys) (atS rfl) (t:=sI (some (.g 11)) (LG e ds f4 (some (Je (A B1) e.base (bsA e - e.base) f4 (xs.map (D9 A)++Dl.map (prE P)) ((YC e ds).2.1.map fPc) [] ys)))) rfl)
  (GH (Gj (F6 (k:=11) (x:=Jf (A B1) e.base (bsA e - e.base) f4 (xs.map (D9 A)++Dl.map (prE P)) ((YC e ds).2.1.map fPc) [] ys) rfl rfl rfl rfl)) (C1 (atS rfl))))))))))) rfl⟩
end
noncomputable def BZ:Nat→List Ob→List Df→List Df
 |_,[],ds=>ds
 |k,o::r,ds=>BZ (k+1) r (o.ns.foldl (Ds k) ds)
theorem N03{o:Ob}{d:List Ob}: ∀{k ds},BZ k (d++[o]) ds=o.ns.foldl (Ds (k+d.length)) (BZ k d ds):=by
 induction d with
 |nil=>exact rfl
 |cons a d ih=>exact λ{k ds}=>(ih (k:=k+1)).trans (congrArg (λn=>o.ns.foldl (Ds n) (BZ (k+1) d _)) (TV k 1 d.length))
structure LinkOK(pl:List Ob):Prop where
 len:pl.length≤3
 nd: ∀(k:Nat) (o:Ob),pl[k]?=some o→((o.ss.map λs=>EV s.nm)++o.ns.map (·.nm)).Nodup
 ln: ∀(k:Nat) (o:Ob),pl[k]?=some o→o.ss.length≤4∧o.ns.length≤5
 ne: ∀(k:Nat) (o:Ob),pl[k]?=some o→∀n∈o.ns,n.pl≠[]
 cr: ∀(k k':Nat) (o o':Ob) (n n':Nam),k<k'→pl[k]?=some o→pl[k']?=some o'→n∈o.ns→n'∈o'.ns→n.nm=n'.nm→n.pl=AX∧n'.pl=AX
noncomputable def sK(base:Nat)(pl:List Ob)(j4:Option FV)(g:List (Option O)):St:=⟨[some (.f (.lst (pl.map AP))),some (.f (.str B1)),some (.f (.int base)),some (.g 1),J j4],[],g⟩
inductive KI(wl:List FV)(base:Nat)(pl d:List Ob):St→Prop
 |mk (d10:Option Df) (j4:Option FV) (h1:(BZ 0 d []).length≤5*d.length) (h2: ∀x∈BZ 0 d [],∃k o,k<d.length∧pl[k]?=some o∧x.n∈o.ns):KI wl base pl d (sK base pl j4 (LA wl base (d.map AP) d.length (BZ 0 d []) d10))
theorem D0G{α:Type}{pl d r:List α}{o:α}(e:pl=d++o::r):pl[d.length]?=some o:=by rw [e,A0B (A9 _),OO];rfl
theorem Z6{base:Nat}{pl:List Ob}{j4:Option FV}{f:V→V}{g:List (Option O)}(h: ∀x,f (.f x)=.f x)(h1:f (.g 1)=.g 1):(sK base pl j4 g).m.map (·.map f)=(sK base pl j4 g).m:=mc (congrArg some (h _)) (mc (congrArg some (h _)) (mc (congrArg some (h _)) (mc (congrArg some h1) (mc (fJ h) rfl))))
theorem H0m{wl:List FV}{base:Nat}{pl:List Ob}(ok:LinkOK pl): ∃d10,∀{v:FV} {g':List (Option O)},LV [.g 1,.f (.str B1)] (LB ⟨wl,base,pl,pl.length,d10,none⟩ (BZ 0 pl []) [] [] [])=some (.f v,g')→
  Mg [.f (.lst (pl.map AP)),.f (.str B1),.f (.int base)] (some (.list wl)::BW 20 none)=some (.f v,g'):=
 Dy (xs:=pl) (I:=KI wl base pl) (f:=AP) (t:=.one 4) (b:=QO) (λd o r σ eq i=>i.casesOn λd10 j4 h1 h2=>
  have ho:=D0G eq
  have hl:=leF eq
  have h3:=ok.len
  have l:=ok.ln _ _ ho
  have sn:BZ 0 (d++[o]) []=o.ns.foldl (Ds d.length) (BZ 0 d []):=N03.trans (by rw [Cc])
  have ld:(d++[o]).length=d.length+1:=AU
  have lm:(d.map AP).length=d.length:=AD _
  (K0l (wl:=wl) (base:=base) (objs:=d.map AP) (tabs:=d.length) (ds:=BZ 0 d []) (d10:=d10) (o:=o) (by lia) (ok.nd _ _ ho) (by lia) (by lia) (by lia) (ok.ne _ _ ho) (λn hn x hx hxn=>(h2 x hx).elim λk h=>h.elim λo' h=>ok.cr k d.length o' o x.n n h.1 h.2.1 ho h.2.2 hn hxn)).elim λd10' ht=>
  .mk .nx (sK base pl (some (AP o)) (LA wl base (d.map AP++[AP o]) (d.length+1) (o.ns.foldl (Ds d.length) (BZ 0 d [])) d10')) (Bt (s1:=sK base pl (some (AP o)) (LA wl base (d.map AP) d.length (BZ 0 d []) d10)) rfl (Aj (Kp (Br (sq1 (Bl (atS rfl) rfl) (sq1 (atS rfl) sq0)) rfl rfl (lm▸ht))) rfl)) rfl (by
   have z:=KI.mk (wl:=wl) (base:=base) (pl:=pl) (d:=d++[o]) d10' (some (AP o)) (by rw [sn,ld];have:=Xo (num:=d.length) (ns:=o.ns) (ds:=BZ 0 d []);lia) (by
    rw [sn,ld]
    exact λx hx=>(Xp hx).elim (λh=>h.elim λd0 h=>(h2 d0 h.1).imp λk z=>z.imp λo' z=>⟨FG z.1,z.2.1,h.2▸z.2.2⟩) λh=>⟨d.length,o,C8 _,ho,h⟩)
   rw [sn,ld,B3] at z
   exact z)) (r:=pl) (d:=[]) rfl (.mk none none (A9 _) (λ_ h=>nomatch h)) λσ e' i=>by
 cases i with
 |mk d10 j4 h1 h2=>
  exact ⟨d10,λ{v g'} hi=>Cw (Aj (BF (Br (sq1 (atS rfl) sq0) rfl rfl H0n) (s2:=sK base pl none (LA wl base [] 0 [] none)) rfl) (Aj (BK (CM (atS rfl)) e')
   (Aj (s1:=sK base pl j4 (((LA wl base (pl.map AP) pl.length (BZ 0 pl []) d10).set 2 none).set 1 (some (.inst 553 [(14,.f (.int base)),(21,.f (.lst (pl.map AP))),(22,.g 3),(23,.g 4),(24,.g 5),(25,.g 6),(26,.g 7),(15,.g 8),(3,.g 9),(4,.f (.int 0))])))) (Gj (F6 (x:=.lst (pl.map AP)) rfl rfl (Z6 (g:=[]) (λ_=>rfl) rfl) (by cases d10<;>rfl)))
   (Aj (s1:=sK base pl j4 ((((LA wl base (pl.map AP) pl.length (BZ 0 pl []) d10).set 2 none).set 1 (some (.inst 553 [(14,.f (.int base)),(21,.f (.lst (pl.map AP))),(22,.g 3),(23,.g 4),(24,.g 5),(25,.g 6),(26,.g 7),(15,.g 8),(3,.g 9),(4,.f (.int 0))]))).set 5 (some (.dict [(B1,.str KJ)])))) rfl
   (Aj (s1:=sK base pl j4 (LB ⟨wl,base,pl,pl.length,d10,none⟩ (BZ 0 pl []) [] [] [])) (Gj (F6 (x:=.dct [(B1,.str KJ)]) rfl rfl (Z6 (g:=[]) (λ_=>rfl) rfl) (by cases d10<;>rfl)))
   (CV (C1 (Br (sq1 (Bl (atS rfl) rfl) (sq1 (atS rfl) sq0)) rfl (by
    show (!_&&(!_&&true))=true
    rw [nc (p:=V.onG 11) rfl (nc rfl (nc rfl (nc rfl (nc GC rfl)))),nc (p:=V.onG 19) rfl (nc rfl (nc rfl (nc rfl (nc GC rfl))))];rfl) hi)))))))) rfl⟩
noncomputable def hx(n:Nat):Nm:=[48,120]++EP n
noncomputable def FC(n:Nat):Nm:=[101,110,116,114,121,32]++hx n
noncomputable def Ej(p:Pc):Nm:=hx p.at_++[32]++CS p.sz++[32]++p.nm++[32]++p.ti
noncomputable def EE(p:Nat×Nm):Nm:=hx p.1++[32]++p.2
noncomputable def ltN(a b:Nat×Nm):Bool:=if a.1<b.1 then true else if b.1<a.1 then false else C6 a.2 b.2
noncomputable def Hq(x:Nat×Nm):List (Nat×Nm)→List (Nat×Nm)
 |[]=>[x]
 |y::r=>if ltN x y then x::y::r else y::Hq x r
noncomputable def D0:List (Nat×Nm)→List (Nat×Nm)
 |[]=>[]
 |x::r=>Hq x (D0 r)
noncomputable def cst(p:Nat×Nm):Int×Nm:=(p.1,p.2)
theorem H0z{a b:Nat×Nm}:Cb (cst a) (cst b)=ltN a b:=by
 unfold Cb ltN cst
 simp only [Gl]
theorem G03{x:Nat×Nm}{l:List (Nat×Nm)}:G7 (cst x) (l.map cst)=(Hq x l).map cst:=by
 induction l with
 |nil=>rfl
 |cons y r ih=>
  show (if Cb (cst x) (cst y) then _ else cst y::G7 (cst x) (r.map cst))=(if ltN x y=true then x::y::r else y::Hq x r).map cst
  rw [H0z,ih]
  cases ltN x y<;>rfl
theorem J0M{l:List (Nat×Nm)}:H3 (l.map cst)=(D0 l).map cst:=by
 induction l with
 |nil=>rfl
 |cons x r ih=>exact (congrArg (G7 (cst x)) ih).trans G03
theorem N09{x:Nat×Nm}{l}:(Hq x l).Perm (x::l):=by
 induction l with
 |nil=>exact .refl _
 |cons y r ih=>
  show (if ltN x y=true then x::y::r else y::Hq x r).Perm _
  cases ltN x y with
  |true=>exact .refl _
  |false=>exact (ih.cons y).trans (.swap x y r)
theorem N0M{l}:(D0 l).Perm l:=by
 induction l with
 |nil=>exact .refl _
 |cons x r ih=>exact N09.trans (ih.cons x)
theorem Ol{l:List Nm}:E2 (l.map FV.str)=some l:=by
 induction l with
 |nil=>rfl
 |cons x r ih=>exact mS (F:=(x:: ·)) ih
theorem Tw{B:Nat}{l:List Nm}:(∀x∈l,x.length≤B)→(l.map J0).sum≤l.length*B:=by
 induction l with
 |nil=>exact λ_=>C9 _
 |cons x r ih=>
  intro h
  rw [Em,L0K,Dm,Nat.succ_mul,J8]
  exact TU (ih λy hy=>h y (.tail _ hy)) (h x (.head _))
theorem XW{l:List Nm}(h: ∀x∈l,x.length≤1000)(hl:l.length≤1000):Su [10] (l.map FV.str)=some (.f (.str (EC [10] l))):=
 bS Ol (if_pos (by
  have:=Tw h
  have:=A0M 1000 hl
  show _+l.length*1≤_
  unfold AM;lia))
theorem XU{l:List Nm}:(EC [10] l).length≤(l.map J0).sum+l.length:=by
 induction l with
 |nil=>exact C9 _
 |cons x r ih=>
  rw [Em,L0K,Dm]
  cases r with
  |nil=>exact E4 _ 1
  |cons y r=>
   show (x++[10]++EC [10] (y::r)).length≤_
   rw [AU,AU]
   show _+1+_≤_
   lia
theorem Hp{n:Nat}(h:n<4294967297):(hx n).length≤11:=by
 unfold hx EP;rw [AU,AD]
 exact OJ ((L0R (b:=16) (n:=n) (k:=9) (by decide) (by decide)).mpr (by lia)) 2
structure POK(p:Pc):Prop where
 a:p.at_<4294967297
 s:p.sz<1000000000
 n:p.nm.length≤40
 t:p.ti.length≤40
theorem Fy{x y:Nm}{a b:Nat}(h:x.length≤a)(h2:y.length≤b):(x++y).length≤a+b:=by rw [AU];exact TU h h2
theorem Z1{n:Nat}(h:n<4294967297):(FC n).length≤1000:=A8 (Fy (A9 6) (Hp h)) (by decide)
theorem Z2{p:Pc}(h:POK p):(Ej p).length≤1000:=A8 (Fy (Fy (Fy (Fy (Fy (Fy (Hp h.a) (A9 1)) (Ko (k:=9) h.s (by decide))) (A9 1)) h.n) (A9 1)) h.t) (by decide)
theorem Z3{p:Nat×Nm}(h:p.1<4294967297)(h2:p.2.length≤40):(EE p).length≤1000:=A8 (Fy (Fy (Hp h) (A9 1)) h2) (by decide)
def Tx(f:Ev)(s:St)(x:Nm)(a:Nat):Prop:=f s=some (.f (.str x),s)∧x.length≤a
theorem Tx.cat{f g:Ev}{s:St}{x y:Nm}{a b:Nat}(h1:Tx f s x a)(h2:Tx g s y b)(h:a+b≤2000):Tx (Ao Bf f g) s (x++y) (a+b):=⟨AG h1.1 h2.1 (Fw (A8 (TU h1.2 h2.2) (A8 h (by decide)))),Fy h1.2 h2.2⟩
theorem Tx.hex{f:Ev}{s:St}{n:Nat}(h:f s=some (.f (.int n),s))(hn:n<4294967297):Tx (Al KP f) s (hx n) 11:=⟨A7 h (if_pos hn),Hp hn⟩
theorem Tx.dec{f:Ev}{s:St}{n:Nat}(h:f s=some (.f (.int n),s))(hn:n<1000000000):Tx (Al Im f) s (CS n) 9:=⟨A7 h (Oj rfl hn),Ko hn (by decide)⟩
theorem Tx.slot{k a:Nat}{s:St}{x:Nm}(h:C0 s k=some (.f (.str x)))(hn:x.length≤a):Tx (Aa k) s x a:=⟨atS h,hn⟩
theorem Tx.lit{s:St}{x:Nm}:Tx (Af (.str x)) s x x.length:=⟨rfl,A9 _⟩
noncomputable def Bg(p:Nm×Nat):Nm×FV:=(p.1,.int p.2)
noncomputable def swp(p:Nm×Nat):Nat×Nm:=(p.2,p.1)
noncomputable def mM(im:FV)(j2 j3 j4 j5 j6:Option FV):List (Option V):=[some (.f im),some (.c 0),J j2,J j3,J j4,J j5,J j6]
section
variable{en base n:Nat}{f4:Int}{sy:List (Nm×Nat)}{pcs:List Pc}{lns ys:List FV}{g:List (Option O)}{im:FV}{j2 j3 j4 j5 j6:Option FV}{rows:List Nm}{m:List (Option V)}
theorem Z4{f:Ev}{x:Nm}{a:Nat}(h1:C0 ⟨m,[some (.list (rows.map FV.str))],g⟩ 1=some (.c 0))(h:Tx f ⟨m,[some (.list (rows.map FV.str))],g⟩ x a)(hr:rows.length<1000):Ae (CJ (AH (CK []) (Aa 1)) f) Ar ⟨m,[some (.list (rows.map FV.str))],g⟩=some (.nx,⟨m,[some (.list ((rows++[x]).map FV.str))],g⟩):=Aj (DR (Bl (atS h1) rfl) h.1 ((Hf (xs:=rows.map FV.str) rfl (by rw [AD];unfold AM;lia)).trans (by rw [B3];rfl))) rfl
theorem H0J{p:Pc}(hp:POK p)(hr:rows.length<1000):stp (.many [2,3,4,5]) M7 (fPc p) ⟨mM im j2 j3 j4 j5 j6,[some (.list (rows.map FV.str))],g⟩=some (.nx,⟨mM im (some (.str p.nm)) (some (.str p.ti)) (some (.int p.at_)) (some (.int p.sz)) j6,[some (.list ((rows++[Ej p]).map FV.str))],g⟩):=Bt rfl (Z4 rfl (((((((Tx.hex (atS rfl) hp.a).cat .lit (by decide)).cat (.dec (atS rfl) hp.s) (by decide)).cat .lit (by decide)).cat (.slot rfl hp.n) (by decide)).cat .lit (by decide)).cat (.slot rfl hp.t) (by decide)) hr)
theorem H0K{p:Nat×Nm}(hp:p.1<4294967297)(hp2:p.2.length≤40)(hr:rows.length<1000):stp (.many [4,3]) M8 (pFV p) ⟨mM im j2 j3 j4 j5 j6,[some (.list (rows.map FV.str))],g⟩=some (.nx,⟨mM im j2 (some (.str p.2)) (some (.int p.1)) j5 j6,[some (.list ((rows++[EE p]).map FV.str))],g⟩):=Bt rfl (Z4 rfl (((Tx.hex (atS rfl) hp).cat .lit (by decide)).cat (.slot rfl hp2) (by decide)) hr)
inductive RW(im:FV)(j6:Option FV)(g:List (Option O))(rows:List Nm):St→Prop
 |mk (j2 j3 j4 j5:Option FV):RW im j6 g rows ⟨mM im j2 j3 j4 j5 j6,[some (.list (rows.map FV.str))],g⟩
theorem I0j{m:List (Option V)}{l g:List (Option O)}(hsl:sy.length<64)(h0:C0 ⟨m,l,g⟩ 0=some (.f (Jf en base n f4 (sy.map Bg) (pcs.map fPc) lns ys))):Al Hu (Ft [] 2 [] (I.items (Al (Ap 11) (Aa 0))) (.many [0,1]) HH (B8 [(Aa 1),(Aa 0)])) ⟨m,l,g⟩=some (.f (.lst ((D0 (sy.map swp)).map pFV)),⟨m,l,g⟩):=
 have hc: ∀{r:List (Nm×Nat)} {m0 m1:Option V},∃m0' m1',DE (.many [0,1]) HH (B8 [(Aa 1),(Aa 0)]) ((r.map Bg).map λe=>.tup [.str e.1,e.2]) ⟨[m0,m1],l,g⟩=some ((r.map swp).map pFV,⟨[m0',m1'],l,g⟩):= λ{r}=>by
  induction r with
  |nil=>exact λ{m0 m1}=>⟨m0,m1,rfl⟩
  |cons p r ih=>exact (ih (m0:=some (.f (.str p.1))) (m1:=some (.f (.int p.2)))).imp λa h=>h.imp λb h=>Kl rfl rfl rfl h
 (hc (r:=sy) (m0:=none) (m1:=none)).elim λa h=>h.elim λb hc=>A7 (a:=.f (.lst ((sy.map swp).map pFV))) (Kk (bS (A7 (atS h0) rfl) rfl) (by rw [AD,AD];lia) rfl hc)
  (iS (by rw [AD,AD];exact hsl) ((mS (Zl (ps:=sy.map swp))).trans (by
   show some (V.f (.lst ((H3 ((sy.map swp).map cst)).map _)))=_
   rw [J0M,CP];rfl)))
theorem H0L(hen:en<4294967297)(hp: ∀p∈pcs,POK p)(hpl:pcs.length≤100)(hs: ∀p∈sy,p.2<4294967297∧p.1.length≤40)(hsl:sy.length<64):
  Mh [.f (Jf en base n f4 (sy.map Bg) (pcs.map fPc) lns ys)] g=some (.f (.str (EC [10] ((FC en::pcs.map Ej)++(D0 (sy.map swp)).map EE)++[10])),g):=
 have hso: ∀p∈D0 (sy.map swp),p.1<4294967297∧p.2.length≤40:= λp hp=>(BE.mp (N0M.mem_iff.mp hp)).elim λq h=>h.2▸hs q h.1
 have hsn:(D0 (sy.map swp)).length=sy.length:=N0M.length_eq.trans (AD _)
 Dy (xs:=pcs) (I:= λd=>RW (Jf en base n f4 (sy.map Bg) (pcs.map fPc) lns ys) none g (FC en::d.map Ej)) (f:=fPc) (t:=.many [2,3,4,5]) (b:=M7) (λd p r σ eq i=>i.casesOn λj2 j3 j4 j5=>
  have:=leF eq
  .mk .nx _ (H0J (hp p (Eh eq)) (by rw [Dm,AD];lia)) rfl (by rw [B3];exact .mk _ _ _ _)) (r:=pcs) (d:=[]) rfl (.mk none none none none) λσ1 e1 i=>by
 cases i with
 |mk i2 i3 i4 i5=>
  refine Dy (xs:=D0 (sy.map swp)) (I:= λd=>RW (Jf en base n f4 (sy.map Bg) (pcs.map fPc) lns ys) (some (.lst ((D0 (sy.map swp)).map pFV))) g ((FC en::pcs.map Ej)++d.map EE)) (f:=pFV) (t:=.many [4,3]) (b:=M8) (λd p r σ eq i=>i.casesOn λj2 j3 j4 j5=>
   have:=leF eq
   have h:=hso p (Eh eq)
   .mk .nx _ (H0K h.1 h.2 (by rw [AU,Dm,AD,AD];lia)) rfl (by rw [B3,←CO];exact .mk _ _ _ _)) (r:=D0 (sy.map swp)) (d:=[]) rfl (by rw [TN,CX];exact .mk i2 i3 i4 i5) λσ2 e2 i=>?_
  cases i with
  |mk k2 k3 k4 k5=>
   have hb: ∀x∈(FC en::pcs.map Ej)++(D0 (sy.map swp)).map EE,x.length≤1000:= λx hx=>(C7.mp hx).elim (λh=>(AW.mp h).elim (λh=>h▸Z1 hen) λh=>(BE.mp h).elim λp h=>h.2▸Z2 (hp p h.1)) λh=>(BE.mp h).elim λp h=>h.2▸Z3 (hso p h.1).1 (hso p h.1).2
   have hl:((FC en::pcs.map Ej)++(D0 (sy.map swp)).map EE).length≤1000:=by rw [AU,Dm,AD,AD];lia
   exact Cw (Aj (Ik (K3 (sq1 ((Tx.lit (x:=[101,110,116,114,121,32])).cat (.hex (n:=en) (A7 (atS rfl) rfl) hen) (by decide)).1 sq0) rfl) rfl) (Aj (BK (CM (A7 (atS rfl) rfl)) e1) (Aj (BF (I0j hsl rfl) rfl) (Aj (BK (CM (atS rfl)) e2) (CV (C1 (AG (AG (Bl rfl rfl) (atS rfl) (XW hb hl)) rfl (Fw (by
    have:=XU (l:=(FC en::pcs.map Ej)++(D0 (sy.map swp)).map EE)
    have:=Tw hb
    have:=A0M 1000 hl
    show _+1≤_;unfold AM;lia))))))))) rfl
end
noncomputable def Sn:Nm:=[48,49,50,51,52,53,54,55,56,57,97,98,99,100,101,102]
noncomputable def dg(n:Nat):Nat:=(L0O (n % 16)).toNat
theorem G0v{n:Nat}(h:n<16):EP n=[dg n]:=by unfold EP dg;rw [Nat.toDigits_of_lt_base h,Nat.mod_eq_of_lt h];rfl
theorem G0u{n:Nat}(h: ¬n<16):EP n=EP (n/16)++[dg n]:=by unfold EP dg;rw [Nat.toDigits_eq_if (by decide),if_neg h,B3];rfl
theorem G0t: ∀d,d<16→Sn[d]?=some (L0O d).toNat:=by decide
theorem G0z{s:St}{x:Nm}{i:Int}{r:Option V}(h:MZ x i=r):AQ s (.f (.str x)) (.f (.int i))=r:=h
theorem Xa{m:List (Option V)}{l g:List (Option O)}{n:Nat}(h:C0 ⟨m,l,g⟩ 0=some (.f (.int n))):Ao AQ (Af (.str Sn)) (Ao DJ (Aa 0) (Af (.int 16))) ⟨m,l,g⟩=some (.f (.str [dg n]),⟨m,l,g⟩):=
 have e:MZ Sn ((n % 16:Nat):Int)=some (.f (.str [dg n])):=by
  have hm:n % 16<16:=L0V _ (by decide)
  unfold MZ
  rw [if_pos (Jz _),if_pos (by unfold lim;lia),O9,G0t _ hm];rfl
 AG (b:=.f (.int ((n % 16:Nat):Int))) rfl (AG (atS h) rfl (Ii (by decide))) (G0z e)
theorem A0v{c:Cv}{b:Sv}{n:Nat}{s s1 s2:St}{R:Option (Fl×St)}(h1:c s=some (true,s1))(h2:b s1=some (.nx,s2))(h3:GL c b n s2=R):GL c b (n+1) s=R:=bS h1 (bS h2 h3)
theorem A0u{c:Cv}{b:Sv}{n:Nat}{s s1:St}(h1:c s=some (false,s1)):GL c b (n+1) s=some (.nx,s1):=bS h1 rfl
theorem F04{g:List (Option O)}{k:Nat}: ∀{n:Nat} {acc:Nm},n<16^(k+1)→n<2147483647→acc.length+k≤1000→∃v:Nat,GL (AA Hj (Aa 0) (Af (.int 15))) Mu (k+1) ⟨[some (.f (.int n)),some (.f (.str (dg n::acc)))],[],g⟩=some (.nx,⟨[some (.f (.int v)),some (.f (.str (EP n++acc)))],[],g⟩):=by
 have stop: ∀{k n:Nat} {acc:Nm},n<16→∃v:Nat,GL (AA Hj (Aa 0) (Af (.int 15))) Mu (k+1) ⟨[some (.f (.int n)),some (.f (.str (dg n::acc)))],[],g⟩=some (.nx,⟨[some (.f (.int v)),some (.f (.str (EP n++acc)))],[],g⟩):= λ{k n acc} h=>⟨n,(A0u (By (atS rfl) rfl (by show some (decide ((15:Int)<n))=_;rw [decide_eq_false (by lia)]))).trans (by rw [G0v h];rfl)⟩
 induction k with
 |zero=>exact λh1 _ _=>stop h1
 |succ k ih=>
  intro n acc h1 h2 h3
  by_cases h:n<16
  ·exact stop h
  ·have hd:n/16<16^(k+1):=(Nat.div_lt_iff_lt_mul (by decide)).mpr h1
   exact (ih (n:=n/16) (acc:=dg n::acc) hd (by lia) (by show acc.length+1+k≤1000;lia)).imp λv hv=>A0v (By (atS rfl) rfl (by show some (decide ((15:Int)<n))=_;rw [decide_eq_true (by lia)]))
    (Aj (BF (AG (atS rfl) rfl (Nt (by decide) (Iw (by lia) (by lia)) (by decide))) rfl) (Aj (BF (AG (Xa (n:=n/16) rfl) (atS rfl) (Fw (by show 1+(acc.length+1)≤_;unfold AM;lia))) rfl) rfl)) (hv.trans (by rw [G0u h,CO];rfl))
theorem RY{n:Nat}{g:List (Option O)}(h:n<2147483647):JS [.f (.int n)] g=some (.f (.str (hx n)),g):=
 (F04 (g:=g) (k:=63) (acc:=[]) (H9 h (by decide)) h (by decide)).elim λv hv=>by
  rw [CX] at hv
  exact Cw (Aj (BF (Xa rfl) rfl) (Aj hv (CV (C1 (AG rfl (atS rfl) (Fw (A8 (AU▸Hp (n:=n) (by lia)) (by decide)))))))) rfl
theorem N0E{x:Nm}: ∀{y:Nm},C6 x y=true↔x<y:=by
 induction x with
 |nil=>
  intro y
  cases y with
  |nil=>exact ⟨λh=>noT h,λh=>absurd h (L0F _)⟩
  |cons b y=>exact ⟨λ_=>List.nil_lt_cons _ _,λ_=>rfl⟩
 |cons a x ih=>
  intro y
  cases y with
  |nil=>exact ⟨λh=>noT h,λh=>absurd h (L0F _)⟩
  |cons b y=>
   rw [OC]
   exact if h1:a<b then ⟨λ_=>.inl h1,λ_=>if_pos h1⟩ else if h2:b<a then ⟨λh=>noT (((if_neg h1).trans (if_pos h2)).symm.trans h),λh=>h.elim (λz=>absurd z h1) λz=>absurd h2 (z.1▸Bu _)⟩
    else have e:C6 (a::x) (b::y)=C6 x y:=(if_neg h1).trans (if_neg h2)
     ⟨λh=>.inr ⟨OM (GS h2) (GS h1),ih.mp (e.symm.trans h)⟩,λh=>e.trans (ih.mpr (h.elim (λz=>absurd z h1) (·.2)))⟩
theorem YR{x y:Nm}(h:C6 y x=false):x≤y:= λz=>noF ((N0E.mpr z).symm.trans h)
def leN(a b:Nat×Nm):Prop:=a.1<b.1∨(a.1=b.1∧a.2≤b.2)
theorem H0i{a b c:Nat×Nm}(h1:leN a b)(h2:leN b c):leN a c:=h1.elim (λp=>.inl (h2.elim (λq=>H9 p q) λq=>q.1▸p)) λp=>h2.elim (λq=>.inl (p.1▸q)) λq=>.inr ⟨p.1.trans q.1,L04 p.2 q.2⟩
theorem H0h{a b:Nat×Nm}(h1:leN a b)(h2:leN b a):a=b:=h1.elim (λp=>h2.elim (λq=>absurd q (A0L p)) λq=>absurd p (q.1▸Bu _)) λp=>h2.elim (λq=>absurd q (p.1▸Bu _)) λq=>JD p.1 (L03 p.2 q.2)
theorem Yp{a b:Nat×Nm}(h:ltN a b=true):leN a b:=F8 h (λq _=>.inl q) λq h=>F8 h (λ_ z=>noT z) λq2 z=>.inr ⟨OM (GS q2) (GS q),N0y (N0E.mp z)⟩
theorem H0y{a b:Nat×Nm}(h:ltN a b=false):leN b a:=F8 h (λ_ z=>noF z) λq h=>F8 h (λq2 _=>.inl q2) λq2 z=>.inr ⟨OM (GS q) (GS q2),YR z⟩
theorem G04{x:Nat×Nm}{l:List (Nat×Nm)}:l.Pairwise leN→(Hq x l).Pairwise leN:=by
 induction l with
 |nil=>exact λ_=>TR _ _
 |cons y r ih=>
  intro h
  have h':=En.mp h
  show (if ltN x y=true then x::y::r else y::Hq x r).Pairwise leN
  cases q:ltN x y with
  |true=>exact En.mpr ⟨λz hz=>(AW.mp hz).elim (λe=>e▸Yp q) λhz=>H0i (Yp q) (h'.1 z hz),h⟩
  |false=>exact En.mpr ⟨λz hz=>(AW.mp (N09.mem_iff.mp hz)).elim (λe=>e▸H0y q) (h'.1 z),ih h'.2⟩
theorem ZT{l}:(D0 l).Pairwise leN:=by
 induction l with
 |nil=>exact .nil
 |cons x r ih=>exact G04 ih
theorem ZS{l L:List (Nat×Nm)}(h:L.Pairwise leN)(hp:L.Perm l):D0 l=L:=N0S (λ_ _ _ _=>H0h) ZT h (N0M.trans hp.symm)
theorem WS{n:Nat}{fr:List (Nat×Nat)}{it:Iv}{t:Tg}{c:Cv}{e:Ev}{s:St}{m m':List (Option V)}{l l' g g':List (Option O)}{xs ys:List FV}(h1:it s=some (xs,⟨m,l,g⟩))(hl:xs.length≤10000)(h2:DE t c e xs ⟨F0 n fr m,l,g⟩=some (ys,⟨m',l',g'⟩)):Ft [] n fr it t c e s=some (.f (.lst ys),⟨m,l',g'⟩):=by exact Kk h1 (A8 hl (by decide)) rfl h2
noncomputable def CW:List Nm→List Nm→List Nm
 |_,[]=>[]
 |seen,x::r=>if x∈seen then CW (seen++[x]) r else x::CW (seen++[x]) r
noncomputable def CL(kind:Nm)(pl:List Ob):List Nm:=pl.flatMap λo=>(o.ss.filter λs=>decide (s.kd=kind)).map (·.nm)
noncomputable def mT2(pl:List Ob)(kind:Nm)(v:V)(j3 j4 j5:Option FV):List (Option V):=[some (.f (.lst (pl.map fOb))),some (.f (.str kind)),some v,J j3,J j4,J j5]
section
variable{kind:Nm}{l g:List (Option O)}{pl:List Ob}
theorem K0n{ss:List Sec}: ∀{j:Option V},∃j',DE (.one 0) (AA Bj (Ao AQ (Aa 0) (Af (.int 1))) (Aa 1)) (Ao AQ (Aa 0) (Af (.int 0))) (ss.map Ca) ⟨[j,some (.f (.str kind))],l,g⟩=some ((((ss.filter λs=>decide (s.kd=kind)).map (·.nm)).map FV.str),⟨[j',some (.f (.str kind))],l,g⟩):=by
 induction ss with
 |nil=>exact λ{j}=>⟨j,rfl⟩
 |cons s r ih=>
  intro j
  refine (ih (j:=some (.f (Ca s)))).imp λj' h=>?_
  have c:AA Bj (Ao AQ (Aa 0) (Af (.int 1))) (Aa 1) ⟨[some (.f (Ca s)),some (.f (.str kind))],l,g⟩=some (decide (s.kd=kind),⟨[some (.f (Ca s)),some (.f (.str kind))],l,g⟩):=rfl
  by_cases hk:s.kd=kind
  ·rw [Ln (by exact decide_eq_true hk)]
   rw [decide_eq_true hk] at c
   exact Kl rfl c rfl h
  ·rw [Lm (by rw [decide_eq_false hk];decide)]
   rw [decide_eq_false hk] at c
   exact RE rfl c h
theorem D03{x:Nm}{xs:List Nm}:He x xs=decide (x∈xs):=by
 unfold He
 rw [Bool.eq_iff_iff,A05,decide_eq_true_eq]
 exact ⟨λh=>h.elim λy h=>of_decide_eq_true h.2▸h.1,λh=>⟨x,h,decide_eq_true rfl⟩⟩
theorem K0z{all:List Nm}(hl:all.length≤1000){rest:List Nm}: ∀{done:List Nm} {j0 j1:Option V},all=done++rest→
  ∃s',DE (.many [0,1]) (AA G6 (Aa 1) (Ao Ip (Aa 2) (Aa 0))) (Aa 1) (Hl done.length (rest.map FV.str)) ⟨[j0,j1,some (.f (.lst (all.map FV.str)))],l,g⟩=some ((CW done rest).map FV.str,⟨s',l,g⟩):=by
 induction rest with
 |nil=>exact λ_=>⟨_,rfl⟩
 |cons x r ih=>
  intro done j0 j1 h
  have ih:=ih (done:=done++[x]) (j0:=some (.f (.int done.length))) (j1:=some (.f (.str x))) (h.trans (OB _ _ _))
  rw [AU] at ih
  refine ih.imp λs' ih=>?_
  have ht:(all.map FV.str).take done.length=done.map FV.str:=by rw [h,B3,List.take_left' (AD _)]
  have c:AA G6 (Aa 1) (Ao Ip (Aa 2) (Aa 0)) ⟨[some (.f (.int done.length)),some (.f (.str x)),some (.f (.lst (all.map FV.str)))],l,g⟩=some (!decide (x∈done),⟨[some (.f (.int done.length)),some (.f (.str x)),some (.f (.lst (all.map FV.str)))],l,g⟩):=
   By (a:=.f (.str x)) (b:=.f (.lst (done.map FV.str))) (atS rfl) (AG (atS rfl) (atS rfl) (ht▸A0q (by rw [AD];lia))) (by
    show ((E2 (done.map FV.str)).map (He x)).map (!·)=_
    rw [Ol,←D03];rfl)
  show _=some ((if x∈done then CW (done++[x]) r else x::CW (done++[x]) r).map FV.str,_)
  by_cases hx:x∈done
  ·rw [decide_eq_true hx] at c
   rw [if_pos hx];exact RE rfl c ih
  ·rw [decide_eq_false hx] at c
   rw [if_neg hx];exact Kl rfl c (atS rfl) ih
theorem F03{o f:Ev}{s s1 s2 t:St}{u w:V}(h1:o s=some (u,s1))(h2:f s1=some (w,s2))(h:Mine.N05 u w s2=some t):QW o f s=some (.nx,t):=bS h1 (bS h2 (ED h))
theorem F02{k:Nat}{xs ys:List FV}{m:List (Option V)}{l g:List (Option O)}(h:BY ⟨m,l,g⟩ k=some (.list xs))(hl:xs.length+ys.length<AM):Mine.N05 (.c k) (.f (.lst ys)) ⟨m,l,g⟩=some ⟨m,l.set k (some (.list (xs++ys))),g⟩:=bS h (if_pos hl)
theorem F0z{xs:List FV}: ∀{k:Nat},(Hl k xs).length=xs.length:=by
 induction xs with
 |nil=>exact rfl
 |cons a r ih=>exact congrArg (· +1) ih
inductive TJ(pl:List Ob)(kind:Nm)(g:List (Option O))(xs:List Nm):St→Prop
 |mk (j3 j4 j5:Option FV):TJ pl kind g xs ⟨mT2 pl kind (.c 0) j3 j4 j5,[some (.list (xs.map FV.str))],g⟩
theorem K0s(hb:(CL kind pl).length≤900)(hs: ∀o∈pl,o.ss.length≤900):JT [.f (.lst (pl.map fOb)),.f (.str kind)] g=some (.f (.lst ((CW [] (CL kind pl)).map FV.str)),g):=
 Dy (xs:=pl) (I:= λd=>TJ pl kind g (CL kind d)) (f:=fOb) (t:=.many [3,4,5]) (b:=QN) (λd o r σ eq i=>i.casesOn λj3 j4 j5=>by
  have hn:CL kind (d++[o])=CL kind d++(o.ss.filter λs=>decide (s.kd=kind)).map (·.nm):=by unfold CL;rw [OD,L0w]
  have hl:(CL kind d).length+((o.ss.filter λs=>decide (s.kd=kind)).map (·.nm)).length≤900:=by
   have e:CL kind pl=CL kind (d++[o])++CL kind r:=by unfold CL;rw [eq,OB,OD]
   rw [e,hn,AU,AU] at hb;lia
  refine (K0n (kind:=kind) (l:=[some (.list ((CL kind d).map FV.str))]) (g:=g) (ss:=o.ss) (j:=none)).elim λj' hc=>?_
  exact .mk .nx _ (Bt (s1:=⟨mT2 pl kind (.c 0) (some (.str o.ti)) (some (.lst (o.ss.map Ca))) (some (.lst (o.ns.map Cz))),[some (.list ((CL kind d).map FV.str))],g⟩) rfl (Aj (F03 (u:=.c 0) (atS rfl) (WS (CM (xs:=o.ss.map Ca) (atS rfl)) (by have:=hs o (Eh eq);rw [AD];lia) hc) (F02 (xs:=(CL kind d).map FV.str) rfl (by rw [AD (f:=FV.str),AD (f:=FV.str)];unfold AM;lia))) rfl)) rfl (by rw [hn,←B3];exact .mk _ _ _)) (r:=pl) (d:=[]) rfl (.mk none none none) λσ e i=>by
 cases i with
 |mk j3 j4 j5=>
  exact (K0z (l:=[none]) (g:=g) (all:=CL kind pl) (by lia) (rest:=CL kind pl) (done:=[]) (j0:=none) (j1:=none) rfl).elim λs' hu=>Cw (Aj rfl (Aj (BK (CM (atS rfl)) e) (Aj (F7 rfl rfl (mc rfl (mc rfl (mc rfl (mc AS (mc AS (mc AS rfl))))))) (CV (C1 (WS (Jc (xs:=(CL kind pl).map FV.str) (atS rfl)) (by rw [F0z,AD];lia) hu)))))) rfl
end
theorem N5{α β:Type}{c:Prop}[Decidable c]{f:α→β}{x y:α}:f (if c then x else y)=if c then f x else f y:=by
 by_cases h:c
 ·rw [if_pos h,if_pos h]
 ·rw [if_neg h,if_neg h]
theorem K01{x:Nm}{xs:List Nm}: ∀{seen:List Nm},CW seen (xs++[x])=CW seen xs++(if x∈seen++xs then [] else [x]):=by
 induction xs with
 |nil=>exact λ{seen}=>by rw [CX];rfl
 |cons y r ih=>
  intro seen
  have h:=ih (seen:=seen++[y])
  rw [CO] at h
  show (if y∈seen then CW (seen++[y]) (r++[x]) else y::CW (seen++[y]) (r++[x]))=(if y∈seen then CW (seen++[y]) r else y::CW (seen++[y]) r)++_
  rw [h,N5 (f:=(· ++_))];rfl
theorem N0C{t:Nm}{xs:List Nm}: ∀{seen:List Nm},t∈CW seen xs↔t∈xs∧t∉seen:=by
 induction xs with
 |nil=>exact ⟨λh=>absurd h Lp,λh=>h.1⟩
 |cons y r ih=>
  intro seen
  show t∈(if y∈seen then _ else _:List Nm)↔_
  have up:t∉seen++[y]→t∉seen:= λh z=>h (Ff _ z)
  by_cases h:y∈seen
  ·rw [if_pos h]
   exact ⟨λk=>⟨.tail _ (ih.mp k).1,up (ih.mp k).2⟩,λk=>ih.mpr ⟨(AW.mp k.1).resolve_left λz=>k.2 (z▸h),λz=>(C7.mp z).elim k.2 λz=>k.2 (Bx.mp z▸h)⟩⟩
  ·rw [if_neg h]
   exact ⟨λk=>(AW.mp k).elim (λz=>⟨z▸.head _,z▸h⟩) λk=>⟨.tail _ (ih.mp k).1,up (ih.mp k).2⟩,λk=>(AW.mp k.1).elim (λz=>z▸.head _) λz=>if q:t=y then q▸.head _ else .tail _ (ih.mpr ⟨z,λz=>(C7.mp z).elim k.2 λz=>q (Bx.mp z)⟩)⟩
theorem K00{xs:List Nm}: ∀{seen:List Nm},(CW seen xs).Nodup:=by
 induction xs with
 |nil=>exact L0D
 |cons y r ih=>
  intro seen
  show (if y∈seen then _ else _:List Nm).Nodup
  by_cases h:y∈seen
  ·rw [if_pos h];exact ih
  ·rw [if_neg h];exact CQ.mpr ⟨λz=>(N0C.mp z).2 (GO _ (.head _)),ih⟩
theorem Zn{α:Type}{f:α→Nm}{x:Nm}{gs:List α}(h:x∈gs.map f): ∃i,Ir f gs x=some i:=by
 induction gs with
 |nil=>cases h
 |cons a r ih=>exact if q:f a=x then ⟨0,if_pos q⟩ else (ih ((AW.mp h).resolve_left λz=>q z.symm)).elim λi e=>⟨i+1,(if_neg q).trans (congrArg (Fh (· +1)) e)⟩
theorem J08{α β:Type}{f f':α→β}{x:α}{l:List α}: ∀{i:Nat},l.Nodup→l[i]?=some x→(∀t∈l,t≠x→f t=f' t)→(l.map f).set i (f' x)=l.map f':=by
 induction l with
 |nil=>exact λ_ h _=>noS h
 |cons a r ih=>
  intro i hn h hf
  have hn':=CQ.mp hn
  cases i with
  |zero=>
   have e:a=x:=An h
   subst e
   exact congrArg (f' a:: ·) (J5 λt ht=>hf t (.tail _ ht) λz=>hn'.1 (z▸ht))
  |succ i=>exact congr (congrArg List.cons (hf a (.head _) λz=>hn'.1 (z▸As (l:=r) h))) (ih hn'.2 h λt ht=>hf t (.tail _ ht))
noncomputable abbrev Row:=Nat×Sec
noncomputable def ofN(P:List Row)(t:Nm):List Row:=P.filter λp=>decide (p.2.nm=t)
noncomputable def gof(P:List Row):List Grp:=(CW [] (P.map (·.2.nm))).map λt=>(t,ofN P t)
theorem XA{P:List Row}:(gof P).map (·.1)=CW [] (P.map (·.2.nm)):=CP.trans (Fe _)
theorem Zb{P:List Row}{p:Row}{t:Nm}(h:p.2.nm=t):ofN (P++[p]) t=ofN P t++[p]:=by unfold ofN;rw [TH,Ln (by exact decide_eq_true h)];rfl
theorem Za{P:List Row}{p:Row}{t:Nm}(h:p.2.nm≠t):ofN (P++[p]) t=ofN P t:=by unfold ofN;rw [TH,Lm (by rw [decide_eq_false h];decide)];exact CX _
theorem D0y{P:List Row}{p:Row}:E7 (gof P) p=gof (P++[p]):=by
 have hg:gof (P++[p])=(CW [] (P.map (·.2.nm))++(if p.2.nm∈P.map (·.2.nm) then [] else [p.2.nm])).map λt=>(t,ofN (P++[p]) t):=by
  show (CW [] ((P++[p]).map (·.2.nm))).map _=_
  rw [B3];exact congrArg (J3 _) K01
 rw [hg]
 by_cases h:p.2.nm∈P.map (·.2.nm)
 ·rw [if_pos h,CX]
  refine MO (gs:=gof P) (p:=p) (λhp _=>?_) λi g hp h1 h2 e=>?_
  ·exact (Zn (f:= λg:Grp=>g.1) (gs:=gof P) (by rw [XA];exact N0C.mpr ⟨h,nofun⟩)).elim λi hi=>noS (hp.symm.trans hi)
  ·rw [e]
   have h1:((CW [] (P.map (·.2.nm))).map λt=>(t,ofN P t))[i]?=some g:=h1
   rw [CH] at h1
   refine AV h1 λt h4 h5=>?_
   have h2:t=p.2.nm:=(congrArg Fi h5).trans h2
   have z:=J08 (f:= λt=>(t,ofN P t)) (f':= λt=>(t,ofN (P++[p]) t)) K00 h4 λt' _ ht=>congrArg (M0a t') (Za λz=>ht (z.symm.trans h2.symm)).symm
   rw [←z,←h5]
   exact congrArg (λv=>(gof P).set i (t,v)) (Zb h2.symm).symm
 ·rw [if_neg h,B3]
  refine MO (gs:=gof P) (p:=p) (λ_ e=>?_) λi g hp h1 h2 _=>?_
  ·rw [e]
   have hn:ofN P p.2.nm=[]:=L0v.mpr λq hq z=>h (BE.mpr ⟨q,hq,of_decide_eq_true z⟩)
   exact congr (congrArg _ (J5 λt ht=>congrArg (M0a t) (Za λz=>h (z▸(N0C.mp ht).1)).symm)) (congrArg (λv=>[(p.2.nm,v)]) (by rw [Zb rfl,hn];rfl))
  ·exact absurd ((N0C.mp (XA▸(h2▸GP (f:= λg:Grp=>g.1) (As h1)))).1) h
theorem F0A{R:List Row}: ∀{P:List Row},R.foldl E7 (gof P)=gof (P++R):=by
 induction R with
 |nil=>exact λ{P}=>congrArg gof (CX P).symm
 |cons p R ih=>exact λ{P}=>(congrArg (R.foldl E7) D0y).trans (ih.trans (congrArg gof (OB P p R).symm))
noncomputable def Ek(kind:Nm)(R:List Row):List Row:=R.filter λp=>decide (p.2.kd=kind)
theorem J0u{kind:Nm}{R:List Row}{p:Row}(h:p.2.kd=kind):Ek kind (p::R)=p::Ek kind R:=Ln (decide_eq_true h)
theorem J0t{kind:Nm}{R:List Row}{p:Row}(h:p.2.kd≠kind):Ek kind (p::R)=Ek kind R:=Lm (by rw [decide_eq_false h];decide)
theorem N06{kind:Nm}{R:List Row}: ∀{gs:List Grp},R.foldl (DK kind) gs=(Ek kind R).foldl E7 gs:=by
 induction R with
 |nil=>exact rfl
 |cons p r ih=>exact λ{gs}=>if h:p.2.kd=kind then (ih (gs:=DK kind gs p)).trans (by rw [J0u h];exact congrArg (A0A E7 · _) (if_pos h)) else (ih (gs:=DK kind gs p)).trans (by rw [J0t h];exact congrArg (A0A E7 · _) (if_neg h))
theorem G0o(kind:Nm)(pl:List Ob):Ck kind pl=gof (Ek kind (AZ pl 0)):=N06.trans (F0A (P:=[]))
theorem YN(kind:Nm)(pl:List Ob): ∀{k:Nat},CL kind pl=(Ek kind (AZ pl k)).map (·.2.nm):=by
 induction pl with
 |nil=>exact rfl
 |cons o r ih=>
  intro k
  show (o.ss.filter _).map _++CL kind r=(Ek kind (o.ss.map (k,·)++AZ r (k+1))).map _
  rw [ih (k:=k+1)]
  unfold Ek
  rw [TH,B3,List.filter_map,CP]
  rfl
def KN(R:List Row):Prop:= ∀p∈R,∀q∈R,p.2.nm=q.2.nm→p.2.kd=q.2.kd
theorem F06{α β:Type}{f g:α→List β}{l:List α}(h: ∀x∈l,f x=g x):l.flatMap f=l.flatMap g:=by
 induction l with
 |nil=>rfl
 |cons a r ih=>rw [A09,A09,h a (.head _),ih λt ht=>h t (.tail _ ht)]
theorem F07(kind:Nm)(pl:List Ob)(h:KN (AZ pl 0)):(Ck kind pl).flatMap (·.2)=(CW [] (CL kind pl)).flatMap λt=>ofN (AZ pl 0) t:=by
 rw [G0o,YN kind pl (k:=0)]
 unfold gof
 rw [List.flatMap_map]
 refine F06 λt ht=>(BE.mp (N0C.mp ht).1).elim λq hq=>?_
 have hq':=J6.mp hq.1
 unfold ofN Ek
 rw [List.filter_filter]
 refine List.filter_congr λp hp=>?_
 by_cases z:p.2.nm=t
 ·rw [decide_eq_true z,h p hp q hq'.1 (z.trans hq.2.symm),hq'.2];rfl
 ·rw [decide_eq_false z];rfl
theorem HY{α Y:Type}{F:Y→α→Y}{Bd:Y→Prop}{xs:List α}: ∀{y:Y},(∀x∈xs,∀y,Bd (F y x)→Bd y)→Bd (xs.foldl F y)→Bd y:=by
 induction xs with
 |nil=>exact λ_ h=>h
 |cons x r ih=>exact λm h=>m x (.head _) _ (ih (λz hz=>m z (.tail _ hz)) h)
theorem HZ{α Y:Type}{t:Tg}{b:Sv}{f:α→FV}{F:Y→α→Y}{I:Y→St→Prop}(Bd:Y→Prop){xs:List α}{P:Prop}: ∀{y:Y} {σ:St},(∀x∈xs,∀y,Bd (F y x)→Bd y)→(∀x∈xs,∀y σ,Bd (F y x)→I y σ→StepQ t b (f x) (I (F y x)) σ)→Bd (xs.foldl F y)→I y σ→(∀σ',CB t b (xs.map f) σ=some (.nx,σ')→I (xs.foldl F y) σ'→P)→P:=by
 induction xs with
 |nil=>exact λ_ _ _ h k=>k _ rfl h
 |cons x r ih=>exact λm s hB h k=>(s x (.head _) _ _ (HY (λz hz=>m z (.tail _ hz)) hB) h).casesOn λfl σ1 e n i=>ih (λz hz=>m z (.tail _ hz)) (λz hz=>s z (.tail _ hz)) hB i λσ' e'=>k σ' (D5 e n e')
theorem WZ{α β κ:Type}[DecidableEq κ]{f:α→β}{x:κ}{es:List (κ×α)}:Ay (es.map λe=>(e.1,f e.2)) x=(Ay es x).map f:=by
 induction es with
 |nil=>rfl
 |cons a r ih=>exact (congrArg (λz=>if a.1=x then some (f a.2) else z) ih).trans (N5 (f:=Fh f) (x:=some a.2) (y:=Ay r x)).symm
theorem Xc{α β κ:Type}[DecidableEq κ]{f:α→β}{x:κ}{v:α}{es:List (κ×α)}:AE (es.map λe=>(e.1,f e.2)) x (f v)=(AE es x v).map λe=>(e.1,f e.2):=by
 induction es with
 |nil=>rfl
 |cons a r ih=>exact (congrArg (λz=>if a.1=x then (a.1,f v)::r.map (λe=>(e.1,f e.2)) else (a.1,f a.2)::z) ih).trans (N5 (f:=J3 λe:κ×α=>(e.1,f e.2)) (x:=(a.1,v)::r) (y:=a::AE r x v)).symm
noncomputable abbrev Cm:=List (Nm×Nat×Nat)
noncomputable def pF(p:Nat×Nat):FV:=.tup [.int p.1,.int p.2]
noncomputable def cmF(e:Nm×Nat×Nat):Nm×FV:=(e.1,pF e.2)
noncomputable def FY(cm:Cm)(n:Nam):Cm:=if n.pl=AX then AE cm n.nm (max ((Ay cm n.nm).getD (0,0)).1 n.va,max ((Ay cm n.nm).getD (0,0)).2 n.sz) else cm
theorem RT{κ α:Type}[DecidableEq κ]{k:κ}{v:α}{es:List (κ×α)}:es.length≤(AE es k v).length:=by
 induction es with
 |nil=>exact C9 _
 |cons a r ih=>
  show _≤(if a.1=k then (a.1,v)::r else a::AE r k v).length
  by_cases q:a.1=k
  ·rw [if_pos q];exact A9 _
  ·rw [if_neg q];exact Gn ih
noncomputable def Kf(pl:List Ob):List Nam:=pl.flatMap (·.ns)
noncomputable def EN(pl:List Ob):Cm:=(Kf pl).foldl FY []
theorem VY{cm:Cm}{n:Nam}(h:n.pl=AX):FY cm n=AE cm n.nm (max ((Ay cm n.nm).getD (0,0)).1 n.va,max ((Ay cm n.nm).getD (0,0)).2 n.sz):=if_pos h
theorem VX{cm:Cm}{n:Nam}(h:n.pl≠AX):FY cm n=cm:=if_neg h
theorem D0x{cm:Cm}{n:Nam}:cm.length≤(FY cm n).length:=if h:n.pl=AX then by rw [VY h];exact RT else by rw [VX h];exact A9 _
section
variable{P:FV}{g:List (Option O)}
noncomputable def sV(P:FV)(g:List (Option O))(j2 j3 j4 j5 j6 j7 j8 j9 j10:Option FV)(cm:Cm):St:=⟨[some (.f P),some (.c 0),J j2,J j3,J j4,J j5,J j6,J j7,J j8,J j9,J j10],[some (.dict (cm.map cmF))],g⟩
inductive VI(P:FV)(g:List (Option O))(cm:Cm):St→Prop
 |mk (j2 j3 j4 j5 j6 j7 j8 j9 j10:Option FV):VI P g cm (sV P g j2 j3 j4 j5 j6 j7 j8 j9 j10 cm)
theorem E09{n:Nam}{cm:Cm}{σ:St}(hl:cm.length<1000)(h:VI P g cm σ):StepQ (.many [5,6,7,8]) Ms (Cz n) (VI P g (FY cm n)) σ:=
 h.casesOn λj2 j3 j4 j5 j6 j7 j8 j9 j10=>by
  have c:AA Bj (Aa 6) (Af (.str [42,99,111,109,109,111,110])) (sV P g j2 j3 j4 (some (.str n.nm)) (some (.str n.pl)) (some (.int n.va)) (some (.int n.sz)) j9 j10 cm)=some (decide (n.pl=AX),sV P g j2 j3 j4 (some (.str n.nm)) (some (.str n.pl)) (some (.int n.va)) (some (.int n.sz)) j9 j10 cm):=By (atS rfl) rfl rfl
  by_cases k:n.pl=AX
  ·rw [VY k]
   rw [decide_eq_true k] at c
   exact .mk .nx (sV P g j2 j3 j4 (some (.str n.nm)) (some (.str n.pl)) (some (.int n.va)) (some (.int n.sz)) (some (.int ((Ay cm n.nm).getD (0,0)).1)) (some (.int ((Ay cm n.nm).getD (0,0)).2)) (AE cm n.nm (max ((Ay cm n.nm).getD (0,0)).1 n.va,max ((Ay cm n.nm).getD (0,0)).2 n.sz))) (Bt rfl (Aj (Bs c (λ_=>Aj (Ow (xs:=[.int ((Ay cm n.nm).getD (0,0)).1,.int ((Ay cm n.nm).getD (0,0)).2]) (A0m (s1:=sV P g j2 j3 j4 (some (.str n.nm)) (some (.str n.pl)) (some (.int n.va)) (some (.int n.sz)) j9 j10 cm) rfl (atS rfl) rfl (congrArg some (by
     show orV (Ay (cm.map λe=>(e.1,pF e.2)) n.nm) (.f (pF (0,0)))=V.f (pF ((Ay cm n.nm).getD (0,0)))
     rw [WZ];cases Ay cm n.nm<;>rfl))) (s2:=sV P g j2 j3 j4 (some (.str n.nm)) (some (.str n.pl)) (some (.int n.va)) (some (.int n.sz)) (some (.int ((Ay cm n.nm).getD (0,0)).1)) (some (.int ((Ay cm n.nm).getD (0,0)).2)) cm) rfl)
    (Aj (E0 (w:=.f (pF (max ((Ay cm n.nm).getD (0,0)).1 n.va,max ((Ay cm n.nm).getD (0,0)).2 n.sz))) (DL (sq1 (AG (atS rfl) (atS rfl) KC) (sq1 (AG (atS rfl) (atS rfl) KC) sq0)) rfl) (atS rfl) (atS rfl) ((Jt (es:=cm.map cmF) rfl (by rw [AD];unfold AM;lia)).trans (congrArg (λz=>some (St.mk _ [some (.dict z)] _)) (Xc (f:=pF))))) rfl)) λz=>noF z) rfl)) rfl (.mk _ _ _ _ _ _ _ _ _)
  ·rw [VX k]
   rw [decide_eq_false k] at c
   exact .mk .nx _ (Bt (s1:=sV P g j2 j3 j4 (some (.str n.nm)) (some (.str n.pl)) (some (.int n.va)) (some (.int n.sz)) j9 j10 cm) rfl (Aj (Bs c (λz=>noT z) λ_=>rfl) rfl)) rfl (.mk _ _ _ _ _ _ _ _ _)
theorem F09{Y:Type}{F:Y→Nam→Y}{pl:List Ob}: ∀{y:Y},(Kf pl).foldl F y=pl.foldl (λy o=>o.ns.foldl F y) y:=by
 induction pl with
 |nil=>exact rfl
 |cons o r ih=>exact λ{y}=>(H4 (l:=o.ns) (l':=Kf r)).trans ih
theorem E0E{pl:List Ob}(hl:(EN pl).length<900):Md [.f (.lst (pl.map fOb))] g=some (.f (.dct ((EN pl).map cmF)),g):=by
 have mono: ∀(cm:Cm) (n:Nam),(FY cm n).length<900→cm.length<900:= λcm n h=>DX D0x h
 unfold EN at hl⊢
 rw [F09] at hl⊢
 refine HZ (λcm:Cm=>cm.length<900) (t:=.many [2,3,4]) (b:=QL) (f:=fOb) (I:=VI (.lst (pl.map fOb)) g) (σ:=sV (.lst (pl.map fOb)) g none none none none none none none none none []) (λo _ cm=>HY (Bd:= λcm:Cm=>cm.length<900) λn _ cm=>mono cm n)
  (λo _ cm σ hB hI=>hI.casesOn λj2 j3 j4 j5 j6 j7 j8 j9 j10=>HZ (λcm:Cm=>cm.length<900) (t:=.many [5,6,7,8]) (b:=Ms) (f:=Cz) (I:=VI (.lst (pl.map fOb)) g) (σ:=sV (.lst (pl.map fOb)) g (some (.str o.ti)) (some (.lst (o.ss.map Ca))) (some (.lst (o.ns.map Cz))) j5 j6 j7 j8 j9 j10 cm) (λn _ cm=>mono cm n) (λn _ cm σ hB hI=>E09 (by have:=mono _ _ hB;lia) hI) hB (.mk _ _ _ _ _ _ _ _ _) λσ' e i=>.mk .nx σ' (Bt rfl (Aj (BK (CM (atS rfl)) e) rfl)) rfl i) hl (.mk _ _ _ _ _ _ _ _ _) λσ e i=>?_
 cases i with
 |mk j2 j3 j4 j5 j6 j7 j8 j9 j10=>exact Cw (Aj rfl (Aj (BK (CM (atS rfl)) e) (GH (F7 rfl rfl (mc rfl (mc rfl (mc AS (mc AS (mc AS (mc AS (mc AS (mc AS (mc AS (mc AS (mc AS rfl)))))))))))) (C1 (atS rfl))))) rfl
end
structure LW where
 at_:Nat
 pcs:List Pc
 kn:List (Nm×Nat)
noncomputable def kn1(nm:Nm)(a:Nat)(kn:List (Nm×Nat))(n:Nam):List (Nm×Nat):=if n.pl=nm then AE kn n.nm (a+n.va) else kn
noncomputable def lw1(o:Ob)(y:LW)(s:Sec):LW:=⟨up y.at_ s.al+s.sz,y.pcs++[⟨s.nm,o.ti,up y.at_ s.al,s.sz⟩],o.ns.foldl (kn1 s.nm (up y.at_ s.al)) y.kn⟩
noncomputable def lwS(t:Nm)(o:Ob)(y:LW)(s:Sec):LW:=if s.nm=t then lw1 o y s else y
noncomputable def lwO(t:Nm)(y:LW)(o:Ob):LW:=o.ss.foldl (lwS t o) y
noncomputable def lwT(pl:List Ob)(y:LW)(t:Nm):LW:=pl.foldl (lwO t) y
noncomputable def lwC(y:LW)(e:Nm×Nat×Nat):LW:=⟨up y.at_ e.2.1+e.2.2,y.pcs++[⟨AX,e.1,up y.at_ e.2.1,e.2.2⟩],AE y.kn e.1 (up y.at_ e.2.1)⟩
noncomputable def ER(y:LW):LW:={y with at_:=up y.at_ 4}
noncomputable def DU(pl:List Ob)(kind:Nm)(y:LW):LW:=(CW [] (CL kind pl)).foldl (lwT pl) (ER y)
structure BdW(y:LW):Prop where
 a:y.at_≤2000000
 p:y.pcs.length≤500
 k:y.kn.length≤500
theorem Gk{a al:Nat}(h:0<al):a≤up a al:=by
 have h1:=Nat.div_add_mod (a+al - 1) al
 have h2:=L0V (a+al - 1) h
 rw [Nat.mul_comm] at h1
 unfold up
 lia
theorem Yb{nm:Nm}{a:Nat}{kn:List (Nm×Nat)}{n:Nam}(h:n.pl=nm):kn1 nm a kn n=AE kn n.nm (a+n.va):=if_pos h
theorem Ya{nm:Nm}{a:Nat}{kn:List (Nm×Nat)}{n:Nam}(h:n.pl≠nm):kn1 nm a kn n=kn:=if_neg h
theorem Sx{nm:Nm}{a:Nat}{kn:List (Nm×Nat)}{n:Nam}:kn.length≤(kn1 nm a kn n).length:=if h:n.pl=nm then by rw [Yb h];exact RT else by rw [Ya h];exact A9 _
theorem H0b{nm:Nm}{a c:Nat}{ns:List Nam}{kn:List (Nm×Nat)}(h:(ns.foldl (kn1 nm a) kn).length≤c):kn.length≤c:=HY (Bd:= λkn:List (Nm×Nat)=>kn.length≤c) (λn _ kn h=>A8 Sx h) h
theorem ZM{α:Type}{l:List α}{x:α}{c:Nat}(h:(l++[x]).length≤c):l.length≤c:=A8 (by rw [AU];exact E4 _ _) h
theorem BdW.row{o:Ob}{y:LW}{s:Sec}(h0:0<s.al)(h:BdW (lw1 o y s)):BdW y:=⟨A8 (Gk h0) (A8 (E4 _ _) h.a),ZM h.p,H0b h.k⟩
theorem BdW.com{y:LW}{e:Nm×Nat×Nat}(h0:0<e.2.1)(h:BdW (lwC y e)):BdW y:=⟨A8 (Gk h0) (A8 (E4 _ _) h.a),ZM h.p,A8 RT h.k⟩
theorem Ys{t:Nm}{o:Ob}{y:LW}{s:Sec}(h:s.nm=t):lwS t o y s=lw1 o y s:=if_pos h
theorem Yr{t:Nm}{o:Ob}{y:LW}{s:Sec}(h:s.nm≠t):lwS t o y s=y:=if_neg h
theorem BdW.sec{t:Nm}{o:Ob}{y:LW}{s:Sec}(h0:0<s.al)(h:BdW (lwS t o y s)):BdW y:=if q:s.nm=t then BdW.row h0 (Ys (o:=o) q▸h) else Yr (o:=o) (y:=y) q▸h
def AL(pl:List Ob):Prop:= ∀o∈pl,∀s∈o.ss,0<s.al∧s.al≤100∧s.sz≤100
theorem U9{t:Nm}{o:Ob}{y:LW}{ss:List Sec}(h0: ∀s∈ss,0<s.al)(h:BdW (ss.foldl (lwS t o) y)):BdW y:=HY (λs hs _ h=>BdW.sec (h0 s hs) h) h
theorem UA{pl:List Ob}{y:LW}{t:Nm}(h0:AL pl)(h:BdW (lwT pl y t)):BdW y:=HY (λo ho _ h=>U9 (λs hs=>(h0 o ho s hs).1) h) h
theorem BdW.kind{pl:List Ob}{y:LW}{kind:Nm}(h0:AL pl)(h:BdW (DU pl kind y)):BdW (ER y):=HY (λ_ _ _ h=>UA h0 h) h
theorem BdW.ini{y:LW}(h:BdW (ER y)):BdW y:=⟨A8 (Gk (by decide)) h.a,h.p,h.k⟩
structure JA where
 j6:Option FV
 j7:Option FV
 j8:Option FV
 j9:Option FV
 j10:Option FV
structure JB where
 j11:Option FV
 j12:Option FV
 j13:Option FV
 j14:Option FV
 j15:Option FV
 j16:Option FV
 j17:Option FV
 j18:Option FV
 j19:Option FV
noncomputable def fPw(p:Pc):FV:=.tup [.int p.at_,.int p.sz,.str p.nm,.str p.ti]
noncomputable def sW(P:FV)(b:Nat)(g:List (Option O))(mk:List (Nm×Nat))(y:LW)(A:JA)(B:JB):St:=⟨[some (.f P),some (.f (.int b)),some (.f (.int y.at_)),some (.c 0),some (.c 1),some (.c 2),J A.j6,J A.j7,J A.j8,J A.j9,J A.j10,J B.j11,J B.j12,J B.j13,J B.j14,J B.j15,J B.j16,J B.j17,J B.j18,J B.j19],[some (.list (y.pcs.map fPw)),some (.dict (y.kn.map Bg)),some (.dict (mk.map Bg))],g⟩
theorem Xb{es:List (Nm×Nat)}{x:Nm}{a:Nat}:AE (es.map Bg) x (.int a)=(AE es x a).map Bg:=Xc (f:= λn:Nat=>FV.int n)
theorem Nh{es:List (Nm×Nat)}{x:Nm}:Ay (es.map Bg) x=(Ay es x).map λn:Nat=>FV.int n:=WZ (f:= λn:Nat=>FV.int n)
theorem upE{f h:Ev}{s:St}{a al:Nat}(h1:f s=some (.f (.int a),s))(h2:h s=some (.f (.int al),s))(h0:0<al)(hl:al≤100)(ha:a≤2000000):Ao EU (Ao Gi (Ao Io (Ao Bf f h) (Af (.int 1))) h) h s=some (.f (.int (up a al)),s):=AG (AG (b:=.f (.int al)) (r:=.f (.int (((a+al - 1)/al:Nat):Int))) (AG (r:=.f (.int ((a+al - 1:Nat):Int))) (AG h1 h2 rfl) rfl (congrArg (λi=>some (V.f (.int i))) (show (a:Int)+al - 1=((a+al - 1:Nat):Int) by lia))) h2 (Nt (by lia) (Iw (by lia) (by lia)) (Iw (by lia) (by lia)))) h2 (NJ (Iw (by lia) (by lia)))
section
variable{P:FV}{b:Nat}{g:List (Option O)}{mk:List (Nm×Nat)}
theorem Tn{y:LW}{A:JA}{B:JB}{x:Nm}{a:Nat}(h:y.kn.length<1000):Mine.setItem (.c 1) (.f (.str x)) (.f (.int a)) (sW P b g mk y A B)=some (sW P b g mk ⟨y.at_,y.pcs,AE y.kn x a⟩ A B):=(Jt (es:=y.kn.map Bg) rfl (by rw [AD];unfold AM;lia)).trans (by rw [Xb];rfl)
theorem ZG{y:LW}{A:JA}{B:JB}{x:Nm}{a:Nat}(h:mk.length<1000):Mine.setItem (.c 2) (.f (.str x)) (.f (.int a)) (sW P b g mk y A B)=some (sW P b g (AE mk x a) y A B):=(Jt (es:=mk.map Bg) rfl (by rw [AD];unfold AM;lia)).trans (by rw [Xb];rfl)
theorem Wl{y:LW}{A:JA}{B:JB}{p:Pc}(h:y.pcs.length≤500):Mine.append (.c 0) (.f (fPw p)) (sW P b g mk y A B)=some (sW P b g mk ⟨y.at_,y.pcs++[p],y.kn⟩ A B):=(Hf (xs:=y.pcs.map fPw) rfl (by rw [AD];unfold AM;lia)).trans (by unfold sW;rw [B3];rfl)
inductive IW0(P:FV)(b:Nat)(g:List (Option O))(mk:List (Nm×Nat))(a:Nat)(pcs:List Pc)(A:JA)(j11 j12 j13 j14 j19:Option FV)(kn:List (Nm×Nat)):St→Prop
 |mk (j15 j16 j17 j18:Option FV):IW0 P b g mk a pcs A j11 j12 j13 j14 j19 kn (sW P b g mk ⟨a,pcs,kn⟩ A ⟨j11,j12,j13,j14,j15,j16,j17,j18,j19⟩)
theorem K03{a:Nat}{pcs:List Pc}{A:JA}{j12 j13 j14 j19:Option FV}{n:Nam}{nm:Nm}{kn:List (Nm×Nat)}{σ:St}(hk:kn.length<1000)(h:IW0 P b g mk a pcs A (some (.str nm)) j12 j13 j14 j19 kn σ):StepQ (.many [15,16,17,18]) Mv (Cz n) (IW0 P b g mk a pcs A (some (.str nm)) j12 j13 j14 j19 (kn1 nm a kn n)) σ:=
 h.casesOn λj15 j16 j17 j18=>by
  have c:AA Bj (Aa 16) (Aa 11) (sW P b g mk ⟨a,pcs,kn⟩ A ⟨some (.str nm),j12,j13,j14,some (.str n.nm),some (.str n.pl),some (.int n.va),some (.int n.sz),j19⟩)=some (decide (n.pl=nm),sW P b g mk ⟨a,pcs,kn⟩ A ⟨some (.str nm),j12,j13,j14,some (.str n.nm),some (.str n.pl),some (.int n.va),some (.int n.sz),j19⟩):=By (atS rfl) (atS rfl) rfl
  by_cases q:n.pl=nm
  ·rw [Yb q]
   rw [decide_eq_true q] at c
   exact .mk .nx _ (Bt rfl (Aj (Bs c (λ_=>Aj (E0 (AG (atS rfl) (atS rfl) IV) (atS rfl) (atS rfl) (Tn hk)) rfl) λz=>noF z) rfl)) rfl (.mk _ _ _ _)
  ·rw [Ya q]
   rw [decide_eq_false q] at c
   exact .mk .nx _ (Bt rfl (Aj (Bs c (λz=>noT z) λ_=>rfl) rfl)) rfl (.mk _ _ _ _)
inductive IW1(P:FV)(b:Nat)(g:List (Option O))(mk:List (Nm×Nat))(A:JA)(y:LW):St→Prop
 |mk (B:JB):IW1 P b g mk A y (sW P b g mk y A B)
theorem K04{y:LW}{o:Ob}{s:Sec}{t:Nm}{kd j9:Option FV}{σ:St}(hs:0<s.al∧s.al≤100∧s.sz≤100)(hB:BdW (lwS t o y s))(h:IW1 P b g mk ⟨kd,some (.str t),some (.str o.ti),j9,some (.lst (o.ns.map Cz))⟩ y σ):StepQ (.many [11,12,13,14]) Mw (Ca s) (IW1 P b g mk ⟨kd,some (.str t),some (.str o.ti),j9,some (.lst (o.ns.map Cz))⟩ (lwS t o y s)) σ:=
 h.casesOn λB=>by
  have c:AA Bj (Aa 11) (Aa 7) (sW P b g mk y ⟨kd,some (.str t),some (.str o.ti),j9,some (.lst (o.ns.map Cz))⟩ ⟨some (.str s.nm),some (.str s.kd),some (.int s.al),some (.int s.sz),B.j15,B.j16,B.j17,B.j18,B.j19⟩)=some (decide (s.nm=t),sW P b g mk y ⟨kd,some (.str t),some (.str o.ti),j9,some (.lst (o.ns.map Cz))⟩ ⟨some (.str s.nm),some (.str s.kd),some (.int s.al),some (.int s.sz),B.j15,B.j16,B.j17,B.j18,B.j19⟩):=By (atS rfl) (atS rfl) rfl
  by_cases q:s.nm=t
  ·rw [Ys q] at hB⊢
   rw [decide_eq_true q] at c
   have hB0:=hB.row hs.1
   exact HZ (λkn:List (Nm×Nat)=>kn.length≤500) (t:=.many [15,16,17,18]) (b:=Mv) (f:=Cz) (I:=IW0 P b g mk (up y.at_ s.al) (y.pcs++[⟨s.nm,o.ti,up y.at_ s.al,s.sz⟩]) ⟨kd,some (.str t),some (.str o.ti),j9,some (.lst (o.ns.map Cz))⟩ (some (.str s.nm)) (some (.str s.kd)) (some (.int s.al)) (some (.int s.sz)) B.j19) (xs:=o.ns) (y:=y.kn) (λn _ kn h=>A8 Sx h) (λn _ kn σ hb hI=>K03 (by have:=A8 (Sx (nm:=s.nm) (a:=up y.at_ s.al)) hb;lia) hI) hB.k (.mk B.j15 B.j16 B.j17 B.j18) λσ' e i=>by
    cases i with
    |mk j15 j16 j17 j18=>exact .mk .nx _ (Bt rfl (Aj (Bs c (λ_=>Aj (BF (upE (atS rfl) (atS rfl) hs.1 hs.2.1 hB0.a) rfl) (Aj (DR (Bl (atS rfl) rfl) (DL (sq1 (atS rfl) (sq1 (atS rfl) (sq1 (atS rfl) (sq1 (atS rfl) sq0)))) rfl) (Wl (y:=⟨up y.at_ s.al,y.pcs,y.kn⟩) (p:=⟨s.nm,o.ti,up y.at_ s.al,s.sz⟩) hB0.p)) (Aj (BK (CM (atS rfl)) e) (Aj (BF (AG (atS rfl) (atS rfl) IV) rfl) rfl)))) λz=>noF z) rfl)) rfl (.mk ⟨some (.str s.nm),some (.str s.kd),some (.int s.al),some (.int s.sz),j15,j16,j17,j18,B.j19⟩)
  ·rw [Yr q]
   rw [decide_eq_false q] at c
   exact .mk .nx _ (Bt rfl (Aj (Bs c (λz=>noT z) λ_=>rfl) rfl)) rfl (.mk _)
inductive IW2(P:FV)(b:Nat)(g:List (Option O))(mk:List (Nm×Nat))(j6 j7:Option FV)(y:LW):St→Prop
 |mk (j8 j9 j10:Option FV) (B:JB):IW2 P b g mk j6 j7 y (sW P b g mk y ⟨j6,j7,j8,j9,j10⟩ B)
inductive IW3(P:FV)(b:Nat)(g:List (Option O))(mk:List (Nm×Nat))(j6:Option FV)(y:LW):St→Prop
 |mk (j7 j8 j9 j10:Option FV) (B:JB):IW3 P b g mk j6 y (sW P b g mk y ⟨j6,j7,j8,j9,j10⟩ B)
theorem K05{pl:List Ob}{y:LW}{t:Nm}{kd:Option FV}{σ:St}(hA:AL pl)(hB:BdW (lwT pl y t))(h:IW3 (.lst (pl.map fOb)) b g mk kd y σ):StepQ (.one 7) HM (.str t) (IW3 (.lst (pl.map fOb)) b g mk kd (lwT pl y t)) σ:=
 h.casesOn λj7 j8 j9 j10 B=>HZ BdW (t:=.many [8,9,10]) (b:=QM) (f:=fOb) (F:=lwO t) (I:=IW2 (.lst (pl.map fOb)) b g mk kd (some (.str t))) (λo ho _ h=>U9 (λs hs=>(hA o ho s hs).1) h)
  (λo ho y σ hB hI=>hI.casesOn λj8 j9 j10 B=>HZ BdW (t:=.many [11,12,13,14]) (b:=Mw) (f:=Ca) (F:=lwS t o) (I:=IW1 (.lst (pl.map fOb)) b g mk ⟨kd,some (.str t),some (.str o.ti),some (.lst (o.ss.map Ca)),some (.lst (o.ns.map Cz))⟩) (λs hs y h=>BdW.sec (hA o ho s hs).1 h) (λs hs y σ hB hI=>K04 (hA o ho s hs) hB hI) hB (.mk B) λσ' e i=>.mk .nx σ' (Bt rfl (Aj (BK (CM (atS rfl)) e) rfl)) rfl (i.casesOn λB=>.mk _ _ _ _)) hB (.mk j8 j9 j10 B) λσ' e i=>.mk .nx σ' (Bt rfl (Aj (BK (CM (atS rfl)) e) rfl)) rfl (i.casesOn λ_ _ _ _=>.mk _ _ _ _ _)
theorem K06{y:LW}{j6:Option FV}{e:Nm×Nat×Nat}{σ:St}(he:0<e.2.1∧e.2.1≤100)(hB:BdW (lwC y e))(h:IW3 P b g mk j6 y σ):StepQ (.many [11,19]) Mx (.tup [.str e.1,pF e.2]) (IW3 P b g mk j6 (lwC y e)) σ:=
 h.casesOn λj7 j8 j9 j10 B=>
  have hB0:=hB.com he.1
  have hk:=hB0.k
  .mk .nx _ (Bt (s1:=sW P b g mk y ⟨j6,j7,j8,j9,j10⟩ ⟨some (.str e.1),B.j12,B.j13,B.j14,B.j15,B.j16,B.j17,B.j18,some (pF e.2)⟩) rfl (Aj (BF (upE (a:=y.at_) (al:=e.2.1) (atS rfl) rfl he.1 he.2 hB0.a) rfl) (Aj (DR (s:=sW P b g mk ⟨up y.at_ e.2.1,y.pcs,y.kn⟩ ⟨j6,j7,j8,j9,j10⟩ ⟨some (.str e.1),B.j12,B.j13,B.j14,B.j15,B.j16,B.j17,B.j18,some (pF e.2)⟩) (Bl (atS rfl) rfl) (DL (sq1 (atS rfl) (sq1 (AG (atS rfl) rfl (r:=.f (.int e.2.2)) rfl) (sq1 rfl (sq1 (atS rfl) sq0)))) rfl) (Wl (p:=⟨AX,e.1,up y.at_ e.2.1,e.2.2⟩) hB0.p)) (Aj (E0 (atS rfl) (atS rfl) (atS rfl) (Tn (by show y.kn.length<1000;lia))) (Aj (BF (AG (atS rfl) (AG (atS rfl) rfl (r:=.f (.int e.2.2)) rfl) IV) rfl) rfl))))) rfl (.mk _ _ _ _ ⟨some (.str e.1),B.j12,B.j13,B.j14,B.j15,B.j16,B.j17,B.j18,some (pF e.2)⟩)
end
structure TOK(pl:List Ob):Prop where
 n: ∀kind,(CL kind pl).length≤900
 s: ∀o∈pl,o.ss.length≤900
 c:(EN pl).length<900
 a:AL pl
 e: ∀e∈EN pl,0<e.2.1∧e.2.1≤100
noncomputable def IY(pl:List Ob)(y:LW):LW:=(EN pl).foldl lwC y
theorem BdW.coms{pl:List Ob}{y:LW}(h0: ∀e∈EN pl,0<e.2.1∧e.2.1≤100)(h:BdW (IY pl y)):BdW y:=HY (λe he _ h=>BdW.com (h0 e he).1 h) h
section
variable{b:Nat}{g:List (Option O)}{mk:List (Nm×Nat)}{pl:List Ob}
theorem A0n{f:Ev}{s:St}{a:Nat}(h1:f s=some (.f (.int a),s))(ha:a≤2000000):Ao EU (Ao Gi (Ao Bf f (Af (.int 3))) (Af (.int 4))) (Af (.int 4)) s=some (.f (.int (up a 4)),s):=AG (AG (a:=.f (.int ((a+4 - 1:Nat):Int))) (r:=.f (.int (((a+4 - 1)/4:Nat):Int))) (AG h1 rfl rfl) rfl (Nt (by decide) (Iw (by lia) (by lia)) (by decide))) rfl (NJ (by decide))
theorem H0M{y:LW}{U:JA}{B:JB}{kn mkn:Nm}(h6:U.j6=some (.str kn))(hmk:Ay [(B9,FV.str nEt),(Du,.str []),(CT,.str nEd),(AO,.str nEn)] kn=some (.str mkn))(hm:mk.length<1000):
  Di (Aa 5) (Ao AQ (Cf (A.dict [[116,101,120,116],[114,111,100,97,116,97],[100,97,116,97],[98,115,115]] [(Af (.str [95,101,116,101,120,116])),(Af (.str [])),(Af (.str [95,101,100,97,116,97])),(Af (.str [95,101,110,100]))])) (Aa 6)) (Aa 2) (sW (.lst (pl.map fOb)) b g mk y U B)=some (.nx,sW (.lst (pl.map fOb)) b g (AE mk mkn y.at_) y U B):=
 E0 (atS rfl) (atS rfl) (AG (a:=.f (.dct [(B9,FV.str nEt),(Du,.str []),(CT,.str nEd),(AO,.str nEn)])) (s1:=sW (.lst (pl.map fOb)) b g mk y U B) rfl (atS (congrArg J h6)) (congrArg (Fh V.f) hmk)) (ZG hm)
theorem A0t{y:LW}{kn:Nm}{σ:St}(ok:TOK pl)(hB:BdW (DU pl kn y))(h:IW3 (.lst (pl.map fOb)) b g mk (some (.str kn)) (ER y) σ){Q:Prop}(K: ∀σ',Bn (.one 7) (I.of (AB [] JT [(Aa 0),(Aa 6)])) HM σ=some (.nx,σ')→IW3 (.lst (pl.map fOb)) b g mk (some (.str kn)) (DU pl kn y) σ'→Q):Q:=HZ BdW (t:=.one 7) (b:=HM) (f:=FV.str) (F:=lwT pl) (I:=IW3 (.lst (pl.map fOb)) b g mk (some (.str kn))) (λ_ _ _ h=>UA ok.a h) (λt _ y σ hB hI=>K05 ok.a hB hI) hB h λσ' e i=>K σ' (h.casesOn (motive:= λσ _=>CB (.one 7) HM ((CW [] (CL kn pl)).map FV.str) σ=some (.nx,σ')→Bn (.one 7) (I.of (AB [] JT [(Aa 0),(Aa 6)])) HM σ=some (.nx,σ')) (λj7 j8 j9 j10 B e=>BK (CM (Br (sq1 (atS rfl) (sq1 (atS rfl) sq0)) rfl rfl (K0s (ok.n kn) ok.s))) e) e) i
theorem isB{y:LW}{kn:Nm}{σ:St}{P:FV}(h:IW3 P b g mk (some (.str kn)) y σ):AA Bj (Aa 6) (Af (.str [98,115,115])) σ=some (decide (kn=AO),σ):=h.casesOn λ_ _ _ _ _=>By (atS rfl) rfl rfl
inductive IW4(P:FV)(b:Nat)(g:List (Option O))(mk:List (Nm×Nat))(y:LW):St→Prop
 |mk (A:JA) (B:JB):IW4 P b g mk y (sW P b g mk y A B)
theorem marked{y:LW}{kn mkn:Nm}{σ:St}{R:Option (Fl×St)}(h:IW3 (.lst (pl.map fOb)) b g mk (some (.str kn)) y σ)(hmk:Ay [(B9,FV.str nEt),(Du,.str []),(CT,.str nEd),(AO,.str nEn)] kn=some (.str mkn))(hm:mk.length<1000)
  (e:Ae (Di (Aa 5) (Ao AQ (Cf (A.dict [[116,101,120,116],[114,111,100,97,116,97],[100,97,116,97],[98,115,115]] [(Af (.str [95,101,116,101,120,116])),(Af (.str [])),(Af (.str [95,101,100,97,116,97])),(Af (.str [95,101,110,100]))])) (Aa 6)) (Aa 2)) Ar σ=R): ∃σ',R=some (.nx,σ')∧IW4 (.lst (pl.map fOb)) b g (AE mk mkn y.at_) y σ':=
 h.casesOn (motive:= λσ _=>Ae _ Ar σ=R→_) (λj7 j8 j9 j10 B e=>⟨_,e.symm.trans (Aj (H0M rfl hmk hm) rfl),.mk _ _⟩) e
theorem T7{y:LW}{kn mkn:Nm}{σ:St}(ok:TOK pl)(hne:kn≠AO)(hmk:Ay [(B9,FV.str nEt),(Du,.str []),(CT,.str nEd),(AO,.str nEn)] kn=some (.str mkn))(hm:mk.length<1000)(hB:BdW (DU pl kn y))(h:IW4 (.lst (pl.map fOb)) b g mk y σ):
  StepQ (.one 6) My (.str kn) (IW4 (.lst (pl.map fOb)) b g (AE mk mkn (DU pl kn y).at_) (DU pl kn y)) σ:=
 h.casesOn λA B=>A0t ok hB (σ:=sW (.lst (pl.map fOb)) b g mk (ER y) ⟨some (.str kn),A.j7,A.j8,A.j9,A.j10⟩ B) (.mk _ _ _ _ _) λσ' e i=>
  have f:=decide_eq_false hne
  (marked i hmk hm rfl).elim λσ2 h=>.mk .nx σ2 (Bt (s1:=sW (.lst (pl.map fOb)) b g mk y ⟨some (.str kn),A.j7,A.j8,A.j9,A.j10⟩ B) rfl (Aj (BF (A0n (a:=y.at_) (atS rfl) (hB.kind ok.a).ini.a) (s2:=sW (.lst (pl.map fOb)) b g mk (ER y) ⟨some (.str kn),A.j7,A.j8,A.j9,A.j10⟩ B) rfl) (Aj (Bs (isB (y:=ER y) (.mk _ _ _ _ _)) (λz=>noT (f.symm.trans z)) λ_=>rfl) (Aj e (Aj (Bs (isB i) (λz=>noT (f.symm.trans z)) λ_=>rfl) h.1))))) rfl h.2
theorem K07{y:LW}{σ:St}(ok:TOK pl)(hm:mk.length<900)(hB:BdW (IY pl (DU pl AO y)))(h:IW4 (.lst (pl.map fOb)) b g mk y σ):
  StepQ (.one 6) My (.str AO) (IW4 (.lst (pl.map fOb)) b g (AE (AE mk nBs (up y.at_ 4)) nEn (IY pl (DU pl AO y)).at_) (IY pl (DU pl AO y))) σ:=
 have hB1:=hB.coms ok.e
 have hm2:=HW (k:=nBs) (v:=up y.at_ 4) (es:=mk)
 h.casesOn λA B=>A0t ok hB1 (mk:=AE mk nBs (up y.at_ 4)) (σ:=sW (.lst (pl.map fOb)) b g (AE mk nBs (up y.at_ 4)) (ER y) ⟨some (.str AO),A.j7,A.j8,A.j9,A.j10⟩ B) (.mk _ _ _ _ _) λσ' e i=>
  HZ BdW (t:=.many [11,19]) (b:=Mx) (f:= λe:Nm×Nat×Nat=>FV.tup [.str e.1,pF e.2]) (F:=lwC) (I:=IW3 (.lst (pl.map fOb)) b g (AE mk nBs (up y.at_ 4)) (some (.str AO))) (xs:=EN pl) (λe he _ h=>BdW.com (ok.e e he).1 h) (λe he y σ hB hI=>K06 (ok.e e he) hB hI) hB i λσ2 e2 i2=>
  (marked i2 rfl (by show (AE mk nBs (up y.at_ 4)).length<1000;lia) rfl).elim λσ3 h3=>
  have hit:I.items (AB [] Md [(Aa 0)]) σ'=some ((EN pl).map λe:Nm×Nat×Nat=>FV.tup [.str e.1,pF e.2],σ'):=i.casesOn λ_ _ _ _ _=>bS (Br (sq1 (atS rfl) sq0) rfl rfl (E0E ok.c)) (congrArg (λz=>some (z,_)) CP)
  .mk .nx σ3 (Bt (s1:=sW (.lst (pl.map fOb)) b g mk y ⟨some (.str AO),A.j7,A.j8,A.j9,A.j10⟩ B) rfl (Aj (BF (A0n (a:=y.at_) (atS rfl) (hB1.kind ok.a).ini.a) (s2:=sW (.lst (pl.map fOb)) b g mk (ER y) ⟨some (.str AO),A.j7,A.j8,A.j9,A.j10⟩ B) rfl) (Aj (Bs (isB (y:=ER y) (.mk _ _ _ _ _)) (λ_=>Aj (E0 (atS rfl) (atS rfl) rfl (ZG (by lia))) rfl) λz=>absurd rfl (of_decide_eq_false z)) (Aj e (Aj (Bs (isB i) (λ_=>Aj (BK hit e2) rfl) λz=>absurd rfl (of_decide_eq_false z)) h3.1))))) rfl h3.2
noncomputable def W1(pl:List Ob)(b:Nat):LW:=DU pl B9 ⟨b,[],[]⟩
noncomputable def W2(pl:List Ob)(b:Nat):LW:=DU pl Du (W1 pl b)
noncomputable def W3(pl:List Ob)(b:Nat):LW:=DU pl CT (W2 pl b)
noncomputable def W4(pl:List Ob)(b:Nat):LW:=DU pl AO (W3 pl b)
noncomputable def W5(pl:List Ob)(b:Nat):LW:=IY pl (W4 pl b)
noncomputable def mkW(pl:List Ob)(b:Nat):List (Nm×Nat):=[(nEt,(W1 pl b).at_),([],(W2 pl b).at_),(nEd,(W3 pl b).at_),(nBs,up (W3 pl b).at_ 4),(nEn,(W5 pl b).at_)]
noncomputable def knW(pl:List Ob)(b:Nat):List (Nm×Nat):=AE (AE (AE (AE (W5 pl b).kn nEt (W1 pl b).at_) nEd (W3 pl b).at_) nBs (up (W3 pl b).at_ 4)) nEn (W5 pl b).at_
theorem Oz{a p}{kn:List (Nm×Nat)}{x:Nm}{v c:Nat}{σ:St}(h:Ay mk x=some v)(hk:kn.length≤c)(hc:c<1000)(i:IW4 (.lst (pl.map fOb)) b g mk ⟨a,p,kn⟩ σ):StepQ (.one 11) Mz (.str x) (λσ=>IW4 (.lst (pl.map fOb)) b g mk ⟨a,p,AE kn x v⟩ σ∧(AE kn x v).length≤c+1) σ:=i.casesOn λA B=>.mk .nx _ (Bt (s1:=sW (.lst (pl.map fOb)) b g mk ⟨a,p,kn⟩ A ⟨some (.str x),B.j12,B.j13,B.j14,B.j15,B.j16,B.j17,B.j18,B.j19⟩) rfl (Aj (E0 (AG (a:=.c 2) (b:=.f (.str x)) (r:=.f (.int v)) (atS rfl) (atS rfl) (by show (Ay (mk.map Bg) x).map V.f=_;rw [Nh,h];rfl)) (atS rfl) (atS rfl) (Tn (DX hk hc))) rfl)) rfl ⟨.mk _ _,A8 HW (Gn hk)⟩
noncomputable def sX(pl:List Ob)(b:Nat)(g:List (Option O))(A:JA)(B:JB)(u v:V)(c1:Option O):St:=⟨[some (.f (.lst (pl.map fOb))),some (.f (.int b)),some (.f (.int (W5 pl b).at_)),some u,some v,some (.c 2),J A.j6,J A.j7,J A.j8,J A.j9,J A.j10,J B.j11,J B.j12,J B.j13,J B.j14,J B.j15,J B.j16,J B.j17,J B.j18,J B.j19],[none,c1,some (.dict ((mkW pl b).map Bg))],g⟩
theorem H0c(ok:TOK pl)(hB:BdW (W5 pl b)):Q0 [.f (.lst (pl.map fOb)),.f (.int b)] g=some (.f (.tup [.lst ((W5 pl b).pcs.map fPw),.dct ((knW pl b).map Bg)]),g):=
 have hB4:BdW (W4 pl b):=hB.coms ok.e
 have hB3:BdW (W3 pl b):=(hB4.kind ok.a).ini
 have hB2:BdW (W2 pl b):=(hB3.kind ok.a).ini
 have hB1:BdW (W1 pl b):=(hB2.kind ok.a).ini
 (T7 (b:=b) (g:=g) (mk:=[]) (y:=⟨b,[],[]⟩) (σ:=sW (.lst (pl.map fOb)) b g [] ⟨b,[],[]⟩ ⟨none,none,none,none,none⟩ ⟨none,none,none,none,none,none,none,none,none⟩) (kn:=B9) (mkn:=nEt) ok (by decide) rfl (FH _) hB1 (.mk _ _)).casesOn λ_ _ e1 n1 i=>
 (T7 (mk:=[(nEt,(W1 pl b).at_)]) (y:=W1 pl b) (kn:=Du) (mkn:=[]) ok (by decide) rfl (by show 1<1000;decide) hB2 i).casesOn λ_ _ e2 n2 i=>
 (T7 (mk:=[(nEt,(W1 pl b).at_),([],(W2 pl b).at_)]) (y:=W2 pl b) (kn:=CT) (mkn:=nEd) ok (by decide) rfl (by show 2<1000;decide) hB3 i).casesOn λ_ _ e3 n3 i=>
 (K07 (mk:=[(nEt,(W1 pl b).at_),([],(W2 pl b).at_),(nEd,(W3 pl b).at_)]) (y:=W3 pl b) ok (by show 3<900;decide) hB i).casesOn λ_ _ e4 n4 i=>
 (Oz (mk:=mkW pl b) (kn:=(W5 pl b).kn) (x:=nEt) rfl hB.k (by decide) i).casesOn λ_ _ e5 n5 i=>
 (Oz (mk:=mkW pl b) (x:=nEd) rfl i.2 (by decide) i.1).casesOn λ_ _ e6 n6 i=>
 (Oz (mk:=mkW pl b) (x:=nBs) rfl i.2 (by decide) i.1).casesOn λ_ _ e7 n7 i=>
 (Oz (mk:=mkW pl b) (x:=nEn) rfl i.2 (by decide) i.1).casesOn λ_ σ e8 n8 i=>by
  have e9:CB (.one 11) Mz [.str nEt,.str nEd,.str nBs,.str nEn] _=some (.nx,σ):=D5 e5 n5 (D5 e6 n6 (D5 e7 n7 (D5 e8 n8 rfl)))
  have i:=i.1
  clear e8
  cases i with
  |mk A B=>exact Cw (Aj rfl (Aj (BK (xs:=[.str B9,.str Du,.str CT,.str AO]) rfl (D5 e1 n1 (D5 e2 n2 (D5 e3 n3 (D5 e4 n4 rfl))))) (Aj (BK (bS (DL (xs:=[.str nEt,.str nEd,.str nBs,.str nEn]) (sq1 rfl (sq1 rfl (sq1 rfl (sq1 rfl sq0)))) rfl) (atS rfl)) e9)
   (Aj (s1:=sX pl b g A B (.f (.lst ((W5 pl b).pcs.map fPw))) (.c 1) (some (.dict ((knW pl b).map Bg)))) (F7 (x:=.lst ((W5 pl b).pcs.map fPw)) rfl rfl (mc rfl (mc rfl (mc rfl (mc rfl (mc rfl (mc rfl (mc AS (mc AS (mc AS (mc AS (mc AS (mc AS (mc AS (mc AS (mc AS (mc AS (mc AS (mc AS (mc AS (mc AS rfl)))))))))))))))))))))
   (Aj (s1:=sX pl b g A B (.f (.lst ((W5 pl b).pcs.map fPw))) (.f (.dct ((knW pl b).map Bg))) none) (F7 (x:=.dct ((knW pl b).map Bg)) rfl rfl (mc rfl (mc rfl (mc rfl (mc rfl (mc rfl (mc rfl (mc AS (mc AS (mc AS (mc AS (mc AS (mc AS (mc AS (mc AS (mc AS (mc AS (mc AS (mc AS (mc AS (mc AS rfl)))))))))))))))))))))
   (CV (C1 (DL (sq1 (atS rfl) (sq1 (atS rfl) sq0)) rfl)))))))) rfl
end
noncomputable abbrev Kn:=List (Nm×Nat)
theorem Y8{α:Type}{m:α→List α→α}{c:α→α→Bool}{le:α→α→Prop}(h0: ∀x,m x []=x)(h1: ∀x y r,m x (y::r)=m (if c y x=true then y else x) r)(rf: ∀x,le x x)(tr: ∀{x y z},le x y→le y z→le x z)(ct: ∀{x y},c y x=true→le y x)(cf: ∀{x y},c y x=false→le x y){r:List α}: ∀{x},m x r∈x::r∧∀z∈x::r,le (m x r) z:=by
 induction r with
 |nil=>exact λ{x}=>by rw [h0];exact ⟨.head _,λz hz=>Bx.mp hz▸rf z⟩
 |cons y r ih=>
  intro x
  rw [h1]
  cases q:c y x with
  |true=>
   have i:=ih (x:=y)
   exact ⟨.tail _ i.1,λz hz=>(AW.mp hz).elim (λe=>by rw [e];exact tr (i.2 y (.head _)) (ct q)) (i.2 z)⟩
  |false=>
   have i:=ih (x:=x)
   show m x r∈_∧∀z∈_,le (m x r) z
   exact ⟨(AW.mp i.1).elim (λe=>by rw [e];exact .head _) λh=>.tail _ (.tail _ h),λz hz=>(AW.mp hz).elim (λe=>by rw [e];exact i.2 x (.head _)) λhz=>(AW.mp hz).elim (λe=>by rw [e];exact tr (i.2 x (.head _)) (cf q)) λh=>i.2 z (.tail _ h)⟩
noncomputable def KD:Nat→List Nat→Nat
 |x,[]=>x
 |x,y::r=>KD (if OK y x=true then y else x) r
theorem H0T{r:List Nat}: ∀{x:Nat},G9 (x:Int) (r.map λn:Nat=>(n:Int))=((KD x r:Nat):Int):=by
 induction r with
 |nil=>exact rfl
 |cons y r ih=>
  intro x
  have e:(if (y:Int)<(x:Int) then (y:Int) else (x:Int))=(((if OK y x=true then y else x):Nat):Int):=if h:y<x then by rw [if_pos (Gl.mpr h),show OK y x=true from L0N h];rfl else by rw [if_neg λz=>h (Gl.mp z),show OK y x=false from (A01 _).mp λz=>h (ON z)];rfl
  exact (congrArg (λz=>G9 z (r.map λn:Nat=>(n:Int))) e).trans ih
theorem H0V{r:List Nat}{x:Nat}:KD x r∈x::r∧∀z∈x::r,KD x r≤z:=Y8 (c:=OK) (le:=(· ≤ ·)) (λ_=>rfl) (λ_ _ _=>rfl) A9 A8 (λh=>CY (ON h)) λh=>GS λz=>noF ((L0N z).symm.trans h)
theorem H0X{r:List Nm}{x:Nm}:Gg x r∈x::r∧∀z∈x::r,Gg x r≤z:=Y8 (c:=C6) (le:=(· ≤ ·)) (λ_=>rfl) (λ_ _ _=>rfl) List.le_refl L04 (λh=>N0y (N0E.mp h)) YR
theorem G09{l:Kn}:Ib ((l.map Bg).map (·.2))=some (l.map λe=>((e.2:Nat):Int)):=by
 induction l with
 |nil=>rfl
 |cons e r ih=>exact mS (F:=(((e.2:Nat):Int):: ·)) ih
theorem G0V{a:Nat}{l:Kn}:N7 (a:Int) (l.map Bg)=some (((l.filter λe=>decide (e.2=a)).map (·.1)).map FV.str):=by
 induction l with
 |nil=>rfl
 |cons e r ih=>
  refine bS (F:= λys=>some (if (e.2:Int)=(a:Int) then .str e.1::ys else ys)) ih ?_
  by_cases h:e.2=a
  ·rw [if_pos (L0m.mpr h),Ln (by exact decide_eq_true h)];rfl
  ·rw [if_neg λz:(e.2:Int)=(a:Int)=>h (L0m.mp z),Lm (by rw [decide_eq_false h];decide)]
theorem F0a{x:Nm}{l:Kn}:DF (l.map Bg) x=(DF l x).map Bg:=by
 induction l with
 |nil=>rfl
 |cons e r ih=>exact (congrArg (λz=>if e.1=x then r.map Bg else Bg e::z) ih).trans (N5 (f:=J3 Bg) (x:=r) (y:=e::DF r x)).symm
theorem RO{x:Nm}{a:Nat}{l:Kn}(hn:(l.map (·.1)).Nodup)(h:(x,a)∈l):Ay l x=some a:=by
 induction l with
 |nil=>cases h
 |cons e r ih=>
  have hn':=CQ.mp hn
  exact (AW.mp h).elim (λz=>z▸if_pos rfl) λh=>(if_neg λz:e.1=x=>hn'.1 (by show e.1∈_;rw [z];exact GP (f:=Fi) h)).trans (ih hn'.2 h)
theorem RM{x:Nm}{a:Nat}{l:Kn}(h:Ay l x=some a):((x,a)::DF l x).Perm l:=by
 induction l with
 |nil=>exact noS h
 |cons e r ih=>
  show ((x,a)::(if e.1=x then r else e::DF r x)).Perm _
  exact F8 h (λq z=>by rw [if_pos q,←q,←An z]) λq z=>by rw [if_neg q];exact (L0q _ _ _).trans ((ih z).cons _)
theorem G0N{p:Pc}(hp:POK p):Su [32] ([hx p.at_,CS p.sz,p.nm,p.ti].map FV.str)=some (.f (.str (Ej p))):=by
 have h1:=Hp hp.a
 have h2:=Ko (k:=9) hp.s (by decide)
 have h3:=hp.n
 have h4:=hp.t
 refine bS Ol ((if_pos ?_).trans ?_)
 ·show (hx p.at_).length+((CS p.sz).length+(p.nm.length+(p.ti.length+0)))+4*1≤_
  unfold AM;lia
 ·show some (V.f (.str (hx p.at_++[32]++(CS p.sz++[32]++(p.nm++[32]++p.ti)))))=_
  unfold Ej
  simp only [CO]
theorem H0Z{m:List (Option V)}{l g:List (Option O)}{k:Nat}{es:List (Nm×FV)}{x:Int}{r:List Int}(h:BY ⟨m,l,g⟩ k=some (.dict es))(h2:Ib (es.map (·.2))=some (x::r)):SV ⟨m,l,g⟩ (.c k)=some (.f (.int (G9 x r))):=bS h (bS h2 rfl)
theorem H0Y{s:St}{xs:List FV}{x:Nm}{r:List Nm}(h2:E2 xs=some (x::r)):SU s (.f (.lst xs))=some (.f (.str (Gg x r))):=bS h2 rfl
theorem G0R{m:List (Option V)}{l g:List (Option O)}{p q k:Nat}{i:Int}{es:List (Nm×FV)}{ys:List FV}(hp:C0 ⟨m,l,g⟩ p=some (.c k))(hq:C0 ⟨m,l,g⟩ q=some (.f (.int i)))(hc:BY ⟨m,l,g⟩ k=some (.dict es))(hl:es.length≤16777216)(hk:Mine.N7 i es=some ys):UE p q ⟨m,l,g⟩=some (.f (.lst ys),⟨m,l,g⟩):=bS hp (bS hq (bS hc (iS hl (bS hk rfl))))
theorem J0c{f h:Ev}{s:St}{m:List (Option V)}{l g:List (Option O)}{k:Nat}{x:Nm}{es:List (Nm×FV)}{v:FV}(hf:f s=some (.c k,⟨m,l,g⟩))(hd:EA ⟨m,l,g⟩ (.c k)=true)(hg:h ⟨m,l,g⟩=some (.f (.str x),⟨m,l,g⟩))(hc:BY ⟨m,l,g⟩ k=some (.dict es))(hl:es.length≤16777216)(hv:Ay es x=some v):Q7 (AH EA f) h s=some (.f v,⟨m,l.set k (some (.dict (DF es x))),g⟩):=bS (Bl hf hd) (bS hg (bS hc (iS hl (mS hv))))
theorem G0A{m:List (Option V)}{l g:List (Option O)}{k:Nat}{es:List (Nm×FV)}(h:BY ⟨m,l,g⟩ k=some (.dict es)):EA ⟨m,l,g⟩ (.c k)=true:=congrArg (λo:Option O=>o.any VA) h
section
variable{P:FV}{b:Nat}{g:List (Option O)}{pcs:List Pc}{kn left:Kn}{rows:List Nm}
noncomputable def sD(P:FV)(b:Nat)(pcs:List Pc)(kn:Kn)(g:List (Option O))(rows:List Nm)(v9:Option V)(l1:Option O)(j5 j6 j7 j8 j10 j11:Option FV):St:=⟨[some (.f P),some (.f (.int b)),some (.f (.lst (pcs.map fPw))),some (.f (.dct (kn.map Bg))),some (.c 0),J j5,J j6,J j7,J j8,v9,J j10,J j11],[some (.list (rows.map FV.str)),l1],g⟩
inductive DuI(P:FV)(b:Nat)(pcs:List Pc)(kn:Kn)(g:List (Option O))(v9:Option V)(l1:Option O)(rows:List Nm):St→Prop
 |mk (j5 j6 j7 j8 j10 j11:Option FV):DuI P b pcs kn g v9 l1 rows (sD P b pcs kn g rows v9 l1 j5 j6 j7 j8 j10 j11)
theorem Wm{v9:Option V}{l1:Option O}{j5 j6 j7 j8 j10 j11:Option FV}{x:Nm}(hr:rows.length<1000):Mine.append (.c 0) (.f (.str x)) (sD P b pcs kn g rows v9 l1 j5 j6 j7 j8 j10 j11)=some (sD P b pcs kn g (rows++[x]) v9 l1 j5 j6 j7 j8 j10 j11):=(Hf (xs:=rows.map FV.str) rfl (by rw [AD];unfold AM;lia)).trans (by unfold sD;rw [B3];rfl)
theorem F0i{p:Pc}{σ:St}(hp:POK p)(ha:p.at_<2147483647)(hr:rows.length<1000)(h:DuI P b pcs kn g none none rows σ):StepQ (.many [5,6,7,8]) Mt (fPw p) (DuI P b pcs kn g none none (rows++[Ej p])) σ:=h.casesOn λj5 j6 j7 j8 j10 j11=>.mk .nx _ (Bt (s1:=sD P b pcs kn g rows none none (some (.int p.at_)) (some (.int p.sz)) (some (.str p.nm)) (some (.str p.ti)) j10 j11) rfl (Aj (DR (Bl (atS rfl) rfl) (AG (a:=.f (.str [32])) (b:=.f (.lst ([hx p.at_,CS p.sz,p.nm,p.ti].map FV.str))) (Bl rfl rfl) (bS (K3 (sq1 (Br (sq1 (atS rfl) sq0) rfl rfl (RY ha)) (sq1 (A7 (atS rfl) (Oj rfl hp.s)) (sq1 (atS rfl) (sq1 (atS rfl) sq0)))) rfl) rfl) (G0N hp)) (Wm hr)) rfl)) rfl (.mk _ _ _ _ _ _)
theorem I0R(hne:left≠[]){Q:Prop}(K: ∀(x:Nm) (a:Nat) (ix:Int) (ir:List Int) (k0:Nm) (kr:List Nm),Ib ((left.map Bg).map (·.2))=some (ix::ir)→G9 ix ir=a→E2 (((left.filter λe=>decide (e.2=a)).map (·.1)).map FV.str)=some (k0::kr)→Gg k0 kr=x→(x,a)∈left→(∀e∈left,leN (a,x) (swp e))→Q):Q:=by
 cases left with
 |nil=>exact absurd rfl hne
 |cons e0 r0=>
  have ma:=H0V (r:=r0.map (·.2)) (x:=e0.2)
  generalize ea:KD e0.2 (r0.map (·.2))=a at ma
  have mi:G9 (e0.2:Int) (r0.map λe=>((e.2:Nat):Int))=a:=by rw [←ea,←H0T,CP];rfl
  refine (BE.mp (show a∈(e0::r0).map (·.2) from ma.1)).elim λe he=>?_
  have hf:e.1∈((e0::r0).filter λe=>decide (e.2=a)).map (·.1):=GP (f:= λe:Nm×Nat=>e.1) (J6.mpr ⟨he.1,decide_eq_true he.2⟩)
  generalize ek:((e0::r0).filter λe=>decide (e.2=a)).map (·.1)=ks at hf
  cases ks with
  |nil=>cases hf
  |cons k0 kr=>
   have mx:=H0X (r:=kr) (x:=k0)
   rw [←ek] at mx
   exact K (Gg k0 kr) a _ _ k0 kr G09 mi (by rw [ek];exact Ol) rfl ((BE.mp mx.1).elim λe h=>
    have z:=J6.mp h.1
    have q:e=(Gg k0 kr,a):=JD h.2 (of_decide_eq_true z.2)
    q▸z.1) λe he=>if q:a=e.2 then .inr ⟨q,mx.2 _ (GP (f:= λe:Nm×Nat=>e.1) (J6.mpr ⟨he,decide_eq_true q.symm⟩))⟩ else .inl (TY (ma.2 _ (GP (f:= λe:Nm×Nat=>e.2) he)) q)
theorem F0k{x:Nm}{a:Nat}{ix:Int}{ir:List Int}{k0:Nm}{kr:List Nm}{j5 j6 j7 j8 j10 j11:Option FV}(h1:Ib ((left.map Bg).map (·.2))=some (ix::ir))(h2:G9 ix ir=a)(h3:E2 (((left.filter λe=>decide (e.2=a)).map (·.1)).map FV.str)=some (k0::kr))(h4:Gg k0 kr=x)(hg:Ay left x=some a)(ha:a<2147483647)(hx4:x.length≤40)(hl:left.length<64)(hr:rows.length<1000):
  Kb (sD P b pcs kn g rows (some (.c 1)) (some (.dict (left.map Bg))) j5 j6 j7 j8 j10 j11)=some (.nx,sD P b pcs kn g (rows++[EE (a,x)]) (some (.c 1)) (some (.dict ((DF left x).map Bg))) j5 j6 j7 j8 (some (.int a)) (some (.str x))):=by
 have hh:=Hp (n:=a) (H9 ha (by decide))
 have l6:(left.map Bg).length≤16777216:=by rw [AD];lia
 have e1:=H0Z (m:=[some (.f P),some (.f (.int b)),some (.f (.lst (pcs.map fPw))),some (.f (.dct (kn.map Bg))),some (.c 0),J j5,J j6,J j7,J j8,some (.c 1),J j10,J j11]) (l:=[some (.list (rows.map FV.str)),some (.dict (left.map Bg))]) (g:=g) (k:=1) rfl h1
 have e2:=H0Y (s:=sD P b pcs kn g rows (some (.c 1)) (some (.dict (left.map Bg))) j5 j6 j7 j8 (some (.int a)) j11) h3
 have e3:=Wm (P:=P) (b:=b) (g:=g) (pcs:=pcs) (kn:=kn) (rows:=rows) (v9:=some (.c 1)) (l1:=some (.dict ((DF left x).map Bg))) (j5:=j5) (j6:=j6) (j7:=j7) (j8:=j8) (j10:=some (.int a)) (j11:=some (.str x)) (x:=EE (a,x)) hr
 rw [h2] at e1
 rw [h4] at e2
 refine Aj (BF (A7 (atS rfl) e1) (s2:=sD P b pcs kn g rows (some (.c 1)) (some (.dict (left.map Bg))) j5 j6 j7 j8 (some (.int a)) j11) rfl) (Aj (BF (A7 (G0R rfl rfl rfl l6 G0V) e2) (s2:=sD P b pcs kn g rows (some (.c 1)) (some (.dict (left.map Bg))) j5 j6 j7 j8 (some (.int a)) (some (.str x))) rfl) (Aj (DR (s1:=sD P b pcs kn g rows (some (.c 1)) (some (.dict ((DF left x).map Bg))) j5 j6 j7 j8 (some (.int a)) (some (.str x))) (Bl (atS rfl) rfl) (AG (s1:=sD P b pcs kn g rows (some (.c 1)) (some (.dict ((DF left x).map Bg))) j5 j6 j7 j8 (some (.int a)) (some (.str x))) (AG (Br (sq1 (a:=.f (.int a)) ?_ sq0) rfl rfl (RY ha)) rfl (Fw (x:=hx a) (y:=[32]) (A8 (A0I hh 1) (by decide)))) (atS rfl) (Fw (x:=hx a++[32]) (A8 (TU (Fy hh (A9 1)) hx4) (by decide)))) e3) rfl))
 exact (J0c (es:=left.map Bg) (v:=.int a) (atS rfl) (G0A rfl) (atS rfl) rfl l6 (by rw [Nh,hg];rfl)).trans (by rw [F0a];rfl)
theorem F0l{σ:St}(hne:left≠[])(hn:(left.map (·.1)).Nodup)(hl:left.length<64)(hb: ∀e∈left,e.2<2147483647∧e.1.length≤40)(hr:rows.length<1000)(h:DuI P b pcs kn g (some (.c 1)) (some (.dict (left.map Bg))) rows σ){Q:Prop}
  (K: ∀x a σ',Kb σ=some (.nx,σ')→DuI P b pcs kn g (some (.c 1)) (some (.dict ((DF left x).map Bg))) (rows++[EE (a,x)]) σ'→Ay left x=some a→(∀e∈left,leN (a,x) (swp e))→Q):Q:=by
 refine I0R hne λx a ix ir k0 kr h1 h2 h3 h4 hxa hle=>?_
 cases h with
 |mk j5 j6 j7 j8 j10 j11=>exact K x a _ (F0k h1 h2 h3 h4 (RO hn hxa) (hb _ hxa).1 (hb _ hxa).2 hl hr) (.mk _ _ _ _ _ _) (RO hn hxa) hle
theorem F0j{k:Nat}: ∀{left:Kn} {rows:List Nm} {σ:St},left.length<k→k≤64→(left.map (·.1)).Nodup→(∀e∈left,e.2<2147483647∧e.1.length≤40)→rows.length+left.length<1000→DuI P b pcs kn g (some (.c 1)) (some (.dict (left.map Bg))) rows σ→
  ∃(L:List (Nat×Nm)) (σ':St),GL (AA E9 (Aa 9) (Cf (A.dict [] []))) Kb k σ=some (.nx,σ')∧DuI P b pcs kn g (some (.c 1)) (some (.dict [])) (rows++L.map EE) σ'∧L.Pairwise leN∧L.Perm (left.map swp):=by
 induction k with
 |zero=>exact λh=>absurd h (Ls _)
 |succ k ih=>
  intro left rows σ hk hk2 hn hb hr h
  have c:AA E9 (Aa 9) (Cf (A.dict [] [])) σ=some (!(left.map Bg).isEmpty,σ):=h.casesOn λ_ _ _ _ _ _=>By (atS rfl) rfl rfl
  by_cases hne:left=[]
  ·rw [hne] at h c⊢
   exact ⟨[],σ,A0u c,(CX rows).symm▸h,.nil,.refl _⟩
  ·refine F0l hne hn (by lia) hb (by lia) h λx a σ1 e1 h1 h2 h3=>?_
   have hp:=RM h2
   have hlen:(DF left x).length+1=left.length:=hp.length_eq
   refine (ih (by lia) (by lia) (CQ.mp ((hp.map (·.1)).nodup_iff.mpr hn)).2 (λe he=>hb e (hp.mem_iff.mp (.tail _ he))) (by rw [AU];show rows.length+1+_<1000;lia) h1).elim λL h=>h.elim λσ' h=>?_
   have c1:(!(left.map Bg).isEmpty)=true:=by
    cases left with
    |nil=>exact absurd rfl hne
    |cons _ _=>rfl
   exact ⟨(a,x)::L,σ',A0v (c1▸c) e1 h.1,by rw [CO] at h;exact h.2.1,En.mpr ⟨λz hz=>(BE.mp (h.2.2.2.mem_iff.mp hz)).elim λe he=>he.2▸h3 e (hp.mem_iff.mp (.tail _ he.1)),h.2.2.1⟩,(h.2.2.2.cons (a,x)).trans (hp.map swp)⟩
theorem F0m{pl:List Ob}{en:Nat}(ok:TOK pl)(hB:BdW (W5 pl b))(hen:Ay (knW pl b) B1=some en)(hp: ∀p∈(W5 pl b).pcs,POK p∧p.at_<2147483647)(hn:((knW pl b).map (·.1)).Nodup)(hb: ∀e∈knW pl b,e.2<2147483647∧e.1.length≤40)(hl:(knW pl b).length<64):
  Me [.f (.lst (pl.map fOb)),.f (.int b)] g=some (.f (.lst (((FC en::(W5 pl b).pcs.map Ej)++(D0 ((knW pl b).map swp)).map EE).map FV.str)),g):=
 have hen2:en<2147483647:=(hb (B1,en) ((RM hen).mem_iff.mp (.head _))).1
 have h500:=hB.p
 Dy (xs:=(W5 pl b).pcs) (I:= λd=>DuI (.lst (pl.map fOb)) b (W5 pl b).pcs (knW pl b) g none none (FC en::d.map Ej)) (f:=fPw) (t:=.many [5,6,7,8]) (b:=Mt) (λd p r σ eq i=>by
  have:=leF eq
  rw [B3]
  exact F0i (hp p (Eh eq)).1 (hp p (Eh eq)).2 (by rw [Dm,AD];lia) i) (r:=(W5 pl b).pcs) (d:=[]) rfl (.mk none none none none none none) λσ1 e1 i=>by
 cases i with
 |mk j5 j6 j7 j8 j10 j11=>
  refine (F0j (P:=.lst (pl.map fOb)) (b:=b) (pcs:=(W5 pl b).pcs) (kn:=knW pl b) (g:=g) (k:=64) (left:=knW pl b) (rows:=FC en::(W5 pl b).pcs.map Ej) hl (by decide) hn hb (by rw [Dm,AD];lia) (.mk j5 j6 j7 j8 j10 j11)).elim λL h=>h.elim λσ2 h=>?_
  have e3:=h.1
  have i:=h.2.1
  rw [ZS h.2.2.1 h.2.2.2]
  clear h
  cases i with
  |mk i5 i6 i7 i8 i10 i11=>
   exact Cw (Aj (Ow (Br (sq1 (atS rfl) (sq1 (atS rfl) sq0)) rfl rfl (H0c ok hB)) rfl) (Aj (Ik (K3 (sq1 (AG (b:=.f (.str (hx en))) rfl (Br (sq1 (AG (atS rfl) rfl (r:=.f (.int en)) (by show (Ay ((knW pl b).map Bg) B1).map V.f=_;rw [Nh,hen];rfl)) sq0) rfl rfl (RY hen2)) (Fw (x:=[101,110,116,114,121,32]) (y:=hx en) (A8 (OJ (Hp (H9 hen2 (by decide))) 6) (by decide)))) sq0) rfl) rfl) (Aj (BK (CM (atS rfl)) e1)
    (Aj (Ik (o:=.dict ((knW pl b).map Bg)) (bS (atS rfl) (iS (by rw [AD];lia) rfl)) ((KL (nc rfl (nc rfl (nc rfl (nc rfl (nc rfl (nc D6 (nc D6 (nc D6 (nc D6 (nc rfl (nc D6 (nc D6 rfl)))))))))))) rfl rfl rfl)))
    (Aj e3 (Aj (F7 rfl rfl (mc rfl (mc rfl (mc rfl (mc rfl (mc rfl (mc AS (mc AS (mc AS (mc AS (mc rfl (mc AS (mc AS rfl))))))))))))) (CV (C1 (atS rfl))))))))) rfl
end
noncomputable def mx(k:Nat)(p q:Nm):List Nm:=(if k=0 then [B1] else [])++[p++CS (10*k),q++CS (10*k+1)]++[F1 0,F1 1]
noncomputable def ks3:List Nat:=[0,1,2]
theorem YJ: ∀k∈ks3,∀p∈Ez,∀q∈Ez,(mx k p q).Nodup:=by decide+kernel
theorem I0i: ∀k∈ks3,∀p∈Ez,∀q∈Ez,∀k'∈ks3,∀p'∈Ez,∀q'∈Ez,k=k'∨∀x∈mx k p q,x∈mx k' p' q'→x∈[F1 0,F1 1]:=by decide+kernel
theorem YK: ∀k∈ks3,∀p∈Ez,∀q∈Ez,∀x∈mx k p q,x.length≤40∧x∉Dl∧x.head?≠some 111:=by decide+kernel
theorem Jx: ∀t∈(nText,B9)::tab,t.1.length≤40∧t.1≠AX∧t.1≠Ij∧t.1≠[]∧t.2∈[B9,Du,CT,AO]:=by decide+kernel
structure Fx(pl:List Ob):Prop where
 len:pl.length≤3
 sec: ∀(k:Nat) (o:Ob),pl[k]?=some o→∀s∈o.ss,(s.nm,s.kd)∈(nText,B9)::tab∧0<s.al∧s.al≤16∧s.sz≤20
 nds: ∀(k:Nat) (o:Ob),pl[k]?=some o→(o.ss.map (·.nm)).Nodup
 ti: ∀(k:Nat) (o:Ob),pl[k]?=some o→o.ti.length≤40
 ln: ∀(k:Nat) (o:Ob),pl[k]?=some o→o.ss.length≤4∧o.ns.length≤5
 ndn: ∀(k:Nat) (o:Ob),pl[k]?=some o→(o.ns.map (·.nm)).Nodup
 own: ∀(k:Nat) (o:Ob),pl[k]?=some o→∀s∈o.ss,∀n∈o.ns,EV s.nm≠n.nm
 cr: ∀(k k':Nat) (o o':Ob) (n n':Nam),k≠k'→pl[k]?=some o→pl[k']?=some o'→n∈o.ns→n'∈o'.ns→n.nm=n'.nm→n.pl=AX∧n'.pl=AX
 pp: ∀(k:Nat) (o:Ob),pl[k]?=some o→∀n∈o.ns,(n.pl=AX∧1≤n.va∧n.va≤8∧n.sz≤9)∨∃s∈o.ss,n.pl=s.nm∧n.va≤s.sz
 nm: ∀(k:Nat) (o:Ob),pl[k]?=some o→∀n∈o.ns,n.nm.length≤40∧n.nm∉Dl
 st: ∃(o:Ob) (n:Nam),pl[0]?=some o∧n∈o.ns∧n.nm=B1
theorem ZZ{l:List Nam}{f:Nat→Nam→Prop}(hl:l.length≤2)(h: ∀j n,l[j]?=some n→f j n){a b:Nm}(ha: ∀n,f 0 n→n.nm=a)(hb: ∀n,f 1 n→n.nm=b):(l.map (·.nm)).Sublist [a,b]:=by
 match l,hl,h with
 |[],_,_=>exact L0C _
 |[x],_,h=>rw [Em,ha x (h 0 x rfl)];exact N0U _ (L0C _)
 |[x,y],_,h=>rw [Em,Em,ha x (h 0 x rfl),hb y (h 1 y rfl)];exact L0r _
theorem Kw{k:Nat}{o:Ob}(h:GOb k o): ∃p∈Ez,∃q∈Ez,(o.ns.map (·.nm)).Sublist (mx k p q)∧∀n∈o.ns,n.nm∈[F1 0,F1 1]→n.pl=AX:=by
 obtain ⟨own,com,e,h1,h2,h3,h4⟩:=h.ns
 have hp: ∀j,∃p∈Ez,∀n,own[j]?=some n→n.nm=p++CS (10*k+j):= λj=>by
  cases q:own[j]? with
  |none=>exact ⟨[103],by decide,nofun⟩
  |some n=>
   obtain ⟨⟨p,hp,hn⟩,_⟩:=h3 j n q
   exact ⟨p,hp,λm hm=>by cases hm;exact hn⟩
 obtain ⟨p,hp0,hp1⟩:=hp 0
 obtain ⟨q,hq0,hq1⟩:=hp 1
 have s1:(own.map (·.nm)).Sublist [p++CS (10*k),q++CS (10*k+1)]:=ZZ (f:= λj n=>own[j]?=some n) h1 (λ_ _ h=>h) (λn hn=>hp1 n hn) λn hn=>hq1 n hn
 have s2:(com.map (·.nm)).Sublist [F1 0,F1 1]:=ZZ h2 h4 (λn hn=>hn.1) λn hn=>hn.1
 have s0:((st0 k).map (·.nm)).Sublist (if k=0 then [B1] else []):=by unfold st0;split<;>exact L0r _
 have s:(o.ns.map (·.nm)).Sublist (mx k p q):=by rw [e,B3,B3];exact (s0.append s1).append s2
 refine ⟨p,hp0,q,hq0,s,λn hn hb=>?_⟩
 rw [e] at hn
 rcases C7.mp hn with hn|hn
 ·exfalso
  have hk:k∈ks3:=by
   have:=(DN.mp h.ti).1
   unfold Lf at this;unfold ks3
   simp only [Dm,A0D] at this
   match k,this with
   |0,_=>decide
   |1,_=>decide
   |2,_=>decide
  have hnd:=YJ k hk p hp0 q hq0
  unfold mx at hnd
  refine (J7.mp hnd).2.2 n.nm ?_ n.nm hb rfl
  rcases C7.mp hn with hn|hn
  ·exact Ff _ (s0.subset (BE.mpr ⟨n,hn,rfl⟩))
  ·exact GO _ (s1.subset (BE.mpr ⟨n,hn,rfl⟩))
 ·obtain ⟨j,hj⟩:=H6 hn
  exact (h4 j n hj).2.1
theorem k3{pl:List Ob}(g:Good pl){k:Nat}{o:Ob}(h:pl[k]?=some o):k∈ks3:=by
 have:=(DN.mp h).1
 have h2:=g.len
 match k,(by omega:k<3) with
 |0,_=>decide
 |1,_=>decide
 |2,_=>decide
theorem F0P{pl:List Ob}(g:Good pl):Fx pl where
 len:=g.len
 sec k o h s hs:=by
  obtain ⟨h1,h2,h3⟩:=(g.ob k o h).ss s hs
  refine ⟨h1,?_,?_,h3⟩<;>(simp only [AW,Lp,or_false] at h2;omega)
 nds k o h:=(g.ob k o h).nd
 ti k o h:=(by decide: ∀t∈Lf,t.length≤40) _ (As (g.ob k o h).ti)
 ln k o h:=by
  obtain ⟨own,com,e,h1,h2,_⟩:=(g.ob k o h).ns
  refine ⟨(g.ob k o h).sl,?_⟩
  have:=Ts k
  rw [e,AU,AU];omega
 ndn k o h:=by
  obtain ⟨p,hp,q,hq,s,_⟩:=Kw (g.ob k o h)
  exact s.nodup (YJ k (k3 g h) p hp q hq)
 own k o h s _ n hn z:=by
  obtain ⟨p,hp,q,hq,su,_⟩:=Kw (g.ob k o h)
  have:=YK k (k3 g h) p hp q hq n.nm (su.subset (BE.mpr ⟨n,hn,rfl⟩))
  exact this.2.2 (by rw [←z];rfl)
 cr k k' o o' n n' hk h h' hn hn' e:=by
  obtain ⟨p,hp,q,hq,su,hc⟩:=Kw (g.ob k o h)
  obtain ⟨p',hp',q',hq',su',hc'⟩:=Kw (g.ob k' o' h')
  have hb:=(I0i k (k3 g h) p hp q hq k' (k3 g h') p' hp' q' hq').resolve_left hk n.nm (su.subset (BE.mpr ⟨n,hn,rfl⟩)) (by rw [e];exact su'.subset (BE.mpr ⟨n',hn',rfl⟩))
  exact ⟨hc n hn hb,hc' n' hn' (by rw [←e];exact hb)⟩
 pp k o h n hn:=by
  obtain ⟨own,com,e,_,_,h3,h4⟩:=(g.ob k o h).ns
  rw [e] at hn
  rcases C7.mp hn with hn|hn
  ·rcases C7.mp hn with hn|hn
   ·unfold st0 at hn
    split at hn
    ·rename_i hk
     rw [Bx] at hn
     subst hn
     obtain ⟨s,hs,hst⟩:=(g.ob k o h).tx hk
     exact .inr ⟨s,hs,hst.symm,C9 _⟩
    ·cases hn
   ·obtain ⟨j,hj⟩:=H6 hn
    obtain ⟨_,⟨s,hs,h5,h6⟩,_⟩:=h3 j n hj
    exact .inr ⟨s,hs,h5,h6⟩
  ·obtain ⟨j,hj⟩:=H6 hn
   obtain ⟨_,h5,h6,h7,h8⟩:=h4 j n hj
   refine .inl ⟨h5,?_,?_,h8⟩<;>(simp only [AW,Lp,or_false] at h6;omega)
 nm k o h n hn:=by
  obtain ⟨p,hp,q,hq,su,_⟩:=Kw (g.ob k o h)
  have:=YK k (k3 g h) p hp q hq n.nm (su.subset (BE.mpr ⟨n,hn,rfl⟩))
  exact ⟨this.1,this.2.1⟩
 st:=by
  obtain ⟨o,r,e⟩:=List.exists_cons_of_ne_nil g.ne
  have h0:pl[0]?=some o:=by rw [e];rfl
  obtain ⟨own,com,e2,_⟩:=(g.ob 0 o h0).ns
  exact ⟨o,⟨B1,nText,0,0⟩,h0,by rw [e2];exact Ff _ (Ff _ (.head _)),rfl⟩
theorem H0l{pl:List Ob}(f:Fx pl):LinkOK pl where
 len:=f.len
 nd k o h:=by
  refine J7.mpr ⟨?_,f.ndn k o h,λa ha b hb e=>?_⟩
  ·have h1:(o.ss.map λs=>EV s.nm)=(o.ss.map (·.nm)).map EV:=by rw [CP];rfl
   rw [h1]
   exact N0R EV (λa b (hab:a≠b) hq=>hab (List.append_cancel_left hq)) (f.nds k o h)
  ·obtain ⟨s,hs,rfl⟩:=BE.mp ha
   obtain ⟨n,hn,rfl⟩:=BE.mp hb
   exact f.own k o h s hs n hn e
 ln:=f.ln
 ne k o h n hn z:=by
  rcases f.pp k o h n hn with ⟨h1,_⟩|⟨s,hs,h1,_⟩
  ·rw [h1] at z;cases z
  ·exact (Jx _ (f.sec k o h s hs).1).2.2.2.1 (h1.symm.trans z)
 cr k k' o o' n n' hk:=f.cr k k' o o' n n' (by omega)
noncomputable abbrev Gz:=Nat×Nam
noncomputable def DG:List Ob→Nat→List Gz
 |[],_=>[]
 |o::r,k=>o.ns.map (k,·)++DG r (k+1)
noncomputable def IU(ds:List Df)(p:Gz):List Df:=Ds p.1 ds p.2
theorem WX: ∀(pl:List Ob) (k:Nat) (ds:List Df),BZ k pl ds=(DG pl k).foldl IU ds
 |[],_,_=>rfl
 |o::r,k,ds=>by
  show BZ (k+1) r _=(o.ns.map (k,·)++DG r (k+1)).foldl IU ds
  rw [WX r,H4,L0x];rfl
theorem Wf: ∀(pl:List Ob) (k:Nat),Kf pl=(DG pl k).map (·.2)
 |[],_=>rfl
 |o::r,k=>by
  show o.ns++Kf r=(o.ns.map (k,·)++DG r (k+1)).map (·.2)
  rw [B3,←Wf r,CP]
  congr 1
  exact (Fe _).symm
noncomputable def Rk(cm:Cm)(p:Gz):Cm:=FY cm p.2
theorem WQ(pl:List Ob):EN pl=(DG pl 0).foldl Rk []:=by unfold EN;rw [Wf pl 0,L0x];rfl
theorem H0Q{p:Gz}: ∀{pl:List Ob} {i:Nat},p∈DG pl i↔i≤p.1∧∃o,pl[p.1 - i]?=some o∧p.2∈o.ns
 |[],i=>by simp [DG]
 |o::r,i=>by
  show p∈o.ns.map (i,·)++DG r (i+1)↔_
  rw [C7,H0Q,BE]
  constructor
  ·rintro (⟨n,hn,rfl⟩|⟨h,o',h1,h2⟩)
   ·exact ⟨A9 _,o,by simp,hn⟩
   ·refine ⟨by omega,o',?_,h2⟩
    rw [show p.1 - i=(p.1 - (i+1))+1 by omega];exact h1
  ·rintro ⟨h,o',h1,h2⟩
   by_cases q:p.1=i
   ·rw [q,OO] at h1
    cases h1
    exact .inl ⟨p.2,h2,by rw [←q]⟩
   ·refine .inr ⟨by omega,o',?_,h2⟩
    rw [show p.1 - i=(p.1 - (i+1))+1 by omega] at h1;exact h1
def BC(p q:Gz):Prop:=p.2.nm=q.2.nm→p.2.pl=AX∧q.2.pl=AX
theorem YP{pl:List Ob}(f:Fx pl): ∀(r:List Ob) (i:Nat),(∀j o,r[j]?=some o→pl[i+j]?=some o)→(DG r i).Pairwise BC
 |[],_,_=>.nil
 |o::r,i,h=>by
  have h0:=h 0 o rfl
  have hr: ∀j o',r[j]?=some o'→pl[i+1+j]?=some o':= λj o' hj=>by rw [show i+1+j=i+(j+1) by omega];exact h (j+1) o' hj
  refine L0G.mpr ⟨?_,YP f r (i+1) hr,λp hp q hq e=>?_⟩
  ·refine OH.mpr ?_
   have:=OH.mp (f.ndn _ _ h0)
   exact this.imp λ{a b} hab e=>absurd e hab
  ·obtain ⟨n,hn,rfl⟩:=BE.mp hp
   obtain ⟨h1,o',h2,h3⟩:=H0Q.mp hq
   have h4:=hr _ o' h2
   rw [show i+1+(q.1 - (i+1))=q.1 by omega] at h4
   exact f.cr i q.1 o o' n q.2 (by omega) h0 h4 hn h3 e
theorem rk2{n:Nam}:rk n=2↔n.pl=AX:=by unfold rk;split<;>simp [*]
noncomputable def B0:List Df→Cm
 |[]=>[]
 |d::r=>if rk d.n=2 then (d.n.nm,d.al,d.sz)::B0 r else B0 r
theorem WI: ∀(a b:List Df),B0 (a++b)=B0 a++B0 b
 |[],_=>rfl
 |d::r,b=>by
  show (if rk d.n=2 then _::B0 (r++b) else B0 (r++b))=(if rk d.n=2 then _ else _:Cm)++_
  rw [WI r b];split<;>rfl
theorem R6{x:Nm}: ∀{ds:List Df},x∈(B0 ds).map (·.1)→x∈ds.map (·.n.nm)
 |d::r,h=>by
  have h:x∈(if rk d.n=2 then (d.n.nm,d.al,d.sz)::B0 r else B0 r:Cm).map (·.1):=h
  split at h
  ·rcases AW.mp h with rfl|h
   ·exact .head _
   ·exact .tail _ (R6 h)
  ·exact .tail _ (R6 h)
theorem WJ{x:Nm}{n:Nam}: ∀{ds:List Df} {i:Nat} {d:Df},CD ds x=some i→ds[i]?=some d→rk d.n=2→Ay (B0 ds) x=some (d.al,d.sz)∧B0 (ds.set i (F9 d n))=AE (B0 ds) x (max d.al n.va,max d.sz n.sz)
 |a::r,i,d,hp,hd,hr=>by
  have hp:(if a.n.nm=x then some 0 else (CD r x).map (· +1))=some i:=hp
  by_cases q:a.n.nm=x
  ·rw [if_pos q] at hp
   cases hp
   cases hd
   have e1:B0 (a::r)=(x,a.al,a.sz)::B0 r:=by rw [←q];exact if_pos hr
   have e2:B0 (F9 a n::r)=(x,max a.al n.va,max a.sz n.sz)::B0 r:=by rw [←q];exact if_pos hr
   rw [e1]
   refine ⟨if_pos rfl,?_⟩
   show B0 (F9 a n::r)=_
   rw [e2];exact (if_pos rfl).symm
  ·rw [if_neg q] at hp
   obtain ⟨j,h1,rfl⟩:=Ub.mp hp
   obtain ⟨h2,h3⟩:=WJ (n:=n) h1 (by simpa using hd) hr
   show Ay (if rk a.n=2 then (a.n.nm,a.al,a.sz)::B0 r else B0 r:Cm) x=_∧(if rk a.n=2 then (a.n.nm,a.al,a.sz)::B0 (r.set j (F9 d n)) else B0 (r.set j (F9 d n)):Cm)=AE (if rk a.n=2 then (a.n.nm,a.al,a.sz)::B0 r else B0 r:Cm) x _
   rw [h3]
   split
   ·exact ⟨(if_neg q).trans h2,(if_neg q).symm⟩
   ·exact ⟨h2,rfl⟩
structure DI(P:List Gz)(ds:List Df):Prop where
 nd:(ds.map (·.n.nm)).Nodup
 mem: ∀x,x∈ds.map (·.n.nm)↔x∈P.map (·.2.nm)
 src: ∀d∈ds,(d.num,d.n)∈P
 bd: ∀d∈ds,rk d.n=2→1≤d.al∧d.al≤8∧d.sz≤9
 cm:B0 ds=P.foldl Rk []
 ln:ds.length≤P.length
theorem Tc{x:Nm}{ds:List Df}(h:x∈ds.map (·.n.nm)): ∃i,CD ds x=some i:=Zn h
theorem DI.step{P:List Gz}{ds:List Df}{p:Gz}(h:DI P ds)(hb: ∀q∈P,BC q p)(hn:p.2.pl=AX→1≤p.2.va∧p.2.va≤8∧p.2.sz≤9):DI (P++[p]) (IU ds p):=by
 have hc:(P++[p]).foldl Rk []=FY (B0 ds) p.2:=by rw [H4,←h.cm];rfl
 unfold IU Ds
 cases q:CD ds p.2.nm with
 |none=>
  dsimp only
  have hx:p.2.nm∉ds.map (·.n.nm):= λz=>by obtain ⟨i,e⟩:=Tc z;rw [q] at e;cases e
  refine ⟨?_,λx=>?_,λd hd=>?_,λd hd hr=>?_,?_,?_⟩
  ·rw [B3]
   refine J7.mpr ⟨h.nd,by simp,λa ha b hb e=>?_⟩
   rw [L0A,Bx] at hb
   subst hb;subst e;exact hx ha
  ·rw [B3,B3,C7,C7,h.mem x];rfl
  ·rcases C7.mp hd with hd|hd
   ·exact Ff _ (h.src d hd)
   ·rw [Bx] at hd;subst hd;exact GO _ (.head _)
  ·rcases C7.mp hd with hd|hd
   ·exact h.bd d hd hr
   ·rw [Bx] at hd;subst hd
    have hr:p.2.pl=AX:=rk2.mp hr
    show 1≤(if p.2.pl=AX then p.2.va else 1)∧(if p.2.pl=AX then p.2.va else 1)≤8∧p.2.sz≤9
    rw [if_pos hr];exact hn hr
  ·rw [hc,WI]
   unfold FY
   by_cases z:p.2.pl=AX
   ·have hg:p.2.nm∉(B0 ds).map (·.1):= λy=>hx (R6 y)
    rw [if_pos z,RP hg,Nk hg]
    congr 1
    show (if rk p.2=2 then [(p.2.nm,(if p.2.pl=AX then p.2.va else 1),p.2.sz)] else [])=[(p.2.nm,max 0 p.2.va,max 0 p.2.sz)]
    rw [if_pos (rk2.mpr z),if_pos z,L0X,L0X]
   ·rw [if_neg z]
    show B0 ds++(if rk p.2=2 then _ else [])=_
    rw [if_neg (λy=>z (rk2.mp y)),CX]
  ·rw [AU,AU];have:=h.ln;simp only [L07];omega
 |some i=>
  obtain ⟨d,h1,h2⟩:=KX q
  dsimp only
  rw [h1]
  dsimp only
  have hdm:=As h1
  obtain ⟨c1,c2⟩:=hb _ (h.src d hdm) h2
  have hr:rk d.n=2:=rk2.mpr c1
  have hnm:(ds.set i (F9 d p.2)).map (·.n.nm)=ds.map (·.n.nm):=by
   rw [TO]
   refine TG λj=>?_
   rw [List.getElem?_set]
   split
   ·rename_i e;subst e
    split
    ·rw [CH,h1];rfl
    ·rename_i y;rw [GN (by omega)]
   ·rfl
  obtain ⟨e1,e2⟩:=WJ (n:=p.2) q h1 hr
  have hb1:=h.bd d hdm hr
  have hb2:=hn c2
  refine ⟨by rw [hnm];exact h.nd,λx=>?_,λe he=>?_,λe he hr=>?_,?_,?_⟩
  ·rw [hnm,h.mem x,B3,C7,L0A,Bx]
   refine ⟨.inl,λy=>y.elim id λy=>?_⟩
   rw [y,←h.mem,←h2];exact BE.mpr ⟨d,hdm,rfl⟩
  ·rcases TQ he with he|he
   ·exact Ff _ (h.src e he)
   ·subst he;exact Ff _ (h.src d hdm)
  ·rcases TQ he with he|he
   ·exact h.bd e he hr
   ·subst he
    show 1≤max d.al p.2.va∧max d.al p.2.va≤8∧max d.sz p.2.sz≤9
    omega
  ·rw [hc,e2]
   unfold FY
   rw [if_pos c2,e1];rfl
  ·rw [H7,AU];have:=h.ln;omega
theorem DI.fold: ∀(R P:List Gz) (ds:List Df),DI P ds→(P++R).Pairwise BC→(∀p∈R,p.2.pl=AX→1≤p.2.va∧p.2.va≤8∧p.2.sz≤9)→DI (P++R) (R.foldl IU ds)
 |[],P,ds,h,_,_=>by rw [CX];exact h
 |p::R,P,ds,h,hp,hn=>by
  have e:P++p::R=(P++[p])++R:=by rw [CO];rfl
  have hq:=(L0G.mp hp).2.2
  rw [e] at hp⊢
  exact DI.fold R (P++[p]) (IU ds p) (h.step (λq hq'=>hq q hq' p (.head _)) (hn p (.head _))) hp λq hq=>hn q (.tail _ hq)
theorem E0Y{pl:List Ob}(f:Fx pl):DI (DG pl 0) (BZ 0 pl []):=by
 rw [WX]
 have h0:DI [] []:=⟨.nil,λx=>Iff.rfl,nofun,nofun,rfl,A9 _⟩
 have:=DI.fold (DG pl 0) [] [] h0 (YP f pl 0 λj o h=>by rw [Cc];exact h) λp hp hc=>by
  obtain ⟨_,o,h1,h2⟩:=H0Q.mp hp
  rcases f.pp _ o h1 p.2 h2 with ⟨_,h3⟩|⟨s,hs,h3,_⟩
  ·exact h3
  ·exact absurd (h3.symm.trans hc) (Jx _ (f.sec _ o h1 s hs).1).2.1
 exact this
noncomputable def adF(kn:Kn)(ds:List Df):Kn:=ds.foldl (λkn d=>if rk d.n=2 then AE kn d.n.nm d.ad else kn) kn
theorem WO: ∀(ds:List Df) (a:Nat) (pcs:List Pc) (kn:Kn),(∀d∈ds,rk d.n=2→1≤d.al)→(B0 ds).foldl lwC ⟨a,pcs,kn⟩=⟨(Be a pcs ds).1,(Be a pcs ds).2.1,adF kn (Be a pcs ds).2.2⟩
 |[],_,_,_,_=>rfl
 |d::r,a,pcs,kn,h=>by
  have ih:= λa pcs kn=>WO r a pcs kn λd hd=>h d (.tail _ hd)
  by_cases hr:rk d.n=2
  ·have h1:B0 (d::r)=(d.n.nm,d.al,d.sz)::B0 r:=if_pos hr
   have hm:max 1 d.al=d.al:=Nat.max_eq_right (h d (.head _) hr)
   have h2:Be a pcs (d::r)=_:=if_pos hr
   rw [h1,h2,hm,H5]
   refine (ih _ _ _).trans ?_
   show LW.mk _ _ _=LW.mk _ _ (adF (if rk d.n=2 then AE kn d.n.nm (up a d.al) else kn) _)
   rw [if_pos hr]
  ·have h1:B0 (d::r)=B0 r:=if_neg hr
   have h2:Be a pcs (d::r)=_:=if_neg hr
   rw [h1,h2]
   refine (ih _ _ _).trans ?_
   show LW.mk _ _ _=LW.mk _ _ (adF (if rk d.n=2 then AE kn d.n.nm d.ad else kn) _)
   rw [if_neg hr]
theorem RA: ∀(ds:List Df) (a:Nat) (pcs:List Pc),(Be a pcs ds).2.2.map (λd=>(d.num,d.n))=ds.map λd=>(d.num,d.n)
 |[],_,_=>rfl
 |d::r,a,pcs=>by
  by_cases hr:rk d.n=2
  ·rw [show Be a pcs (d::r)=_ from if_pos hr];exact congrArg (_:: ·) (RA r _ _)
  ·rw [show Be a pcs (d::r)=_ from if_neg hr];exact congrArg (_:: ·) (RA r _ _)
theorem WN: ∀(ds:List Df) (a:Nat) (pcs:List Pc),(∀d∈ds,rk d.n=2→1≤d.al∧d.al≤8∧d.sz≤9)→a≤(Be a pcs ds).1∧(Be a pcs ds).1≤a+40*ds.length∧(Be a pcs ds).2.1.length≤pcs.length+ds.length
 |[],a,pcs,_=>⟨A9 _,E4 _ _,E4 _ _⟩
 |d::r,a,pcs,h=>by
  have ih:= λa pcs=>WN r a pcs λd hd=>h d (.tail _ hd)
  by_cases hr:rk d.n=2
  ·obtain ⟨b1,b2,b3⟩:=h d (.head _) hr
   rw [show Be a pcs (d::r)=_ from if_pos hr]
   obtain ⟨i1,i2,i3⟩:=ih (up a (max 1 d.al)+d.sz) (pcs++[⟨AX,d.n.nm,up a (max 1 d.al),d.sz⟩])
   have u1:=Gk (a:=a) (al:=max 1 d.al) (by omega)
   have u2:up a (max 1 d.al)≤a+max 1 d.al:=by unfold up;exact A8 (L0P _ _) (by omega)
   rw [AU,L07] at i3
   simp only [Dm]
   exact ⟨by omega,by omega,by omega⟩
  ·rw [show Be a pcs (d::r)=_ from if_neg hr]
   obtain ⟨i1,i2,i3⟩:=ih a pcs
   simp only [Dm]
   exact ⟨i1,by omega,by omega⟩
theorem Rj{x:Nm}: ∀{ds:List Df} {kn:Kn},(∀d∈ds,rk d.n=2→d.n.nm≠x)→Ay (adF kn ds) x=Ay kn x
 |[],_,_=>rfl
 |d::r,kn,h=>by
  show Ay (adF (if rk d.n=2 then AE kn d.n.nm d.ad else kn) r) x=_
  rw [Rj λe he=>h e (.tail _ he)]
  split
  ·rename_i q;rw [Ef,if_neg (h d (.head _) q)]
  ·rfl
theorem VS{d:Df}: ∀{ds:List Df} {kn:Kn},(ds.map (·.n.nm)).Nodup→d∈ds→rk d.n=2→Ay (adF kn ds) d.n.nm=some d.ad
 |e::r,kn,hn,hd,hr=>by
  have hn':=CQ.mp hn
  show Ay (adF (if rk e.n=2 then AE kn e.n.nm e.ad else kn) r) d.n.nm=_
  rcases AW.mp hd with rfl|hd
  ·rw [Rj λz hz _ q=>hn'.1 (by show d.n.nm∈_;rw [←q];exact BE.mpr ⟨z,hz,rfl⟩),if_pos hr,Ef,if_pos rfl]
  ·exact VS hn'.2 hd hr
noncomputable def lwR(pl:List Ob)(y:LW)(p:Row):LW:=match pl[p.1]? with
 |some o=>lw1 o y p.2
 |none=>y
theorem Yq{pl:List Ob}{t:Nm}{o:Ob}{k:Nat}(h:pl[k]?=some o): ∀(ss:List Sec) (y:LW),ss.foldl (lwS t o) y=(ofN (ss.map (k,·)) t).foldl (lwR pl) y
 |[],_=>rfl
 |s::r,y=>by
  rw [H5,Yq h r]
  unfold ofN
  rw [Em]
  by_cases q:s.nm=t
  ·rw [Ln (by exact decide_eq_true q),H5]
   congr 1
   unfold lwS lwR
   rw [if_pos q,h]
  ·rw [Lm (by show¬decide (s.nm=t)=true;rw [decide_eq_false q];decide)]
   unfold lwS
   rw [if_neg q]
theorem Yt{pl:List Ob}{t:Nm}: ∀(r:List Ob) (k:Nat) (y:LW),(∀j o,r[j]?=some o→pl[k+j]?=some o)→r.foldl (lwO t) y=(ofN (AZ r k) t).foldl (lwR pl) y
 |[],_,_,_=>rfl
 |o::r,k,y,h=>by
  rw [H5,Yt r (k+1) _ λj o' hj=>by rw [show k+1+j=k+(j+1) by omega];exact h (j+1) o' hj]
  show _=(ofN (o.ss.map (k,·)++AZ r (k+1)) t).foldl (lwR pl) y
  unfold ofN
  rw [TH,H4]
  congr 1
  exact Yq (h 0 o rfl) o.ss y
noncomputable def fl(kind:Nm)(pl:List Ob):List Row:=(Ck kind pl).flatMap (·.2)
theorem G0Z{pl:List Ob}{kind:Nm}{y:LW}(h:KN (AZ pl 0)):DU pl kind y=(fl kind pl).foldl (lwR pl) (ER y):=by
 unfold fl
 rw [F07 kind pl h]
 unfold DU
 rw [List.foldl_flatMap]
 congr 1
 funext y t
 exact Yt pl 0 y λj o h=>by rw [Cc];exact h
theorem Yy{p:Row}: ∀{pl:List Ob} {i:Nat},p∈AZ pl i→i≤p.1∧∃o,pl[p.1 - i]?=some o∧p.2∈o.ss
 |o::r,i,h=>by
  have h:p∈o.ss.map (i,·)++AZ r (i+1):=h
  rcases C7.mp h with h|h
  ·obtain ⟨s,hs,rfl⟩:=BE.mp h
   exact ⟨A9 _,o,by simp,hs⟩
  ·obtain ⟨h1,o',h2,h3⟩:=Yy h
   exact ⟨by omega,o',by rw [show p.1 - i=(p.1 - (i+1))+1 by omega];exact h2,h3⟩
theorem Hy{p:Row}{pl:List Ob}(h:p∈AZ pl 0): ∃o,pl[p.1]?=some o∧p.2∈o.ss:=(Yy h).2
theorem RZ(kind:Nm)(pl:List Ob):(fl kind pl).Perm (Ek kind (AZ pl 0)):=by
 have h: ∀(gs:List Grp) (p:Row),((E7 gs p).flatMap (·.2)).Perm (gs.flatMap (·.2)++[p]):= λgs p=>by
  unfold E7
  split
  ·rw [OD];exact .refl _
  ·rename_i i hi
   split
   ·rename_i g hg
    have: ∀(gs:List Grp) (i:Nat) (g:Grp),gs[i]?=some g→((gs.set i (g.1,g.2++[p])).flatMap (·.2)).Perm (gs.flatMap (·.2)++[p]):=by
     intro gs
     induction gs with
     |nil=>intro i g h;simp at h
     |cons a r ih=>
      intro i g h
      cases i with
      |zero=>
       cases h
       show (a.2++[p]++r.flatMap (·.2)).Perm (a.2++r.flatMap (·.2)++[p])
       rw [CO,CO]
       exact L0p _ List.perm_append_comm
      |succ i=>
       show (a.2++(r.set i _).flatMap (·.2)).Perm (a.2++r.flatMap (·.2)++[p])
       rw [CO]
       exact L0p _ (ih i g (by simpa using h))
    exact this gs i g hg
   ·rename_i hn
    obtain ⟨g,hg,_⟩:=Td hi
    rw [hg] at hn;cases hn
 have h2: ∀(R:List Row) (gs:List Grp),((R.foldl (DK kind) gs).flatMap (·.2)).Perm (gs.flatMap (·.2)++Ek kind R):=by
  intro R
  induction R with
  |nil=>intro gs;unfold Ek;rw [List.filter_nil,CX];exact .refl _
  |cons p r ih=>
   intro gs
   refine (ih _).trans ?_
   unfold DK Ek
   split
   ·rename_i q
    rw [Ln (by exact decide_eq_true q)]
    refine ((h gs p).append_right _).trans ?_
    rw [CO];exact .refl _
   ·rename_i q
    rw [Lm (by rw [decide_eq_false q];decide)]
 exact h2 _ []
theorem Ky{α β:Type}{f:α→β}: ∀{l:List α} {a b:α},(l.map f).Nodup→a∈l→b∈l→f a=f b→a=b
 |x::r,a,b,hn,ha,hb,e=>by
  have hn':=CQ.mp hn
  rcases AW.mp ha with h1|h1
  ·rcases AW.mp hb with h2|h2
   ·rw [h1,h2]
   ·rw [h1] at e;exact absurd (show f x∈r.map f from BE.mpr ⟨b,h2,e.symm⟩) hn'.1
  ·rcases AW.mp hb with h2|h2
   ·rw [h2] at e;exact absurd (show f x∈r.map f from BE.mpr ⟨a,h1,e⟩) hn'.1
   ·exact Ky hn'.2 h1 h2 e
noncomputable def iv:FV→Nat
 |.int i=>i.toNat
 |_=>0
structure RI(pl:List Ob)(b c:Nat)(done:List Row)(y:Lay)(w:LW):Prop where
 at_:w.at_=y.at_
 pc:w.pcs=y.pcs
 pn:y.pcs.length=done.length
 ge:b≤y.at_
 ub:y.at_≤b+40*done.length+4*c
 sl:y.sts.length≤done.length
 kl:w.kn.length≤5*done.length
 pk: ∀p∈y.pcs,p.at_≤y.at_∧p.sz≤20∧p.nm.length≤40∧p.ti.length≤40
 ka: ∀(k:Nat) (o:Ob) (n:Nam),pl[k]?=some o→n∈o.ns→n.pl≠AX→Ay w.kn n.nm=(Ay y.sts ((k:Int),n.pl)).map λv=>iv v+n.va
 kb: ∀x∈w.kn.map (·.1),∃(k:Nat) (o:Ob) (n:Nam),pl[k]?=some o∧n∈o.ns∧n.pl≠AX∧n.nm=x
 kd:(w.kn.map (·.1)).Nodup
 kv: ∀e∈w.kn,e.2≤y.at_+20
 ls: ∀p∈done,∃a:Nat,Ay y.sts ((p.1:Int),p.2.nm)=some (.int a)∧b≤a∧a+p.2.sz≤y.at_
theorem Ni{κ α:Type}[DecidableEq κ]{x:κ}{v:α}: ∀{es:List (κ×α)},∀y∈(AE es x v).map (·.1),y∈es.map (·.1)∨y=x
 |[],y,h=>.inr (by simpa [AE] using h)
 |(a,w)::r,y,h=>by
  have h:y∈(if a=x then (a,v)::r else (a,w)::AE r x v).map (·.1):=h
  split at h
  ·exact .inl h
  ·rcases AW.mp h with rfl|h
   ·exact .inl (.head _)
   ·exact (Ni y h).imp (.tail _) id
theorem HX{κ α:Type}[DecidableEq κ]{x:κ}{v:α}: ∀{es:List (κ×α)},(es.map (·.1)).Nodup→((AE es x v).map (·.1)).Nodup
 |[],_=>by simp [AE]
 |(a,w)::r,h=>by
  have h':=CQ.mp h
  show (J3 (·.1) (if a=x then (a,v)::r else (a,w)::AE r x v)).Nodup
  split
  ·exact h
  ·rename_i q
   refine CQ.mpr ⟨λz=>?_,HX h'.2⟩
   rcases Ni _ z with z|z
   ·exact h'.1 z
   ·exact q z
theorem Nj{κ α:Type}[DecidableEq κ]{x:κ}{v:α}: ∀{es:List (κ×α)},∀e∈AE es x v,e∈es∨e.2=v
 |[],e,h=>.inr (by rw [Bx.mp h])
 |(a,w)::r,e,h=>by
  have h:e∈(if a=x then (a,v)::r else (a,w)::AE r x v):=h
  split at h
  ·rcases AW.mp h with rfl|h
   ·exact .inr rfl
   ·exact .inl (.tail _ h)
  ·rcases AW.mp h with rfl|h
   ·exact .inl (.head _)
   ·exact (Nj e h).imp (.tail _) id
section
variable{nm:Nm}{a:Nat}
theorem Sy{x:Nm}: ∀{ns:List Nam} {kn:Kn},(∀n∈ns,n.pl=nm→n.nm≠x)→Ay (ns.foldl (kn1 nm a) kn) x=Ay kn x
 |[],_,_=>rfl
 |n::r,kn,h=>by
  rw [H5,Sy λm hm=>h m (.tail _ hm)]
  unfold kn1
  split
  ·rename_i q;rw [Ef,if_neg (h n (.head _) q)]
  ·rfl
theorem Yc{n:Nam}: ∀{ns:List Nam} {kn:Kn},(ns.map (·.nm)).Nodup→n∈ns→n.pl=nm→Ay (ns.foldl (kn1 nm a) kn) n.nm=some (a+n.va)
 |m::r,kn,hn,hm,hp=>by
  have hn':=CQ.mp hn
  rw [H5]
  rcases AW.mp hm with rfl|hm
  ·rw [Sy λz hz _ q=>hn'.1 (by show n.nm∈_;rw [←q];exact BE.mpr ⟨z,hz,rfl⟩)]
   unfold kn1
   rw [if_pos hp,Ef,if_pos rfl]
  ·exact Yc hn'.2 hm hp
theorem Yd: ∀{ns:List Nam} {kn:Kn},∀x∈(ns.foldl (kn1 nm a) kn).map (·.1),x∈kn.map (·.1)∨∃n∈ns,n.pl=nm∧n.nm=x
 |[],_,x,h=>.inl h
 |n::r,kn,x,h=>by
  rcases Yd (ns:=r) x h with h|⟨m,h1,h2⟩
  ·unfold kn1 at h
   split at h
   ·rename_i q
    rcases Ni x h with h|h
    ·exact .inl h
    ·exact .inr ⟨n,.head _,q,h.symm⟩
   ·exact .inl h
  ·exact .inr ⟨m,.tail _ h1,h2⟩
theorem Yf: ∀{ns:List Nam} {kn:Kn},(kn.map (·.1)).Nodup→((ns.foldl (kn1 nm a) kn).map (·.1)).Nodup
 |[],_,h=>h
 |n::r,kn,h=>by
  refine Yf (ns:=r) ?_
  unfold kn1;split
  ·exact HX h
  ·exact h
theorem Yg{c:Nat}: ∀{ns:List Nam} {kn:Kn},(∀n∈ns,n.pl=nm→a+n.va≤c)→(∀e∈kn,e.2≤c)→∀e∈ns.foldl (kn1 nm a) kn,e.2≤c
 |[],_,_,h=>h
 |n::r,kn,hn,h=>by
  refine Yg (ns:=r) (λm hm=>hn m (.tail _ hm)) ?_
  unfold kn1;split
  ·rename_i q
   intro e he
   rcases Nj e he with he|he
   ·exact h e he
   ·rw [he];exact hn n (.head _) q
  ·exact h
theorem Ye: ∀{ns:List Nam} {kn:Kn},(ns.foldl (kn1 nm a) kn).length≤kn.length+ns.length
 |[],_=>A9 _
 |n::r,kn=>by
  have h:=Ye (ns:=r) (kn:=kn1 nm a kn n)
  have h2:(kn1 nm a kn n).length≤kn.length+1:=by
   unfold kn1;split
   ·exact HW
   ·exact CZ _
  rw [H5,Dm];omega
end
theorem Ox(a al:Nat):up a al≤a+al:=by unfold up;exact A8 (L0P _ _) (by omega)
theorem RI.step{pl:List Ob}{b c:Nat}{done:List Row}{y:Lay}{w:LW}{p:Row}(f:Fx pl)(h:RI pl b c done y w)(hd: ∀q∈done,q∈AZ pl 0)(hp:p∈AZ pl 0):RI pl b c (done++[p]) (CC pl y p) (lwR pl w p):=by
 obtain ⟨k0,s⟩:=p
 obtain ⟨o,ho,hs⟩:=Hy hp
 have ho:pl[k0]?=some o:=ho
 have hs:s∈o.ss:=hs
 obtain ⟨t1,t2,t3,t4⟩:=f.sec k0 o ho s hs
 obtain ⟨n1,n2,n3,n4,n5⟩:=Jx _ t1
 have n1:s.nm.length≤40:=n1
 have hw:lwR pl w (k0,s)=lw1 o w s:=by unfold lwR;rw [show pl[((k0,s):Row).1]?=some o from ho]
 have hti:Iz pl k0=o.ti:=by unfold Iz;rw [ho];rfl
 let a:=up y.at_ s.al
 have hge:=Gk (a:=y.at_) t2
 have hle:=Ox y.at_ s.al
 have hln:(done++[(k0,s)]).length=done.length+1:=by rw [AU];rfl
 have e1:(CC pl y (k0,s)).at_=a+s.sz:=rfl
 have e2:(CC pl y (k0,s)).sts=AE y.sts ((k0:Int),s.nm) (.int a):=rfl
 have e3:(CC pl y (k0,s)).pcs=y.pcs++[⟨s.nm,Iz pl k0,a,s.sz⟩]:=rfl
 have e4:(lw1 o w s).kn=o.ns.foldl (kn1 s.nm a) w.kn:=by show o.ns.foldl (kn1 s.nm (up w.at_ s.al)) w.kn=_;rw [h.at_]
 have hg:=h.ge
 have hu:=h.ub
 rw [hw]
 refine ⟨?_,?_,?_,?_,?_,?_,?_,?_,?_,?_,?_,?_,?_⟩
 ·show up w.at_ s.al+s.sz=_;rw [h.at_];rfl
 ·show w.pcs++[⟨s.nm,o.ti,up w.at_ s.al,s.sz⟩]=y.pcs++[⟨s.nm,Iz pl k0,a,s.sz⟩]
  rw [h.pc,h.at_,hti]
 ·rw [e3,AU,hln,h.pn];rfl
 ·rw [e1];show b≤up y.at_ s.al+s.sz;omega
 ·rw [e1,hln];show up y.at_ s.al+s.sz≤_;omega
 ·rw [e2,hln];have:=HW (k:=((k0:Int),s.nm)) (v:=FV.int a) (es:=y.sts);have:=h.sl;omega
 ·rw [e4,hln]
  have h1:=Ye (nm:=s.nm) (a:=a) (ns:=o.ns) (kn:=w.kn)
  have h2:=h.kl;have h3:=(f.ln k0 o ho).2
  omega
 ·rw [e1,e3]
  intro q hq
  show q.at_≤up y.at_ s.al+s.sz∧_
  rcases C7.mp hq with hq|hq
  ·obtain ⟨b1,b2⟩:=h.pk q hq
   exact ⟨by omega,b2⟩
  ·rw [Bx] at hq;subst hq
   exact ⟨E4 _ _,t4,n1,by show (Iz pl k0).length≤40;rw [hti];exact f.ti k0 o ho⟩
 ·intro k o' n hk hn hc
  rw [e4,e2,Ef]
  by_cases q:((k0:Int),s.nm)=((k:Int),n.pl)
  ·rw [if_pos q]
   have q1:k0=k:=by have:=congrArg Fi q;dsimp only at this;omega
   have q2:n.pl=s.nm:=(congrArg HA q).symm
   subst q1
   rw [ho] at hk;cases hk
   rw [Yc (f.ndn k0 o ho) hn q2];rfl
  ·rw [if_neg q,Sy λm hm hmp e=>?_]
   ·exact h.ka k o' n hk hn hc
   ·have hmc:m.pl≠AX:=by rw [hmp];exact n2
    by_cases hkk:k0=k
    ·subst hkk
     rw [ho] at hk;cases hk
     have:m=n:=Ky (f:= λn:Nam=>n.nm) (f.ndn k0 o ho) hm hn e
     exact q (by rw [←this,hmp])
    ·exact hmc (f.cr k0 k o o' m n hkk ho hk hm hn e).1
 ·intro x hx
  rw [e4] at hx
  rcases Yd x hx with hx|⟨n,h1,h2,h3⟩
  ·exact h.kb x hx
  ·exact ⟨k0,o,n,ho,h1,by rw [h2];exact n2,h3⟩
 ·rw [e4];exact Yf h.kd
 ·rw [e4,e1]
  refine Yg (λn hn hp=>?_) λe he=>?_
  ·show up y.at_ s.al+n.va≤up y.at_ s.al+s.sz+20
   rcases f.pp k0 o ho n hn with ⟨_,_,h3,_⟩|⟨s',hs',_,h3⟩
   ·omega
   ·have:=(f.sec k0 o ho s' hs').2.2.2;omega
  ·have:=h.kv e he
   show e.2≤up y.at_ s.al+s.sz+20
   omega
 ·intro q hq
  rw [e2,e1,Ef]
  show∃a':Nat,_∧b≤a'∧a'+q.2.sz≤up y.at_ s.al+s.sz
  by_cases z:((k0:Int),s.nm)=((q.1:Int),q.2.nm)
  ·rw [if_pos z]
   have hqr:q∈AZ pl 0:=by
    rcases C7.mp hq with hq|hq
    ·exact hd q hq
    ·rw [Bx] at hq;subst hq;exact hp
   obtain ⟨o',ho',hqs⟩:=Hy hqr
   have q1:q.1=k0:=by have:=congrArg Fi z;dsimp only at this;omega
   have q2:q.2.nm=s.nm:=(congrArg HA z).symm
   rw [q1,ho] at ho';cases ho'
   have hsz:q.2.sz=s.sz:=by
    have:q.2=s:=Ky (f:= λs:Sec=>s.nm) (f.nds k0 o ho) hqs hs q2
    rw [this]
   exact ⟨a,rfl,by show b≤up y.at_ s.al;omega,by rw [hsz];exact A9 _⟩
  ·rw [if_neg z]
   rcases C7.mp hq with hq|hq
   ·obtain ⟨a',h1,h2,h3⟩:=h.ls q hq
    exact ⟨a',h1,h2,by omega⟩
   ·rw [Bx] at hq;subst hq;exact absurd rfl z
section
variable{pl:List Ob}{b c:Nat}{done:List Row}{y:Lay}{w:LW}
theorem RI.fold(f:Fx pl): ∀(R:List Row) (done:List Row) (y:Lay) (w:LW),RI pl b c done y w→(∀q∈done,q∈AZ pl 0)→(∀q∈R,q∈AZ pl 0)→RI pl b c (done++R) (R.foldl (CC pl) y) (R.foldl (lwR pl) w)
 |[],done,_,_,h,_,_=>by rw [CX];exact h
 |p::R,done,y,w,h,hd,hR=>by
  rw [show done++p::R=(done++[p])++R by rw [CO];rfl]
  refine RI.fold f R _ _ _ (h.step f hd (hR p (.head _))) (λq hq=>?_) λq hq=>hR q (.tail _ hq)
  rcases C7.mp hq with hq|hq
  ·exact hd q hq
  ·rw [Bx] at hq;subst hq;exact hR _ (.head _)
theorem RI.ini(h:RI pl b c done y w):RI pl b (c+1) done (ini y) (ER w):=by
 have h1:=Gk (a:=y.at_) (al:=4) (by decide)
 have h2:=Ox y.at_ 4
 have e1:(Mine.ini y).at_=up y.at_ 4:=rfl
 have h3:=h.ge;have h4:=h.ub
 refine ⟨?_,h.pc,h.pn,by rw [e1];omega,by rw [e1];omega,h.sl,h.kl,λp hp=>?_,h.ka,h.kb,h.kd,λe he=>?_,λp hp=>?_⟩
 ·show up w.at_ 4=up y.at_ 4;rw [h.at_]
 ·obtain ⟨b1,b2⟩:=h.pk p hp
  exact ⟨by rw [e1];omega,b2⟩
 ·have:=h.kv e he;rw [e1];omega
 ·obtain ⟨a,b1,b2,b3⟩:=h.ls p hp
  exact ⟨a,b1,b2,by rw [e1];omega⟩
theorem Nu{kind:Nm}{q:Row}(h:q∈fl kind pl):q∈AZ pl 0∧q.2.kd=kind:=by
 have:=J6.mp ((RZ kind pl).mem_iff.mp h)
 exact ⟨this.1,of_decide_eq_true this.2⟩
theorem NZ{kind:Nm}{q:Row}(h:q∈AZ pl 0)(hk:q.2.kd=kind):q∈fl kind pl:=(RZ kind pl).mem_iff.mpr (J6.mpr ⟨h,decide_eq_true hk⟩)
theorem H0a(f:Fx pl):KN (AZ pl 0):= λp hp q hq e=>by
 obtain ⟨o,h1,h2⟩:=Hy hp
 obtain ⟨o',h3,h4⟩:=Hy hq
 exact K0k _ (f.sec _ o h1 _ h2).1 _ (f.sec _ o' h3 _ h4).1 e
theorem RI.kind{kind:Nm}(f:Fx pl)(h:RI pl b c done y w)(hd: ∀q∈done,q∈AZ pl 0):RI pl b (c+1) (done++fl kind pl) (CU pl kind (Mine.ini y)) (DU pl kind w):=by
 rw [G0Z (H0a f)]
 exact RI.fold f (fl kind pl) done _ _ h.ini hd λq hq=>(Nu hq).1
theorem Z5: ∀(r:List Ob) (i:Nat),(∀o∈r,o.ss.length≤4)→(AZ r i).length≤4*r.length
 |[],_,_=>A9 _
 |o::r,i,h=>by
  show (o.ss.map (i,·)++AZ r (i+1)).length≤_
  have:=Z5 r (i+1) λo ho=>h o (.tail _ ho)
  have:=h o (.head _)
  rw [AU,AD,Dm];omega
theorem YW: ∀(r:List Ob) (i:Nat),(∀o∈r,o.ns.length≤5)→(DG r i).length≤5*r.length
 |[],_,_=>A9 _
 |o::r,i,h=>by
  show (o.ns.map (i,·)++DG r (i+1)).length≤_
  have:=YW r (i+1) λo ho=>h o (.tail _ ho)
  have:=h o (.head _)
  rw [AU,AD,Dm];omega
theorem Tf(f:Fx pl):(AZ pl 0).length≤12:=by
 have:=Z5 pl 0 λo ho=>by
  obtain ⟨k,hk⟩:=H6 ho
  exact (f.ln k o hk).1
 have:=f.len;omega
theorem I01(f:Fx pl):(DG pl 0).length≤15:=by
 have:=YW pl 0 λo ho=>by
  obtain ⟨k,hk⟩:=H6 ho
  exact (f.ln k o hk).2
 have:=f.len;omega
theorem Hm(f:Fx pl)(kind:Nm):(fl kind pl).length≤12:=by
 rw [(RZ kind pl).length_eq]
 exact A8 (L06 _ _) (Tf f)
theorem KZ(f:Fx pl){q:Row}(h:q∈AZ pl 0):(q.2.nm,q.2.kd)∈(nText,B9)::tab∧0<q.2.al∧q.2.al≤16∧q.2.sz≤20:=by
 obtain ⟨o,h1,h2⟩:=Hy h
 exact f.sec _ o h1 _ h2
theorem Yi{x:Int×Nm}: ∀{R:List Row} {y:Lay},(∀q∈R,((q.1:Int),q.2.nm)≠x)→Ay (R.foldl (CC pl) y).sts x=Ay y.sts x
 |[],_,_=>rfl
 |q::R,y,h=>by
  rw [H5,Yi λz hz=>h z (.tail _ hz)]
  show Ay (AE y.sts ((q.1:Int),q.2.nm) _) x=_
  rw [Ef,if_neg (h q (.head _))]
theorem J0r(f:Fx pl){p q:Row}(hp:p∈AZ pl 0)(hq:q∈AZ pl 0)(h:((p.1:Int),p.2.nm)=((q.1:Int),q.2.nm)):p.2=q.2:=by
 obtain ⟨o,h1,h2⟩:=Hy hp
 obtain ⟨o',h3,h4⟩:=Hy hq
 have e1:p.1=q.1:=by have:=congrArg Fi h;dsimp only at this;omega
 rw [←e1,h1] at h3;cases h3
 exact Ky (f:= λs:Sec=>s.nm) (f.nds _ o h1) h2 h4 (congrArg HA h)
end
noncomputable def dn3(pl:List Ob):List Row:=[]++fl B9 pl++fl Du pl++fl CT pl
noncomputable def dn4(pl:List Ob):List Row:=dn3 pl++fl AO pl
structure Lk(pl:List Ob)(b:Nat)(e:LE)(ds:List Df):Prop where
 r1:RI pl b 1 ([]++fl B9 pl) (Y1 e) (W1 pl b)
 r2:RI pl b 2 ([]++fl B9 pl++fl Du pl) (Y2 e) (W2 pl b)
 r3:RI pl b 3 (dn3 pl) (Y3 e) (W3 pl b)
 r4:RI pl b 4 (dn4 pl) (Y4 e) (W4 pl b)
 l3:(dn3 pl).length≤36
 l4:(dn4 pl).length≤48
 di:DI (DG pl 0) ds
 dl:ds.length≤15
 w5:W5 pl b=⟨(YC e ds).1,(YC e ds).2.1,adF (W4 pl b).kn (YC e ds).2.2⟩
 a5:(Y4 e).at_≤(YC e ds).1∧(YC e ds).1≤b+2600∧(YC e ds).2.1.length≤63
theorem H0u{wl:List FV}{b t:Nat}{d10:Option Df}{pl:List Ob}(f:Fx pl):Lk pl b ⟨wl,b,pl,t,d10,none⟩ (BZ 0 pl []):=by
 have r0:RI pl b 0 [] ⟨b,[],[]⟩ ⟨b,[],[]⟩:=⟨rfl,rfl,rfl,A9 _,A9 _,A9 _,A9 _,nofun,λ_ _ _ _ _ _=>rfl,nofun,.nil,nofun,nofun⟩
 have m: ∀{l:List Row} {kind:Nm},(∀q∈l,q∈AZ pl 0)→∀q∈l++fl kind pl,q∈AZ pl 0:= λh q hq=>by
  rcases C7.mp hq with hq|hq
  ·exact h q hq
  ·exact (Nu hq).1
 have m1:=m (l:=[]) (kind:=B9) nofun
 have m2:=m (kind:=Du) m1
 have m3:=m (kind:=CT) m2
 have r1:=r0.kind (kind:=B9) f nofun
 have r2:=r1.kind (kind:=Du) f m1
 have r3:=r2.kind (kind:=CT) f m2
 have r4:=r3.kind (kind:=AO) f m3
 have l1:=Hm f B9;have l2:=Hm f Du;have l3:=Hm f CT;have l4:=Hm f AO
 have di:=E0Y f
 have dl:(BZ 0 pl []).length≤15:=A8 di.ln (I01 f)
 have hl3:(dn3 pl).length≤36:=by unfold dn3;simp only [AU,A0D];omega
 have hl4:(dn4 pl).length≤48:=by unfold dn4;rw [AU];omega
 let e:LE:=⟨wl,b,pl,t,d10,none⟩
 have r4':RI pl b 4 (dn4 pl) (Y4 e) (W4 pl b):=r4
 have hw:W5 pl b=⟨(YC e (BZ 0 pl [])).1,(YC e (BZ 0 pl [])).2.1,adF (W4 pl b).kn (YC e (BZ 0 pl [])).2.2⟩:=by
  unfold W5 IY
  rw [WQ,←di.cm]
  refine A03 ?_ (WO (BZ 0 pl []) (Y4 e).at_ (Y4 e).pcs (W4 pl b).kn λd hd hr=>(di.bd d hd hr).1)
  rw [←r4'.at_,←r4'.pc]
 have ha:=WN (BZ 0 pl []) (Y4 e).at_ (Y4 e).pcs di.bd
 refine ⟨r1,r2,r3,r4,hl3,hl4,di,dl,hw,ha.1,?_,?_⟩
 ·have h1:=ha.2.1;have h2:=r4'.ub
  show (Be (Y4 e).at_ (Y4 e).pcs (BZ 0 pl [])).1≤_
  omega
 ·have h1:=ha.2.2;have h2:=r4'.pn
  show (Be (Y4 e).at_ (Y4 e).pcs (BZ 0 pl [])).2.1.length≤_
  omega
theorem XZ{pl:List Ob}(f:Fx pl){p:Row}(h:p∈AZ pl 0):p∈dn4 pl∧(p.2.kd≠AO→p∈dn3 pl):=by
 have hk:=(Jx _ (KZ f h).1).2.2.2.2
 have hk:p.2.kd∈[B9,Du,CT,AO]:=hk
 have h3:p.2.kd≠AO→p∈dn3 pl:= λhb=>by
  unfold dn3
  rcases AW.mp hk with q|hk
  ·exact Ff _ (Ff _ (GO _ (NZ h q)))
  ·rcases AW.mp hk with q|hk
   ·exact Ff _ (GO _ (NZ h q))
   ·rcases AW.mp hk with q|hk
    ·exact GO _ (NZ h q)
    ·exact absurd (Bx.mp hk) hb
 refine ⟨?_,h3⟩
 unfold dn4
 by_cases q:p.2.kd=AO
 ·exact GO _ (NZ h q)
 ·exact Ff _ (h3 q)
theorem XH{pl:List Ob}{b:Nat}{e:LE}{ds:List Df}(f:Fx pl)(k:Lk pl b e ds):HS pl (Y4 e).sts:= λp hp=>by
 obtain ⟨a,h,_⟩:=k.r4.ls p (XZ f hp).1
 exact ⟨(KZ f hp).2.2.2,a,h⟩
theorem H0x{e:LE}{ds:List Df}(f:Fx e.pl)(hb:e.base≤1048576)(k:Lk e.pl e.base e ds):LOK e ds:=by
 have l0:=Tf f
 have l1:=Hm f B9;have l2:=Hm f Du;have l3:=Hm f CT;have l4:=Hm f AO
 have s1:=k.r1.sl;have s2:=k.r2.sl;have s3:=k.r3.sl
 have p1:=k.r1.pn;have p2:=k.r2.pn;have p3:=k.r3.pn;have p4:=k.r4.pn
 have g3:=k.r3.ge;have u3:=k.r3.ub
 have hu:=Gk (a:=(Y3 e).at_) (al:=4) (by decide)
 have hv:=Ox (Y3 e).at_ 4
 have d3:=k.l3;have d4:=k.l4
 have dl:=k.dl
 have t5:=k.a5
 simp only [AU,A0D] at s1 s2 p1 p2
 refine ⟨by show (AZ e.pl 0).length≤100;omega,by have:=f.len;show e.pl.length≤100;omega,λkn gr hg p hp=>?_,?_,?_,?_,?_,?_,?_,?_,?_,λp hp=>?_⟩
 ·have hr:p∈fl kn e.pl:=List.mem_flatMap.mpr ⟨gr,hg,hp⟩
  obtain ⟨h1,_⟩:=Nu hr
  obtain ⟨_,h2,_,h3⟩:=KZ f h1
  obtain ⟨o,h4,_⟩:=Hy h1
  exact ⟨h2,h3,o,h4⟩
 ·show (fl B9 e.pl).length≤100;omega
 ·show (Y1 e).sts.length+(Y1 e).pcs.length+(fl Du e.pl).length≤900;omega
 ·show (Y2 e).sts.length+(Y2 e).pcs.length+(fl CT e.pl).length≤900;omega
 ·show (Y3 e).sts.length+(Y3 e).pcs.length+(fl AO e.pl).length≤900;omega
 ·show (Y4 e).pcs.length+ds.length≤900;omega
 ·omega
 ·show e.base≤up (Y3 e).at_ 4;omega
 ·show up (Y3 e).at_ 4 - e.base≤AM;unfold AM;omega
 ·have hs:=KZ f hp
  refine ⟨hs.2.2.2,λhk=>?_⟩
  obtain ⟨a,h1,h2,h3⟩:=k.r3.ls p ((XZ f hp).2 hk)
  refine ⟨a,?_,h2,?_⟩
  ·refine A03 (Yi (R:=fl AO e.pl) (y:=ini (Y3 e)) λq hq z=>?_) h1
   obtain ⟨q1,q2⟩:=Nu hq
   exact hk (by rw [←J0r f q1 hp z];exact q2)
  ·show a+p.2.sz≤e.base+(up (Y3 e).at_ 4 - e.base);omega
theorem H0P{s:Sec}{pl:List Ob}{k:Nat}{o:Ob}(h:pl[k]?=some o)(hs:s∈o.ss):(k,s)∈AZ pl 0:=
 (DN.mp h).elim λhk e=>by
  have z:=Jk (pl:=pl) (d:=pl.take k) (r:=pl.drop (k+1)) (by rw [←e,←L0t hk,List.take_append_drop]) hs
  rw [List.length_take_of_le (CY hk)] at z
  exact z
theorem XI(x:Nm): ∀l,(Hr x l).Perm (x::l)
 |[]=>.refl _
 |y::r=>by
  show (if C6 x y then x::y::r else y::Hr x r).Perm _
  split
  ·exact .refl _
  ·exact ((XI x r).cons y).trans (.swap x y r)
theorem Oh: ∀l,(EY l).Perm l
 |[]=>.refl _
 |x::r=>(XI x _).trans ((Oh r).cons x)
theorem VT{x:Nm}: ∀{ds:List Df} {kn:Kn},x∈(adF kn ds).map (·.1)→x∈kn.map (·.1)∨x∈ds.map (·.n.nm)
 |[],_,h=>.inl h
 |d::r,kn,h=>by
  have h:x∈(adF (if rk d.n=2 then AE kn d.n.nm d.ad else kn) r).map (·.1):=h
  rcases VT h with h|h
  ·split at h
   ·rcases Ni x h with h|h
    ·exact .inl h
    ·exact .inr (by rw [h];exact .head _)
   ·exact .inl h
  ·exact .inr (.tail _ h)
theorem VV: ∀{ds:List Df} {kn:Kn},(kn.map (·.1)).Nodup→((adF kn ds).map (·.1)).Nodup
 |[],_,h=>h
 |d::r,kn,h=>by
  show ((adF (if rk d.n=2 then AE kn d.n.nm d.ad else kn) r).map (·.1)).Nodup
  refine VV ?_
  split
  ·exact HX h
  ·exact h
theorem VW{c:Nat}: ∀{ds:List Df} {kn:Kn},(∀d∈ds,rk d.n=2→d.ad≤c)→(∀e∈kn,e.2≤c)→∀e∈adF kn ds,e.2≤c
 |[],_,_,h=>h
 |d::r,kn,hd,h=>by
  show∀e∈adF (if rk d.n=2 then AE kn d.n.nm d.ad else kn) r,e.2≤c
  refine VW (λe he=>hd e (.tail _ he)) ?_
  split
  ·rename_i q
   intro e he
   rcases Nj e he with he|he
   ·exact h e he
   ·rw [he];exact hd d (.head _) q
  ·exact h
theorem VU: ∀{ds:List Df} {kn:Kn},(adF kn ds).length≤kn.length+ds.length
 |[],_=>A9 _
 |d::r,kn=>by
  show (adF (if rk d.n=2 then AE kn d.n.nm d.ad else kn) r).length≤_
  have h1:=VU (ds:=r) (kn:=if rk d.n=2 then AE kn d.n.nm d.ad else kn)
  have h2:(if rk d.n=2 then AE kn d.n.nm d.ad else kn:Kn).length≤kn.length+1:=by
   split
   ·exact HW
   ·exact CZ _
  rw [Dm];omega
theorem R9: ∀(ds:List Df) (a:Nat) (pcs:List Pc),∀d∈(Be a pcs ds).2.2,rk d.n=2→d.ad≤(Be a pcs ds).1
 |[],_,_,_,h,_=>nomatch h
 |d::r,a,pcs,e,he,hr=>by
  have mono: ∀(r:List Df) (a:Nat) (pcs:List Pc),a≤(Be a pcs r).1:=by
   intro r
   induction r with
   |nil=>exact λ_ _=>A9 _
   |cons d r ih=>
    intro a pcs
    by_cases q:rk d.n=2
    ·rw [show Be a pcs (d::r)=_ from if_pos q]
     have h1:=Gk (a:=a) (al:=max 1 d.al) (by omega)
     have h2:=ih (up a (max 1 d.al)+d.sz) (pcs++[⟨AX,d.n.nm,up a (max 1 d.al),d.sz⟩])
     show a≤(Be _ _ r).1
     omega
    ·rw [show Be a pcs (d::r)=_ from if_neg q];exact ih a pcs
  by_cases q:rk d.n=2
  ·rw [show Be a pcs (d::r)=_ from if_pos q] at he⊢
   rcases AW.mp he with rfl|he
   ·have:=mono r (up a (max 1 d.al)+d.sz) (pcs++[⟨AX,d.n.nm,up a (max 1 d.al),d.sz⟩])
    show up a (max 1 d.al)≤(Be _ _ r).1
    omega
   ·exact R9 r _ _ e he hr
  ·rw [show Be a pcs (d::r)=_ from if_neg q] at he⊢
   rcases AW.mp he with rfl|he
   ·exact absurd hr q
   ·exact R9 r _ _ e he hr
theorem RB{c:Nat}: ∀(ds:List Df) (a:Nat) (pcs:List Pc),(∀d∈ds,(rk d.n=2→d.sz≤9)∧d.n.nm.length≤40)→(∀p∈pcs,p.at_≤c∧p.sz≤20∧p.nm.length≤40∧p.ti.length≤40)→(Be a pcs ds).1≤c→a≤(Be a pcs ds).1∧∀p∈(Be a pcs ds).2.1,p.at_≤c∧p.sz≤20∧p.nm.length≤40∧p.ti.length≤40
 |[],_,_,_,h,_=>⟨A9 _,h⟩
 |d::r,a,pcs,hd,h,hc=>by
  by_cases q:rk d.n=2
  ·rw [show Be a pcs (d::r)=_ from if_pos q] at hc⊢
   have h1:=Gk (a:=a) (al:=max 1 d.al) (by omega)
   have h0:=hd d (.head _)
   have hm: ∀(r:List Df) (a:Nat) (pcs:List Pc),a≤(Be a pcs r).1:=by
    intro r
    induction r with
    |nil=>exact λ_ _=>A9 _
    |cons d r ih=>
     intro a pcs
     by_cases q:rk d.n=2
     ·rw [show Be a pcs (d::r)=_ from if_pos q]
      have h1:=Gk (a:=a) (al:=max 1 d.al) (by omega)
      have h2:=ih (up a (max 1 d.al)+d.sz) (pcs++[⟨AX,d.n.nm,up a (max 1 d.al),d.sz⟩])
      show a≤(Be _ _ r).1
      omega
     ·rw [show Be a pcs (d::r)=_ from if_neg q];exact ih a pcs
   have h2:=hm r (up a (max 1 d.al)+d.sz) (pcs++[⟨AX,d.n.nm,up a (max 1 d.al),d.sz⟩])
   have hc:(Be (up a (max 1 d.al)+d.sz) (pcs++[⟨AX,d.n.nm,up a (max 1 d.al),d.sz⟩]) r).1≤c:=hc
   obtain ⟨_,i2⟩:=RB (c:=c) r (up a (max 1 d.al)+d.sz) (pcs++[⟨AX,d.n.nm,up a (max 1 d.al),d.sz⟩]) (λe he=>hd e (.tail _ he)) (λp hp=>by
    rcases C7.mp hp with hp|hp
    ·exact h p hp
    ·rw [Bx] at hp;subst hp
     exact ⟨by show up a (max 1 d.al)≤c;omega,by have:=h0.1 q;show d.sz≤20;omega,by show AX.length≤40;decide,h0.2⟩) hc
   exact ⟨by show a≤(Be _ _ r).1;omega,i2⟩
  ·rw [show Be a pcs (d::r)=_ from if_neg q] at hc⊢
   exact RB r a pcs (λe he=>hd e (.tail _ he)) h hc
structure SymOK(pl:List Ob)(b:Nat)(e:LE)(ds:List Df)(A:Nm→Nat)(PA:Nm→Nat)(xs:List Nm):Prop where
 xe:xs=EY ((YC e ds).2.2.map (·.n.nm))
 hA: ∀x∈xs,∃i d,CD (YC e ds).2.2 x=some i∧(YC e ds).2.2[i]?=some d∧AOK (Y4 e).sts d (A x)
 st:B1∈xs
 nd:xs.Nodup
 pr: ∀x∈Dl,x∉xs
 dl:(YC e ds).2.2.length<60
 xl:xs.length<60
 hP: ∀x∈Dl,Ay (mks e ds) x=some (.int (PA x))
 pm:((xs.map λx=>(x,A x))++Dl.map λx=>(x,PA x)).Perm (knW pl b)
 en:Ay (knW pl b) B1=some (A B1)
 kd:((knW pl b).map (·.1)).Nodup
 bd: ∀p∈knW pl b,p.2<2000000∧p.1.length≤40
theorem RQ{x:Nm}{a:Nat}{l:Kn}(h:Ay l x=some a):(x,a)∈l:=(RM h).mem_iff.mp (.head _)
theorem K0i{e:LE}{ds:List Df}(f:Fx e.pl)(hb:e.base≤1048576)(k:Lk e.pl e.base e ds): ∃A PA xs,SymOK e.pl e.base e ds A PA xs:=by
 let pl:=e.pl
 let b:=e.base
 let ds':=(YC e ds).2.2
 let K5:=adF (W4 pl b).kn ds'
 let KW:=knW pl b
 let A:Nm→Nat:= λx=>(Ay KW x).getD 0
 let PA:Nm→Nat:= λx=>(Ay (mkW pl b) x).getD 0
 let xs:=EY (ds'.map (·.n.nm))
 have hns:ds'.map (λd=>(d.num,d.n))=ds.map λd=>(d.num,d.n):=RA ds _ _
 have hnm:ds'.map (·.n.nm)=ds.map (·.n.nm):=by
  have:=congrArg (J3 λp:Nat×Nam=>p.2.nm) hns
  rw [CP,CP] at this;exact this
 have hxs: ∀x,x∈xs↔x∈ds'.map (·.n.nm):= λx=>(Oh _).mem_iff
 have hnd':(ds'.map (·.n.nm)).Nodup:=by rw [hnm];exact k.di.nd
 have hnd:xs.Nodup:=(Oh _).nodup_iff.mpr hnd'
 have hlen:ds'.length=ds.length:=by have:=congrArg J0 hnm;rw [AD,AD] at this;exact this
 have hxl:xs.length=ds.length:=by have:=(Oh (ds'.map (·.n.nm))).length_eq;rw [AD,hlen] at this;exact this
 have hsrc: ∀d∈ds',∃o,pl[d.num]?=some o∧d.n∈o.ns:= λd hd=>by
  have:(d.num,d.n)∈ds.map λd=>(d.num,d.n):=by rw [←hns];exact BE.mpr ⟨d,hd,rfl⟩
  obtain ⟨d0,h0,h1⟩:=BE.mp this
  have h2:=k.di.src d0 h0
  rw [h1] at h2
  obtain ⟨_,o,h3,h4⟩:=H0Q.mp h2
  exact ⟨o,h3,h4⟩
 have hname: ∀x,(∃(j:Nat) (o:Ob) (n:Nam),pl[j]?=some o∧n∈o.ns∧n.nm=x)→x∈ds'.map (·.n.nm):= λx hI=>by
  obtain ⟨j,o,n,h1,h2,h3⟩:=hI
  rw [hnm,k.di.mem]
  exact BE.mpr ⟨(j,n),H0Q.mpr ⟨C9 _,o,h1,h2⟩,h3⟩
 have hxp: ∀x∈ds'.map (·.n.nm),x∉Dl∧x.length≤40:= λx hx=>by
  obtain ⟨d,hd,rfl⟩:=BE.mp hx
  obtain ⟨o,h1,h2⟩:=hsrc d hd
  exact ⟨(f.nm _ o h1 d.n h2).2,(f.nm _ o h1 d.n h2).1⟩
 have h5:(W5 pl b).kn=K5:=by rw [k.w5]
 have hKW:KW=AE (AE (AE (AE K5 nEt (W1 pl b).at_) nEd (W3 pl b).at_) nBs (up (W3 pl b).at_ 4)) nEn (W5 pl b).at_:=by show knW pl b=_;unfold knW;rw [h5]
 have hK0: ∀x,x∉Dl→Ay KW x=Ay K5 x:= λx hx=>by
  have q: ∀z∈Dl,¬z=x:= λz hz y=>hx (by rw [←y];exact hz)
  rw [hKW,Ef,if_neg (q nEn (by decide)),Ef,if_neg (q nBs (by decide)),Ef,if_neg (q nEd (by decide)),Ef,if_neg (q nEt (by decide))]
 have hKP: ∀x∈Dl,Ay KW x=some (PA x):= λx hx=>by
  rw [hKW,Ef,Ef,Ef,Ef]
  rcases AW.mp hx with rfl|hx
  ·rfl
  ·rcases AW.mp hx with rfl|hx
   ·rfl
   ·rcases AW.mp hx with rfl|hx
    ·rfl
    ·rw [Bx.mp hx];rfl
 have hkd:(KW.map (·.1)).Nodup:=by rw [hKW];exact HX (HX (HX (HX (VV k.r4.kd))))
 have hAx: ∀x∈xs,∃i d,CD ds' x=some i∧ds'[i]?=some d∧AOK (Y4 e).sts d (A x)∧Ay KW x=some (A x):= λx hx=>by
  have hx':=(hxs x).mp hx
  obtain ⟨i,hi⟩:=Tc hx'
  obtain ⟨d,hd,hdx⟩:=KX hi
  have hdm:=As hd
  have hk0:=hK0 x (hxp x hx').1
  by_cases hr:rk d.n=2
  ·have h1:Ay K5 x=some d.ad:=by rw [←hdx];exact VS hnd' hdm hr
   rw [h1] at hk0
   have hA:A x=d.ad:=by show (Ay KW x).getD 0=_;rw [hk0];rfl
   exact ⟨i,d,hi,hd,.inl ⟨hr,hA⟩,by rw [hk0,hA]⟩
  ·obtain ⟨o,h1,h2⟩:=hsrc d hdm
   have hc:d.n.pl≠AX:= λz=>hr (rk2.mpr z)
   obtain ⟨s,hs,h3,_⟩:=(f.pp _ o h1 d.n h2).resolve_left λz=>hc z.1
   have hrow:=H0P h1 hs
   obtain ⟨_,a,ha⟩:=XH f k _ hrow
   have ha:Ay (Y4 e).sts ((d.num:Int),d.n.pl)=some (.int a):=by rw [h3];exact ha
   have h4:Ay K5 x=some (a+d.n.va):=by
    rw [show Ay K5 x=Ay (W4 pl b).kn x from Rj λd2 hd2 hr2 z=>hr (by
     have:d2=d:=Ky (f:= λd:Df=>d.n.nm) hnd' hd2 hdm (z.trans hdx.symm)
     rw [←this];exact hr2)]
    rw [←hdx]
    refine (k.r4.ka _ o d.n h1 h2 hc).trans ?_
    rw [ha];rfl
   rw [h4] at hk0
   have hA:A x=a+d.n.va:=by show (Ay KW x).getD 0=_;rw [hk0];rfl
   refine ⟨i,d,hi,hd,.inr ⟨hr,?_,a,ha,hA⟩,by rw [hk0,hA]⟩
   rw [h3];exact (Jx _ (f.sec _ o h1 s hs).1).2.2.1
 have hst:B1∈xs:=by
  obtain ⟨o,n,h1,h2,h3⟩:=f.st
  exact (hxs _).mpr (hname _ ⟨0,o,n,h1,h2,h3⟩)
 have hpr: ∀x∈Dl,x∉xs:= λx hx z=>(hxp x ((hxs x).mp z)).1 hx
 have hkey: ∀x a,Ay KW x=some a→x∉Dl→x∈xs:= λx a h hx=>by
  rw [hK0 x hx] at h
  have hk:x∈K5.map (·.1):=BE.mpr ⟨(x,a),RQ h,rfl⟩
  rcases VT hk with hk|hk
  ·obtain ⟨j,o,n,h1,h2,_,h3⟩:=k.r4.kb x hk
   exact (hxs x).mpr (hname x ⟨j,o,n,h1,h2,h3⟩)
  ·exact (hxs x).mpr hk
 have hsy: ∀p:Nm×Nat,p∈(xs.map λx=>(x,A x))++Dl.map (λx=>(x,PA x))↔Ay KW p.1=some p.2:= λp=>by
  rw [C7,BE,BE]
  constructor
  ·rintro (⟨x,hx,rfl⟩|⟨x,hx,rfl⟩)
   ·obtain ⟨_,_,_,_,_,h⟩:=hAx x hx
    exact h
   ·exact hKP x hx
  ·intro h
   by_cases hp:p.1∈Dl
   ·have:=(hKP _ hp).symm.trans h
    exact .inr ⟨p.1,hp,by rw [An this]⟩
   ·refine .inl ⟨p.1,hkey _ _ h hp,?_⟩
    have:A p.1=p.2:=by show (Ay KW p.1).getD 0=_;rw [h];rfl
    rw [this]
 have hkw: ∀p:Nm×Nat,p∈KW↔Ay KW p.1=some p.2:= λp=>⟨λh=>RO hkd h,λh=>RQ h⟩
 have nodupOf: ∀{l:Kn},(l.map (·.1)).Nodup→l.Nodup:= λh=>(OH.mp h).imp λ{a b} hab e=>hab (congrArg Fi e)
 have hk1:(((xs.map λx=>(x,A x))++Dl.map (λx=>(x,PA x))).map (·.1)).Nodup:=by
  rw [B3,CP,CP]
  have e1:xs.map ((λp:Nm×Nat=>p.1)∘λx=>(x,A x))=xs:=Fe _
  have e2:Dl.map ((λp:Nm×Nat=>p.1)∘λx=>(x,PA x))=Dl:=Fe _
  rw [e1,e2]
  exact J7.mpr ⟨hnd,by decide,λa ha c hc z=>hpr c hc (z▸ha)⟩
 have hpm:((xs.map λx=>(x,A x))++Dl.map λx=>(x,PA x)).Perm KW:=(List.perm_ext_iff_of_nodup (nodupOf hk1) (nodupOf hkd)).mpr λp=>(hsy p).trans (hkw p).symm
 have a5:=k.a5
 have hw5a:(W5 pl b).at_=(YC e ds).1:=by rw [k.w5]
 have hval: ∀p∈KW,p.2<2000000:=by
  have g3:=k.r3.at_;have g1:=k.r1.at_
  have u1:=k.r1.ub;have u3:=k.r3.ub;have u4:=k.r4.ub
  have l3:=k.l3;have l4:=k.l4
  have hv:=Ox (W3 pl b).at_ 4
  have n1:([]++fl B9 e.pl).length≤36:=by
   have:=k.l3
   unfold dn3 at this;rw [AU,AU] at this;omega
  have h0: ∀p∈K5,p.2≤1900000:=VW (λd hd hr=>by
   have h1:d.ad≤(YC e ds).1:=R9 ds _ _ d hd hr
   omega) λq hq=>by have h1:=k.r4.kv q hq;omega
  have st: ∀{l:Kn} {x:Nm} {v:Nat},(∀p∈l,p.2≤1900000)→v≤1900000→∀p∈AE l x v,p.2≤1900000:= λh hv p hp=>by
   rcases Nj p hp with hp|hp
   ·exact h p hp
   ·rw [hp];exact hv
  intro p hp
  rw [hKW] at hp
  have e1:(W1 pl b).at_=(Y1 e).at_:=g1
  have e3:(W3 pl b).at_=(Y3 e).at_:=g3
  have:=st (st (st (st h0 (by omega)) (by omega)) (by omega)) (by omega) p hp
  omega
 refine ⟨A,PA,xs,rfl,λx hx=>?_,hst,hnd,hpr,by show ds'.length<60;have:=k.dl;omega,by have:=k.dl;omega,λx hx=>?_,hpm,?_,hkd,λp hp=>⟨hval p hp,?_⟩⟩
 ·obtain ⟨i,d,h1,h2,h3,_⟩:=hAx x hx
  exact ⟨i,d,h1,h2,h3⟩
 ·have em:mks e ds=(mkW pl b).map Bg:=by
   have g1:(W1 pl b).at_=(Y1 e).at_:=k.r1.at_
   have g2:(W2 pl b).at_=(Y2 e).at_:=k.r2.at_
   have g3:(W3 pl b).at_=(Y3 e).at_:=k.r3.at_
   unfold mks mkW bsA
   rw [g1,g2,g3,hw5a];rfl
  rw [em,Nh]
  have:Ay (mkW pl b) x=some (PA x):=by
   rcases AW.mp hx with rfl|hx
   ·rfl
   ·rcases AW.mp hx with rfl|hx
    ·rfl
    ·rcases AW.mp hx with rfl|hx
     ·rfl
     ·rw [Bx.mp hx];rfl
  rw [this];rfl
 ·obtain ⟨_,_,_,_,_,h⟩:=hAx _ hst
  exact h
 ·by_cases hq:p.1∈Dl
  ·exact (by decide: ∀x∈Dl,x.length≤40) _ hq
  ·exact (hxp _ ((hxs _).mp (hkey _ _ ((hkw p).mp hp) hq))).2
theorem K0w{pl:List Ob}(f:Fx pl){ds:List Df}(di:DI (DG pl 0) ds)(dl:ds.length≤15):TOK pl:=by
 have hc:EN pl=B0 ds:=by rw [WQ,←di.cm]
 have hcl: ∀ds:List Df,(B0 ds).length≤ds.length:= λds=>by
  induction ds with
  |nil=>exact A9 _
  |cons d r ih=>
   show (if rk d.n=2 then (d.n.nm,d.al,d.sz)::B0 r else B0 r:Cm).length≤_
   split<;>simp only [Dm]<;>omega
 have hce: ∀(ds:List Df),∀e∈B0 ds,∃d∈ds,rk d.n=2∧e.2.1=d.al:= λds=>by
  induction ds with
  |nil=>exact nofun
  |cons d r ih=>
   intro e he
   have he:e∈(if rk d.n=2 then (d.n.nm,d.al,d.sz)::B0 r else B0 r:Cm):=he
   split at he
   ·rename_i q
    rcases AW.mp he with rfl|he
    ·exact ⟨d,.head _,q,rfl⟩
    ·obtain ⟨d',h1,h2⟩:=ih e he;exact ⟨d',.tail _ h1,h2⟩
   ·obtain ⟨d',h1,h2⟩:=ih e he;exact ⟨d',.tail _ h1,h2⟩
 refine ⟨λkind=>?_,λo ho=>?_,?_,λo ho s hs=>?_,λe he=>?_⟩
 ·rw [YN kind pl (k:=0),AD]
  have h1:(Ek kind (AZ pl 0)).length≤(AZ pl 0).length:=L06 _ _
  have h2:=Tf f
  omega
 ·obtain ⟨k,hk⟩:=H6 ho
  have:=(f.ln k o hk).1;omega
 ·rw [hc];have:=hcl ds;omega
 ·obtain ⟨k,hk⟩:=H6 ho
  obtain ⟨_,h1,h2,h3⟩:=f.sec k o hk s hs
  exact ⟨h1,by omega,by omega⟩
 ·rw [hc] at he
  obtain ⟨d,h1,h2,h3⟩:=hce ds e he
  have:=di.bd d h1 h2
  rw [h3];omega
theorem J0B{wl:List FV}{b:Nat}{pl:List Ob}(f:Fx pl)(hb:b≤1048576): ∃(im:FV) (g1:List (Option O)) (R:List Nm),Mg [.f (.lst (pl.map AP)),.f (.str B1),.f (.int b)] (some (.list wl)::BW 20 none)=some (.f im,g1)∧
  Mh [.f im] g1=some (.f (.str (EC [10] R++[10])),g1)∧Me [.f (.lst (pl.map fOb)),.f (.int b)] g1=some (.f (.lst (R.map FV.str)),g1)∧(∀x∈R,x.length≤1000)∧R.length≤1000:=by
 obtain ⟨d10,hlink⟩:=H0m (wl:=wl) (base:=b) (H0l f)
 let e:LE:=⟨wl,b,pl,pl.length,d10,none⟩
 let ds:=BZ 0 pl []
 have k:Lk pl b e ds:=H0u f
 obtain ⟨A,PA,xs,h⟩:=K0i (e:=e) f hb k
 have ok:=H0x (e:=e) f hb k
 have hna: ∀p∈AZ pl 0,p.2.nm≠Ij:= λp hp=>(Jx _ (KZ f hp).1).2.2.1
 have hl9: ∀o∈pl,o.ss.length+o.ns.length≤9:= λo ho=>by
  obtain ⟨j,hj⟩:=H6 ho
  have:=f.ln j o hj;omega
 have hm: ∃i0,CD ds B1=some i0:=by
  refine Tc ?_
  obtain ⟨o,n,h1,h2,h3⟩:=f.st
  rw [k.di.mem]
  exact BE.mpr ⟨(0,n),H0Q.mpr ⟨C9 _,o,h1,h2⟩,h3⟩
 obtain ⟨i0,hm⟩:=hm
 have hdl:=h.dl;have hxl:=h.xl
 obtain ⟨f4,ys,g1,himg⟩:=G01 (e:=e) (P:= λx=>.int (PA x)) ok rfl hm (XH f k) hna hl9 f.len h.xe h.hA h.st h.nd h.pr (by omega) (by omega) h.hP
 let sy:Kn:=(xs.map λx=>(x,A x))++Dl.map λx=>(x,PA x)
 have hsy:xs.map (D9 A)++Dl.map (prE λx=>FV.int (PA x))=sy.map Bg:=by
  show _=J3 Bg (_++_)
  rw [B3,CP,CP];rfl
 rw [hsy] at himg
 have a5:=k.a5
 have hpc:(W5 pl b).pcs=(YC e ds).2.1:=by rw [k.w5]
 have hnm40: ∀d∈ds,d.n.nm.length≤40:= λd hd=>by
  obtain ⟨_,o,h1,h2⟩:=H0Q.mp (k.di.src d hd)
  exact (f.nm _ o h1 d.n h2).1
 have hpk:=(RB (c:=(YC e ds).1) ds (Y4 e).at_ (Y4 e).pcs (λd hd=>⟨λhr=>(k.di.bd d hd hr).2.2,hnm40 d hd⟩) (λp hp=>by
  obtain ⟨h1,h2⟩:=k.r4.pk p hp
  exact ⟨by omega,h2⟩) (A9 _)).2
 have hpok: ∀p∈(W5 pl b).pcs,POK p∧p.at_<2147483647:= λp hp=>by
  rw [hpc] at hp
  obtain ⟨h1,h2,h3,h4⟩:=hpk p hp
  exact ⟨⟨by omega,by omega,h3,h4⟩,by omega⟩
 have hpl:(W5 pl b).pcs.length≤63:=by rw [hpc];exact a5.2.2
 have hsb: ∀p∈sy,p.2<2000000∧p.1.length≤40:= λp hp=>h.bd p (h.pm.mem_iff.mp hp)
 have hsl:sy.length<64:=by
  show (_++_:Kn).length<64
  rw [AU,AD,AD]
  show xs.length+4<64
  omega
 have hen:A B1<2000000:=(h.bd _ (RQ h.en)).1
 have hB:BdW (W5 pl b):=by
  refine ⟨by rw [k.w5];show (YC e ds).1≤_;omega,by omega,?_⟩
  rw [k.w5]
  show (adF _ _).length≤_
  have h1:=VU (ds:=(YC e ds).2.2) (kn:=(W4 pl b).kn)
  have h2:=k.r4.kl;have h3:=k.l4
  omega
 let R:List Nm:=(FC (A B1)::(W5 pl b).pcs.map Ej)++(D0 ((knW pl b).map swp)).map EE
 have hsort:D0 (sy.map swp)=D0 ((knW pl b).map swp):=ZS ZT (N0M.trans (h.pm.map swp).symm)
 have hkl:(knW pl b).length<64:=by rw [←h.pm.length_eq];exact hsl
 have hmap:=H0L (en:=A B1) (base:=b) (n:=bsA e - b) (f4:=f4) (sy:=sy) (pcs:=(YC e ds).2.1) (lns:=[]) (ys:=ys) (g:=g1) (by omega) (λp hp=>by rw [←hpc] at hp;exact (hpok p hp).1) (by rw [←hpc];omega) (λp hp=>⟨by have:=(hsb p hp).1;omega,(hsb p hp).2⟩) hsl
 rw [hsort,←hpc] at hmap
 have hdue:=F0m (g:=g1) (K0w f k.di k.dl) hB h.en hpok h.kd (λp hp=>⟨by have:=(h.bd p hp).1;omega,(h.bd p hp).2⟩) hkl
 rw [←hpc] at himg
 refine ⟨_,g1,R,hlink himg,hmap,hdue,λx hx=>?_,?_⟩
 ·rcases C7.mp hx with hx|hx
  ·rcases AW.mp hx with rfl|hx
   ·exact Z1 (by omega)
   ·obtain ⟨p,hp,rfl⟩:=BE.mp hx;exact Z2 (hpok p hp).1
  ·obtain ⟨p,hp,rfl⟩:=BE.mp hx
   obtain ⟨q,hq,rfl⟩:=BE.mp (N0M.mem_iff.mp hp)
   have:=h.bd q hq
   exact Z3 (by show q.2<_;omega) this.2
 ·show (_++_:List Nm).length≤1000
  rw [AU,Dm,AD,AD,N0M.length_eq,AD];omega
theorem I03{wl:List FV}{pl:List Ob}(f:Fx pl)(hG:Good pl){r:List Ob}: ∀{a b c:Option V},(∀o∈r,o∈pl)→∃m',DE (.many [0,1,2]) HH (AB [12,13,14,15,16,17,18,19,20] Mf [(Aa 0),(Aa 1),(Aa 2)]) (r.map fOb) ⟨[a,b,c],[],some (.list wl)::BW 20 none⟩=some (r.map AP,⟨m',[],some (.list wl)::BW 20 none⟩):=by
 induction r with
 |nil=>exact λ_=>⟨_,rfl⟩
 |cons o r ih=>
  intro a b c h
  refine (H6 (h o (.head _))).elim λk hk=>?_
  exact (ih (a:=some (.f (.str o.ti))) (b:=some (.f (.lst (o.ss.map Ca)))) (c:=some (.f (.lst (o.ns.map Cz)))) λz hz=>h z (.tail _ hz)).imp λm' e=>Kl rfl rfl (Br (sq1 (atS rfl) (sq1 (atS rfl) (sq1 (atS rfl) sq0))) rfl rfl (I02 (f.ln k o hk).1 (hG.ob k o hk).ss (f.ln k o hk).2)) e
theorem H0e{xs:List Int}(hl:xs.length≤63): ∃g',UC [.f (.lst (xs.map FV.int))] (BW 21 none)=some (.f (.bool true),g'):=
 (K0C hl).elim λo hw=>I0T (gr:=BW 20 none) hw.2 λpl o2 hplan hgood w2=>w2.draw (n:=6) (by decide) λr o3 d hr w3=>by
  cases w3 with
  |mk ys p st l1 l2 l3=>
   have f:=F0P hgood
   have hr6:r<([0,4096,4098,65535,1048576,4100]:List Nat).length:=Gl.mp hr
   have hb:=(by decide: ∀x∈([0,4096,4098,65535,1048576,4100]:List Nat),x≤1048576) _ (Lo hr6)
   refine (J0B (wl:=[.lst (ys.map FV.int),.int p,.int st]) f hb).elim λim h=>h.elim λg1 h=>h.elim λR h=>(I03 (wl:=[.lst (ys.map FV.int),.int p,.int st]) f hgood (r:=pl) (a:=none) (b:=none) (c:=none) λ_ h=>h).elim λm' hc=>?_
   exact ⟨g1,Cw (Aj (BF (Br (sq1 (atS rfl) sq0) rfl rfl hw.1) rfl) (Aj (SK (Lc (Br (sq1 (atS rfl) sq0) rfl rfl hplan) (Lc (AG (Q5 (xs:=([0,4096,4098,65535,1048576,4100]:List Nat).map fI)) (Br (sq1 (atS rfl) (sq1 rfl sq0)) rfl rfl (d _)) (Kx (by rw [CH,Fc hr6];rfl) (H9 hr6 (by decide)))) rfl)) rfl)
    (Aj (BF (Kk (CM (xs:=pl.map fOb) (atS rfl)) (by have:=f.len;rw [AD];lia) rfl hc) rfl) (Aj (BF (Br (sq1 (Br (sq1 (atS rfl) (sq1 rfl (sq1 (atS rfl) sq0))) rfl rfl h.1) sq0) rfl rfl h.2.1) rfl)
    (CV (C1 (Jo (By (atS rfl) (AG (AG (Bl rfl rfl) (Br (sq1 (atS rfl) (sq1 (atS rfl) sq0)) rfl rfl h.2.2.1) (XW h.2.2.2.1 h.2.2.2.2)) rfl (Fw (x:=EC [10] R) (y:=[10]) (by
     have:=XU (l:=R)
     have:=Tw h.2.2.2.1
     have:=A0M 1000 h.2.2.2.2
     show (EC [10] R).length+1≤_;unfold AM;lia))) (congrArg (λb=>some b) (decide_eq_true (p:=EC [10] R++[10]=EC [10] R++[10]) rfl)))))))))) rfl⟩
section
variable{w:A5}{K:Frag}{h₀:Heap}{mg mb:Str→Option Ab}
noncomputable def Vz:Names:=⟨["well","size","place","number"],["len"],[],[]⟩
theorem DO(T:TopF w K h₀ mg mb):SoundF w h₀ 1 2 [] 583 Cq:=by
 refine BV T.gd.toBase (T.defs 2 _ rfl) (N:=Vz) (by left) (n:=0) ?_
 have e:bdS (fnS 55)=[_,_,_,_,_]:=rfl
 show SoundB w h₀ 0 [] Vz (bdS (fnS 55)) PY
 rw [e]
 unfold PY
 with_reducible exact (Ai (BX (by left) (BD Ad AF))
 (Ai (SoundS.setItem (AN Bw Ad AF) Ad AF)
 (Ai (BX (by left) (IL (Bq RK Ad (Sound.call1 T.gd.toBase (Hg T (As (i:=0) (by left))) Hv (BD Ad AF) (λ_=>by left))) (BD (BD Ad AF) Ad) AF))
 (Ai (SoundS.setItem (AN GD (AN Bw (AN Bw (AN Bw (AN Iq (BD Ad AF) AF) (AN Iq Ad AF)) (AN Iq AF Ad)) AF) AF) Ad AF)
 (Ai (Cr (IL (Bq RK Ad (Sound.call1 T.gd.toBase (Hg T (As (i:=0) (by left))) Hv (BD Ad AF) (λ_=>by left))) (AN GD Ad Ad) (AN GD (AN KR (BD Ad AF) AF) Ad)))
 A6)))))
noncomputable def V1:Names:=⟨["value","found"],[],[],[]⟩
theorem QA(T:TopF w K h₀ mg mb):SoundF w h₀ 1 1 [] 604 JS:=by
 refine BV T.gd.toBase (T.defs 32 _ rfl) (N:=V1) (by left) (n:=0) ?_
 have e:bdS (fnS 58)=[_,_,_]:=rfl
 show SoundB w h₀ 0 [] V1 (bdS (fnS 58)) Qa
 rw [e]
 unfold Qa Mu
 with_reducible exact (Ai (BX (by left) (BD (AK) (AN GD Ad AF)))
 (Ai (VN (Bq Nf Ad AF) (Ai (BX (by left) (AN KR Ad AF))
 (Ai (BX (by left) (AN Bw (BD (AK) (AN GD Ad AF)) Ad))
 A6)))
 (Ai (Cr (AN Bw (AK) Ad))
 A6)))
noncomputable def Vy:Names:=⟨["plan","found","title","sections","names","name","place","value","size","align","most"],["COMMON","max"],[],[]⟩
theorem C06(T:TopF w K h₀ mg mb):SoundF w h₀ 1 1 [] 616 Md:=by
 refine BV T.gd.toBase (T.defs 34 _ rfl) (N:=Vy) (by left) (n:=0) ?_
 have e:bdS (fnS 60)=[_,_,_]:=rfl
 show SoundB w h₀ 0 [] Vy (bdS (fnS 60)) PX
 rw [e]
 unfold PX QL Ms
 with_reducible exact (Ai (Es (by left) FU)
 (Ai (SoundS.for (TgR.many (C2 (by decide+kernel))) (SoundI.of Ad) (Ai (SoundS.for (TgR.many (C2 (by decide+kernel))) (SoundI.of Ad) (Ai (Ci (Bq Ct Ad (Dj T 5 (by left) (As (i:=0) (by left)) (by left))) (Ai (MK (C2 (by decide+kernel)) (Sound.meth2 ⟨λ_=>by left,λ_=>by left,by left,λ_=>by left,λ_=>by left,GU,OQ,B0b⟩ Kz (Zg T.gd.toBase) Ad Ad (Cg (Ah AF (Ah AF A3)) (by decide)) (λ_=>by left)) (λ_=>by left) (λ_=>by left))
 (Ai (SoundS.setItem (Cg (Ah (Kc T.gd.toBase (Ki T (As (i:=1) (by left))) KS Ad Ad (λ_=>by left) (λ_=>by left)) (Ah (Kc T.gd.toBase (Ki T (As (i:=1) (by left))) KS Ad Ad (λ_=>by left) (λ_=>by left)) A3)) (by decide)) Ad Ad)
 A6)) A6)
 A6))
 A6))
 (Fv T.gd.toBase (Ai (Cr Ad)
 A6))))
noncomputable def V5:Names:=⟨["plan","kind","found","title","sections","names"],["enumerate"],["kind","found"],[]⟩
noncomputable def C0K:Names:=⟨["row","kind"],[],[],[]⟩
noncomputable def C0L:Names:=⟨["at","name","found"],[],[],[]⟩
theorem C0B(T:TopF w K h₀ mg mb):SoundF w h₀ 1 2 [] 609 JT:=by
 refine BV T.gd.toBase (T.defs 33 _ rfl) (N:=V5) (by left) (n:=0) ?_
 have e:bdS (fnS 59)=[_,_,_]:=rfl
 show SoundB w h₀ 0 [] V5 (bdS (fnS 59)) Qe
 rw [e]
 unfold Qe QN
 with_reducible exact (Ai (Es (by left) (SoundA.list A3 (by decide)))
 (Ai (SoundS.for (TgR.many (C2 (by decide+kernel))) (SoundI.of Ad) (Ai (SoundS.extend ⟨λ_=>by left,λ_=>by left,by left,λ_=>by left,λ_=>by left,Dp,M06,PySem.F.type_list_extend⟩ Ad (Lb T.gd.toBase (Hh (M:=C0K) (by decide+kernel)) (by left) (TgR.one (by left)) (Ie (by decide+kernel)) (SoundI.of Ad) (MM (Bq Ct (BD Ad AF) Ad)) (BD Ad AF) (λ_ h=>h) Am (λ_ _=>by left)) Cu (λ_=>by left))
 A6))
 (Fv T.gd.toBase (Ai (Cr (Lb T.gd.toBase (Hh (M:=C0L) (by decide+kernel)) (by left) (TgR.many (C2 (by decide+kernel))) (Ie (by decide+kernel)) (IP T.gd.toBase (IW T (As (i:=0) (by left))) Ad (λ_=>by left)) (MM (Bq (Km T.gd.toBase) Ad (VH Ad Ad (λ_ _=>by left) (λ_ _=>by left)))) Ad (λ_ h=>h) Am (λ_ _=>by left)))
 A6))))
noncomputable def V2:Names:=⟨["plan","base","at","pieces","known","marks","kind","wanted","title","sections","names","name","of","align","size","own","place","value","more","pair"],["_law_titles","_law_common","COMMON"],[],[]⟩
theorem C08(T:TopF w K h₀ mg mb):SoundF w h₀ 2 2 [] 623 Q0:=by
 refine BV T.gd.toBase (T.defs 35 _ rfl) (N:=V2) (by left) (n:=1) ?_
 have e:bdS (fnS 61)=[_,_,_,_]:=rfl
 show SoundB w h₀ 1 [] V2 (bdS (fnS 61)) Qb
 rw [e]
 unfold Qb Mz My Mx HM QM Mw Mv
 with_reducible exact (Ai (D0l (C2 (by decide+kernel)) (SoundM.e Ad (SoundM.a (SoundA.list A3 (by decide)) (SoundM.a FU (SoundM.a FU SoundM.nil (λ_=>by left)) (λ_=>by left)) (λ_=>by left)) (λ_=>by left)) (by decide) (λ_=>by left) (λ_=>by left))
 (Ai (SoundS.for (TgR.one (by left)) (SoundI.of (Cg (Ah (AK) (Ah (AK) (Ah (AK) (Ah (AK) A3)))) (by decide))) (Ai (BX (by left) (AN Iq (AN KR (AN Bw Ad AF) AF) AF))
 (Ai (Ci (Bq Ct Ad (AK)) (Ai (SoundS.setItem Ad Ad (AK))
 A6) A6)
 (Ai (SoundS.for (TgR.one (by left)) (SoundI.of (BS T.gd (G0b T (As (i:=0) (by left))) ((C0B T).lift (by decide)) (Ah Ad (Ah Ad A3)) (by left) (λ_ h=>h) Am)) (Ai (SoundS.for (TgR.many (C2 (by decide+kernel))) (SoundI.of Ad) (Ai (SoundS.for (TgR.many (C2 (by decide+kernel))) (SoundI.of Ad) (Ai (Ci (Bq Ct Ad Ad) (Ai (BX (by left) (AN Iq (AN KR (AN KU (AN Bw Ad Ad) AF) Ad) Ad))
 (Ai (SoundS.append ⟨λ_=>by left,λ_=>by left,by left,λ_=>by left,λ_=>by left,Dp,Dv,D2⟩ Ad (Cg (Ah Ad (Ah Ad (Ah Ad (Ah Ad A3)))) (by decide)) (λ_ h=>h) (λ_ h=>h) Cu)
 (Ai (SoundS.for (TgR.many (C2 (by decide+kernel))) (SoundI.of Ad) (Ai (Ci (Bq Ct Ad Ad) (Ai (SoundS.setItem (AN Bw Ad Ad) Ad Ad)
 A6) A6)
 A6))
 (Ai (BX (by left) (AN Bw Ad Ad))
 A6)))) A6)
 A6))
 A6))
 A6))
 (Ai (Ci (Bq Ct Ad (AK)) (Ai (SoundS.for (TgR.many (C2 (by decide+kernel))) (VM ⟨λ_=>by left,by left,GU,OS,B0c⟩ (BS T.gd (F0W T (As (i:=1) (by left))) ((C06 T).lift (by decide)) (Ah Ad A3) (by left) (λ_ h=>h) Am)) (Ai (BX (by left) (AN Iq (AN KR (AN KU (AN Bw Ad (BD Ad AF)) AF) (BD Ad AF)) (BD Ad AF)))
 (Ai (SoundS.append ⟨λ_=>by left,λ_=>by left,by left,λ_=>by left,λ_=>by left,Dp,Dv,D2⟩ Ad (Cg (Ah Ad (Ah (BD Ad AF) (Ah (Dj T 5 (by left) (As (i:=2) (by left)) (by left)) (Ah Ad A3)))) (by decide)) (λ_ h=>h) (λ_ h=>h) Cu)
 (Ai (SoundS.setItem Ad Ad Ad)
 (Ai (BX (by left) (AN Bw Ad (BD Ad AF)))
 A6)))))
 A6) A6)
 (Ai (SoundS.setItem Ad Ad (BD (DQ T.gd.toBase (SoundA.dict [[95,101,116,101,120,116],[],[95,101,100,97,116,97],[95,101,110,100]] (by left) (by with_unfolding_all exact (.cons (by left) (by left) (.cons (by left) (by left) (.cons (by left) (by left) (.cons (by left) (by left) .nil))))) (by left) (by left) (λh=>nomatch h) (by decide) (by decide+kernel))) Ad))
 A6))))))
 (Ai (SoundS.for (TgR.one (by left)) (SoundI.of (Cg (Ah (AK) (Ah (AK) (Ah (AK) (Ah (AK) A3)))) (by decide))) (Ai (SoundS.setItem (BD Ad Ad) Ad Ad)
 A6))
 (Fv T.gd.toBase (Fv T.gd.toBase (Ai (Cr (Cg (Ah Ad (Ah Ad A3)) (by decide)))
 A6))))))
noncomputable def V0:Names:=⟨["plan","base","pieces","known","rows","at","size","name","title","left","least","first"],["_law_laid","_law_figures","str","dict","min"],["left","least"],[]⟩
noncomputable def C0J:Names:=⟨["name","left","least"],[],[],[]⟩
theorem C07(T:TopF w K h₀ mg mb):SoundF w h₀ 3 2 [] 628 Me:=by
 refine BV T.gd.toBase (T.defs 36 _ rfl) (N:=V0) (by left) (n:=2) ?_
 have e:bdS (fnS 62)=[_,_,_,_,_,_]:=rfl
 show SoundB w h₀ 2 [] V0 (bdS (fnS 62)) PZ
 rw [e]
 unfold PZ Kb Mt
 with_reducible exact (Ai (MK (C2 (by decide+kernel)) (BS T.gd (F0Y T (As (i:=0) (by left))) ((C08 T).lift (by decide)) (Ah Ad (Ah Ad A3)) (by left) (λ_ h=>h) Am) (λ_=>by left) (λ_=>by left))
 (Ai (Es (by left) (SoundA.list (Ah (AN Bw (AK) (BS T.gd (Sh T (As (i:=1) (by left))) ((QA T).lift (by decide)) (Ah (BD Ad (AK)) A3) (by left) (λ_ h=>h) Am)) A3) (by decide)))
 (Ai (SoundS.for (TgR.many (C2 (by decide+kernel))) (SoundI.of Ad) (Ai (SoundS.append ⟨λ_=>by left,λ_=>by left,by left,λ_=>by left,λ_=>by left,Dp,Dv,D2⟩ Ad (Sound.meth1 ⟨λ_=>by left,λ_=>by left,by left,λ_=>by left,λ_=>by left,Uj,B0a,B0d⟩ N2 Ta (AK) (DQ T.gd.toBase (SoundA.list (Ah (BS T.gd (Sh T (As (i:=1) (by left))) ((QA T).lift (by decide)) (Ah Ad A3) (by left) (λ_ h=>h) Am) (Ah (Sound.callT T.gd.toBase (MV T (As (i:=2) (by left))) NR Ad (λ_=>by left)) (Ah Ad (Ah Ad A3)))) (by decide)))) (λ_ h=>h) (λ_ h=>h) Cu)
 A6))
 (Ai (Es (by left) (H0G T.gd.toBase (D0K T (As (i:=3) (by left))) Ad (λ_=>by left)))
 (Ai (VN (Bq (IZ T.gd.toBase) Ad (DQ T.gd.toBase FU)) (Ai (BX (by left) (J0U T.gd.toBase (Ww T (As (i:=4) (by left))) ⟨λ_=>by left,by left,GU,M05,PySem.F.type_dict_values⟩ Ad (λ_=>by left)))
 (Ai (BX (by left) (Sound.call1 T.gd.toBase (Ww T (As (i:=4) (by left))) I0B (J0T T.gd.toBase (Hh (M:=C0J) (by decide+kernel)) (by left) (by left) (by left) (by left) ⟨(by left),(by left)⟩ ⟨(by left),(by left)⟩ ⟨(by left),(by left)⟩ (λ_ _=>by left) (by left) (λ_ _=>by left) (λ_ _=>by left)) (λ_=>by left)))
 (Ai (SoundS.append ⟨λ_=>by left,λ_=>by left,by left,λ_=>by left,λ_=>by left,Dp,Dv,D2⟩ Ad (AN Bw (AN Bw (BS T.gd (Sh T (As (i:=1) (by left))) ((QA T).lift (by decide)) (Ah (J0b ⟨λ_=>by left,λ_=>by left,by left,λ_=>by left,λ_=>by left,GU,M04,PySem.F.type_dict_pop⟩ Ad Ad) A3) (by left) (λ_ h=>h) Am) (AK)) Ad) (λ_ h=>h) (λ_ h=>h) Cu)
 A6))))
 (Fv T.gd.toBase (Ai (Cr Ad)
 A6)))))))
noncomputable def Vr:Names:=⟨["self","name"],[],[],[]⟩
theorem C0z(T:TopF w K h₀ mg mb):SoundF w h₀ 1 2 [13,14,15] 193 Qy:=by
 refine BV T.gd.toBase (T.defs 8 _ rfl) (N:=Vr) (by left) (n:=0) ?_
 have e:bdS (mtS 26 0)=[_,_,_,_]:=rfl
 show SoundB w h₀ 0 [13,14,15] Vr (bdS (mtS 26 0)) PQ
 rw [e]
 unfold PQ
 with_reducible exact (Ai ((SoundS.setAttr T.gd (by left) Ad Ad).weak (B:=[13,14,15]) Am)
 (Ai ((SoundS.setAttr T.gd (by left) (EL (C:=[13]) (SoundA.list A3 (by decide)) Am (by decide)) Ad).weak (B:=[13,14,15]) (by decide))
 (Ai ((SoundS.setAttr T.gd (by left) (EL (C:=[14]) (SoundA.list A3 (by decide)) Am (by decide)) Ad).weak (B:=[13,14,15]) (by decide))
 (Ai ((SoundS.setAttr T.gd (by left) (EL (C:=[15]) (SoundA.list A3 (by decide)) Am (by decide)) Ad).weak (B:=[13,14,15]) (by decide))
 (A6.weak (B:=[13,14,15]) Am)))))
theorem C0y(T:TopF w K h₀ mg mb):SoundF w h₀ 2 1 [12,13,14,15] 224 (mk 12 224 Qy):=SoundF.mk T.gd (T.cls 2 _ rfl).1 (T.cls 2 _ rfl).2.1 (T.cls 2 _ rfl).2.2 (C0z T) (by decide)
noncomputable def Vs:Names:=⟨["self","name","section","value","binding","size"],[],[],[]⟩
theorem C00(T:TopF w K h₀ mg mb):SoundF w h₀ 1 6 [] 165 JR:=by
 refine BV T.gd.toBase (T.defs 6 _ rfl) (N:=Vs) (by left) (n:=0) ?_
 have e:bdS (mtS 25 0)=[_,_,_,_,_]:=rfl
 show SoundB w h₀ 0 [] Vs (bdS (mtS 25 0)) PR
 rw [e]
 unfold PR
 with_reducible exact (Ai (SoundS.setAttr T.gd (by left) Ad Ad)
 (Ai (SoundS.setAttr T.gd (by left) Ad Ad)
 (Ai (SoundS.setAttr T.gd (by left) Ad Ad)
 (Ai (SoundS.setAttr T.gd (by left) Ad Ad)
 (Ai (SoundS.setAttr T.gd (by left) Ad Ad)
 A6)))))
theorem UO(T:TopF w K h₀ mg mb):SoundF w h₀ 2 5 [20] 175 (mk 20 175 JR):=SoundF.mk T.gd (T.cls 1 _ rfl).1 (T.cls 1 _ rfl).2.1 (T.cls 1 _ rfl).2.2 (C00 T) (by decide)
noncomputable def Vu:Names:=⟨["self","name","kind","align"],["bytearray"],[],[]⟩
theorem C03(T:TopF w K h₀ mg mb):SoundFG w h₀ 1 4 [17,18] 130 Ma:=by
 refine Iy T.gd.toBase (T.defs 4 _ rfl) (N:=Vu) (by left) (n:=0) ?_
 have e:bdS (mtS 24 0)=[_,_,_,_,_,_]:=rfl
 show SoundBG w h₀ 0 [17,18] Vu (bdS (mtS 24 0)) PU
 rw [e]
 unfold PU
 with_reducible exact (BJ ((SoundS.setAttr T.gd (by left) Ad Ad).weak (B:=[17,18]) Am).g
 (BJ ((SoundS.setAttr T.gd (by left) Ad Ad).weak (B:=[17,18]) Am).g
 (BJ ((SoundS.setAttr T.gd (by left) Ad Ad).weak (B:=[17,18]) Am).g
 (BJ ((ML T.gd (by left) (MF (C:=[17]) (VJ T.gd.toBase (MS T (As (i:=0) (by left)))) Am (by decide)) Ad (λ_=>by left)).weak (B:=[17,18]) (by decide))
 (Ai ((SoundS.setAttr T.gd (by left) AF Ad).weak (B:=[17,18]) Am)
 (Ai ((SoundS.setAttr T.gd (by left) (EL (C:=[18]) (SoundA.list A3 (by decide)) Am (by decide)) Ad).weak (B:=[17,18]) (by decide))
 (A6.weak (B:=[17,18]) Am))).g))))
theorem C02(T:TopF w K h₀ mg mb):SoundFG w h₀ 2 3 [16,17,18] 147 (mk 16 147 Ma):=VL T.gd (T.cls 0 _ rfl).1 (T.cls 0 _ rfl).2.1 (T.cls 0 _ rfl).2.2 (C03 T) (by decide)
noncomputable def V3:Names:=⟨["title","sections","names","found","name","kind","align","size","section","place","value"],["ObjectFile","Section","bytearray","ObjectSymbol"],[],[]⟩
theorem C09(T:TopF w K h₀ mg mb):SoundFG w h₀ 3 3 [12,13,14,15,16,17,18,19,20] 597 Mf:=by
 refine Iy T.gd.toBase (T.defs 9 _ rfl) (N:=V3) (by left) (n:=2) ?_
 have e:bdS (fnS 57)=[_,_,_,_]:=rfl
 show SoundBG w h₀ 2 [12,13,14,15,16,17,18,19,20] V3 (bdS (fnS 57)) Qc
 rw [e]
 unfold Qc M1 M0
 with_reducible exact (BJ ((BX (by left) (BS T.gd (F0T T (As (i:=0) (by left))) ((C0y T).lift (by decide)) (Ah Ad A3) (by left) (λ_ h=>h) Am)).weak (B:=[12,13,14,15,16,17,18,19,20]) (by decide)).g
 (BJ ((D0p (TgR.many (C2 (by decide+kernel))) ((SoundI.of Ad).weak (B:=[16,17,18,19,20]) Am) (BJ ((Rd (by left) (ME T.gd (F0U T (As (i:=1) (by left))) ((C02 T).lift (by decide)) (Ah Ad (Ah Ad (Ah Ad A3))) (by left) (λ_ h=>h) Am (λ_=>by left) (λ_=>by left)) (λ_=>by left)).weak (B:=[16,17,18,19,20]) (by decide))
 (BJ ((D0q ((Bq Ct Ad (AK)).weak (B:=[19]) Am) ((Ai (SoundS.setAttr T.gd (by left) Ad Ad)
 A6).weak (B:=[19]) Am).g (BJ (ML T.gd (by left) (MF (C:=[19]) (SoundAG.ba T.gd.toBase (MS T (As (i:=2) (by left))) Ad (λ_=>by left)) Am (by decide)) Ad (λ_=>by left))
 (A6.weak (B:=[19]) Am).g)).weak (B:=[16,17,18,19,20]) (by decide))
 (FX T.gd.toBase (FX T.gd.toBase (FX T.gd.toBase (FX T.gd.toBase (Ai ((SoundS.append ⟨λ_=>by left,λ_=>by left,by left,λ_=>by left,λ_=>by left,Dp,Dv,D2⟩ (Az T.gd Ad) Ad (λ_ h=>h) (λ_ h=>h) Cu).weak (B:=[16,17,18,19,20]) Am)
 (Ai ((SoundS.append ⟨λ_=>by left,λ_=>by left,by left,λ_=>by left,λ_=>by left,Dp,Dv,D2⟩ (Az T.gd Ad) (VG T.gd.toBase (BS T.gd (X0 T (As (i:=3) (by left))) ((UO T).lift (by decide)) (Ah (AN Bw (AK) Ad) (Ah Ad (Ah Ad (Ah (AK) (Ah AF A3))))) (by left) (λ_ h=>h) Am)) Am (λ_ h=>h) Cu).weak (B:=[16,17,18,19,20]) (by decide))
 (A6.weak (B:=[16,17,18,19,20]) Am))))))).g)) (λ_ _=>by left)).weak (B:=[12,13,14,15,16,17,18,19,20]) (by decide))
 (Ai ((SoundS.for (TgR.many (C2 (by decide+kernel))) ((SoundI.of Ad).weak (B:=[20]) Am) (Ai (SoundS.append ⟨λ_=>by left,λ_=>by left,by left,λ_=>by left,λ_=>by left,Dp,Dv,D2⟩ (Az T.gd Ad) (VG T.gd.toBase (BS T.gd (X0 T (As (i:=3) (by left))) ((UO T).lift (by decide)) (Ah Ad (Ah Ad (Ah Ad (Ah (AK) (Ah Ad A3))))) (by left) (λ_ h=>h) Am)) Am (λ_ h=>h) Cu)
 (A6.weak (B:=[20]) Am))).weak (B:=[12,13,14,15,16,17,18,19,20]) (by decide))
 (FX T.gd.toBase (FX T.gd.toBase (FX T.gd.toBase (FX T.gd.toBase (Ai ((Cr Ad).weak (B:=[12,13,14,15,16,17,18,19,20]) Am)
 (A6.weak (B:=[12,13,14,15,16,17,18,19,20]) Am))))))).g))
noncomputable def Vx:Names:=⟨[],[],[],[]⟩
theorem C05(T:TopF w K h₀ mg mb):SoundF w h₀ 1 0 [] 571 Mb:=by
 refine BV T.gd.toBase (T.defs 0 _ rfl) (N:=Vx) (by left) (n:=0) ?_
 have e:bdS (fnS 53)=[_]:=rfl
 show SoundB w h₀ 0 [] Vx (bdS (fnS 53)) PW
 rw [e]
 unfold PW
 with_reducible exact (Ai (Cr (DQ T.gd.toBase (SoundA.list (Ah (Cg (Ah (AK) (Ah (AK) A3)) (by decide)) (Ah (Cg (Ah (AK) (Ah (AK) A3)) (by decide)) (Ah (Cg (Ah (AK) (Ah (AK) A3)) (by decide)) (Ah (Cg (Ah (AK) (Ah (AK) A3)) (by decide)) (Ah (Cg (Ah (AK) (Ah (AK) A3)) (by decide)) (Ah (Cg (Ah (AK) (Ah (AK) A3)) (by decide)) (Ah (Cg (Ah (AK) (Ah (AK) A3)) (by decide)) A3))))))) (by decide))))
 A6)
noncomputable def V4:Names:=⟨["well","found","number","sections","left","turn","title","kind","names","at","align","size"],["range","_law_draw","list","_law_SECTIONS","len","str","COMMON"],[],[]⟩
theorem C0A(T:TopF w K h₀ mg mb):SoundF w h₀ 2 1 [] 590 Q1:=by
 refine BV T.gd.toBase (T.defs 3 _ rfl) (N:=V4) (by left) (n:=1) ?_
 have e:bdS (fnS 56)=[_,_,_]:=rfl
 show SoundB w h₀ 1 [] V4 (bdS (fnS 56)) Qd
 rw [e]
 unfold Qd M6 M5 M4 M3
 with_reducible exact (Ai (Es (by left) (SoundA.list A3 (by decide)))
 (Ai (SoundS.for (TgR.one (by left)) (MG T.gd.toBase (MT T (As (i:=0) (by left))) (AN Bw AF (BS T.gd (DS T (As (i:=1) (by left))) ((DO T).lift (by decide)) (Ah Ad (Ah AF A3)) (by left) (λ_ h=>h) Am)) (λ_=>by left)) (Ai (Es (by left) (SoundA.list (Ah (Cg (Ah (AK) (Ah (AK) (Ah (BD (DQ T.gd.toBase (SoundA.list (Ah AF (Ah AF (Ah AF (Ah AF A3)))) (by decide))) (BS T.gd (DS T (As (i:=1) (by left))) ((DO T).lift (by decide)) (Ah Ad (Ah AF A3)) (by left) (λ_ h=>h) Am)) (Ah (AN Bw AF (BS T.gd (DS T (As (i:=1) (by left))) ((DO T).lift (by decide)) (Ah Ad (Ah AF A3)) (by left) (λ_ h=>h) Am)) A3)))) (by decide)) A3) (by decide)))
 (Ai (Ci (SoundC.all (Ke (Bq Nf Ad AF) (MD (Bq Ct (BS T.gd (DS T (As (i:=1) (by left))) ((DO T).lift (by decide)) (Ah Ad (Ah AF A3)) (by left) (λ_ h=>h) Am) AF)))) (Ai (Es (by left) (SoundA.list A3 (by decide)))
 A6) A6)
 (Ai (Es (by left) (H0H T.gd.toBase (D0M T (As (i:=2) (by left))) (C0W T.gd (F0V T (As (i:=3) (by left))) ((C05 T).lift (by decide)) (λ_ h=>h)) (λ_=>by left)))
 (Ai (SoundS.for (TgR.one (by left)) (MG T.gd.toBase (MT T (As (i:=0) (by left))) (BS T.gd (DS T (As (i:=1) (by left))) ((DO T).lift (by decide)) (Ah Ad (Ah AF A3)) (by left) (λ_ h=>h) Am) (λ_=>by left)) (Ai (MK (C2 (by decide+kernel)) (I0Z ⟨λ_=>by left,λ_=>by left,by left,λ_=>by left,λ_=>by left,Dp,M09,PySem.F.type_list_pop⟩ Ad (BS T.gd (DS T (As (i:=1) (by left))) ((DO T).lift (by decide)) (Ah Ad (Ah (Sound.call1 T.gd.toBase (Hg T (As (i:=4) (by left))) Hv Ad (λ_=>by left)) A3)) (by left) (λ_ h=>h) Am)) (λ_=>by left) (λ_=>by left))
 (Ai (SoundS.append ⟨λ_=>by left,λ_=>by left,by left,λ_=>by left,λ_=>by left,Dp,Dv,D2⟩ Ad (Cg (Ah Ad (Ah Ad (Ah (BD (DQ T.gd.toBase (SoundA.list (Ah AF (Ah AF (Ah AF (Ah AF (Ah AF A3))))) (by decide))) (BS T.gd (DS T (As (i:=1) (by left))) ((DO T).lift (by decide)) (Ah Ad (Ah AF A3)) (by left) (λ_ h=>h) Am)) (Ah (BS T.gd (DS T (As (i:=1) (by left))) ((DO T).lift (by decide)) (Ah Ad (Ah AF A3)) (by left) (λ_ h=>h) Am) A3)))) (by decide)) (λ_ h=>h) (λ_ h=>h) Cu)
 A6)))
 (Ai (Es (by left) (D0a (Bq Ct Ad AF) (SoundA.list (Ah (Cg (Ah (AK) (Ah (AK) (Ah AF (Ah AF A3)))) (by decide)) A3) (by decide)) (SoundA.list A3 (by decide))))
 (Ai (SoundS.for (TgR.one (by left)) (MG T.gd.toBase (MT T (As (i:=0) (by left))) (IL (Bq (IZ T.gd.toBase) Ad (DQ T.gd.toBase (SoundA.list A3 (by decide)))) (BS T.gd (DS T (As (i:=1) (by left))) ((DO T).lift (by decide)) (Ah Ad (Ah AF A3)) (by left) (λ_ h=>h) Am) AF) (λ_=>by left)) (Ai (MK (C2 (by decide+kernel)) (BD Ad (BS T.gd (DS T (As (i:=1) (by left))) ((DO T).lift (by decide)) (Ah Ad (Ah (Sound.call1 T.gd.toBase (Hg T (As (i:=4) (by left))) Hv Ad (λ_=>by left)) A3)) (by left) (λ_ h=>h) Am)) (λ_=>by left) (λ_=>by left))
 (Ai (SoundS.append ⟨λ_=>by left,λ_=>by left,by left,λ_=>by left,λ_=>by left,Dp,Dv,D2⟩ Ad (Cg (Ah (AN Bw (BD (DQ T.gd.toBase (SoundA.list (Ah (AK) (Ah (AK) (Ah (AK) A3))) (by decide))) (BS T.gd (DS T (As (i:=1) (by left))) ((DO T).lift (by decide)) (Ah Ad (Ah AF A3)) (by left) (λ_ h=>h) Am)) (Sound.callT T.gd.toBase (MV T (As (i:=5) (by left))) NR (AN Bw (AN Iq AF Ad) Ad) (λ_=>by left))) (Ah Ad (Ah (BS T.gd (DS T (As (i:=1) (by left))) ((DO T).lift (by decide)) (Ah Ad (Ah (AN Bw Ad AF) A3)) (by left) (λ_ h=>h) Am) (Ah AF A3)))) (by decide)) (λ_ h=>h) (λ_ h=>h) Cu)
 A6)))
 (Ai (SoundS.for (TgR.one (by left)) (MG T.gd.toBase (MT T (As (i:=0) (by left))) (BS T.gd (DS T (As (i:=1) (by left))) ((DO T).lift (by decide)) (Ah Ad (Ah AF A3)) (by left) (λ_ h=>h) Am) (λ_=>by left)) (Ai (SoundS.append ⟨λ_=>by left,λ_=>by left,by left,λ_=>by left,λ_=>by left,Dp,Dv,D2⟩ Ad (Cg (Ah (AN Bw (AK) (Sound.callT T.gd.toBase (MV T (As (i:=5) (by left))) NR Ad (λ_=>by left))) (Ah (Dj T 5 (by left) (As (i:=6) (by left)) (by left)) (Ah (BD (DQ T.gd.toBase (SoundA.list (Ah AF (Ah AF (Ah AF (Ah AF A3)))) (by decide))) (BS T.gd (DS T (As (i:=1) (by left))) ((DO T).lift (by decide)) (Ah Ad (Ah AF A3)) (by left) (λ_ h=>h) Am)) (Ah (AN Bw AF (BS T.gd (DS T (As (i:=1) (by left))) ((DO T).lift (by decide)) (Ah Ad (Ah AF A3)) (by left) (λ_ h=>h) Am)) A3)))) (by decide)) (λ_ h=>h) (λ_ h=>h) Cu)
 A6))
 (Fv T.gd.toBase (Fv T.gd.toBase (Ai (SoundS.append ⟨λ_=>by left,λ_=>by left,by left,λ_=>by left,λ_=>by left,Dp,Dv,D2⟩ Ad (Cg (Ah (BD (DQ T.gd.toBase (SoundA.list (Ah (AK) (Ah (AK) (Ah (AK) A3))) (by decide))) Ad) (Ah Ad (Ah Ad A3))) (by decide)) (λ_ h=>h) (λ_ h=>h) Cu)
 A6)))))))))))
 (Fv T.gd.toBase (Ai (Cr Ad)
 A6))))
noncomputable def V6:Names:=⟨["script"],["len"],[],[]⟩
noncomputable def C0M:Names:=⟨["cell"],["int"],[],[]⟩
theorem C0C(T:TopF w K h₀ mg mb):SoundF w h₀ 1 1 [0] 576 Q2:=by
 refine BV T.gd.toBase (T.defs 1 _ rfl) (N:=V6) (by left) (n:=0) ?_
 have e:bdS (fnS 54)=[_]:=rfl
 show SoundB w h₀ 0 [0] V6 (bdS (fnS 54)) Qf
 rw [e]
 unfold Qf
 with_reducible exact (Ai (Cr (EL (C:=[0]) (SoundA.list (Ah (Lb T.gd.toBase (Hh (M:=C0M) (by decide+kernel)) (by left) (TgR.one (by left)) (Ie (by decide+kernel)) (SoundI.of (VH Ad AF (λ_ _=>by left) (λ_ _=>by left))) Rg (AN GD (Sound.callT T.gd.toBase (D0L T (As (i:=0) (by left))) I0A Ad (λ_=>by left)) AF) (λ_ h=>h) Am (λ_ _=>by left)) (Ah AF (Ah (AN Bw AF (Sound.call1 T.gd.toBase (Hg T (As (i:=0) (by left))) Hv Ad (λ_=>by left))) A3))) (by decide)) Am (by decide)))
 (A6.weak (B:=[0]) Am))
noncomputable def Vg:Names:=⟨["self","base"],["bytearray"],[],[]⟩
theorem C0o(T:TopF w K h₀ mg mb):SoundFG w h₀ 1 2 [2,3,4,5,6,7,8,9] 409 LX:=by
 refine Iy T.gd.toBase (T.defs 12 _ rfl) (N:=Vg) (by left) (n:=0) ?_
 have e:bdS (mtS 50 0)=[_,_,_,_,_,_,_,_,_,_]:=rfl
 show SoundBG w h₀ 0 [2,3,4,5,6,7,8,9] Vg (bdS (mtS 50 0)) PB
 rw [e]
 unfold PB
 with_reducible exact (BJ ((SoundS.setAttr T.gd (by left) Ad Ad).weak (B:=[2,3,4,5,6,7,8,9]) Am).g
 (BJ ((SoundS.setAttr T.gd (by left) (EL (C:=[2]) (SoundA.list A3 (by decide)) Am (by decide)) Ad).weak (B:=[2,3,4,5,6,7,8,9]) (by decide)).g
 (BJ ((SoundS.setAttr T.gd (by left) (EL (C:=[3]) SoundA.jlist Am (by decide)) Ad).weak (B:=[2,3,4,5,6,7,8,9]) (by decide)).g
 (BJ ((SoundS.setAttr T.gd (by left) (EL (C:=[4]) C0Z Am (by decide)) Ad).weak (B:=[2,3,4,5,6,7,8,9]) (by decide)).g
 (BJ ((SoundS.setAttr T.gd (by left) (EL (C:=[5]) FU Am (by decide)) Ad).weak (B:=[2,3,4,5,6,7,8,9]) (by decide)).g
 (BJ ((SoundS.setAttr T.gd (by left) (EL (C:=[6]) D0b Am (by decide)) Ad).weak (B:=[2,3,4,5,6,7,8,9]) (by decide)).g
 (BJ ((SoundS.setAttr T.gd (by left) (EL (C:=[7]) FU Am (by decide)) Ad).weak (B:=[2,3,4,5,6,7,8,9]) (by decide)).g
 (BJ ((SoundS.setAttr T.gd (by left) (EL (C:=[8]) (SoundA.list A3 (by decide)) Am (by decide)) Ad).weak (B:=[2,3,4,5,6,7,8,9]) (by decide)).g
 (BJ ((ML T.gd (by left) (MF (C:=[9]) (VJ T.gd.toBase (MS T (As (i:=0) (by left)))) Am (by decide)) Ad (λ_=>by left)).weak (B:=[2,3,4,5,6,7,8,9]) (by decide))
 (Ai ((SoundS.setAttr T.gd (by left) AF Ad).weak (B:=[2,3,4,5,6,7,8,9]) Am)
 (A6.weak (B:=[2,3,4,5,6,7,8,9]) Am)).g)))))))))
theorem C0i(T:TopF w K h₀ mg mb):SoundFG w h₀ 2 1 [1,2,3,4,5,6,7,8,9] 553 (mk 1 553 LX):=VL T.gd (T.cls 5 _ rfl).1 (T.cls 5 _ rfl).2.1 (T.cls 5 _ rfl).2.2 (C0o T) (by decide)
noncomputable def UZ:Names:=⟨["self","entry","base","octets","bss_size","symbols"],[],[],[]⟩
theorem C0h(T:TopF w K h₀ mg mb):SoundF w h₀ 1 6 [] 353 LR:=by
 refine BV T.gd.toBase (T.defs 28 _ rfl) (N:=UZ) (by left) (n:=0) ?_
 have e:bdS (mtS 46 0)=[_,_,_,_,_,_,_,_]:=rfl
 show SoundB w h₀ 0 [] UZ (bdS (mtS 46 0)) Px
 rw [e]
 unfold Px
 with_reducible exact (Ai (SoundS.setAttr T.gd (by left) Ad Ad)
 (Ai (SoundS.setAttr T.gd (by left) Ad Ad)
 (Ai (SoundS.setAttr T.gd (by left) Ad Ad)
 (Ai (SoundS.setAttr T.gd (by left) Ad Ad)
 (Ai (SoundS.setAttr T.gd (by left) Ad Ad)
 (Ai (SoundS.setAttr T.gd (by left) (DQ T.gd.toBase (SoundA.list A3 (by decide))) Ad)
 (Ai (SoundS.setAttr T.gd (by left) (DQ T.gd.toBase (SoundA.list A3 (by decide))) Ad)
 (Ai (SoundS.setAttr T.gd (by left) (DQ T.gd.toBase (SoundA.list A3 (by decide))) Ad)
 A6))))))))
theorem C0g(T:TopF w K h₀ mg mb):SoundF w h₀ 2 5 [11] 356 (mk 11 356 LR):=SoundF.mk T.gd (T.cls 3 _ rfl).1 (T.cls 3 _ rfl).2.1 (T.cls 3 _ rfl).2.2 (C0h T) (by decide)
noncomputable def Vl:Names:=⟨["self"],[],["self"],[]⟩
noncomputable def C0G:Names:=⟨["name","self"],[],[],[]⟩
theorem C0t(T:TopF w K h₀ mg mb):SoundF w h₀ 1 1 [] 428 Qt:=by
 refine BV T.gd.toBase (T.defs 15 _ rfl) (N:=Vl) (by left) (n:=0) ?_
 have e:bdS (mtS 50 3)=[_]:=rfl
 show SoundB w h₀ 0 [] Vl (bdS (mtS 50 3)) PH
 rw [e]
 unfold PH
 with_reducible exact (Ai (Cr (Lb T.gd.toBase (Hh (M:=C0G) (by decide+kernel)) (by left) (TgR.one (by left)) (Ie (by decide+kernel)) (D0g (Az T.gd Ad)) (MM (Bq (Km T.gd.toBase) Ad (Az T.gd Ad))) Ad (λ_ h=>h) Am (λ_ _=>by left)))
 A6)
noncomputable def Va:Names:=⟨["self","name"],["PROVIDED"],[],[]⟩
theorem C0j(T:TopF w K h₀ mg mb):SoundF w h₀ 2 1 [] 435 Qn:=by
 refine BV T.gd.toBase (T.defs 16 _ rfl) (N:=Va) (by left) (n:=1) ?_
 have e:bdS (mtS 50 4)=[_]:=rfl
 show SoundB w h₀ 1 [] Va (bdS (mtS 50 4)) Py
 rw [e]
 unfold Py
 with_reducible exact (Ai (SoundS.forNever (TgR.one (k:=1) (by left)) (SoundI.of (EK (B:=[]) T.gd (H0A T) ((C0t T).lift (by decide)) Ad (λ_ h=>h) Am (λ_=>by with_unfolding_all exact rfl))) (λ_ _=>by left))
 A6)
noncomputable def Vq:Names:=⟨["self","number","obj","found","section","fixup","at"],[],[],[]⟩
theorem C0x(T:TopF w K h₀ mg mb):SoundF w h₀ 1 3 [] 512 Qx:=by
 refine BV T.gd.toBase (T.defs 22 _ rfl) (N:=Vq) (by left) (n:=0) ?_
 have e:bdS (mtS 50 15)=[_,_,_]:=rfl
 show SoundB w h₀ 0 [] Vq (bdS (mtS 50 15)) PM
 rw [e]
 unfold PM QK
 with_reducible exact (Ai (Es (by left) FU)
 (Ai (SoundS.for (TgR.one (by left)) (SoundI.of (Az T.gd Ad)) (Ai (SoundS.forNever (TgR.one (k:=5) (by left)) (SoundI.of (Az T.gd Ad)) (λ_ _=>by left))
 A6))
 (Fv T.gd.toBase (Ai (Cr Ad)
 A6))))
noncomputable def Vv:Names:=⟨["self"],["len"],[],[]⟩
theorem JX(T:TopF w K h₀ mg mb):SoundF w h₀ 1 1 [] 137 FO:=by
 refine BV T.gd.toBase (T.defs 5 _ rfl) (N:=Vv) (by left) (n:=0) ?_
 have e:bdS (mtS 24 1)=[_]:=rfl
 show SoundB w h₀ 0 [] Vv (bdS (mtS 24 1)) PV
 rw [e]
 unfold PV
 with_reducible exact (Ai (Cr (IL (Bq Ct (Az T.gd Ad) (AK)) (Az T.gd Ad) (Sound.call1 T.gd.toBase (Hg T (As (i:=0) (by left))) Hv (Az T.gd Ad) (λ_=>by left))))
 A6)
noncomputable def Vc:Names:=⟨["self","number","obj","upper","section","start","size","fixup","width","where"],["enumerate"],[],["start","size"]⟩
theorem C0l(T:TopF w K h₀ mg mb):SoundF w h₀ 2 1 [] 505 Qp:=by
 refine BV T.gd.toBase (T.defs 23 _ rfl) (N:=Vc) (by left) (n:=1) ?_
 have e:bdS (mtS 50 14)=[_]:=rfl
 show SoundB w h₀ 1 [] Vc (bdS (mtS 50 14)) P6
 rw [e]
 unfold P6 QC QB
 with_reducible exact (Ai (SoundS.for (TgR.many (C2 (by decide+kernel))) (IP T.gd.toBase (IW T (As (i:=0) (by left))) (Az T.gd Ad) (λ_=>by left)) (Ai (BX (by left) (FT T.gd (H0E T) ((C0x T).lift (by decide)) Ad (Ah Ad (Ah Ad A3)) (by left) (λ_ h=>h) Am Am (λ_=>by left) (λ_=>by left) (λ_=>by with_unfolding_all exact rfl)))
 (Ai (SoundS.for (TgR.one (by left)) (SoundI.of (Az T.gd Ad)) (Ai (SoundS.multiR (by left) (by left) (SoundM.e (BD (Az T.gd Ad) (Cg (Ah Ad (Ah (Az T.gd Ad) A3)) (by decide))) (SoundM.e (EK (B:=[]) T.gd (K9 T) ((JX T).lift (by decide)) Ad (λ_ h=>h) Am (λ_=>by with_unfolding_all exact rfl)) SoundM.nil (λ_=>by left)) (λ_=>by left)) (λ_=>by left) (As (i:=0) (by left)) (As (i:=1) (by left)) (λ_=>Om (by left) (by left) (by left) (by left) (by left)))
 (Ai (SoundS.forNever (TgR.one (k:=7) (by left)) (SoundI.of (Az T.gd Ad)) (λ_ _=>by left))
 A6)))
 A6)))
 A6)
noncomputable def Vn:Names:=⟨["self","number","symbol"],["ABSOLUTE"],[],[]⟩
theorem UN(T:TopF w K h₀ mg mb):SoundF w h₀ 1 3 [] 463 LZ:=by
 refine BV T.gd.toBase (T.defs 20 _ rfl) (N:=Vn) (by left) (n:=0) ?_
 have e:bdS (mtS 50 8)=[_,_,_]:=rfl
 show SoundB w h₀ 0 [] Vn (bdS (mtS 50 8)) PJ
 rw [e]
 unfold PJ
 with_reducible exact (Ai (Ci (Bq Ct (Az T.gd Ad) (Dj T 6 (by left) (As (i:=0) (by left)) (by left))) IM A6)
 (Ai (Ci (Bq (Km T.gd.toBase) (Cg (Ah Ad (Ah (Az T.gd Ad) A3)) (by decide)) (Az T.gd Ad)) IM A6)
 (Ai (Cr (AN Bw (BD (Az T.gd Ad) (Cg (Ah Ad (Ah (Az T.gd Ad) A3)) (by decide))) (Az T.gd Ad)))
 A6)))
noncomputable def Vd:Names:=⟨["self","name","definition"],["SHARED","PROVIDED"],[],[]⟩
theorem UM(T:TopF w K h₀ mg mb):SoundF w h₀ 2 2 [] 470 LS:=by
 refine BV T.gd.toBase (T.defs 21 _ rfl) (N:=Vd) (by left) (n:=1) ?_
 have e:bdS (mtS 50 9)=[_,_]:=rfl
 show SoundB w h₀ 1 [] Vd (bdS (mtS 50 9)) P7
 rw [e]
 unfold P7
 with_reducible exact (Ai (Ci (Bq (Ng T.gd.toBase) Ad (Az T.gd Ad)) (Ai (BX (by left) (BD (Az T.gd Ad) Ad))
 (Ai (Ci (Bq Ct (Az T.gd Ad) (Dj T 1 (by left) (As (i:=0) (by left)) (by left))) (Ai (Cr (Az T.gd Ad))
 A6) A6)
 (Ai (Cr (FT T.gd (Yv T) ((UN T).lift (by decide)) Ad (Ah (Az T.gd Ad) (Ah (Az T.gd Ad) A3)) (by left) (λ_ h=>h) Am Am (λ_=>by left) (λ_=>by left) (λ_=>by with_unfolding_all exact rfl)))
 A6))) A6)
 (Ai D0m
 A6))
noncomputable def Ve:Names:=⟨["self","kind","names","found","number","obj","section"],["enumerate","len"],[],["names","found"]⟩
theorem C0m(T:TopF w K h₀ mg mb):SoundF w h₀ 1 2 [] 442 LU:=by
 refine BV T.gd.toBase (T.defs 17 _ rfl) (N:=Ve) (by left) (n:=0) ?_
 have e:bdS (mtS 50 5)=[_,_,_]:=rfl
 show SoundB w h₀ 0 [] Ve (bdS (mtS 50 5)) P8
 rw [e]
 unfold P8 QD Mm
 with_reducible exact (Ai (SoundS.multiR (by left) (by left) (SoundM.a FU (SoundM.a SoundA.list2 SoundM.nil (λ_=>by left)) (λ_=>by left)) (λ_=>by left) (As (i:=0) (by left)) (As (i:=1) (by left)) (λ_=>Om (by left) (by left) (by left) (by left) (by left)))
 (Ai (SoundS.for (TgR.many (C2 (by decide+kernel))) (IP T.gd.toBase (IW T (As (i:=0) (by left))) (Az T.gd Ad) (λ_=>by left)) (Ai (SoundS.for (TgR.one (by left)) (SoundI.of (Az T.gd Ad)) (Ai (Ci (Bq Ct (Az T.gd Ad) Ad) (Ai (Ci (Bq (Km T.gd.toBase) (Az T.gd Ad) Ad) (Ai (SoundS.setItem (Sound.call1 T.gd.toBase (Hg T (As (i:=1) (by left))) Hv Ad (λ_=>by left)) Ad (Az T.gd Ad))
 (Ai (D0i ⟨λ_=>by left,λ_=>by left,by left,λ_=>by left,λ_=>by left,Dp,Dv,D2⟩ Ad Cu (λ_=>by left))
 A6)) A6)
 (Ai (SoundS.appendAt ⟨λ_=>by left,λ_=>by left,by left,λ_=>by left,λ_=>by left,Dp,Dv,D2⟩ Ad (BD Ad (Az T.gd Ad)) (by left) (by left) (by left) (by left) (by left) (by left) (λ_=>by left) (λ_ _=>by left) Cu (λ_=>by left))
 A6)) A6)
 A6))
 A6))
 (Fv T.gd.toBase (Ai (Cr Ad)
 A6))))
noncomputable def Vj:Names:=⟨["self","at","name","definition"],["SHARED","max","COMMON"],[],[]⟩
theorem C0r(T:TopF w K h₀ mg mb):SoundF w h₀ 1 2 [] 456 Qr:=by
 refine BV T.gd.toBase (T.defs 18 _ rfl) (N:=Vj) (by left) (n:=0) ?_
 have e:bdS (mtS 50 7)=[_,_]:=rfl
 show SoundB w h₀ 0 [] Vj (bdS (mtS 50 7)) PF
 rw [e]
 unfold PF JZ
 with_reducible exact (Ai (D0k T.gd.toBase ⟨λ_=>by left,by left,GU,OS,B0c⟩ (C2 (by decide+kernel)) (Az T.gd Ad) (Ai (Ci (Bq Ct (Az T.gd Ad) (Dj T 1 (by left) (As (i:=0) (by left)) (by left))) (Ai (BX (by left) (AN Bw Ad (AN GD (Rc SY Ad) (Kc T.gd.toBase (Ki T (As (i:=1) (by left))) KS AF (Az T.gd Ad) (λ_=>by left) (λ_=>by left)))))
 (Ai (SoundS.setAttr T.gd (by left) Ad Ad)
 (Ai (SoundS.append ⟨λ_=>by left,λ_=>by left,by left,λ_=>by left,λ_=>by left,Dp,Dv,D2⟩ (Az T.gd Ad) (Cg (Ah (Dj T 5 (by left) (As (i:=2) (by left)) (by left)) (Ah Ad (Ah Ad (Ah (Az T.gd Ad) A3)))) (by decide)) (λ_ h=>h) (λ_ h=>h) Cu)
 (Ai (BX (by left) (AN Bw Ad (Az T.gd Ad)))
 A6)))) A6)
 A6) (λ_ _=>by left))
 (Ai (Cr Ad)
 A6))
noncomputable def Vi:Names:=⟨["self","at","kind","group","number","section","obj","start"],["SECTION_KINDS","KIND_ALIGN","MEMORY_END","bytearray","enumerate"],[],[]⟩
theorem C0q(T:TopF w K h₀ mg mb):SoundFG w h₀ 2 1 [19] 449 Qq:=by
 refine Iy T.gd.toBase (T.defs 19 _ rfl) (N:=Vi) (by left) (n:=1) ?_
 have e:bdS (mtS 50 6)=[_,_,_,_,_,_]:=rfl
 show SoundBG w h₀ 1 [19] Vi (bdS (mtS 50 6)) PE
 rw [e]
 unfold PE Mr Mq Mp Mo Mn
 with_reducible exact (BJ ((BX (by left) (Az T.gd Ad)).weak (B:=[19]) Am).g
 (BJ ((SoundS.for (TgR.one (by left)) (SoundI.of (Dj T 8 (by left) (As (i:=0) (by left)) (by left))) (Ai (BX (by left) (AN Bw Ad (AN GD (Rc SY Ad) (Dj T 3 (by left) (As (i:=1) (by left)) (by left)))))
 (Ai (Ci (Bq Ct Ad (AK)) (Ai (SoundS.setItem Ad (Az T.gd Ad) (AK))
 A6) A6)
 (Ai (SoundS.for (TgR.one (by left)) (SoundI.of (FT T.gd (H04 T) ((C0m T).lift (by decide)) Ad (Ah Ad A3) (by left) (λ_ h=>h) Am Am (λ_=>by left) (λ_=>by left) (λ_=>by with_unfolding_all exact rfl))) (Ai (SoundS.for (TgR.many (C2 (by decide+kernel))) (SoundI.of Ad) (Ai (BX (by left) (AN Bw Ad (AN GD (Rc SY Ad) (Az T.gd Ad))))
 (Ai (SoundS.setItem Ad (Az T.gd Ad) (Cg (Ah Ad (Ah (Az T.gd Ad) A3)) (by decide)))
 (Ai (SoundS.append ⟨λ_=>by left,λ_=>by left,by left,λ_=>by left,λ_=>by left,Dp,Dv,D2⟩ (Az T.gd Ad) (Cg (Ah (Az T.gd Ad) (Ah (Az T.gd (BD (Az T.gd Ad) Ad)) (Ah Ad (Ah (EK (B:=[]) T.gd (K9 T) ((JX T).lift (by decide)) Ad (λ_ h=>h) Am (λ_=>by with_unfolding_all exact rfl)) A3)))) (by decide)) (λ_ h=>h) (λ_ h=>h) Cu)
 (Ai (BX (by left) (AN Bw Ad (EK (B:=[]) T.gd (K9 T) ((JX T).lift (by decide)) Ad (λ_ h=>h) Am (λ_=>by with_unfolding_all exact rfl))))
 A6)))))
 A6))
 (Ai (Ci (Bq Ct Ad (AK)) (Ai (BX (by left) (FT T.gd (H08 T) ((C0r T).lift (by decide)) Ad (Ah Ad A3) (by left) (λ_ h=>h) Am Am (λ_=>by left) (λ_=>by left) (λ_=>by with_unfolding_all exact rfl)))
 A6) A6)
 (Ai (SoundS.setItem Ad (Az T.gd Ad) (Sound.meth2 ⟨λ_=>by left,λ_=>by left,by left,λ_=>by left,λ_=>by left,GU,OQ,B0b⟩ Kz (Zg T.gd.toBase) (DQ T.gd.toBase (SoundA.dict [[95,101,116,101,120,116],[95,101,100,97,116,97],[95,101,110,100]] (by left) (by with_unfolding_all exact (.cons (by left) (by left) (.cons (by left) (by left) (.cons (by left) (by left) .nil)))) (by left) (by left) (λh=>nomatch h) (by decide) (by decide+kernel))) Ad (AK) (λ_=>by left)))
 A6)))))).weak (B:=[19]) Am).g
 (BJ ((Ci (Bq Nf Ad (Dj T 4 (by left) (As (i:=2) (by left)) (by left))) IM A6).weak (B:=[19]) Am).g
 (BJ ((SoundS.setAttr T.gd (by left) (AN KU Ad (BD (Az T.gd Ad) (AK))) Ad).weak (B:=[19]) Am).g
 (BJ (ML T.gd (by left) (MF (C:=[19]) (SoundAG.ba T.gd.toBase (MS T (As (i:=3) (by left))) (AN KU (BD (Az T.gd Ad) (AK)) (Az T.gd Ad)) (λ_=>by left)) Am (by decide)) Ad (λ_=>by left))
 (Ai ((SoundS.for (TgR.many (C2 (by decide+kernel))) (IP T.gd.toBase (IW T (As (i:=4) (by left))) (Az T.gd Ad) (λ_=>by left)) (Ai (SoundS.for (TgR.one (by left)) (SoundI.of (Az T.gd Ad)) (Ai (Ci (Bq (IZ T.gd.toBase) (Az T.gd Ad) (AK)) (Ai (BX (by left) (AN KU (BD (Az T.gd Ad) (Cg (Ah Ad (Ah (Az T.gd Ad) A3)) (by decide))) (Az T.gd Ad)))
 (Ai (SoundS.setSlice (Az T.gd Ad) (Az T.gd Ad) Ad (AN Bw Ad (EK (B:=[]) T.gd (K9 T) ((JX T).lift (by decide)) Ad (λ_ h=>h) Am (λ_=>by with_unfolding_all exact rfl))) (λ_=>by left))
 A6)) A6)
 A6))
 A6)).weak (B:=[19]) Am)
 (A6.weak (B:=[19]) Am)).g)))))
noncomputable def Vk:Names:=⟨["self","found","number","obj","start","size"],["enumerate","sorted"],["obj","start","size"],[]⟩
theorem C0s(T:TopF w K h₀ mg mb):SoundF w h₀ 1 1 [] 531 Qs:=by
 refine BV T.gd.toBase (T.defs 25 _ rfl) (N:=Vk) (by left) (n:=0) ?_
 have e:bdS (mtS 50 18)=[_,_,_]:=rfl
 show SoundB w h₀ 0 [] Vk (bdS (mtS 50 18)) PG
 rw [e]
 unfold PG QE
 with_reducible exact (Ai (Es (by left) (SoundA.list A3 (by decide)))
 (Ai (SoundS.for (TgR.many (C2 (by decide+kernel))) (IP T.gd.toBase (IW T (As (i:=0) (by left))) (Az T.gd Ad) (λ_=>by left)) (Ai (Ci (Bq (IZ T.gd.toBase) (Az T.gd Ad) (DQ T.gd.toBase (SoundA.list A3 (by decide)))) IM A6)
 A6))
 (Ai (Cr (Sound.call1 T.gd.toBase (MU T (As (i:=1) (by left))) (NQ T.gd.toBase) Ad (λ_=>by left)))
 A6)))
noncomputable def Vh:Names:=⟨["self","number","name"],[],[],[]⟩
theorem C0p(T:TopF w K h₀ mg mb):SoundF w h₀ 1 3 [] 543 LY:=by
 refine BV T.gd.toBase (T.defs 26 _ rfl) (N:=Vh) (by left) (n:=0) ?_
 have e:bdS (mtS 50 20)=[_]:=rfl
 show SoundB w h₀ 0 [] Vh (bdS (mtS 50 20)) PD
 rw [e]
 unfold PD
 with_reducible exact (Ai (Cr (VF (HQ (Ng T.gd.toBase) Ad (Az T.gd Ad) (by left)) (HQ Ct (Az T.gd (BD (Az T.gd Ad) Ad)) Ad (by left))))
 A6)
noncomputable def Vm:Names:=⟨["self","found","number","obj","code","symbol","is_own","is_within"],["enumerate","sorted"],[],["code"]⟩
noncomputable def C0H:Names:=⟨["section"],[],[],[]⟩
theorem C0u(T:TopF w K h₀ mg mb):SoundF w h₀ 2 1 [] 536 Qu:=by
 refine BV T.gd.toBase (T.defs 27 _ rfl) (N:=Vm) (by left) (n:=1) ?_
 have e:bdS (mtS 50 19)=[_,_,_]:=rfl
 show SoundB w h₀ 1 [] Vm (bdS (mtS 50 19)) PI
 rw [e]
 unfold PI QF Ka
 with_reducible exact (Ai (Es (by left) (SoundA.list A3 (by decide)))
 (Ai (SoundS.for (TgR.many (C2 (by decide+kernel))) (IP T.gd.toBase (IW T (As (i:=0) (by left))) (Az T.gd Ad) (λ_=>by left)) (Ai (D0n T.gd.toBase (by left) (As (i:=0) (by left)) (by left) (by left) (Hh (M:=C0H) (by decide+kernel)) (by left) (TgR.one (by left)) (Ie (by decide+kernel)) (SoundI.of (Az T.gd Ad)) (MM (Bq Ct (Az T.gd Ad) (AK))) (Az T.gd Ad) (EK (B:=[]) T.gd (K9 T) ((JX T).lift (by decide)) Ad (λ_ h=>h) Am (λ_=>by with_unfolding_all exact rfl)) (λ_ h=>h) (λ_ _=>by left))
 (Ai (SoundS.for (TgR.one (by left)) (SoundI.of (Az T.gd Ad)) (Ai (BX (by left) (C0V (HQ Ct (Az T.gd Ad) (AK) (by left)) (FT T.gd (H06 T) ((C0p T).lift (by decide)) Ad (Ah Ad (Ah (Az T.gd Ad) A3)) (by left) (λ_ h=>h) Am Am (λ_=>by left) (λ_=>by left) (λ_=>by with_unfolding_all exact rfl))))
 (Ai (BX (by left) (VF (HQ (Ng T.gd.toBase) (Az T.gd Ad) Ad (by left)) (HQ RK (Az T.gd Ad) (BD Ad (Az T.gd Ad)) (by left))))
 (Ai (Ci (SoundC.all (Ke (SoundC.val Ad (λ_ _=>by left)) (Ke (SoundC.val Ad (λ_ _=>by left)) (MD (SoundC.not (SoundC.val (Sound.meth1 ⟨λ_=>by left,λ_=>by left,by left,λ_=>by left,λ_=>by left,Uj,PySem.F.slot_str_startswith,PySem.F.type_str_startswith⟩ N2 I0E (Az T.gd Ad) (AK)) (λ_ _=>by left))))))) (Ai (SoundS.append ⟨λ_=>by left,λ_=>by left,by left,λ_=>by left,λ_=>by left,Dp,Dv,D2⟩ Ad (Cg (Ah (FT T.gd (Yv T) ((UN T).lift (by decide)) Ad (Ah Ad (Ah Ad A3)) (by left) (λ_ h=>h) Am Am (λ_=>by left) (λ_=>by left) (λ_=>by with_unfolding_all exact rfl)) (Ah (Az T.gd Ad) A3)) (by decide)) (λ_ h=>h) (λ_ h=>h) Cu)
 A6) A6)
 A6))))
 A6)))
 (Ai (Cr (Sound.call1 T.gd.toBase (MU T (As (i:=1) (by left))) (NQ T.gd.toBase) Ad (λ_=>by left)))
 A6)))
noncomputable def Vo:Names:=⟨["self","found","name"],["sorted","PROVIDED"],[],[]⟩
theorem C0v(T:TopF w K h₀ mg mb):SoundF w h₀ 3 1 [] 526 Qv:=by
 refine BV T.gd.toBase (T.defs 24 _ rfl) (N:=Vo) (by left) (n:=2) ?_
 have e:bdS (mtS 50 17)=[_,_,_,_]:=rfl
 show SoundB w h₀ 2 [] Vo (bdS (mtS 50 17)) PK
 rw [e]
 unfold PK QH QG
 with_reducible exact (Ai (Es (by left) FU)
 (Ai (SoundS.for (TgR.one (by left)) (SoundI.of (Sound.call1 T.gd.toBase (MU T (As (i:=0) (by left))) (NQ T.gd.toBase) (Az T.gd Ad) (λ_=>by left))) (Ai (SoundS.setItem (FT T.gd (Yu T) ((UM T).lift (by decide)) Ad (Ah Ad A3) (by left) (λ_ h=>h) Am Am (λ_=>by left) (λ_=>by left) (λ_=>by with_unfolding_all exact rfl)) Ad Ad)
 A6))
 (Ai (SoundS.for (TgR.one (by left)) (SoundI.of (Dj T 9 (by left) (As (i:=1) (by left)) (by left))) (Ai (Ci (Bq (Km T.gd.toBase) Ad Ad) (Ai (SoundS.setItem (BD (Az T.gd Ad) Ad) Ad Ad)
 A6) A6)
 A6))
 (Fv T.gd.toBase (Ai (Cr Ad)
 A6)))))
noncomputable def Vf:Names:=⟨["self","entry","found"],["Image","bytes"],[],[]⟩
theorem C0n(T:TopF w K h₀ mg mb):SoundFG w h₀ 4 2 [11,19] 550 LV:=by
 refine Iy T.gd.toBase (T.defs 29 _ rfl) (N:=Vf) (by left) (n:=3) ?_
 have e:bdS (mtS 50 21)=[_,_,_,_,_,_,_,_]:=rfl
 show SoundBG w h₀ 3 [11,19] Vf (bdS (mtS 50 21)) P9
 rw [e]
 unfold P9
 with_reducible exact (BJ ((MH (EK (B:=[]) T.gd (H01 T) ((C0j T).lift (by decide)) Ad (λ_ h=>h) Am (λ_=>by with_unfolding_all exact rfl)) Cu (λ_=>by left)).weak (B:=[11,19]) Am).g
 (BJ ((D0o (D0f (B:=[]) T.gd (H07 T) ((C0q T).lift (by decide)) Ad (λ_ h=>h) Am (λ_=>by with_unfolding_all exact rfl)) Cu (λ_=>by left)).weak (B:=[11,19]) (by decide))
 (FX T.gd.toBase (Ai ((MH (EK (B:=[]) T.gd (H03 T) ((C0l T).lift (by decide)) Ad (λ_ h=>h) Am (λ_=>by with_unfolding_all exact rfl)) Cu (λ_=>by left)).weak (B:=[11,19]) Am)
 (Ai ((BX (by left) (BS T.gd (F0R T (As (i:=0) (by left))) ((C0g T).lift (by decide)) (Ah (FT T.gd (Yu T) ((UM T).lift (by decide)) Ad (Ah Ad A3) (by left) (λ_ h=>h) Am Am (λ_=>by left) (λ_=>by left) (λ_=>by with_unfolding_all exact rfl)) (Ah (Az T.gd Ad) (Ah (Sound.callT T.gd.toBase (D0J T (As (i:=1) (by left))) I09 (Az T.gd Ad) (λ_=>by left)) (Ah (Az T.gd Ad) (Ah (EK (B:=[]) T.gd (H0C T) ((C0v T).lift (by decide)) Ad (λ_ h=>h) Am (λ_=>by with_unfolding_all exact rfl)) A3))))) (by left) (λ_ h=>h) Am)).weak (B:=[11,19]) (by decide))
 (Ai ((SoundS.setAttr T.gd (by left) (Az T.gd Ad) Ad).weak (B:=[11,19]) Am)
 (Ai ((SoundS.setAttr T.gd (by left) (EK (B:=[]) T.gd (H09 T) ((C0s T).lift (by decide)) Ad (λ_ h=>h) Am (λ_=>by with_unfolding_all exact rfl)) Ad).weak (B:=[11,19]) Am)
 (Ai ((SoundS.setAttr T.gd (by left) (EK (B:=[]) T.gd (H0B T) ((C0u T).lift (by decide)) Ad (λ_ h=>h) Am (λ_=>by with_unfolding_all exact rfl)) Ad).weak (B:=[11,19]) Am)
 (FX T.gd.toBase (Ai ((Cr Ad).weak (B:=[11,19]) Am)
 (A6.weak (B:=[11,19]) Am))))))))).g))
noncomputable def UY:Names:=⟨["self","rank","number","symbol"],["SHARED"],[],[]⟩
theorem C0f(T:TopF w K h₀ mg mb):SoundF w h₀ 1 4 [] 374 LQ:=by
 refine BV T.gd.toBase (T.defs 10 _ rfl) (N:=UY) (by left) (n:=0) ?_
 have e:bdS (mtS 47 0)=[_,_,_,_,_,_]:=rfl
 show SoundB w h₀ 0 [] UY (bdS (mtS 47 0)) Pw
 rw [e]
 unfold Pw
 with_reducible exact (Ai (SoundS.setAttr T.gd (by left) Ad Ad)
 (Ai (SoundS.setAttr T.gd (by left) Ad Ad)
 (Ai (SoundS.setAttr T.gd (by left) Ad Ad)
 (Ai (SoundS.setAttr T.gd (by left) (Az T.gd Ad) Ad)
 (Ai (SoundS.setAttr T.gd (by left) (IL (Bq Ct Ad (Dj T 1 (by left) (As (i:=0) (by left)) (by left))) (Az T.gd Ad) AF) Ad)
 (Ai (SoundS.setAttr T.gd (by left) AF Ad)
 A6))))))
theorem C0e(T:TopF w K h₀ mg mb):SoundF w h₀ 2 3 [10] 377 (mk 10 377 LQ):=SoundF.mk T.gd (T.cls 4 _ rfl).1 (T.cls 4 _ rfl).2.1 (T.cls 4 _ rfl).2.2 (C0f T) (by decide)
noncomputable def Vb:Names:=⟨["self","new","name","old"],["STRONG","SHARED","max"],[],[]⟩
theorem C0k(T:TopF w K h₀ mg mb):SoundF w h₀ 1 2 [4] 423 Qo:=by
 refine BV T.gd.toBase (T.defs 13 _ rfl) (N:=Vb) (by left) (n:=0) ?_
 have e:bdS (mtS 50 2)=[_,_,_]:=rfl
 show SoundB w h₀ 0 [4] Vb (bdS (mtS 50 2)) Pz
 rw [e]
 unfold Pz
 with_reducible exact (Ai ((BX (by left) (Az T.gd (Az T.gd Ad))).weak (B:=[4]) Am)
 (Ai ((BX (by left) (Sound.meth1 ⟨λ_=>by left,λ_=>by left,by left,λ_=>by left,λ_=>by left,GU,OQ,B0b⟩ Kz (I0C T.gd.toBase) (Az T.gd Ad) Ad)).weak (B:=[4]) Am)
 (Ai (Ci ((Bq E0V Ad C0Y).weak (B:=[4]) Am) (Ai (SoundS.setInst ((Ad).weak (B:=[4]) Am) (Az T.gd Ad) Ad (λ_=>by left) (by decide))
 (A6.weak (B:=[4]) Am)) (Ai (Ci ((SoundC.all (Ke (Bq Ct (Az T.gd Ad) (Dj T 0 (by left) (As (i:=0) (by left)) (by left))) (MD (Bq Ct (Az T.gd Ad) (Dj T 0 (by left) (As (i:=0) (by left)) (by left)))))).weak (B:=[4]) Am) IM (Ai (Ci ((SoundC.all (Ke (Bq Ct (Az T.gd Ad) (Dj T 1 (by left) (As (i:=1) (by left)) (by left))) (MD (Bq Ct (Az T.gd Ad) (Dj T 1 (by left) (As (i:=1) (by left)) (by left)))))).weak (B:=[4]) Am) ((Ai (SoundS.setAttr T.gd (by left) (Kc T.gd.toBase (Ki T (As (i:=2) (by left))) KS (Az T.gd Ad) (Az T.gd Ad) (λ_=>by left) (λ_=>by left)) Ad)
 (Ai (SoundS.setAttr T.gd (by left) (Kc T.gd.toBase (Ki T (As (i:=2) (by left))) KS (Az T.gd Ad) (Az T.gd Ad) (λ_=>by left) (λ_=>by left)) Ad)
 A6)).weak (B:=[4]) Am) (Ai (Ci ((Bq Nf (Az T.gd Ad) (Az T.gd Ad)).weak (B:=[4]) Am) (Ai (SoundS.setInst ((Ad).weak (B:=[4]) Am) (Az T.gd Ad) Ad (λ_=>by left) (by decide))
 (A6.weak (B:=[4]) Am)) ((A6).weak (B:=[4]) Am))
 (A6.weak (B:=[4]) Am)))
 (A6.weak (B:=[4]) Am)))
 (A6.weak (B:=[4]) Am)))
 (A6.weak (B:=[4]) Am))))
noncomputable def Vt:Names:=⟨["self"],["UNDEFINED"],[],[]⟩
theorem C01(T:TopF w K h₀ mg mb):SoundF w h₀ 1 1 [] 172 Qz:=by
 refine BV T.gd.toBase (T.defs 7 _ rfl) (N:=Vt) (by left) (n:=0) ?_
 have e:bdS (mtS 25 1)=[_]:=rfl
 show SoundB w h₀ 0 [] Vt (bdS (mtS 25 1)) PT
 rw [e]
 unfold PT
 with_reducible exact (Ai (Cr (HQ (IZ T.gd.toBase) (Az T.gd Ad) (Dj T 7 (by left) (As (i:=0) (by left)) (by left)) (by left)))
 A6)
noncomputable def V9:Names:=⟨["symbol"],["COMMON","SHARED","WEAK","STRONG"],[],[]⟩
theorem C0F(T:TopF w K h₀ mg mb):SoundF w h₀ 1 1 [] 388 Q3:=by
 refine BV T.gd.toBase (T.defs 11 _ rfl) (N:=V9) (by left) (n:=0) ?_
 have e:bdS (fnS 48)=[_,_]:=rfl
 show SoundB w h₀ 0 [] V9 (bdS (fnS 48)) Qj
 rw [e]
 unfold Qj
 with_reducible exact (Ai (Ci (Bq Ct (Az T.gd Ad) (Dj T 5 (by left) (As (i:=0) (by left)) (by left))) (Ai (Cr (Dj T 1 (by left) (As (i:=1) (by left)) (by left)))
 A6) A6)
 (Ai (Cr (IL (Bq Ct (Az T.gd Ad) (AK)) (Dj T 2 (by left) (As (i:=2) (by left)) (by left)) (Dj T 0 (by left) (As (i:=3) (by left)) (by left))))
 A6))
noncomputable def Vp:Names:=⟨["self","obj","number","table","symbol"],["len","Definition","rank_of"],[],["number","table"]⟩
theorem C0w(T:TopF w K h₀ mg mb):SoundF w h₀ 3 2 [4,10] 416 Qw:=by
 refine BV T.gd.toBase (T.defs 14 _ rfl) (N:=Vp) (by left) (n:=2) ?_
 have e:bdS (mtS 50 1)=[_,_,_,_]:=rfl
 show SoundB w h₀ 2 [4,10] Vp (bdS (mtS 50 1)) PL
 rw [e]
 unfold PL II
 with_reducible exact (Ai ((SoundS.multiR (by left) (by left) (SoundM.e (Sound.call1 T.gd.toBase (Hg T (As (i:=0) (by left))) Hv (Az T.gd Ad) (λ_=>by left)) (SoundM.a FU SoundM.nil (λ_=>by left)) (λ_=>by left)) (λ_=>by left) (As (i:=0) (by left)) (As (i:=1) (by left)) (λ_=>Om (by left) (by left) (by left) (by left) (by left))).weak (B:=[4,10]) Am)
 (Ai ((SoundS.append ⟨λ_=>by left,λ_=>by left,by left,λ_=>by left,λ_=>by left,Dp,Dv,D2⟩ (Az T.gd Ad) Ad (λ_ h=>h) (λ_ h=>h) Cu).weak (B:=[4,10]) Am)
 (Ai ((SoundS.append ⟨λ_=>by left,λ_=>by left,by left,λ_=>by left,λ_=>by left,Dp,Dv,D2⟩ (Az T.gd Ad) Ad (λ_ h=>h) (λ_ h=>h) Cu).weak (B:=[4,10]) Am)
 (Ai (SoundS.for (TgR.one (by left)) ((SoundI.of (Az T.gd Ad)).weak (B:=[4,10]) Am) (Ai ((Ci (Bq (Ng T.gd.toBase) (Az T.gd Ad) Ad) IM A6).weak (B:=[4,10]) Am)
 (Ai ((SoundS.setItem Ad Ad (Az T.gd Ad)).weak (B:=[4,10]) Am)
 (Ai ((Ci (Bq Ct (Az T.gd Ad) (AK)) (Ai D0j
 A6) A6).weak (B:=[4,10]) Am)
 (Ai (Ci ((SoundC.val (EK (B:=[]) T.gd (H0F T) ((C01 T).lift (by decide)) Ad (λ_ h=>h) Am (λ_=>by with_unfolding_all exact rfl)) (λ_ _=>by left)).weak (B:=[4,10]) Am) (Ai (MH (FT T.gd (H02 T) ((C0k T).lift (by decide)) Ad (Ah (BS T.gd (F0Q T (As (i:=1) (by left))) ((C0e T).lift (by decide)) (Ah (BS T.gd (G0f T (As (i:=2) (by left))) ((C0F T).lift (by decide)) (Ah Ad A3) (by left) (λ_ h=>h) Am) (Ah Ad (Ah Ad A3))) (by left) (λ_ h=>h) Am) A3) (by left) (by decide) (by decide) Am (λ_=>by left) (λ_=>by left) (λ_=>by with_unfolding_all exact rfl)) Cu (λ_=>by left))
 (A6.weak (B:=[4,10]) Am)) ((Ai (Ci (Bq (IZ T.gd.toBase) (Az T.gd Ad) (AK)) (Ai (SoundS.setdefault T.gd.toBase ⟨λ_=>by left,λ_=>by left,by left,λ_=>by left,λ_=>by left,GU,A0Z,M0A⟩ (Az T.gd Ad) (Az T.gd Ad) (Az T.gd Ad) (λ_=>by left) Cu (λ_=>by left))
 A6) A6)
 A6).weak (B:=[4,10]) Am))
 (A6.weak (B:=[4,10]) Am))))))
 (A6.weak (B:=[4,10]) Am)))))
noncomputable def V7:Names:=⟨["objects","entry","base","linker","obj"],["Linker"],[],[]⟩
theorem C0D(T:TopF w K h₀ mg mb):SoundFG w h₀ 5 3 [1,2,3,4,5,6,7,8,9,10,11,12,13,14,15,16,17,18,19] 564 Mg:=by
 refine Iy T.gd.toBase (T.defs 30 _ rfl) (N:=V7) (by left) (n:=4) ?_
 have e:bdS (fnS 51)=[_,_,_,_]:=rfl
 show SoundBG w h₀ 4 [1,2,3,4,5,6,7,8,9,10,11,12,13,14,15,16,17,18,19] V7 (bdS (fnS 51)) Qh
 rw [e]
 unfold Qh QO
 with_reducible exact ((BJ ((Rd (by left) (ME T.gd (F0S T (As (i:=0) (by left))) ((C0i T).lift (by decide)) (Ah Ad A3) (by left) (λ_ h=>h) Am (λ_=>by left) (λ_=>by left)) (λ_=>by left)).weak (B:=[1,2,3,4,5,6,7,8,9,10,11,19]) (by decide))
 (BJ ((SoundS.for (TgR.one (by left)) ((SoundI.of Ad).weak (B:=[4,10]) Am) (Ai (MH (FT T.gd (H0D T) ((C0w T).lift (by decide)) Ad (Ah Ad A3) (by left) (λ_ h=>h) Am Am (λ_=>by left) (λ_=>by left) (λ_=>by with_unfolding_all exact rfl)) Cu (λ_=>by left))
 (A6.weak (B:=[4,10]) Am))).weak (B:=[1,2,3,4,5,6,7,8,9,10,11,19]) (by decide)).g
 (VK T.gd.toBase (BJ ((SoundS.setdefault T.gd.toBase ⟨λ_=>by left,λ_=>by left,by left,λ_=>by left,λ_=>by left,GU,A0Z,M0A⟩ (Az T.gd Ad) Ad (AK) (λ_=>by left) Cu (λ_=>by left)).weak (B:=[1,2,3,4,5,6,7,8,9,10,11,19]) Am).g
 (VK T.gd.toBase (BJ ((D0s (D0e T.gd (H05 T) ((C0n T).lift (by decide)) Ad (Ah Ad A3) (by left) (λ_ h=>h) Am Am (λ_=>by left) (λ_=>by left) (λ_=>by with_unfolding_all exact rfl))).weak (B:=[1,2,3,4,5,6,7,8,9,10,11,19]) (by decide))
 (A6.weak (B:=[1,2,3,4,5,6,7,8,9,10,11,19]) Am).g)))))).weak (B:=[1,2,3,4,5,6,7,8,9,10,11,12,13,14,15,16,17,18,19]) (by decide))
noncomputable def V8:Names:=⟨["image","rows","section","name","at","size","named"],["hex","str","sorted"],[],[]⟩
noncomputable def C0N:Names:=⟨["name","at"],[],[],[]⟩
theorem C0E(T:TopF w K h₀ mg mb):SoundF w h₀ 1 1 [] 26 Mh:=by
 refine BV T.gd.toBase (T.defs 31 _ rfl) (N:=V8) (by left) (n:=0) ?_
 have e:bdS (fnS 2)=[_,_,_,_,_]:=rfl
 show SoundB w h₀ 0 [] V8 (bdS (fnS 2)) Qi
 rw [e]
 unfold Qi M8 M7
 with_reducible exact (Ai (Es (by left) (SoundA.list (Ah (AN Bw (AK) (Sound.call1 T.gd.toBase (Ru T (As (i:=0) (by left))) SX (Az T.gd Ad) (λ_=>by left))) A3) (by decide)))
 (Ai (SoundS.for (TgR.many (C2 (by decide+kernel))) (SoundI.of (Az T.gd Ad)) (Ai (SoundS.append ⟨λ_=>by left,λ_=>by left,by left,λ_=>by left,λ_=>by left,Dp,Dv,D2⟩ Ad (AN Bw (AN Bw (AN Bw (AN Bw (AN Bw (AN Bw (Sound.call1 T.gd.toBase (Ru T (As (i:=0) (by left))) SX Ad (λ_=>by left)) (AK)) (Sound.callT T.gd.toBase (MV T (As (i:=1) (by left))) NR Ad (λ_=>by left))) (AK)) Ad) (AK)) Ad) (λ_ h=>h) (λ_ h=>h) Cu)
 A6))
 (Ai (BX (by left) (Sound.call1 T.gd.toBase (MU T (As (i:=2) (by left))) (NQ T.gd.toBase) (Lb T.gd.toBase (Hh (M:=C0N) (by decide+kernel)) (by left) (TgR.many (C2 (by decide+kernel))) (Ie (by decide+kernel)) (VM ⟨λ_=>by left,by left,GU,OS,B0c⟩ (Az T.gd Ad)) Rg (Cg (Ah Ad (Ah Ad A3)) (by decide)) (λ_ h=>h) Am (λ_ _=>by left)) (λ_=>by left)))
 (Ai (SoundS.for (TgR.many (C2 (by decide+kernel))) (SoundI.of Ad) (Ai (SoundS.append ⟨λ_=>by left,λ_=>by left,by left,λ_=>by left,λ_=>by left,Dp,Dv,D2⟩ Ad (AN Bw (AN Bw (Sound.call1 T.gd.toBase (Ru T (As (i:=0) (by left))) SX Ad (λ_=>by left)) (AK)) Ad) (λ_ h=>h) (λ_ h=>h) Cu)
 A6))
 (Ai (Cr (AN Bw (Sound.meth1 ⟨λ_=>by left,λ_=>by left,by left,λ_=>by left,λ_=>by left,Uj,B0a,B0d⟩ N2 Ta (AK) Ad) (AK)))
 A6)))))
noncomputable def Vw:Names:=⟨["script","well","plan","base","objects","shown"],["_law_well","_law_plan","_law_draw","map_text","link_objects","_law_due"],[],["plan","base","objects"]⟩
noncomputable def C0I:Names:=⟨["title","sections","names"],["_law_object"],[],[]⟩
theorem C04(T:TopF w K h₀ mg mb):SoundFG w h₀ 6 1 [0,1,2,3,4,5,6,7,8,9,10,11,12,13,14,15,16,17,18,19,20] 633 UC:=by
 refine Iy T.gd.toBase (T.defs 37 _ rfl) (N:=Vw) (by left) (n:=5) ?_
 have e:bdS (fnS 63)=[_,_,_,_,_]:=rfl
 show SoundBG w h₀ 5 [0,1,2,3,4,5,6,7,8,9,10,11,12,13,14,15,16,17,18,19,20] Vw (bdS (fnS 63)) Qg
 rw [e]
 unfold Qg
 with_reducible exact (BJ ((BX (by left) (BS T.gd (G0c T (As (i:=0) (by left))) ((C0C T).lift (by decide)) (Ah Ad A3) (by left) (λ_ h=>h) Am)).weak (B:=[0,1,2,3,4,5,6,7,8,9,10,11,12,13,14,15,16,17,18,19,20]) (by decide)).g
 (BJ ((SoundS.multiR (by left) (by left) (SoundM.e (BS T.gd (G0a T (As (i:=1) (by left))) ((C0A T).lift (by decide)) (Ah Ad A3) (by left) (λ_ h=>h) Am) (SoundM.e (BD (DQ T.gd.toBase (SoundA.list (Ah AF (Ah AF (Ah AF (Ah AF (Ah AF (Ah AF A3)))))) (by decide))) (BS T.gd (DS T (As (i:=2) (by left))) ((DO T).lift (by decide)) (Ah Ad (Ah AF A3)) (by left) (λ_ h=>h) Am)) SoundM.nil (λ_=>by left)) (λ_=>by left)) (λ_=>by left) (As (i:=0) (by left)) (As (i:=1) (by left)) (λ_=>Om (by left) (by left) (by left) (by left) (by left))).weak (B:=[0,1,2,3,4,5,6,7,8,9,10,11,12,13,14,15,16,17,18,19,20]) Am).g
 (BJ ((D0r (by left) (As (i:=2) (by left)) (by left) (by left) (Hh (M:=C0I) (by decide+kernel)) (by left) (TgR.many (C2 (by decide+kernel))) (Ie (by decide+kernel)) (SoundI.of Ad) ((Rg).weak Am) (ME T.gd (F0Z T (As (i:=0) (by left))) ((C09 T).lift (by decide)) (Ah Ad (Ah Ad (Ah Ad A3))) (by left) (λ_ h=>h) Am (λ_=>by left) (λ_=>by left)) (λ_ h=>h) Am (λ_ _=>by left)).weak (B:=[0,1,2,3,4,5,6,7,8,9,10,11,12,13,14,15,16,17,18,19,20]) (by decide))
 (BJ ((Rd (by left) (D0d T.gd (G0e T (As (i:=3) (by left))) ((C0E T).lift (by decide)).g (ME T.gd (G0d T (As (i:=4) (by left))) ((C0D T).lift (by decide)) (Ah Ad (Ah (AK) (Ah Ad A3))) (by left) (λ_ h=>h) Am (λ_=>by left) (λ_=>by left)) Am (λ_ h=>h) (λ_=>by left)) (λ_=>by left)).weak (B:=[0,1,2,3,4,5,6,7,8,9,10,11,12,13,14,15,16,17,18,19,20]) (by decide))
 (Ai ((Cr (HQ Ct Ad (AN Bw (Sound.meth1 ⟨λ_=>by left,λ_=>by left,by left,λ_=>by left,λ_=>by left,Uj,B0a,B0d⟩ N2 Ta (AK) (BS T.gd (F0X T (As (i:=5) (by left))) ((C07 T).lift (by decide)) (Ah Ad (Ah Ad A3)) (by left) (λ_ h=>h) Am)) (AK)) (by left))).weak (B:=[0,1,2,3,4,5,6,7,8,9,10,11,12,13,14,15,16,17,18,19,20]) Am)
 (A6.weak (B:=[0,1,2,3,4,5,6,7,8,9,10,11,12,13,14,15,16,17,18,19,20]) Am)).g))))
end
theorem G0j(w:A5)(os:Gq):(goA w os).map (λr=>r.2)=some ⟨Fast.tw11892475500146522536 tb cE,cE,default,[Ut default]⟩:=by left
theorem G0i(w:A5)(os:Gq):(goA w os).map (λr=>(toT r.1).abs)=(goA w os).map (λr=>r.1):=by left
theorem E0o(w:A5)(s:Ac):segRun LL pg w 11 Hd 1 1 s (blockOf SE NB cE default [Ut default])=some (.next,s,cE,default):=by
 obtain ⟨h,g,d,t,o⟩:=s
 left
theorem F0t(w:A5)(s:Ac)(p:Pos):Uu LL pg w 11 Hd 2 s ⟨doneF .next,cE,p,[Ut default]⟩=some s:=by
 obtain ⟨h,g,d,t,o⟩:=s
 rfl
theorem J0v(w:A5)(os:Gq): ∃s:Ac,Uu LL pg w 11 Hd (12+(1+(6000+2))) (S0 w os) (Uv pg)=some s∧K4 (EH w.params) s=true∧openSeen qv Ig NH XtB true s=B0p qv Ig∧Jn s=Jy:=by
 have h:Oa w os (S9 (EH w.params))=some Sl:=by
  have e:=World.withFollow_self w "special-get-raises"
  cases hb:w.params.followText "special-get-raises"<;>rw [hb] at e
  ·have:=E0g w os;rw [e] at this;exact this
  ·have:=E0h w os;rw [e] at this;exact this
 unfold Oa at h
 have ht:=G0j w os
 have ha:=G0i w os
 cases hg:goA w os with
 |none=>rw [hg] at h;cases h
 |some r=>
  obtain ⟨s,t⟩:=r
  rw [hg] at h ht ha
  have ht2:t=_:=An ht
  have ha2:(toT s).abs=s:=An ha
  obtain ⟨⟨f,sF,c,p⟩,hr,hF⟩:=Ub.mp h
  have e1:f=.next:=congrArg (·.1) hF
  have e2:c=cE:=congrArg (·.2.1) hF
  have e3:Jn sF.abs=Jy:=congrArg (·.2.2.1) hF
  have e4:K4 (EH w.params) sF.abs=true:=congrArg (·.2.2.2.1) hF
  have e5:M0I qv Ig NH XtB true sF.abs=B0p qv Ig:=congrArg (·.2.2.2.2) hF
  subst e1;subst e2
  rw [←Fast.te4187177175401517315] at e5
  refine ⟨sF.abs,?_,e4,e5,e3⟩
  unfold goA at hg
  rw [←Fast.te15667345088766844465] at hg
  unfold tb at hg hr
  rw [←M0H] at hg hr
  rw [←Fast.te10110043849684766642] at hr
  subst ht2
  unfold tb at hg
  rw [←Fast.te11892475500146522536,←M0H] at hg
  have hr':=segRun_of hr
  rw [ha2] at hr'
  refine go_top hg (piece_block (E0o w s) ?_)
  have:=piece_app (rest:=[]) hr' (piece_nil (env:=NB) (F0t w sF.abs p))
  rw [CX] at this
  exact this
theorem op1:opening pg=plainProg pg.main.scope.names:=by left
theorem op2(s:Ac):fenceModules? pg s=some s:=by left
theorem op3(w:A5):((EH w.params).isNs Fm&&(#[]:Array B0e).size==0,(EH w.params).objs.size,(EH w.params).nsMap Fm "__annotations__")=(true,11,Hd):=by left
theorem op4(w:A5)(os:Gq)(s:Ac)(hr:Uu LL pg w 11 Hd (12+(1+(6000+2))) (S0 w os) (Uv pg)=some s)(h1:K4 (EH w.params) s=true):topFrom LL pg w 6100 ⟨EH w.params,#[],Uq,Ur,os⟩=some s:=by
 have hr:=topRun_mono 85 _ _ _ _ hr
 obtain ⟨z1,z2,z3⟩:_∧_∧_:=by simpa only [M0b] using op3 w
 unfold topFrom
 dsimp only
 rw [z1,z2,z3]
 dsimp only
 rw [show Uu LL pg w 11 Hd 6100 ⟨EH w.params,#[],Uq,Ur,os⟩ (Uv pg)=some s from hr]
 show (match K4 (EH w.params) s with|true=>some s|false=>none)=_
 rw [h1]
theorem N0A:LeftO pg qv Ig XtB Jn (λ_=>Jy) 6100:= λw=>by
 obtain ⟨⟨h,gs,d,k,os⟩,e,e'⟩:=Ub.mp (boot_open (p:=pg) (N:=6100) op1 (by decide) op2 w)
 obtain ⟨rfl,rfl,rfl,rfl⟩:h=EH w.params∧gs= #[]∧d=Uq∧k=Ur:=by simpa using e'
 obtain ⟨s,hr,h1,h2,h3⟩:=J0v w os
 unfold openEnds
 rw [e,Option.bind_some,op4 w os s hr h1]
 exact congrArg some (JD h2 h3)
theorem J0f{args:List WData}(h:rw0.toRowW.claim.pre args=true): ∃ns:List Int,args=[.list (ns.map GV)]∧ns.length≤63:=by
 obtain ⟨h1,h2⟩:=pre_splitW h
 have h1:Uo [] args [.list .int]=true:=h1
 match args,h1 with
 |[d],h1=>
  simp only [Uo,Bv] at h1
  obtain ⟨xs,rfl,h3⟩:=hasW_list h1.1
  obtain ⟨ns,rfl⟩:=items_int h3
  refine ⟨ns,rfl,?_⟩
  have h2:M0K [] (.and (.not (.lt (.lit (.int 63)) (.len (.arg 0)))) (.lit (.bool true))) {args:=[.list (ns.map GV)]}=true:=h2
  simp [M0K,WTm.value] at h2
  rw [show less? (.int 63) (.int (ns.length:Int))=some (decide ((63:Int)<ns.length)) from rfl] at h2
  by_cases q:(63:Int)<ns.length
  ·rw [decide_eq_true q] at h2;cases h2
  ·omega
 |[],h1=>simp [Uo] at h1
 |_::_::_,h1=>simp [Uo] at h1
section
variable{w:A5}{fz:Addr→Prop}{h:Heap}
theorem K09{P:Params}: ∀{ns:List Int} {vs:List Ab},L0 P h vs (ns.map GV)→FRs w fz h (ns.map FV.int) vs:= λ{ns}=>by
 induction ns with
 |nil=>
  intro vs e
  cases vs with
  |nil=>rfl
  |cons v r=>nomatch e
 |cons n r ih=>
  intro vs e
  cases vs with
  |nil=>nomatch e
  |cons v l=>
   have e:L0 P h (v::l) (.int n::r.map GV):=e
   cases e with
   |cons a b=>cases a with
    |int _ t=>exact .mk ⟨t,rfl⟩ (ih b)
def conP(h:Heap)(x:FV)(v:Ab):Prop:=(∃i t,x=.int i∧v=.int i t)∨(∃s t,x=.str s∧v=.str (S' s) t)∨∃xs a ys n sl,x=.tup xs∧v=.ref a∧h.get? a=some ⟨.type "tuple",none,.seq ys n,sl⟩∧∀w fz,FRs w fz h xs ys.toList
theorem ZY{s:Nm}{v:Ab}(e:Ld s v=true): ∃t,v=.str (S' s) t:=by
 unfold Ld at e
 split at e
 ·rename_i x t;exact ⟨t,by rw [beq_iff_eq.mp e]⟩
 ·cases e
theorem K0e: ∀{xs:List FV} {ys:List Ab},xs.length=ys.length→(∀p∈xs.zip ys,(match p.1 with|.str s=>Ld s p.2|_=>false)=true)→∀w fz,FRs w fz h xs ys:= λ{xs}=>by
 induction xs with
 |nil=>exact λhl _ w fz=>J1.mp hl.symm
 |cons x r ih=>
  intro ys hl hc w fz
  cases ys with
  |nil=>cases hl
  |cons y t=>
   have h0:=hc (x,y) (.head _)
   refine .mk ?_ (ih (I1 hl) (λp hp=>hc p (.tail _ hp)) w fz)
   cases x with
   |str s=>exact ZY h0
   |_=>cases h0
theorem E0S{x:FV}{v:Ab}(e:RG h x v=true):conP h x v:=by
 unfold RG at e
 split at e
 ·rename_i i j t;exact .inl ⟨i,t,rfl,by rw [beq_iff_eq.mp e]⟩
 ·rename_i s;obtain ⟨t,ht⟩:=ZY e;exact .inr (.inl ⟨s,t,rfl,ht⟩)
 ·rename_i xs a
  split at e
  ·rename_i ys n sl ho
   simp only [Bv,beq_iff_eq,D1] at e
   exact .inr (.inr ⟨xs,a,ys,n,sl,rfl,rfl,ho,K0e e.1 e.2⟩)
  ·cases e
 ·cases e
theorem B0X{h h':Heap}{xs:List FV}{ys:List Ab}(k: ∀b o,h.get? b=some o→h'.get? b=some o)(e: ∀w fz,FRs w fz h xs ys): ∀w fz,FRs w fz h' xs ys:= λw fz=>FRs.mono (λ_ x=>x) (λa _ o=>k a o) (e w fz)
theorem conP.keeps{h':Heap}{x:FV}{v:Ab}(k: ∀b o,h.get? b=some o→h'.get? b=some o)(e:conP h x v):conP h' x v:=by
 rcases e with e|e|⟨xs,a,ys,n,sl,e1,e2,e3,e4⟩
 ·exact .inl e
 ·exact .inr (.inl e)
 ·exact .inr (.inr ⟨xs,a,ys,n,sl,e1,e2,k _ _ e3,B0X k e4⟩)
theorem conP.fr{x:FV}{v:Ab}(e:conP h x v):FR w (· <h.objs.size) h x v:=by
 rcases e with ⟨i,t,rfl,rfl⟩|⟨s,t,rfl,rfl⟩|⟨xs,a,ys,n,sl,rfl,rfl,e3,e4⟩
 ·exact ⟨t,rfl⟩
 ·exact ⟨t,rfl⟩
 ·exact ⟨a,rfl,Bz e3,ys,⟨_,e3,rfl,n,rfl⟩,Au (Dh w _ h xs)▸e4 _ _⟩
end
theorem Sd(h:Heap): ∀as:List Addr,Frag.In (as.filterMap λa=>(h.get? a).map λo=>(a,o)) h
 |[],_,_,e=>by cases e
 |a::r,b,o,e=>by
  rw [A08] at e
  cases q:h.get? a with
  |none=>rw [q] at e;exact Sd h r b o e
  |some x=>
   rw [q] at e
   simp only [L0Z,E3] at e
   split at e
   ·rename_i hb;cases e;rw [beq_iff_eq.mp hb];exact q
   ·exact Sd h r b o e
structure XPs(mg:Str→Option Ab)(h:Heap):Prop where
 k: ∃K:Frag,K.In h∧X7.all (λp=>I2 K (.ref p.2))=true∧R5.all (λC=>(HT C).all (Na K C))=true∧I0h.all (SJ K)=true∧E0z.all (SG K)=true∧
  ∀p∈RL,∃o fd,h.get? p.1=some o∧o.data=.func fd∧codeIn K fd.code fd.qualname=true
 glb: ∀p∈X7,mg p.1=some (.ref p.2)
 miss: ∀x∈WB,mg x=none
 law:mg "law"=some (.ref 633)
 val: ∀p∈RH,∃v,mg p.1=some v∧conP h p.2 v
theorem XPs.of(s:Ac)(e:XtB s=true):XPs (s.heap.nsMap Fm) s.heap:=by
 unfold XtB YX WV XX at e
 simp only [Bv] at e
 obtain ⟨⟨⟨⟨n1,n2⟩,n3⟩,e2⟩,⟨⟨⟨⟨k1,k2⟩,k3⟩,k4⟩,k5⟩⟩:=e
 refine ⟨⟨Xt s.heap,Sd _ _,k1,k2,k3,k4,λp hp=>?_⟩,λp hp=>beq_iff_eq.mp (D1.mp n1 p hp),λx hx=>A0P.mp (D1.mp n2 x hx),beq_iff_eq.mp n3,λp hp=>?_⟩
 ·have:=D1.mp k5 p hp
  unfold WK at this
  split at this
  ·rename_i fd _ ho;exact ⟨_,fd,ho,rfl,this⟩
  ·cases this
 ·have:=D1.mp e2 p hp
  split at this
  ·rename_i v hv;exact ⟨v,hv,E0S this⟩
  ·cases this
theorem XPs.keeps(mg:Str→Option Ab)(h h':Heap)(e:XPs mg h)(k: ∀b o,h.get? b=some o→h'.get? b=some o):XPs mg h':=by
 obtain ⟨⟨K,a1,a2,a3,a4,a5,a6⟩,b1,b2,b3,b4⟩:=e
 exact ⟨⟨K,a1.keeps k,a2,a3,a4,a5,λp hp=>let ⟨o,fd,c1,c2,c3⟩:=a6 p hp;⟨o,fd,k _ _ c1,c2,c3⟩⟩,b1,b2,b3,λp hp=>let ⟨v,c1,c2⟩:=b4 p hp;⟨v,c1,c2.keeps k⟩⟩
def YPs(h:Heap):Prop:= ∀p∈RL,Kq h p.1=RX p.2
theorem YPs.of{s:Ac}(e:Jn s=Jy):YPs s.heap:=by
 unfold Jn Jy at e
 exact λp hp=>List.map_inj_left.mp e p hp
theorem Xm{h:Heap}{f:Addr}{x:Fd}(e:Kq h f=some x): ∃o fd,h.get? f=some o∧o.data=.func fd∧x=(fd.body,fd.closure,fd.globals,fd.builtins,fd.scope,fd.params,fd.defaults):=by
 unfold Kq at e
 split at e
 ·rename_i fd _ ho;cases e;exact ⟨_,fd,ho,rfl,rfl⟩
 ·cases e
theorem YPs.keeps(h h':Heap)(e:YPs h)(k: ∀b o,h.get? b=some o→h'.get? b=some o):YPs h':= λp hp=>by
 obtain ⟨o,fd,e1,e2,e3⟩:=Xm (e p hp)
 unfold RX
 rw [e3]
 have h1:=k _ _ e1
 obtain ⟨c,d,dt,sl⟩:=o
 cases e2
 unfold Kq
 rw [h1]
theorem E00{K:Frag}(e:R5.all (λC=>(HT C).all (Na K C))=true)(C a:Nat)(h:okA C a=true):ClsA K C a:=by
 have hC:C∈R5:=by
  unfold okA HT at h
  by_cases h1:C=147
  ·subst h1;decide
  by_cases h2:C=175
  ·subst h2;decide
  by_cases h3:C=224
  ·subst h3;decide
  by_cases h4:C=356
  ·subst h4;decide
  by_cases h5:C=377
  ·subst h5;decide
  by_cases h6:C=553
  ·subst h6;decide
  have q: ∀n,¬C=n→B6 C n=false:= λn hn=>by
   cases z:B6 C n with
   |false=>rfl
   |true=>exact absurd (GQ z) hn
  rw [q _ h1,q _ h2,q _ h3,q _ h4,q _ h5,q _ h6] at h
  cases h
 have ha:a∈HT C:=by
  obtain ⟨b,hb,e⟩:=A05.mp h
  rw [GQ e];exact hb
 have:=D1.mp (D1.mp e C hC) a ha
 unfold Na vEq at this
 simp only [Bv,beq_iff_eq] at this
 obtain ⟨⟨⟨⟨⟨c1,c2⟩,c3⟩,c4⟩,c5⟩,c6⟩:=this
 exact ⟨c1,c2,c3,c4,c5,c6⟩
theorem K0x{w:A5}{q:B0h}{loose:List Str}{mean:ExcName→Option Ab}{mg mb:Str→Option Ab}{h:Heap}(T:Top q loose mean mg mb h)(X:XPs mg h)(Y:YPs h)(hs:Ec<h.objs.size): ∃K,TopF w K h mg mb:=by
 obtain ⟨⟨K,k0,k1,k2,k3,k4,k5⟩,b1,b2,b3,b4⟩:=X
 refine ⟨K,⟨⟨T.g,T.b,T.nolimit,hs,T.builtins⟩,k0,E00 k2⟩,λi p hp=>⟨b1 p (As hp),D1.mp k1 p (As hp)⟩,λi x hx=>b2 x (As hx),λi p hp=>?_,λi e he=>?_,λi e he=>?_,λi e he=>?_⟩
 ·obtain ⟨v,h1,h2⟩:=b4 p (As hp)
  exact ⟨v,h1,h2.fr⟩
 ·have hm:=As he
  obtain ⟨o,fd,h1,h2,h3⟩:=k5 e hm
  obtain ⟨o',fd',e1,e2,e3⟩:=Xm (Y e hm)
  rw [h1] at e1;cases e1
  rw [h2] at e2;cases e2
  unfold Fd at e3
  simp only [M0b] at e3
  obtain ⟨f1,f2,f3,f4,f5,f6,f7⟩:=e3
  exact ⟨o,fd,h1,h2,codeRec_of k0 h3,f1.symm,f2.symm,f3.symm,f4.symm,f5.symm,f6.symm,f7.symm⟩
 ·have:=D1.mp k3 e (As he)
  unfold SJ vEq at this
  simp only [Bv,beq_iff_eq,D1] at this
  obtain ⟨⟨⟨⟨⟨c1,c2⟩,c3⟩,c4⟩,c5⟩,c6⟩:=this
  refine ⟨c1,c2,c3,c4,c5,λa ha z=>?_⟩
  obtain ⟨b,hb,e'⟩:=A05.mp ha
  rw [GQ e'] at z
  have:=c6 b hb
  rw [z,beq_self_eq_true] at this
  cases this
 ·have:=D1.mp k4 e (As he)
  unfold SG vEq at this
  simp only [Bv,beq_iff_eq] at this
  exact ⟨this.1.1,this.1.2,this.2⟩
section
variable{w:A5}
theorem H0d{mg mb:Str→Option Ab}{K:Frag}{sh:Ac}{a:Addr}{ns:List Int}{vs:List Ab}(T:TopF w K sh.heap mg mb)(ha:sh.heap.get? a=some {cls:=.type "list",data:=.seq vs.toArray})(hv:L0 w.params sh.heap vs (ns.map GV))(hl:ns.length≤63){Q:Ab→Ac→Prop}{E:Ab→Ac→Prop}
  (q: ∀h' tk,(∀b o,sh.heap.get? b=some o→h'.get? b=some o)→Q (.bool true) {sh with heap:=h',toks:=tk}):wpG (Ag pg w) B0u (B0s (.ref 633) [.ref a]) Q E sh:=by
 obtain ⟨g',hd⟩:=H0e hl
 let ω:Wd:=⟨λ_=>none,λ_=>none,λ_ _=>none,λ_=>none,(· <sh.heap.objs.size)⟩
 have G0:GR w sh.heap ω (BW 21 none) sh.heap:=by
  refine ⟨λ_ _ e=>e,A9 _,λ_ e=>absurd rfl e,λ_ _ e=>(nomatch e),λ_ e=>⟨e,rfl⟩,λ_ e=>e,λk o e=>?_⟩
  unfold gAt at e
  rw [List.getElem?_replicate] at e
  split at e<;>cases e
 refine Lh ?_
 refine C04 T B0u ω (BW 21 none) g' [.f (.lst (ns.map FV.int))] (.f (.bool true)) [.ref a] sh _ ⟨rfl,by decide+kernel,by decide+kernel,rfl⟩ G0 rfl (λu hu=>by rw [Bx] at hu;subst hu;rfl) hd (RelL.one ⟨a,rfl,Bz ha,vs.toArray,0,ha,Au (Dh w _ _ _)▸K09 hv⟩) λ_ ω' h' tk x G _ vx=>?_
 have hx:x=.bool true:=vx
 exact hx▸q h' tk G.base
theorem F0u{t:Sem Fin}{s:Ac}{R:BR→Ac→Prop}(hreg:s.asleep)
  (h:wpG (Ag pg w) B0u t (λfin s'=> ∃f,fin=.done f∧(R (.ok f) s'∧N0b s'.gens=false)) (λe s'=>R (.error e) s'∧N0b s'.gens=false) s):
  ∃n r s' s'',schedN (denote Gu) pg w n (.single s ⟨t,.builtin "claim.caller" {},default,[]⟩)=.halted (Pj r) s'∧runN (denote Gu) pg w n s ⟨t,.builtin "claim.caller" {},default,[]⟩=.halted (Pj r) s'∧s'.forget=s''.forget∧R r s'':=by
 obtain ⟨n,r,s₁,s₂,hs,hn,hfo,hR⟩:=wp_halts_full (M:=Ag pg w) (R:=R) (p:=default) hreg (OU (Ag pg w) _ t (λfin p' s' h'=>by
  obtain ⟨f,rfl,hf⟩:=h'
  exact hf) (λ_ _ _ h'=>h') default s (h ⟨.builtin "claim.caller" {},none,none,[],none⟩ default caller_in (by decide+kernel) λ_ h=>(Lp h).elim))
 exact ⟨n,r,s₂,s₁,hs,hn,hfo,hR⟩
end
theorem XF:chainsOk qv=true:=by left
theorem G0p:pg.bare:=⟨by left,by left,by left,by left,by left,by decide+kernel⟩
theorem G0s:opensWell pg=true:=by decide+kernel
theorem G0r:rw0.toRowW.promised:=⟨[.list []],by decide+kernel,by decide+kernel⟩
theorem G0q: ∃d kwd,OX qv rw0.name=some (d,kwd)∧pg.theDef rw0.name=some (d.params,d.body,d.scope)∧kwWritten? d.params.kwonlyargs d.params.kw_defaults=some kwd:=by
 have h1:(OX qv rw0.name).map (λx=>(x.1.params,x.1.body,x.1.scope))=pg.theDef rw0.name:=by left
 have h2:(OX qv rw0.name).map (λx=>kwWritten? x.1.params.kwonlyargs x.1.params.kw_defaults)=(OX qv rw0.name).map (λx=>some x.2):=by left
 have h3:(OX qv rw0.name).isSome=true:=by left
 obtain ⟨⟨d,kwd⟩,e⟩:=Lv.mp h3
 rw [e] at h1 h2
 exact ⟨d,kwd,e,h1.symm,An h2⟩
theorem YU{x:Str×List (Str×WShape)}(h:x∈rw0.toRowW.claim.records):False:=by
 have h:x∈([]:List (Str×List (Str×WShape))):=h
 cases h
theorem K0B{P:Params}{h:Heap}{vs:List Ab}{d:WData}(e:L0 P h vs [d]): ∃v,vs=[v]∧Well P h v d:=by
 cases e with
 |cons h1 h2=>cases h2;exact ⟨_,rfl,h1⟩
theorem K0A{P:Params}{h:Heap}{v:Ab}{ds:List WData}(e:Well P h v (.list ds)): ∃a vs,v=.ref a∧h.get? a=some {cls:=.type "list",data:=.seq vs.toArray}∧L0 P h vs ds:=by
 cases e with
 |list h3 h4=>exact ⟨_,_,rfl,h3,h4⟩
theorem J0s{w:A5}{s s₁:Ac}{K:Frag}{mg mb:Str→Option Ab}{ns:List Int}{vs vs':List Ab}{a:Addr}{as:List Addr}(T:TopF w K s₁.heap mg mb)(hg:s₁.heap.Ns Fm mg)(hlaw:mg rw0.name=some (.ref 633))(hl:ns.length≤63)(hv:vs=[.ref a])(L:Laid rw0.toRowW.records w s s₁ [.list (ns.map GV)] vs as)(ha:s₁.heap.get? a=some {cls:=.type "list",data:=.seq vs'.toArray})(hw:L0 w.params s₁.heap vs' (ns.map GV))(hz:s₁.asleep):
  ∃k r s₂,schedN (denote Gu) pg w k (.single s₁ ⟨(callStub rw0.name vs).cur,.builtin "claim.caller" {},default,[]⟩)=.halted (Pj r) s₂∧rw0.toRowW.claim.Ends s [.list (ns.map GV)] vs s₁ r s₂∧s₂.heap.life=s₁.heap.life∧s₂.os=s.os:=by
 subst hv
 obtain ⟨k,r,s₂,s₃,hsched,hrun,hfo,hcase,hos⟩:=F0u (w:=w) (t:=(callStub rw0.name [.ref a]).cur) (s:=s₁) (R:= λr s'=>rw0.toRowW.claim.Ends s [.list (ns.map GV)] [.ref a] s₁ r s'∧s'.os=s.os) hz (by
  refine O2 (wpAny_nsGet hg ?_)
  rw [hlaw]
  refine A4 (H0d T ha hw hl λh' tk k=>Bb ⟨_,rfl,?_⟩)
  have g:GoodWG rw0.toRowW.claim (classAt s.heap) (ExcName.means s.heap) [.list (ns.map GV)] s₁ (.ok (.ret (.bool true))) {s₁ with heap:=h',toks:=tk}:=⟨.inl ⟨.bool true,.bool true,[],rfl,λ_=>rfl,.bool _,by left,λ_=>⟨.nil,λ_ h=>nomatch h⟩⟩,.of_keep k,rfl,.of_eq L.gens⟩
  have z:=GoodWG.laid (c:=rw0.toRowW.claim) rfl rfl (ident_freeW rfl rfl rfl) L g
  exact ⟨⟨z.1,z.2.1⟩,leftWithCleanup_false_of_bare z.2.2⟩)
 have f:=Shared.forget_eq hfo
 exact ⟨k,r,s₂,hsched,hcase.congr f.1,runN_life _ _ _ hrun,f.2.2.2.1.trans hos⟩
theorem N0H(said:rw0.wellSaid=true):rw0.Holds:=by
 refine ⟨said,G0r,⟨G0p,G0s,rfl⟩,G0r.witness,λw=>⟨(N0A.behind (XP:=XPs) XPs.of XF w).1,λs' hs'=>?_⟩⟩
 refine byC λnq=>?_
 obtain ⟨s₀,hf,hg0,s,hT,hz,hgens,hg,G,y⟩:=(N0A.behind (XP:=XPs) XPs.of XF w).2 s' hs'
 have hgens:s.gens= #[]:=K0Y (beq_iff_eq.mp hgens)
 refine nq ⟨s₀,hf,hg0,s,hT,(λn hn=>?_),(λx hx=>(YU hx).elim),(λx hx=>(YU hx).elim),λargs hpre hlay ord hord=>byC λnk=>?_⟩
 ·obtain rfl:n=rw0.name:=Bx.mp hn
  obtain ⟨d,kwd,e1,e2,e3⟩:=G0q
  exact pinned_of_view hg G e1 e2 e3
 ·clear nq
  obtain ⟨⟨vs,s₁⟩,hlaid⟩:=Lv.mp (layAllW_isSome (P:=w.params) (ord:=ord) G.has args rw0.toRowW.args s (pre_splitW hpre).1)
  have keeps:=layAllW_keeps _ _ _ hlaid
  have hal:=layAllW_rest _ _ _ hlaid
  obtain ⟨as,hrd,hin,hold⟩:=reads_layAllW hord _ _ _ hlaid hlay s₁.heap (λ_ _ e=>e)
  have L:Laid rw0.toRowW.records w s s₁ args vs as:=⟨⟨ord,hord,hlaid⟩,hrd,hin,hold,keeps,hal.1.trans hgens,hal.2.2.1⟩
  have G₁:=G.keeps XPs.keeps keeps
  obtain ⟨K,T⟩:=K0x (w:=w) G₁.T G₁.X (YPs.keeps _ _ (YPs.of y) keeps) (Bc G.low (layAllW_grows _ _ _ hlaid).size)
  obtain ⟨ns,ea,hl⟩:=J0f hpre
  obtain ⟨v,ev,hv⟩:=K0B (ea▸L.well)
  obtain ⟨a,vs',ev',ha,hw⟩:=K0A hv
  obtain ⟨k,r,s₂,hsched,hcase,hlife,hos⟩:=J0s T G₁.T.g G.X.law hl (ev'▸ev) (ea▸L) ha hw (Shared.asleep_of_life hal.2.2.2 hz)
  have hc:rw0.toRowW.claim.Ends s args vs s₁ r s₂:=ea▸hcase
  unfold ClaimW.Ends at hc
  refine nk ⟨_,s₁,hlaid,k,_,s₂,hsched,?_,(λ_ i x hx=>by rw [hgens] at hx;cases hx),(λq=>nomatch q),by rw [hlife.trans hal.2.2.2],Shared.rest_eq hos⟩
  clear nk
  exact hc.elim (λh=>.inl (h.imp λv h=>⟨congrArg Pj h.1,h.2.1,h.2.2.1,h.2.2.2.1,λb o y _=>h.2.2.2.2.1 b o y,h.2.2.2.2.2⟩)) (λh=>.inr (h.imp λe h=>h.imp λob h=>h.imp λcls h=>⟨congrArg Pj h.1,h.2.1,h.2.2.1,h.2.2.2.1,h.2.2.2.2.1,λb o y _=>h.2.2.2.2.2 b o y⟩))
theorem N0I:M0v.wellSaid=true:=by left
end Mine
end
theorem PySem.Challenge.cw_nm0050_01_holds : PySem.Challenge.rw_nm0050_01.Holds :=
  PySem.W.holds_law Mine.N0I Mine.N0H
