import PyProof.Rows.All
import Wide.All
import OpenK.AllK
import Wide.FinOn
import Lean
import PySem.Challenge.RW_nt0054_01
set_option Elab.async false
set_option bootstrap.genMatcherCode false
set_option linter.all false
set_option maxRecDepth 1000000
set_option genSizeOf false
set_option genInjectivity false
set_option genCtorIdx false
set_option backward.linearNoConfusionType true
open Array renaming getElem?_toList→Oa,length_toList→Oo,toList_append→Px,getElem?_eq_none_iff→QL,getElem?_eq_getElem→QT,mem_toList_iff→RI,toList_push→Sm,any_toList→SE,eraseIdxIfInBounds_eq→SQ,toList_eraseIdx→T0,toArray_toList→Un,mk→Uo,Perm→UN
open Array.Perm renaming refl→Sc
open Bool renaming false→Nl,true→Nm,casesOn→Nw,and_eq_true_iff→NH,and_eq_true→NI,or_eq_false_iff→N9,false_ne_true→Od,and_self→Ox,false_eq_true→OE,not_eq_true→OH,not_eq_true'→OV,true_and→Pg,and_true→PN,or_true→Qi,or_eq_true_iff→QB,or_false→R5,or_eq_true→SP,and_false→Tk,beq_eq_decide_eq→Um,false_or→V0
open Eq renaming trans→We
open Exists renaming intro→Re,imp→UD
open ForInStep renaming yield→Q6
open Int renaming toNat_natCast→OK,fmod→OQ,eq_ofNat_of_zero_le→OR,natCast_nonneg→Qc,ofNat_le→QK,le_antisymm→Ta,add_assoc→TT,le_trans→Uk,add_zero→Ul,le_refl→UM,ofNat_sub→Wc
open LawfulMonad renaming pure_bind→QA
open List renaming length_map→Nu,getElem?_eq_some_iff→Nv,mem_map→Nx,map_cons→Ny,mem_cons→Nz,casesOn→NA,mem_singleton→NC,all_eq_true→ND,length_append→NG,getElem?_set_self→NJ,getElem?_append_left→NK,getElem?_set_ne→NM,nil_append→NO,getElem?_eq_getElem→NQ,length_cons→NU,mem_append→NW,nodup_cons→NZ,foldl_cons→N5,getElem?_map→Oc,contains_iff_mem→Oh,nodup_append→Oj,mem_of_getElem?→Op,lookup_cons→Os,length_singleton→Ov,not_mem_nil→Ow,filterMap_cons→Oy,mem_flatMap→OG,append_assoc→OJ,pairwise_singleton→OO,reverse_cons→OU,length_set→OX,append_nil→OY,pairwise_cons→O4,flatMap_cons→O7,length_nil→O8,length_reverse→Pc,map_map→Pe,foldlM_cons→Ph,mem_or_eq_of_mem_set→Po,mem_filter→Pp,map_append→Pq,set_append_left→Ps,foldl_append→Pt,length_drop→Pz,getElem_mem→PA,filter_cons→PC,Perm→PD,length→PG,pairwise_map→PS,nodup_nil→PX,set_set→P1,cons_append→P2,getElem?_eq_none_iff→P5,filterMap_cons_some→P7,filterMap_cons_none→P8,flatMap→Qh,range→Qr,map_reverse→Qs,find?_cons→Qw,mem_filterMap→QO,foldl_nil→QP,pairwise_iff_getElem→QV,drop_eq_getElem_cons→QW,getElem?_nil→QY,any_cons→Q5,mem_flatten→Rb,length_take→Rc,any_eq_true→Rd,take_of_length_le→Ro,map_nil→Rp,drop_eq_nil_of_le→Rq,singleton_append→RA,filterMap_append→RB,drop_eq_nil_iff→RL,reverse_append→RY,mergeSort_perm→RZ,map_congr_left→R0,findSome?_cons→R1,take_nil→R3,map_take→R4,filterMap_nil→Sb,any_eq_false→Sr,mem_reverse→SH,foldlM_nil→SO,getElem?_append_right→Ti,fst_mem_of_mem_zipIdx→Tj,mem_of_find?_eq_some→Tr,getElem?_zip_eq_some→Ts,mem_of_mem_eraseIdx→TE,map_drop→TF,length_filterMap_le→TG,drop_nil→TH,pairwise_mergeSort→TP,length_eraseIdx_le→TQ,length_eq_zero_iff→TR,length_eq_one_iff→TZ,perm_append_comm→Uh,mem_append_right→Ui,getElem?_eq_none→Uj,reverse_reverse→Uw,mem_cons_of_mem→Ux,mem_append_left→Uy,lookup→Uz,filter→UA,getElem_of_mem→UL,getElem?_drop→UY,foldlM_append→UZ,size_toArray→Vd,reverse_perm→Ve,map_inj_left→Vf,getElem?_inj→Vg,isEmpty_nil→Vt,isEmpty_iff→Vu,countP_cons→Vv,cons→Vw,zip_append→VF,of_mem_zip→VG,headD_cons→VH,mem_range→VN,drop_zero→VO,Pairwise→VZ
open List.Perm renaming eq_of_pairwise→QJ,cons→Rh,refl→SD,nodup→UC
open List.cons renaming injEq→UB
open Nat renaming le_of_ble_eq_true→Nr,le_trans→NN,zero_le→NX,casesOn→NY,beq→N0,le_refl→N4,lt_of_le_of_lt→N6,add_le_add_left→Oe,zero_add→Oz,le_of_lt→OM,lt_of_lt_of_le→ON,le_succ→OZ,eq_of_beq_eq_true→O3,not_lt→Pa,succ→Pd,le_of_eq→Pf,succ_le_succ→Pk,le_add_right→Pl,ne_of_lt→Pu,beq_eq→PZ,lt_succ_self→P3,le_succ_of_le→Ql,beq_refl→QI,not_lt_zero→Rz,le_sub_one_of_lt→RV,sub_le→Sl,add_comm→SB,min_le_left→S7,min_eq_left→S8,le_add_left→S9,add_assoc→TO,succ_add→Ug,sub_min_sub_right→Uv,sub_lt_sub_right→UK,lt_succ_of_lt→Vq,le_of_succ_le→Vr,le_of_lt_succ→Vs,succ_ne_self→VD,min_le_right→VE,lt_irrefl→Wb
open Nat.succ renaming inj→Qb
open Ne renaming symm→O9
open Option renaming some→Nk,none→Nq,casesOn→N3,bind_eq_some_iff→Og,map_some→Ok,map_eq_some_iff→Ol,isSome_iff_exists→Om,bind_some→O2,bind_eq_bind→Pw,isNone_iff_eq_none→QN,isSome_map→QS,map→RX,map_eq_none_iff→TD,isSome_some→Uu,getD_some→UX
open Option.some renaming inj→NE
open Prod renaming mk→PR,fst→VM
open Prod.mk renaming inj→Py,injEq→QR
open Pure renaming pure→OW
open PyProof.Rows renaming seqObj→O6,listUpdate_at→PJ,SortSt→Qz,slot_tuple_getitem→Q9,wpS_bind→RG,arrOf→RH,listItems_at→Sk,seqEpoch_at→Sq,Subscript_→SM,SortedTo→S6,get?_update_seq→TN,IntsAre→TY,wpS_pure→Ue,Keyed→Uf,subscriptTail→UJ,failedOf→VC,size_push'→VY
open PySem renaming wpAny_bind→Nn,Value→No,Shared→Np,wpAny_pure→Nt,Addr→NF,wpAny→NL,wpAny_mono→NR,model→NT,Heap→NV,wpAny_holding→N7,NameKind→N8,Around→Ob,Params→Of,eval→Oi,Builtin→Oq,Str→OA,wpAny_standAt→OB,mainGlobals→OC,PyData→OF,DictEntry→OI,Stmt→OS,wpAny_truthy_bool→O0,wpAny_newObj_type→O1,assign→O5,World→Pi,intKind→PH,wpAny_callSpecial?_slot→PK,starEach→PL,wpAny_typeNameOfWhole_keyiter→PO,builtinsNs→PP,sizeLine→PT,tupleKind→PU,swappedStores→PV,cellsFrom→PW,rawInt→PY,codeAny→P0,wpAny_call_entry→P9,treeTable→Qa,wpAny_typeNameOf_keyiter→Qd,behindInMarks→Qe,OsState→Qf,tupleKind_room_in1→Qj,wpAny_Call_method1_late→Qm,callWith_type1→Qt,compareOp→Qx,bindArgs→QE,ItemsAre→QF,Expr→QG,Const→QH,UnaryOp→QQ,swapsWith→QZ,slicePick→Q0,codeAmong→Q1,sysModules→Q7,assignEach→Q8,wpAny_field→Ri,wpAny_dictEntries→Rj,slot_list_setitem→Rk,Program→Rl,evalPart_some→Rr,evalPart_none→Rs,attributeBase→Rt,wpAny_Call_NameR→RC,callWith→RD,stored→RN,backTo→RO,atKey→RW,wpAny_of_eq→Sd,wpAny_Slice→Sf,pyNext→Sg,fresh→Sh,compEnvC→Si,cLine→Sj,Arguments→Sp,wpAny_rule→SI,wpAny_Constant_int→SJ,wpAny_sequenceKey→SR,storedH→SS,getItem→SU,codeAny_mono→SV,Result→Tm,unpackItems→Tt,subscripted→Tv,wpAny_specialOf→TI,wpAny_execs_nil→TJ,wpAny_dictEpoch→TK,letOwnedTupleGo→TL,valueAt→TU,standAt→TV,wpAny_listPart→T3,wpAny_bindName→T5,entryOfKey→T6,dictSetDefault→T7,constantsAlone→T8,bindName→T9,FuncData→Uc,wpAny_attempt→UE,wpAny_UnaryOp→UF,Data→UI,wpAny_Call_method2_late→UO,Model→UR,CmpOp→UW,wpAny_typeOf→U0,wpAny_pyNext_list_item→U3,setItem→U4,newEnv→U5,holding→U6,Keyword→Va,wpAny_pyNext_list_end→Vh,wpAny_notOrdered_dict→Vi,wpAny_isOneOf_keyiter→Vj,wpAny_newFunctionEnv→Vx,wpAny_letTemporaryGo→Vy,storedH_new→Vz,FuncBody→VA,wpAny_isTrue_BoolOp→VI,wpAny_Constant_none→VJ,wpAny_pyIter_range→VP,pyIter→VQ,entry_list_setitem→VR,clipAt_nat→VS,IsPart→VX,wpAny_pyIter_list→V1,wpAny_pyIter_enum→V2,slot_dict_getitem→V3,foldedSetIterable→V4,bindC→V5,args_list_setitem→V6,Reads→V8,BindsTo→Wa,wpAny_Dict_empty→Wf,call→Wg,wpAny_items_nil→Wm,method2_meetsIn→Wn,importedModules→Wo,closureFor_none→Wp,arm_exec_Assign→Wq
open PySem.Builtin renaming «open»→SA,iter→Tq
open PySem.Builtin.Dict renaming showsAll→SL,addrOf→S5
open PySem.Builtin.Dict_items renaming ownsTuple→Rn
open PySem.Builtin.List renaming listTooLong→Pm,listSubscript?→Qp,listSameRef→So,listItems→SG
open PySem.Builtin.Slice renaming slicePlaces→PM,sliceAdjust→Qv,sliceApplied→R2
open PySem.Builtin.Tuple renaming tupleExact→PQ
open PySem.Calls renaming spliced_cons→Pj,evalArgs_plain→Qu,spliced_nil→QU,callWith_builtin→TM,Name_function_global→VB
open PySem.Challenge renaming rw_nt0054_01→RF
open PySem.Const renaming casesOn→Qo
open PySem.DictEntry renaming refKey→Ud
open PySem.Expr renaming casesOn→Pb,Subscript→Tf,Attribute→Th,ListComp→TB,Constant→TC,UnaryOp→TW,Compare→TX,Lambda→Us,BoolOp→Ut,Tuple→US,Slice→UT,IfExp→UU,BinOp→UV,Name→Vm,List→Vn,Dict→Vo,Call→Vp
open PySem.Expr.Attribute renaming elim→Q4
open PySem.Expr.BinOp renaming elim→Sa
open PySem.Expr.BoolOp renaming elim→RU
open PySem.Expr.Call renaming elim→Sz
open PySem.Expr.Compare renaming elim→Ry
open PySem.Expr.Constant renaming elim→Rg
open PySem.Expr.Dict renaming elim→Sy
open PySem.Expr.IfExp renaming elim→R9
open PySem.Expr.Lambda renaming elim→RT
open PySem.Expr.List renaming elim→Sx
open PySem.Expr.ListComp renaming elim→Rf
open PySem.Expr.Name renaming elim→Sw
open PySem.Expr.Slice renaming elim→R8
open PySem.Expr.Subscript renaming elim→Q3
open PySem.Expr.Tuple renaming elim→R7
open PySem.Expr.UnaryOp renaming elim→Rx
open PySem.F renaming slot_dict_keyiterator_next→OL,slot_dict_get→Qg,args_dict_keyiterator_next_1→RE,entry_dict_keyiterator_next→RK,slot_dict_setdefault→Sv,args_list_extend_2→SK,slot_list_extend→S3,args_dict_get_3→Td,args_dict_get_2→Te,slot_dict_iter→Tn,entry_dict_get→To,type_list_pop→Tx,type_dict_get→Tz,slot_list_pop→TA
open PySem.Heap renaming get?_push_size→NP,get?_push_of_some→NS,SameBut→OT,lt_size→Pr,get?_update_other→PI,get?_update_self→Qq,ExtBut→QX,dictOf_iff→Ru,IsSliceOf→Tc,get?_update_ne→UH,get?_push_ne→Vc,size_update→Vl,size_push→VL
open PySem.Heap.IsSliceOf renaming new→Ra
open PySem.Heap.SameBut renaming update→Pn
open PySem.IsL renaming update→Vb
open PySem.IsiPair renaming dict_bool→Ur
open PySem.NameKind renaming «local»→Pv,free→PE,cell→QM
open PySem.Obj renaming mapSeq→Ou,putName→RS,data_mapDictKeys→UG,data_mapFields→U9,mapFields→V9
open PySem.PyData renaming keyHash→OD,eqvAll→P6,eqv→QD,strOk→Tw
open PySem.PyData.eqvAll renaming eq_4→SZ,eq_1→S0
open PySem.SeqAt renaming EqAt→SY,NoneType___eq___none_ref_0→Ub,rc_eq_decline_or→Wl
open PySem.Stmt renaming ctorIdx→QC,Return→Up,Assign→Uq,While→UQ,Expr→Vk,For→VK
open PySem.Stmt.Assign renaming elim→RQ
open PySem.Stmt.Expr renaming elim→Su
open PySem.Stmt.For renaming elim→SN
open PySem.Stmt.If renaming elim→Tl
open PySem.Stmt.Return renaming elim→RP
open PySem.Stmt.While renaming elim→R6
open PySem.Str renaming ofString→Qk
open PySem.UnaryOp renaming casesOn→SF
open PySem.Value renaming casesOn→Qn,ref→RJ,isInt_shape→UP
open PySem.Value.ref renaming inj→Rw
open PySem.W renaming findIn→Qy,boot_heap→Q2,piece_app→Sn,piecesOf→SW,kla_obj→SX,segRun→Ua,tabObj→U7,Frag→U8,putL→VT,lookIn→VU,dictOf→VV,boot_drawn→VW,instObj→V7,plainOver→Wh,hasDictIn→Wi,emptyDict→Wj,boot_toks→Wk
noncomputable section
section
namespace Mine.HD
open PySem PySem.W PyProof.Rows PySem.Calls
noncomputable section
noncomputable abbrev pw:=PySem.Challenge.pw_nt0054_01
noncomputable abbrev N:No:=.none
noncomputable abbrev T:No:=.bool Nm
noncomputable abbrev F:No:=.bool Nl
noncomputable abbrev i(n:Int)(t:Nat):No:=.int n t
noncomputable abbrev i0(n:Int):No:=.int n 0
noncomputable abbrev s(x:OA)(t:Nat):No:=.str x t
noncomputable abbrev r(a:Nat):No:=.ref a
noncomputable abbrev b(x:String):No:=.builtin x
noncomputable abbrev t(x:String):No:=.type x
noncomputable abbrev tu(l:List No):Obj:={cls:=.type "tuple",data:=.seq ⟨l⟩ 0}
noncomputable abbrev e(P:Of)(x:OA)(t:Nat)(v:No):OI:=⟨OD P x,.str x t,v⟩
noncomputable abbrev di(c:No)(l:List OI)(n:Nat):Obj:={cls:=c,data:=.dict ⟨l⟩ n}
noncomputable abbrev co(l:List No):Obj:={cls:=.type "code",data:=.fields ⟨l⟩}
noncomputable abbrev fi(c:No)(l:List No):Obj:={cls:=c,data:=.fields ⟨l⟩}
noncomputable abbrev pl(c:No)(d:Option NF)(l:List (Option No)):Obj:={cls:=c,dict:=d,data:=.plain,slots:=⟨l⟩}
noncomputable def st(k:Nat):OS:=pw.main.body.getD k (.Pass ⟨0,0,0,0⟩)
noncomputable def ME{b:Type}(d:b)(f:OA->Sp->List OS->Scope->b)(c:List OS->b)(x:OS):b:=@OS.casesOn (λ_=>b) x (λn a l _ _ _ s _ _ _=>f n a l s) (λ_ _ _ _ _ _ _ _ _ _=>d) (λ_ _ _ l _ _ _ _ _ _ _=>c l) (λ_ _=>d) (λ_ _=>d) (λ_ _ _=>d) (λ_ _ _ _ _ _ _=>d) (λ_ _ _ _=>d) (λ_ _ _ _ _=>d) (λ_ _ _ _ _=>d) (λ_ _ _ _ _=>d) (λ_ _ _ _=>d) (λ_ _ _ _=>d) (λ_ _ _=>d) (λ_ _ _=>d) (λ_ _ _=>d) (λ_ _ _=>d) (λ_ _ _ _ _=>d) (λ_ _ _ _ _=>d) (λ_ _ _=>d) (λ_ _=>d) (λ_ _ _ _=>d) (λ_ _=>d) (λ_ _=>d) (λ_ _=>d) (λ_=>d) (λ_=>d) (λ_=>d)
noncomputable def cj(k j:Nat):OS:=ME (.Pass ⟨0,0,0,0⟩) (λ_ _ _ _=>.Pass ⟨0,0,0,0⟩) (λl=>l.getD j (.Pass ⟨0,0,0,0⟩)) (st k)
noncomputable def fd(x:OS)(q:OA)(g:Nat)(c d doc e code:No)(b:Nat):Uc:=ME default (λn a l f=>{name:=n,qualname:=q,params:=a,body:=.stmts l,scope:=f,globals:=g,closure:=[],defaults:=c,kwdefaults:=d,doc:=doc,pyModule:=e,code:=code,builtins:=b}) (λ_=>default) x
noncomputable abbrev fu(c:No)(x:OS)(q:OA)(g:Nat)(b d doc e code:No)(a:Nat):Obj:={cls:=c,data:=.func (fd x q g b d doc e code a)}
noncomputable abbrev cl(c:No)(n:OA)(b mro:List No)(ns:Nat)(q:OA)(a:List No)(d:List (Option No)):Obj:={cls:=c,data:=.cls {name:=n,bases:=b,mro:=mro,ns:=ns,qualname:=q,subclasses:=a},slots:=⟨d⟩}
noncomputable abbrev cq(a q:OA)(k l n x y c:Nat):Obj:=co [s a k,s q (k+1),s "/claim/cut.py" (k+2),i0 l,i0 n,i0 0,i0 0,i0 3,r x,T,i0 181,r y,N,r (y+1),r (y+2),r (y+3),i0 c,i0 l,s "/claim/cut.py" (c+1)]
noncomputable def g0(P:Of)(b c a:Obj)(R:List Obj):List Obj:=boot_o_0 P::boot_o_1 P::b::c::boot_o_4 P::boot_o_5 P::boot_o_6 P::boot_o_7 P::boot_o_8 P::boot_o_9 P::boot_o_10 P::tu []::a::co [(s "<module>" 182),(s "<module>" 183),(s "/claim/cut.py" 184),(i0 1),(i0 0),(i0 0),(i0 0),(i0 0),(r 11),F,(i0 181),(r 12),N,N,N,N,(i0 185),(i0 1),(s "/claim/cut.py" 186)]::pl (t "frame") Nq [Nk (r 13),Nk (r 3),Nk (r 3),Nq,Nk (s "__main__" 164),Nq,Nk (r 0)]::R
noncomputable def MB(P:Of):Obj:=di N [] 0
noncomputable def Jl(P:Of):Obj:=di N [e P "type.__subclasses__.Exception.0" 223 (i0 39),e P "type.__subclasses__.Exception.n" 224 (i0 1)] 2
noncomputable def MA(P:Of):Obj:=di (t "dict") [e P "__name__" 165 (s "__main__" 164),e P "__doc__" 166 N,e P "__package__" 167 N,e P "__loader__" 168 (b "__main__.__loader__#opaque"),e P "__spec__" 169 N,e P "__annotations__" 170 (r 6),e P "__builtins__" 171 (r 4),e P "__file__" 173 (s "/claim/cut.py" 172),e P "__cached__" 174 N] 9
noncomputable def M3(P:Of):Obj:=di (t "dict") [e P "__name__" 165 (s "unicore.hangul" 254),e P "__doc__" 166 N,e P "__package__" 167 N,e P "__loader__" 168 (b "__main__.__loader__#opaque"),e P "__spec__" 169 N,e P "__annotations__" 170 (r 6),e P "__builtins__" 171 (r 4),e P "__file__" 173 (s "/claim/cut.py" 172),e P "__cached__" 174 N,e P "_wall" 193 (r 21),e P "MAX_CODE" 197 (i 1114111 196),e P "UniError" 226 (r 39),e P "BadTable" 242 (r 52),e P "place_by_half" 253 (r 61),e P "SYLLABLE_FIRST" 257 (i 44032 256),e P "LEAD_FIRST" 259 (i 4352 258),e P "VOWEL_FIRST" 261 (i 4449 260),e P "TAIL_NONE" 263 (i 4519 262),e P "LEADS" 265 (i 19 264),e P "VOWELS" 267 (i 21 266),e P "TAILS" 269 (i 28 268),e P "SYLLABLES" 272 (i 11172 271)] 22
noncomputable def M2(P:Of):Obj:=di (t "dict") [e P "__name__" 165 (s "unicore.forms" 308),e P "__doc__" 166 N,e P "__package__" 167 N,e P "__loader__" 168 (b "__main__.__loader__#opaque"),e P "__spec__" 169 N,e P "__annotations__" 170 (r 6),e P "__builtins__" 171 (r 4),e P "__file__" 173 (s "/claim/cut.py" 172),e P "__cached__" 174 N,e P "_wall" 193 (r 21),e P "MAX_CODE" 197 (i 1114111 196),e P "UniError" 226 (r 39),e P "BadTable" 242 (r 52),e P "place_by_half" 253 (r 61),e P "SYLLABLE_FIRST" 257 (i 44032 256),e P "LEAD_FIRST" 259 (i 4352 258),e P "VOWEL_FIRST" 261 (i 4449 260),e P "TAIL_NONE" 263 (i 4519 262),e P "LEADS" 265 (i 19 264),e P "VOWELS" 267 (i 21 266),e P "TAILS" 269 (i 28 268),e P "SYLLABLES" 272 (i 11172 271),e P "is_hangul_syllable" 279 (r 68),e P "hangul_numbers" 287 (r 75),e P "hangul_parts" 297 (r 82),e P "hangul_pair" 307 (r 89),e P "form_mapping" 320 (r 96),e P "form_expanded" 335 (r 103),e P "ordered" 347 (r 110),e P "form_sorted" 353 (r 115),e P "decomposed" 364 (r 123),e P "primary_composites" 376 (r 130),e P "form_is_primary" 385 (r 137),e P "Composer" 435 (r 168)] 34
noncomputable def MZ(P:Of):Obj:=di (t "dict") [e P "__name__" 165 (s "unicore.folding" 576),e P "__doc__" 166 N,e P "__package__" 167 N,e P "__loader__" 168 (b "__main__.__loader__#opaque"),e P "__spec__" 169 N,e P "__annotations__" 170 (r 6),e P "__builtins__" 171 (r 4),e P "__file__" 173 (s "/claim/cut.py" 172),e P "__cached__" 174 N,e P "_wall" 193 (r 21),e P "MAX_CODE" 197 (i 1114111 196),e P "UniError" 226 (r 39),e P "BadTable" 242 (r 52),e P "place_by_half" 253 (r 61),e P "SYLLABLE_FIRST" 257 (i 44032 256),e P "LEAD_FIRST" 259 (i 4352 258),e P "VOWEL_FIRST" 261 (i 4449 260),e P "TAIL_NONE" 263 (i 4519 262),e P "LEADS" 265 (i 19 264),e P "VOWELS" 267 (i 21 266),e P "TAILS" 269 (i 28 268),e P "SYLLABLES" 272 (i 11172 271),e P "is_hangul_syllable" 279 (r 68),e P "hangul_numbers" 287 (r 75),e P "hangul_parts" 297 (r 82),e P "hangul_pair" 307 (r 89),e P "form_mapping" 320 (r 96),e P "form_expanded" 335 (r 103),e P "ordered" 347 (r 110),e P "form_sorted" 353 (r 115),e P "decomposed" 364 (r 123),e P "primary_composites" 376 (r 130),e P "form_is_primary" 385 (r 137),e P "Composer" 435 (r 168),e P "composed" 450 (r 180),e P "form_of" 461 (r 188),e P "nfd" 469 (r 195),e P "nfc" 477 (r 202),e P "nfkc" 485 (r 209),e P "range_are_like" 495 (r 216),e P "RangeMap" 563 (r 259),e P "range_rows" 575 (r 270),e P "fold_of" 588 (r 277)] 43
noncomputable def MY(P:Of):Obj:=di (t "dict") [e P "__name__" 165 (s "unicore.folding" 576),e P "__doc__" 166 N,e P "__package__" 167 N,e P "__loader__" 168 (b "__main__.__loader__#opaque"),e P "__spec__" 169 N,e P "__annotations__" 170 (r 6),e P "__builtins__" 171 (r 4),e P "__file__" 173 (s "/claim/cut.py" 172),e P "__cached__" 174 N,e P "_wall" 193 (r 21),e P "MAX_CODE" 197 (i 1114111 196),e P "UniError" 226 (r 39),e P "BadTable" 242 (r 52),e P "place_by_half" 253 (r 61),e P "SYLLABLE_FIRST" 257 (i 44032 256),e P "LEAD_FIRST" 259 (i 4352 258),e P "VOWEL_FIRST" 261 (i 4449 260),e P "TAIL_NONE" 263 (i 4519 262),e P "LEADS" 265 (i 19 264),e P "VOWELS" 267 (i 21 266),e P "TAILS" 269 (i 28 268),e P "SYLLABLES" 272 (i 11172 271),e P "is_hangul_syllable" 279 (r 68),e P "hangul_numbers" 287 (r 75),e P "hangul_parts" 297 (r 82),e P "hangul_pair" 307 (r 89),e P "form_mapping" 320 (r 96),e P "form_expanded" 335 (r 103),e P "ordered" 347 (r 110),e P "form_sorted" 353 (r 115),e P "decomposed" 364 (r 123),e P "primary_composites" 376 (r 130),e P "form_is_primary" 385 (r 137),e P "Composer" 435 (r 168),e P "composed" 450 (r 180),e P "form_of" 461 (r 188),e P "nfd" 469 (r 195),e P "nfc" 477 (r 202),e P "nfkc" 485 (r 209),e P "range_are_like" 495 (r 216),e P "RangeMap" 563 (r 259),e P "range_rows" 575 (r 270),e P "fold_of" 588 (r 277),e P "fold_statuses" 597 (r 284),e P "fold_by" 608 (r 291),e P "fold_full" 617 (r 299),e P "nfkc_casefold" 628 (r 306),e P "caseless_identifier" 636 (r 313),e P "matches_identifier" 645 (r 320),e P "changes_when_folded" 654 (r 327),e P "changes_when_nfkc_casefolded" 662 (r 334),e P "fold_toggled" 674 (r 341),e P "fold_identifier_mapping" 681 (r 347),e P "FoldIndex" 775 (r 407)] 54
noncomputable def MX(P:Of):Obj:=di (t "dict") [e P "__name__" 165 (s "law_nt0054_01" 851),e P "__doc__" 166 N,e P "__package__" 167 N,e P "__loader__" 168 (b "__main__.__loader__#opaque"),e P "__spec__" 169 N,e P "__annotations__" 170 (r 6),e P "__builtins__" 171 (r 4),e P "__file__" 173 (s "/claim/cut.py" 172),e P "__cached__" 174 N,e P "_wall" 193 (r 21),e P "MAX_CODE" 197 (i 1114111 196),e P "UniError" 226 (r 39),e P "BadTable" 242 (r 52),e P "place_by_half" 253 (r 61),e P "SYLLABLE_FIRST" 257 (i 44032 256),e P "LEAD_FIRST" 259 (i 4352 258),e P "VOWEL_FIRST" 261 (i 4449 260),e P "TAIL_NONE" 263 (i 4519 262),e P "LEADS" 265 (i 19 264),e P "VOWELS" 267 (i 21 266),e P "TAILS" 269 (i 28 268),e P "SYLLABLES" 272 (i 11172 271),e P "is_hangul_syllable" 279 (r 68),e P "hangul_numbers" 287 (r 75),e P "hangul_parts" 297 (r 82),e P "hangul_pair" 307 (r 89),e P "form_mapping" 320 (r 96),e P "form_expanded" 335 (r 103),e P "ordered" 347 (r 110),e P "form_sorted" 353 (r 115),e P "decomposed" 364 (r 123),e P "primary_composites" 376 (r 130),e P "form_is_primary" 385 (r 137),e P "Composer" 435 (r 168),e P "composed" 450 (r 180),e P "form_of" 461 (r 188),e P "nfd" 469 (r 195),e P "nfc" 477 (r 202),e P "nfkc" 485 (r 209),e P "range_are_like" 495 (r 216),e P "RangeMap" 563 (r 259),e P "range_rows" 575 (r 270),e P "fold_of" 588 (r 277),e P "fold_statuses" 597 (r 284),e P "fold_by" 608 (r 291),e P "fold_full" 617 (r 299),e P "nfkc_casefold" 628 (r 306),e P "caseless_identifier" 636 (r 313),e P "matches_identifier" 645 (r 320),e P "changes_when_folded" 654 (r 327),e P "changes_when_nfkc_casefolded" 662 (r 334),e P "fold_toggled" 674 (r 341),e P "fold_identifier_mapping" 681 (r 347),e P "FoldIndex" 775 (r 407),e P "fold_pattern" 781 (r 417),e P "data_defaults" 791 (r 424),e P "Data" 850 (r 462),e P "_law_codes" 872 (r 467),e P "_law_classes" 881 (r 472),e P "_law_draw" 893 (r 479),e P "_law_book" 908 (r 486),e P "_law_data" 918 (r 493),e P "_law_apart" 935 (r 500),e P "_law_pair" 941 (r 505)] 64
noncomputable def MW(P:Of):Obj:=di (t "dict") [e P "__name__" 165 (s "law_nt0054_01" 851),e P "__doc__" 166 N,e P "__package__" 167 N,e P "__loader__" 168 (b "__main__.__loader__#opaque"),e P "__spec__" 169 N,e P "__annotations__" 170 (r 6),e P "__builtins__" 171 (r 4),e P "__file__" 173 (s "/claim/cut.py" 172),e P "__cached__" 174 N,e P "_wall" 193 (r 21),e P "MAX_CODE" 197 (i 1114111 196),e P "UniError" 226 (r 39),e P "BadTable" 242 (r 52),e P "place_by_half" 253 (r 61),e P "SYLLABLE_FIRST" 257 (i 44032 256),e P "LEAD_FIRST" 259 (i 4352 258),e P "VOWEL_FIRST" 261 (i 4449 260),e P "TAIL_NONE" 263 (i 4519 262),e P "LEADS" 265 (i 19 264),e P "VOWELS" 267 (i 21 266),e P "TAILS" 269 (i 28 268),e P "SYLLABLES" 272 (i 11172 271),e P "is_hangul_syllable" 279 (r 68),e P "hangul_numbers" 287 (r 75),e P "hangul_parts" 297 (r 82),e P "hangul_pair" 307 (r 89),e P "form_mapping" 320 (r 96),e P "form_expanded" 335 (r 103),e P "ordered" 347 (r 110),e P "form_sorted" 353 (r 115),e P "decomposed" 364 (r 123),e P "primary_composites" 376 (r 130),e P "form_is_primary" 385 (r 137),e P "Composer" 435 (r 168),e P "composed" 450 (r 180),e P "form_of" 461 (r 188),e P "nfd" 469 (r 195),e P "nfc" 477 (r 202),e P "nfkc" 485 (r 209),e P "range_are_like" 495 (r 216),e P "RangeMap" 563 (r 259),e P "range_rows" 575 (r 270),e P "fold_of" 588 (r 277),e P "fold_statuses" 597 (r 284),e P "fold_by" 608 (r 291),e P "fold_full" 617 (r 299),e P "nfkc_casefold" 628 (r 306),e P "caseless_identifier" 636 (r 313),e P "matches_identifier" 645 (r 320),e P "changes_when_folded" 654 (r 327),e P "changes_when_nfkc_casefolded" 662 (r 334),e P "fold_toggled" 674 (r 341),e P "fold_identifier_mapping" 681 (r 347),e P "FoldIndex" 775 (r 407),e P "fold_pattern" 781 (r 417),e P "data_defaults" 791 (r 424),e P "Data" 850 (r 462),e P "_law_codes" 872 (r 467),e P "_law_classes" 881 (r 472),e P "_law_draw" 893 (r 479),e P "_law_book" 908 (r 486),e P "_law_data" 918 (r 493),e P "_law_apart" 935 (r 500),e P "_law_pair" 941 (r 505),e P "_law_together" 952 (r 512),e P "_law_folded" 958 (r 517),e P "_law_mapping" 964 (r 522),e P "_law_mapped" 975 (r 529),e P "_law_turned" 981 (r 534),e P "_law_alike" 987 (r 539),e P "_law_other" 993 (r 544),e P "_law_texts_right" 1007 (r 551),e P "_law_pattern_right" 1013 (r 556),e P "law" 1019 (r 561)] 74
noncomputable def JI(P:Of):Obj:=fi N []
noncomputable def LU(P:Of):Obj:=fi N [(i0 1),(i0 0),(r 20),(i0 6),(i0 0),(r 27),(i0 10),(i0 0),(r 48),(i0 12),(i0 0),(r 60)]
noncomputable def LT(P:Of):Obj:=fi N [(i0 1),(i0 0),(r 20),(i0 6),(i0 0),(r 27),(i0 10),(i0 0),(r 48),(i0 12),(i0 0),(r 60),(i0 31),(i0 0),(r 67),(i0 33),(i0 0),(r 74),(i0 36),(i0 0),(r 81),(i0 43),(i0 0),(r 88),(i0 52),(i0 0),(r 95),(i0 60),(i0 0),(r 102),(i0 79),(i0 0),(r 109),(i0 91),(i0 0),(r 114),(i0 93),(i0 0),(r 122),(i0 98),(i0 0),(r 129),(i0 107),(i0 0),(r 136),(i0 111),(i0 0),(r 143)]
noncomputable def LS(P:Of):Obj:=fi N [(i0 1),(i0 0),(r 20),(i0 6),(i0 0),(r 27),(i0 10),(i0 0),(r 48),(i0 12),(i0 0),(r 60),(i0 31),(i0 0),(r 67),(i0 33),(i0 0),(r 74),(i0 36),(i0 0),(r 81),(i0 43),(i0 0),(r 88),(i0 52),(i0 0),(r 95),(i0 60),(i0 0),(r 102),(i0 79),(i0 0),(r 109),(i0 91),(i0 0),(r 114),(i0 93),(i0 0),(r 122),(i0 98),(i0 0),(r 129),(i0 107),(i0 0),(r 136),(i0 111),(i0 0),(r 143),(i0 125),(i0 0),(r 179),(i0 141),(i0 0),(r 187),(i0 144),(i0 0),(r 194),(i0 146),(i0 0),(r 201),(i0 148),(i0 0),(r 208),(i0 151),(i0 0),(r 215),(i0 153),(i0 0),(r 222),(i0 183),(i0 0),(r 269),(i0 190),(i0 0),(r 276)]
noncomputable def LR(P:Of):Obj:=fi N [(i0 1),(i0 0),(r 20),(i0 6),(i0 0),(r 27),(i0 10),(i0 0),(r 48),(i0 12),(i0 0),(r 60),(i0 31),(i0 0),(r 67),(i0 33),(i0 0),(r 74),(i0 36),(i0 0),(r 81),(i0 43),(i0 0),(r 88),(i0 52),(i0 0),(r 95),(i0 60),(i0 0),(r 102),(i0 79),(i0 0),(r 109),(i0 91),(i0 0),(r 114),(i0 93),(i0 0),(r 122),(i0 98),(i0 0),(r 129),(i0 107),(i0 0),(r 136),(i0 111),(i0 0),(r 143),(i0 125),(i0 0),(r 179),(i0 141),(i0 0),(r 187),(i0 144),(i0 0),(r 194),(i0 146),(i0 0),(r 201),(i0 148),(i0 0),(r 208),(i0 151),(i0 0),(r 215),(i0 153),(i0 0),(r 222),(i0 183),(i0 0),(r 269),(i0 190),(i0 0),(r 276),(i0 197),(i0 0),(r 283),(i0 200),(i0 0),(r 290),(i0 205),(i0 0),(r 298),(i0 207),(i0 0),(r 305),(i0 216),(i0 0),(r 312),(i0 218),(i0 0),(r 319),(i0 220),(i0 0),(r 326),(i0 223),(i0 0),(r 333),(i0 225),(i0 0),(r 340),(i0 234),(i0 0),(r 346),(i0 243),(i0 0),(r 353)]
noncomputable def LQ(P:Of):Obj:=fi N [(i0 1),(i0 0),(r 20),(i0 6),(i0 0),(r 27),(i0 10),(i0 0),(r 48),(i0 12),(i0 0),(r 60),(i0 31),(i0 0),(r 67),(i0 33),(i0 0),(r 74),(i0 36),(i0 0),(r 81),(i0 43),(i0 0),(r 88),(i0 52),(i0 0),(r 95),(i0 60),(i0 0),(r 102),(i0 79),(i0 0),(r 109),(i0 91),(i0 0),(r 114),(i0 93),(i0 0),(r 122),(i0 98),(i0 0),(r 129),(i0 107),(i0 0),(r 136),(i0 111),(i0 0),(r 143),(i0 125),(i0 0),(r 179),(i0 141),(i0 0),(r 187),(i0 144),(i0 0),(r 194),(i0 146),(i0 0),(r 201),(i0 148),(i0 0),(r 208),(i0 151),(i0 0),(r 215),(i0 153),(i0 0),(r 222),(i0 183),(i0 0),(r 269),(i0 190),(i0 0),(r 276),(i0 197),(i0 0),(r 283),(i0 200),(i0 0),(r 290),(i0 205),(i0 0),(r 298),(i0 207),(i0 0),(r 305),(i0 216),(i0 0),(r 312),(i0 218),(i0 0),(r 319),(i0 220),(i0 0),(r 326),(i0 223),(i0 0),(r 333),(i0 225),(i0 0),(r 340),(i0 234),(i0 0),(r 346),(i0 243),(i0 0),(r 353),(i0 291),(i0 0),(r 416),(i0 295),(i0 0),(r 423),(i0 307),(i0 0),(r 430),(i0 330),(i0 0),(r 478),(i0 336),(i0 0),(r 485),(i0 359),(i0 0),(r 492),(i0 365),(i0 0),(r 499),(i0 383),(i0 0),(r 504)]
noncomputable def LP(P:Of):Obj:=fi N [(i0 1),(i0 0),(r 20),(i0 6),(i0 0),(r 27),(i0 10),(i0 0),(r 48),(i0 12),(i0 0),(r 60),(i0 31),(i0 0),(r 67),(i0 33),(i0 0),(r 74),(i0 36),(i0 0),(r 81),(i0 43),(i0 0),(r 88),(i0 52),(i0 0),(r 95),(i0 60),(i0 0),(r 102),(i0 79),(i0 0),(r 109),(i0 91),(i0 0),(r 114),(i0 93),(i0 0),(r 122),(i0 98),(i0 0),(r 129),(i0 107),(i0 0),(r 136),(i0 111),(i0 0),(r 143),(i0 125),(i0 0),(r 179),(i0 141),(i0 0),(r 187),(i0 144),(i0 0),(r 194),(i0 146),(i0 0),(r 201),(i0 148),(i0 0),(r 208),(i0 151),(i0 0),(r 215),(i0 153),(i0 0),(r 222),(i0 183),(i0 0),(r 269),(i0 190),(i0 0),(r 276),(i0 197),(i0 0),(r 283),(i0 200),(i0 0),(r 290),(i0 205),(i0 0),(r 298),(i0 207),(i0 0),(r 305),(i0 216),(i0 0),(r 312),(i0 218),(i0 0),(r 319),(i0 220),(i0 0),(r 326),(i0 223),(i0 0),(r 333),(i0 225),(i0 0),(r 340),(i0 234),(i0 0),(r 346),(i0 243),(i0 0),(r 353),(i0 291),(i0 0),(r 416),(i0 295),(i0 0),(r 423),(i0 307),(i0 0),(r 430),(i0 330),(i0 0),(r 478),(i0 336),(i0 0),(r 485),(i0 359),(i0 0),(r 492),(i0 365),(i0 0),(r 499),(i0 383),(i0 0),(r 504),(i0 394),(i0 0),(r 511),(i0 404),(i0 0),(r 516),(i0 411),(i0 0),(r 521),(i0 421),(i0 0),(r 528),(i0 426),(i0 0),(r 533),(i0 428),(i0 0),(r 538),(i0 431),(i0 0),(r 543),(i0 438),(i0 0),(r 550),(i0 452),(i0 0),(r 555),(i0 456),(i0 0),(r 560)]
noncomputable def g2(P:Of)(R:List Obj):List Obj:=tu []::fi N []::tu [(s "k" 190)]::tu []::fu N (st 0) "_wall" 0 N N N N N 0::cq "_wall" "_wall" 187 1 1 15 16 191::fu (t "function") (st 0) "_wall" 3 N N N (s "__main__" 164) (r 20) 0::tu [(t "Exception")]::fi (t "builtin_function_or_method") [(b "type.__prepare__"),(t "type")]::di (t "dict") [e P "__module__" 205 (s "unicore.base" 194),e P "__qualname__" 207 (s "UniError" 206),e P "__firstlineno__" 209 (i 6 208),e P "__init__" 217 (r 36),e P "__static_attributes__" 219 (r 37)] 5::tu []::fi N [(i0 8),(i0 4),(r 35)]::co [(s "UniError" 200),(s "UniError" 201),(s "/claim/cut.py" 202),(i0 6),(i0 0),(i0 0),(i0 0),(i0 0),(r 25),F,(i0 181),(r 26),N,N,N,N,(i0 203),(i0 6),(s "/claim/cut.py" 204)]::pl (t "frame") Nq [Nk (r 27),Nk (r 3),Nk (r 24),Nq,Nk (s "unicore.base" 194),Nq,Nk (r 0)]::tu [N]::tu []::fi N []::tu [(s "self" 213),(s "told" 214)]::tu []::fu N (cj 3 0) "UniError.__init__" 0 N N N N N 0::cq "__init__" "UniError.__init__" 210 8 2 30 31 215::fu (t "function") (cj 3 0) "UniError.__init__" 3 (r 29) N N (s "unicore.base" 194) (r 35) 0::tu [(s "told" 218)]::di (t "dict") [e P "__module__" 205 (s "unicore.base" 194),e P "__firstlineno__" 209 (i 6 208),e P "__init__" 217 (r 36),e P "__static_attributes__" 219 (r 37),e P "__weakref__" 221 (r 40),e P "__doc__" 222 N] 3::cl (t "type") "UniError" [(t "Exception")] [(r 39),(t "Exception"),(t "BaseException"),(t "object")] 38 "UniError" [(r 52)] [Nk (r 22),Nq,Nk (s "UniError" 198),Nk (s "UniError" 206),Nk (b "Exception.__new__"),Nk T]::fi (t "getset_descriptor") [(s "__weakref__" 220),(r 39),(b "ExceptionGroup.__weakref__"),N]::fi (t "super") [(r 39),(r 39),(r 39)]::fi (t "builtin_function_or_method") [(b "object.__init_subclass__"),(r 39)]::tu [(r 39)]::fi (t "builtin_function_or_method") [(b "type.__prepare__"),(t "type")]::di (t "dict") [e P "__module__" 234 (s "unicore.base" 194),e P "__qualname__" 236 (s "BadTable" 235),e P "__firstlineno__" 238 (i 10 237),e P "__static_attributes__" 239 (r 50)] 4::tu []::fi N []::co [(s "BadTable" 229),(s "BadTable" 230),(s "/claim/cut.py" 231),(i0 10),(i0 0),(i0 0),(i0 0),(i0 0),(r 46),F,(i0 181),(r 47),N,N,N,N,(i0 232),(i0 10),(s "/claim/cut.py" 233)]::pl (t "frame") Nq [Nk (r 48),Nk (r 3),Nk (r 45),Nq,Nk (s "unicore.base" 194),Nq,Nk (r 0)]::tu []::di (t "dict") [e P "__module__" 234 (s "unicore.base" 194),e P "__firstlineno__" 238 (i 10 237),e P "__static_attributes__" 239 (r 50),e P "__doc__" 240 N] 2::cl (t "type") "BadTable" [(r 39)] [(r 52),(r 39),(t "Exception"),(t "BaseException"),(t "object")] 51 "BadTable" [] [Nk (r 43),Nq,Nk (s "BadTable" 227),Nk (s "BadTable" 235),Nk (b "Exception.__new__"),Nk T]::fi (t "super") [(r 52),(r 52),(r 52)]::fi (t "builtin_function_or_method") [(b "object.__init_subclass__"),(r 52)]::tu []::fi N []::tu [(s "firsts" 246),(s "number" 247),(s "low" 248),(s "high" 249),(s "middle" 250)]::tu []::fu N (st 5) "place_by_half" 0 N N N N N 0::cq "place_by_half" "place_by_half" 243 12 2 55 56 251::fu (t "function") (st 5) "place_by_half" 3 N N N (s "unicore.base" 194) (r 60) 0::R
noncomputable def g3(P:Of)(R:List Obj):List Obj:=tu []::fi N []::tu [(s "code" 276)]::tu []::fu N (st 15) "is_hangul_syllable" 0 N N N N N 0::cq "is_hangul_syllable" "is_hangul_syllable" 273 31 1 62 63 277::fu (t "function") (st 15) "is_hangul_syllable" 3 N N N (s "unicore.hangul" 254) (r 67) 0::tu []::fi N []::tu [(s "code" 283),(s "number" 284)]::tu []::fu N (st 16) "hangul_numbers" 0 N N N N N 0::cq "hangul_numbers" "hangul_numbers" 280 33 1 69 70 285::fu (t "function") (st 16) "hangul_numbers" 3 N N N (s "unicore.hangul" 254) (r 74) 0::tu []::fi N []::tu [(s "code" 291),(s "lead" 292),(s "vowel" 293),(s "tail" 294)]::tu []::fu N (st 17) "hangul_parts" 0 N N N N N 0::cq "hangul_parts" "hangul_parts" 288 36 1 76 77 295::fu (t "function") (st 17) "hangul_parts" 3 N N N (s "unicore.hangul" 254) (r 81) 0::tu []::fi N []::tu [(s "one" 301),(s "other" 302),(s "lead" 303),(s "vowel" 304)]::tu []::fu N (st 18) "hangul_pair" 0 N N N N N 0::cq "hangul_pair" "hangul_pair" 298 43 2 83 84 305::fu (t "function") (st 18) "hangul_pair" 3 N N N (s "unicore.hangul" 254) (r 88) 0::tu []::fi N []::tu [(s "code" 313),(s "data" 314),(s "is_compat" 315),(s "parts" 316),(s "told" 317)]::tu []::fu N (st 20) "form_mapping" 0 N N N N N 0::cq "form_mapping" "form_mapping" 310 52 3 90 91 318::fu (t "function") (st 20) "form_mapping" 3 N N N (s "unicore.forms" 308) (r 95) 0::tu []::fi N []::tu [(s "code" 324),(s "data" 325),(s "is_compat" 326),(s "found" 327),(s "waiting" 328),(s "open_codes" 329),(s "here" 330),(s "parts" 331),(s "part" 332)]::tu []::fu N (st 21) "form_expanded" 0 N N N N N 0::cq "form_expanded" "form_expanded" 321 60 3 97 98 333::fu (t "function") (st 21) "form_expanded" 3 N N N (s "unicore.forms" 308) (r 102) 0::tu []::fi N []::tu [(s "text" 339),(s "data" 340),(s "found" 341),(s "run" 342),(s "code" 343),(s "weight" 344)]::tu []::fu N (st 22) "ordered" 0 N N N N N 0::cq "ordered" "ordered" 336 79 2 104 105 345::fu (t "function") (st 22) "ordered" 3 N N N (s "unicore.forms" 308) (r 109) 0::tu []::fi N []::fu N (st 23) "form_sorted" 0 N N N N N 0::co [(s "form_sorted" 348),(s "form_sorted" 349),(s "/claim/cut.py" 350),(i0 91),(i0 1),(i0 0),(i0 0),(i0 3),(r 111),T,(i0 181),(r 112),N,N,N,(r 113),(i0 351),(i0 91),(s "/claim/cut.py" 352)]::fu (t "function") (st 23) "form_sorted" 3 N N N (s "unicore.forms" 308) (r 114) 0::tu [F]::tu []::fi N []::tu [(s "text" 357),(s "data" 358),(s "is_compat" 359),(s "found" 360),(s "code" 361)]::tu []::fu N (st 24) "decomposed" 0 N N N N N 0::cq "decomposed" "decomposed" 354 93 3 117 118 362::fu (t "function") (st 24) "decomposed" 3 (r 116) N N (s "unicore.forms" 308) (r 122) 0::tu []::fi N []::tu [(s "data" 368),(s "found" 369),(s "first" 370),(s "last" 371),(s "told" 372),(s "code" 373)]::tu []::fu N (st 25) "primary_composites" 0 N N N N N 0::cq "primary_composites" "primary_composites" 365 98 1 124 125 374::fu (t "function") (st 25) "primary_composites" 3 N N N (s "unicore.forms" 308) (r 129) 0::tu []::fi N []::tu [(s "code" 380),(s "parts" 381),(s "data" 382)]::tu []::fu N (st 26) "form_is_primary" 0 N N N N N 0::cq "form_is_primary" "form_is_primary" 377 107 3 131 132 383::fu (t "function") (st 26) "form_is_primary" 3 N N N (s "unicore.forms" 308) (r 136) 0::tu []::fi (t "builtin_function_or_method") [(b "type.__prepare__"),(t "type")]::di (t "dict") [e P "__module__" 393 (s "unicore.forms" 308),e P "__qualname__" 395 (s "Composer" 394),e P "__firstlineno__" 397 (i 111 396),e P "__init__" 407 (r 151),e P "pair" 417 (r 158),e P "is_second" 425 (r 165),e P "__static_attributes__" 428 (r 166)] 7::tu []::fi N [(i0 113),(i0 4),(r 150),(i0 119),(i0 4),(r 157),(i0 123),(i0 4),(r 164)]::co [(s "Composer" 388),(s "Composer" 389),(s "/claim/cut.py" 390),(i0 111),(i0 0),(i0 0),(i0 0),(i0 0),(r 141),F,(i0 181),(r 142),N,N,N,N,(i0 391),(i0 111),(s "/claim/cut.py" 392)]::pl (t "frame") Nq [Nk (r 143),Nk (r 3),Nk (r 140),Nq,Nk (s "unicore.forms" 308),Nq,Nk (r 0)]::tu []::fi N []::tu [(s "self" 401),(s "data" 402),(s "one" 403),(s "other" 404)]::tu []::fu N (cj 27 0) "Composer.__init__" 0 N N N N N 0::cq "__init__" "Composer.__init__" 398 113 2 145 146 405::fu (t "function") (cj 27 0) "Composer.__init__" 3 N N N (s "unicore.forms" 308) (r 150) 0::tu []::fi N []::tu [(s "self" 411),(s "one" 412),(s "other" 413),(s "found" 414)]::tu []::fu N (cj 27 1) "Composer.pair" 0 N N N N N 0::cq "pair" "Composer.pair" 408 119 3 152 153 415::fu (t "function") (cj 27 1) "Composer.pair" 3 N N N (s "unicore.forms" 308) (r 157) 0::tu []::fi N []::tu [(s "self" 421),(s "code" 422)]::tu []::fu N (cj 27 2) "Composer.is_second" 0 N N N N N 0::cq "is_second" "Composer.is_second" 418 123 2 159 160 423::fu (t "function") (cj 27 2) "Composer.is_second" 3 N N N (s "unicore.forms" 308) (r 164) 0::tu [(s "pairs" 426),(s "seconds" 427)]::di (t "dict") [e P "__module__" 393 (s "unicore.forms" 308),e P "__firstlineno__" 397 (i 111 396),e P "__init__" 407 (r 151),e P "pair" 417 (r 158),e P "is_second" 425 (r 165),e P "__static_attributes__" 428 (r 166),e P "__dict__" 430 (r 169),e P "__weakref__" 432 (r 170),e P "__doc__" 433 N] 4::cl (t "type") "Composer" [(t "object")] [(r 168),(t "object")] 167 "Composer" [] [Nq,Nq,Nk (s "Composer" 386),Nk (s "Composer" 394),Nk (b "object.__new__"),Nk T]::fi (t "getset_descriptor") [(s "__dict__" 429),(r 168),(b "function.__dict__"),(b "function.__dict__#set")]::fi (t "getset_descriptor") [(s "__weakref__" 431),(r 168),(b "ExceptionGroup.__weakref__"),N]::fi (t "super") [(r 168),(r 168),(r 168)]::fi (t "builtin_function_or_method") [(b "object.__init_subclass__"),(r 168)]::R
noncomputable def g4(P:Of)(R:List Obj):List Obj:=tu [N]::tu []::fi N []::tu [(s "text" 439),(s "data" 440),(s "composer" 441),(s "found" 442),(s "starter" 443),(s "most" 444),(s "code" 445),(s "weight" 446),(s "pair" 447)]::tu []::fu N (st 28) "composed" 0 N N N N N 0::cq "composed" "composed" 436 125 3 174 175 448::fu (t "function") (st 28) "composed" 3 (r 173) N N (s "unicore.forms" 308) (r 179) 0::tu [N]::tu []::fi N []::tu [(s "text" 454),(s "data" 455),(s "word" 456),(s "composer" 457),(s "found" 458)]::tu []::fu N (st 29) "form_of" 0 N N N N N 0::cq "form_of" "form_of" 451 141 4 182 183 459::fu (t "function") (st 29) "form_of" 3 (r 181) N N (s "unicore.forms" 308) (r 187) 0::tu []::fi N []::tu [(s "text" 465),(s "data" 466)]::tu []::fu N (st 30) "nfd" 0 N N N N N 0::cq "nfd" "nfd" 462 144 2 189 190 467::fu (t "function") (st 30) "nfd" 3 N N N (s "unicore.forms" 308) (r 194) 0::tu []::fi N []::tu [(s "text" 473),(s "data" 474)]::tu []::fu N (st 31) "nfc" 0 N N N N N 0::cq "nfc" "nfc" 470 146 2 196 197 475::fu (t "function") (st 31) "nfc" 3 N N N (s "unicore.forms" 308) (r 201) 0::tu []::fi N []::tu [(s "text" 481),(s "data" 482)]::tu []::fu N (st 32) "nfkc" 0 N N N N N 0::cq "nfkc" "nfkc" 478 148 2 203 204 483::fu (t "function") (st 32) "nfkc" 3 N N N (s "unicore.forms" 308) (r 208) 0::tu []::fi N []::tu [(s "one" 491),(s "other" 492)]::tu []::fu N (st 34) "range_are_like" 0 N N N N N 0::cq "range_are_like" "range_are_like" 488 151 2 210 211 493::fu (t "function") (st 34) "range_are_like" 3 N N N (s "unicore.ranges" 486) (r 215) 0::tu []::fi (t "builtin_function_or_method") [(b "type.__prepare__"),(t "type")]::di (t "dict") [e P "__module__" 503 (s "unicore.ranges" 486),e P "__qualname__" 505 (s "RangeMap" 504),e P "__firstlineno__" 507 (i 153 506),e P "__init__" 515 (r 230),e P "get" 523 (r 237),e P "put" 538 (r 244),e P "ranges" 544 (r 249),e P "set_of" 552 (r 256),e P "__static_attributes__" 556 (r 257)] 9::tu []::fi N [(i0 155),(i0 4),(r 229),(i0 160),(i0 4),(r 236),(i0 163),(i0 4),(r 243),(i0 178),(i0 4),(r 248),(i0 181),(i0 4),(r 255)]::co [(s "RangeMap" 498),(s "RangeMap" 499),(s "/claim/cut.py" 500),(i0 153),(i0 0),(i0 0),(i0 0),(i0 0),(r 220),F,(i0 181),(r 221),N,N,N,N,(i0 501),(i0 153),(s "/claim/cut.py" 502)]::pl (t "frame") Nq [Nk (r 222),Nk (r 3),Nk (r 219),Nq,Nk (s "unicore.ranges" 486),Nq,Nk (r 0)]::tu []::fi N []::tu [(s "self" 511),(s "default" 512)]::tu []::fu N (cj 35 0) "RangeMap.__init__" 0 N N N N N 0::cq "__init__" "RangeMap.__init__" 508 155 2 224 225 513::fu (t "function") (cj 35 0) "RangeMap.__init__" 3 N N N (s "unicore.ranges" 486) (r 229) 0::tu []::fi N []::tu [(s "self" 519),(s "code" 520)]::tu []::fu N (cj 35 1) "RangeMap.get" 0 N N N N N 0::cq "get" "RangeMap.get" 516 160 2 231 232 521::fu (t "function") (cj 35 1) "RangeMap.get" 3 N N N (s "unicore.ranges" 486) (r 236) 0::tu []::fi N []::tu [(s "self" 527),(s "first" 528),(s "last" 529),(s "value" 530),(s "low" 531),(s "high" 532),(s "behind" 533),(s "starts" 534),(s "values" 535)]::tu []::fu N (cj 35 2) "RangeMap.put" 0 N N N N N 0::cq "put" "RangeMap.put" 524 163 4 238 239 536::fu (t "function") (cj 35 2) "RangeMap.put" 3 N N N (s "unicore.ranges" 486) (r 243) 0::tu []::fi N []::fu N (cj 35 3) "RangeMap.ranges" 0 N N N N N 0::co [(s "ranges" 539),(s "RangeMap.ranges" 540),(s "/claim/cut.py" 541),(i0 178),(i0 1),(i0 0),(i0 0),(i0 3),(r 245),T,(i0 181),(r 246),N,N,N,(r 247),(i0 542),(i0 178),(s "/claim/cut.py" 543)]::fu (t "function") (cj 35 3) "RangeMap.ranges" 3 N N N (s "unicore.ranges" 486) (r 248) 0::tu []::fi N []::tu [(s "self" 548),(s "value" 549)]::tu []::fu N (cj 35 4) "RangeMap.set_of" 0 N N N N N 0::cq "set_of" "RangeMap.set_of" 545 181 2 250 251 550::fu (t "function") (cj 35 4) "RangeMap.set_of" 3 N N N (s "unicore.ranges" 486) (r 255) 0::tu [(s "default" 553),(s "starts" 554),(s "values" 555)]::di (t "dict") [e P "__module__" 503 (s "unicore.ranges" 486),e P "__firstlineno__" 507 (i 153 506),e P "__init__" 515 (r 230),e P "get" 523 (r 237),e P "put" 538 (r 244),e P "ranges" 544 (r 249),e P "set_of" 552 (r 256),e P "__static_attributes__" 556 (r 257),e P "__dict__" 558 (r 260),e P "__weakref__" 560 (r 261),e P "__doc__" 561 N] 4::cl (t "type") "RangeMap" [(t "object")] [(r 259),(t "object")] 258 "RangeMap" [] [Nq,Nq,Nk (s "RangeMap" 496),Nk (s "RangeMap" 504),Nk (b "object.__new__"),Nk T]::fi (t "getset_descriptor") [(s "__dict__" 557),(r 259),(b "function.__dict__"),(b "function.__dict__#set")]::fi (t "getset_descriptor") [(s "__weakref__" 559),(r 259),(b "ExceptionGroup.__weakref__"),N]::fi (t "super") [(r 259),(r 259),(r 259)]::fi (t "builtin_function_or_method") [(b "object.__init_subclass__"),(r 259)]::tu []::fi N []::tu [(s "range_map" 567),(s "starts" 568),(s "found" 569),(s "at" 570),(s "value" 571),(s "last" 572)]::tu []::fu N (st 36) "range_rows" 0 N N N N N 0::cq "range_rows" "range_rows" 564 183 1 264 265 573::fu (t "function") (st 36) "range_rows" 3 N N N (s "unicore.ranges" 486) (r 269) 0::tu []::fi N []::tu [(s "code" 581),(s "data" 582),(s "statuses" 583),(s "known" 584),(s "status" 585)]::tu []::fu N (st 38) "fold_of" 0 N N N N N 0::cq "fold_of" "fold_of" 578 190 3 271 272 586::fu (t "function") (st 38) "fold_of" 3 N N N (s "unicore.folding" 576) (r 276) 0::R
noncomputable def g5(P:Of)(R:List Obj):List Obj:=tu []::fi N []::tu [(s "is_full" 592),(s "is_turkic" 593),(s "found" 594)]::tu []::fu N (st 39) "fold_statuses" 0 N N N N N 0::cq "fold_statuses" "fold_statuses" 589 197 2 278 279 595::fu (t "function") (st 39) "fold_statuses" 3 N N N (s "unicore.folding" 576) (r 283) 0::tu []::fi N []::tu [(s "text" 601),(s "data" 602),(s "statuses" 603),(s "found" 604),(s "code" 605)]::tu []::fu N (st 40) "fold_by" 0 N N N N N 0::cq "fold_by" "fold_by" 598 200 3 285 286 606::fu (t "function") (st 40) "fold_by" 3 N N N (s "unicore.folding" 576) (r 290) 0::tu [F]::tu []::fi N []::tu [(s "text" 612),(s "data" 613),(s "is_turkic" 614)]::tu []::fu N (st 41) "fold_full" 0 N N N N N 0::cq "fold_full" "fold_full" 609 205 3 293 294 615::fu (t "function") (st 41) "fold_full" 3 (r 292) N N (s "unicore.folding" 576) (r 298) 0::tu []::fi N []::tu [(s "text" 621),(s "data" 622),(s "found" 623),(s "code" 624),(s "known" 625)]::tu []::fu N (st 42) "nfkc_casefold" 0 N N N N N 0::cq "nfkc_casefold" "nfkc_casefold" 618 207 2 300 301 626::fu (t "function") (st 42) "nfkc_casefold" 3 N N N (s "unicore.folding" 576) (r 305) 0::tu []::fi N []::tu [(s "text" 632),(s "data" 633)]::tu []::fu N (st 43) "caseless_identifier" 0 N N N N N 0::cq "caseless_identifier" "caseless_identifier" 629 216 2 307 308 634::fu (t "function") (st 43) "caseless_identifier" 3 N N N (s "unicore.folding" 576) (r 312) 0::tu []::fi N []::tu [(s "one" 640),(s "other" 641),(s "data" 642)]::tu []::fu N (st 44) "matches_identifier" 0 N N N N N 0::cq "matches_identifier" "matches_identifier" 637 218 3 314 315 643::fu (t "function") (st 44) "matches_identifier" 3 N N N (s "unicore.folding" 576) (r 319) 0::tu []::fi N []::tu [(s "text" 649),(s "data" 650),(s "plain" 651)]::tu []::fu N (st 45) "changes_when_folded" 0 N N N N N 0::cq "changes_when_folded" "changes_when_folded" 646 220 2 321 322 652::fu (t "function") (st 45) "changes_when_folded" 3 N N N (s "unicore.folding" 576) (r 326) 0::tu []::fi N []::tu [(s "text" 658),(s "data" 659)]::tu []::fu N (st 46) "changes_when_nfkc_casefolded" 0 N N N N N 0::cq "changes_when_nfkc_casefolded" "changes_when_nfkc_casefolded" 655 223 2 328 329 660::fu (t "function") (st 46) "changes_when_nfkc_casefolded" 3 N N N (s "unicore.folding" 576) (r 333) 0::tu []::fi N []::tu [(s "text" 666),(s "data" 667),(s "found" 668),(s "code" 669),(s "lower" 670),(s "upper" 671)]::tu []::fu N (st 47) "fold_toggled" 0 N N N N N 0::cq "fold_toggled" "fold_toggled" 663 225 2 335 336 672::fu (t "function") (st 47) "fold_toggled" 3 N N N (s "unicore.folding" 576) (r 340) 0::tu [(i 8 675)]::tu []::fi N []::fu N (st 48) "fold_identifier_mapping" 0 N N N N N 0::co [(s "fold_identifier_mapping" 676),(s "fold_identifier_mapping" 677),(s "/claim/cut.py" 678),(i0 234),(i0 3),(i0 0),(i0 0),(i0 3),(r 343),T,(i0 181),(r 344),N,N,N,(r 345),(i0 679),(i0 234),(s "/claim/cut.py" 680)]::fu (t "function") (st 48) "fold_identifier_mapping" 3 (r 342) N N (s "unicore.folding" 576) (r 346) 0::tu []::fi (t "builtin_function_or_method") [(b "type.__prepare__"),(t "type")]::di (t "dict") [e P "__module__" 689 (s "unicore.folding" 576),e P "__qualname__" 691 (s "FoldIndex" 690),e P "__firstlineno__" 693 (i 243 692),e P "__init__" 706 (r 362),e P "put" 715 (r 369),e P "alike" 725 (r 376),e P "unfolded" 733 (r 383),e P "strings" 741 (r 390),e P "spelled" 754 (r 397),e P "closed" 762 (r 404),e P "__static_attributes__" 768 (r 405)] 11::tu []::fi N [(i0 245),(i0 4),(r 361),(i0 256),(i0 4),(r 368),(i0 264),(i0 4),(r 375),(i0 273),(i0 4),(r 382),(i0 276),(i0 4),(r 389),(i0 279),(i0 4),(r 396),(i0 289),(i0 4),(r 403)]::co [(s "FoldIndex" 684),(s "FoldIndex" 685),(s "/claim/cut.py" 686),(i0 243),(i0 0),(i0 0),(i0 0),(i0 0),(r 351),F,(i0 181),(r 352),N,N,N,N,(i0 687),(i0 243),(s "/claim/cut.py" 688)]::pl (t "frame") Nq [Nk (r 353),Nk (r 3),Nk (r 350),Nq,Nk (s "unicore.folding" 576),Nq,Nk (r 0)]::tu [F]::tu []::fi N []::tu [(s "self" 697),(s "data" 698),(s "is_turkic" 699),(s "first" 700),(s "last" 701),(s "known" 702),(s "code" 703)]::tu []::fu N (cj 49 0) "FoldIndex.__init__" 0 N N N N N 0::cq "__init__" "FoldIndex.__init__" 694 245 3 356 357 704::fu (t "function") (cj 49 0) "FoldIndex.__init__" 3 (r 355) N N (s "unicore.folding" 576) (r 361) 0::tu []::fi N []::tu [(s "self" 710),(s "code" 711),(s "goal" 712)]::tu []::fu N (cj 49 1) "FoldIndex.put" 0 N N N N N 0::cq "put" "FoldIndex.put" 707 256 2 363 364 713::fu (t "function") (cj 49 1) "FoldIndex.put" 3 N N N (s "unicore.folding" 576) (r 368) 0::tu []::fi N []::tu [(s "self" 719),(s "code" 720),(s "goal" 721),(s "found" 722)]::tu []::fu N (cj 49 2) "FoldIndex.alike" 0 N N N N N 0::cq "alike" "FoldIndex.alike" 716 264 2 370 371 723::fu (t "function") (cj 49 2) "FoldIndex.alike" 3 N N N (s "unicore.folding" 576) (r 375) 0::tu []::fi N []::tu [(s "self" 729),(s "goal" 730)]::tu []::fu N (cj 49 3) "FoldIndex.unfolded" 0 N N N N N 0::cq "unfolded" "FoldIndex.unfolded" 726 273 2 377 378 731::fu (t "function") (cj 49 3) "FoldIndex.unfolded" 3 N N N (s "unicore.folding" 576) (r 382) 0::tu []::fi N []::tu [(s "self" 737),(s "code" 738)]::tu []::fu N (cj 49 4) "FoldIndex.strings" 0 N N N N N 0::cq "strings" "FoldIndex.strings" 734 276 2 384 385 739::fu (t "function") (cj 49 4) "FoldIndex.strings" 3 N N N (s "unicore.folding" 576) (r 389) 0::tu []::fi N []::tu [(s "self" 745),(s "goal" 746),(s "found" 747),(s "code" 748),(s "longer" 749),(s "head" 750),(s "one" 751)]::tu []::fu N (cj 49 5) "FoldIndex.spelled" 0 N N N N N 0::cq "spelled" "FoldIndex.spelled" 742 279 2 391 392 752::fu (t "function") (cj 49 5) "FoldIndex.spelled" 3 N N N (s "unicore.folding" 576) (r 396) 0::tu []::fi N []::tu [(s "self" 758),(s "codes" 759)]::tu []::fu N (cj 49 6) "FoldIndex.closed" 0 N N N N N 0::cq "closed" "FoldIndex.closed" 755 289 2 398 399 760::fu (t "function") (cj 49 6) "FoldIndex.closed" 3 N N N (s "unicore.folding" 576) (r 403) 0::tu [(s "data" 763),(s "full" 764),(s "simple" 765),(s "to_many" 766),(s "to_one" 767)]::di (t "dict") [e P "__module__" 689 (s "unicore.folding" 576),e P "__firstlineno__" 693 (i 243 692),e P "__init__" 706 (r 362),e P "put" 715 (r 369),e P "alike" 725 (r 376),e P "unfolded" 733 (r 383),e P "strings" 741 (r 390),e P "spelled" 754 (r 397),e P "closed" 762 (r 404),e P "__static_attributes__" 768 (r 405),e P "__dict__" 770 (r 408),e P "__weakref__" 772 (r 409),e P "__doc__" 773 N] 4::cl (t "type") "FoldIndex" [(t "object")] [(r 407),(t "object")] 406 "FoldIndex" [] [Nq,Nq,Nk (s "FoldIndex" 682),Nk (s "FoldIndex" 690),Nk (b "object.__new__"),Nk T]::fi (t "getset_descriptor") [(s "__dict__" 769),(r 407),(b "function.__dict__"),(b "function.__dict__#set")]::fi (t "getset_descriptor") [(s "__weakref__" 771),(r 407),(b "ExceptionGroup.__weakref__"),N]::fi (t "super") [(r 407),(r 407),(r 407)]::fi (t "builtin_function_or_method") [(b "object.__init_subclass__"),(r 407)]::R
noncomputable def g6(P:Of)(R:List Obj):List Obj:=tu [F]::tu []::fi N []::fu N (st 50) "fold_pattern" 0 N N N N N 0::co [(s "fold_pattern" 776),(s "fold_pattern" 777),(s "/claim/cut.py" 778),(i0 291),(i0 3),(i0 0),(i0 0),(i0 3),(r 413),T,(i0 181),(r 414),N,N,N,(r 415),(i0 779),(i0 291),(s "/claim/cut.py" 780)]::fu (t "function") (st 50) "fold_pattern" 3 (r 412) N N (s "unicore.folding" 576) (r 416) 0::tu []::fi N []::tu [(s "found" 787),(s "name" 788)]::tu []::fu N (st 52) "data_defaults" 0 N N N N N 0::cq "data_defaults" "data_defaults" 784 295 0 418 419 789::fu (t "function") (st 52) "data_defaults" 3 N N N (s "unicore.data" 782) (r 423) 0::tu []::fi (t "builtin_function_or_method") [(b "type.__prepare__"),(t "type")]::di (t "dict") [e P "__module__" 799 (s "unicore.data" 782),e P "__qualname__" 801 (s "Data" 800),e P "__firstlineno__" 803 (i 307 802),e P "__init__" 810 (r 438),e P "put" 821 (r 445),e P "get" 830 (r 452),e P "map_of" 838 (r 459),e P "__static_attributes__" 843 (r 460)] 8::tu []::fi N [(i0 309),(i0 4),(r 437),(i0 315),(i0 4),(r 444),(i0 318),(i0 4),(r 451),(i0 323),(i0 4),(r 458)]::co [(s "Data" 794),(s "Data" 795),(s "/claim/cut.py" 796),(i0 307),(i0 0),(i0 0),(i0 0),(i0 0),(r 428),F,(i0 181),(r 429),N,N,N,N,(i0 797),(i0 307),(s "/claim/cut.py" 798)]::pl (t "frame") Nq [Nk (r 430),Nk (r 3),Nk (r 427),Nq,Nk (s "unicore.data" 782),Nq,Nk (r 0)]::tu []::fi N []::tu [(s "self" 807)]::tu []::fu N (cj 53 0) "Data.__init__" 0 N N N N N 0::cq "__init__" "Data.__init__" 804 309 1 432 433 808::fu (t "function") (cj 53 0) "Data.__init__" 3 N N N (s "unicore.data" 782) (r 437) 0::tu []::fi N []::tu [(s "self" 814),(s "name" 815),(s "first" 816),(s "last" 817),(s "value" 818)]::tu []::fu N (cj 53 1) "Data.put" 0 N N N N N 0::cq "put" "Data.put" 811 315 5 439 440 819::fu (t "function") (cj 53 1) "Data.put" 3 N N N (s "unicore.data" 782) (r 444) 0::tu []::fi N []::tu [(s "self" 825),(s "name" 826),(s "code" 827)]::tu []::fu N (cj 53 2) "Data.get" 0 N N N N N 0::cq "get" "Data.get" 822 318 3 446 447 828::fu (t "function") (cj 53 2) "Data.get" 3 N N N (s "unicore.data" 782) (r 451) 0::tu []::fi N []::tu [(s "self" 834),(s "name" 835)]::tu []::fu N (cj 53 3) "Data.map_of" 0 N N N N N 0::cq "map_of" "Data.map_of" 831 323 2 453 454 836::fu (t "function") (cj 53 3) "Data.map_of" 3 N N N (s "unicore.data" 782) (r 458) 0::tu [(s "defaults" 839),(s "maps" 840),(s "properties" 841),(s "words" 842)]::di (t "dict") [e P "__module__" 799 (s "unicore.data" 782),e P "__firstlineno__" 803 (i 307 802),e P "__init__" 810 (r 438),e P "put" 821 (r 445),e P "get" 830 (r 452),e P "map_of" 838 (r 459),e P "__static_attributes__" 843 (r 460),e P "__dict__" 845 (r 463),e P "__weakref__" 847 (r 464),e P "__doc__" 848 N] 4::cl (t "type") "Data" [(t "object")] [(r 462),(t "object")] 461 "Data" [] [Nq,Nq,Nk (s "Data" 792),Nk (s "Data" 800),Nk (b "object.__new__"),Nk T]::fi (t "getset_descriptor") [(s "__dict__" 844),(r 462),(b "function.__dict__"),(b "function.__dict__#set")]::fi (t "getset_descriptor") [(s "__weakref__" 846),(r 462),(b "ExceptionGroup.__weakref__"),N]::fi (t "super") [(r 462),(r 462),(r 462)]::fi (t "builtin_function_or_method") [(b "object.__init_subclass__"),(r 462)]::tu [(i 97 853),(i 107 854),(i 122 855),(i 105 856),(i 305 857),(i 65 858),(i 75 859),(i 90 860),(i 73 861),(i 304 862),(i 193 863),(i 225 864),(i 8490 865),(i 223 866),(i 453 867),(i 13189 868),(i 173 869),(i 769 870),(i 803 871)]::tu [(i 230 873),(i 220 874)]::tu [(i 230 875),(i 230 876)]::tu [(i 220 877),(i 230 878)]::tu [(i 1 879),(i 202 880)]::tu [(r 468),(r 469),(r 470),(r 471)]::tu []::fi N []::tu [(s "well" 885),(s "size" 886),(s "cells" 887),(s "at" 888),(s "stirred" 889),(s "pick" 890)]::tu []::fu N (st 57) "_law_draw" 0 N N N N N 0::cq "_law_draw" "_law_draw" 882 330 2 473 474 891::fu (t "function") (st 57) "_law_draw" 3 N N N (s "law_nt0054_01" 851) (r 478) 0::tu []::fi N []::tu [(s "bits" 897),(s "classes" 898),(s "cf" 899),(s "lc" 900),(s "uc" 901),(s "dm" 902),(s "gc" 903),(s "code" 904),(s "di" 905)]::tu []::fu N (st 58) "_law_book" 0 N N N N N 0::cq "_law_book" "_law_book" 894 336 2 480 481 906::fu (t "function") (st 58) "_law_book" 3 N N N (s "law_nt0054_01" 851) (r 485) 0::tu []::fi N []::tu [(s "book" 912),(s "data" 913),(s "name" 914),(s "code" 915)]::tu []::fu N (st 59) "_law_data" 0 N N N N N 0::cq "_law_data" "_law_data" 909 359 1 487 488 916::fu (t "function") (st 59) "_law_data" 3 N N N (s "law_nt0054_01" 851) (r 492) 0::tu []::fi N []::tu [(s "book" 922),(s "text" 923),(s "is_compat" 924),(s "found" 925),(s "waiting" 926),(s "code" 927),(s "parts" 928),(s "is_moved" 929),(s "at" 930),(s "one" 931),(s "other" 932)]::tu []::fu N (st 60) "_law_apart" 0 N N N N N 0::cq "_law_apart" "_law_apart" 919 365 3 494 495 933::fu (t "function") (st 60) "_law_apart" 3 N N N (s "law_nt0054_01" 851) (r 499) 0::tu []::fi N []::fu N (st 61) "_law_pair" 0 N N N N N 0::co [(s "_law_pair" 936),(s "_law_pair" 937),(s "/claim/cut.py" 938),(i0 383),(i0 3),(i0 0),(i0 0),(i0 3),(r 501),T,(i0 181),(r 502),N,N,N,(r 503),(i0 939),(i0 383),(s "/claim/cut.py" 940)]::fu (t "function") (st 61) "_law_pair" 3 N N N (s "law_nt0054_01" 851) (r 504) 0::R
noncomputable def g7(P:Of)(R:List Obj):List Obj:=tu []::fi N []::tu [(s "book" 945),(s "text" 946),(s "found" 947),(s "place" 948),(s "pair" 949)]::tu []::fu N (st 62) "_law_together" 0 N N N N N 0::cq "_law_together" "_law_together" 942 394 2 506 507 950::fu (t "function") (st 62) "_law_together" 3 N N N (s "law_nt0054_01" 851) (r 511) 0::tu []::fi N []::fu N (st 63) "_law_folded" 0 N N N N N 0::co [(s "_law_folded" 953),(s "_law_folded" 954),(s "/claim/cut.py" 955),(i0 404),(i0 3),(i0 0),(i0 0),(i0 3),(r 513),T,(i0 181),(r 514),N,N,N,(r 515),(i0 956),(i0 404),(s "/claim/cut.py" 957)]::fu (t "function") (st 63) "_law_folded" 3 N N N (s "law_nt0054_01" 851) (r 516) 0::tu []::fi N []::fu N (st 64) "_law_mapping" 0 N N N N N 0::co [(s "_law_mapping" 959),(s "_law_mapping" 960),(s "/claim/cut.py" 961),(i0 411),(i0 2),(i0 0),(i0 0),(i0 3),(r 518),T,(i0 181),(r 519),N,N,N,(r 520),(i0 962),(i0 411),(s "/claim/cut.py" 963)]::fu (t "function") (st 64) "_law_mapping" 3 N N N (s "law_nt0054_01" 851) (r 521) 0::tu []::fi N []::tu [(s "told" 968),(s "book" 969),(s "text" 970),(s "found" 971),(s "code" 972)]::tu []::fu N (st 65) "_law_mapped" 0 N N N N N 0::cq "_law_mapped" "_law_mapped" 965 421 3 523 524 973::fu (t "function") (st 65) "_law_mapped" 3 N N N (s "law_nt0054_01" 851) (r 528) 0::tu []::fi N []::fu N (st 66) "_law_turned" 0 N N N N N 0::co [(s "_law_turned" 976),(s "_law_turned" 977),(s "/claim/cut.py" 978),(i0 426),(i0 2),(i0 0),(i0 0),(i0 3),(r 530),T,(i0 181),(r 531),N,N,N,(r 532),(i0 979),(i0 426),(s "/claim/cut.py" 980)]::fu (t "function") (st 66) "_law_turned" 3 N N N (s "law_nt0054_01" 851) (r 533) 0::tu []::fi N []::fu N (st 67) "_law_alike" 0 N N N N N 0::co [(s "_law_alike" 982),(s "_law_alike" 983),(s "/claim/cut.py" 984),(i0 428),(i0 3),(i0 0),(i0 0),(i0 3),(r 535),T,(i0 181),(r 536),N,N,N,(r 537),(i0 985),(i0 428),(s "/claim/cut.py" 986)]::fu (t "function") (st 67) "_law_alike" 3 N N N (s "law_nt0054_01" 851) (r 538) 0::tu []::fi N []::fu N (st 68) "_law_other" 0 N N N N N 0::co [(s "_law_other" 988),(s "_law_other" 989),(s "/claim/cut.py" 990),(i0 431),(i0 3),(i0 0),(i0 0),(i0 3),(r 540),T,(i0 181),(r 541),N,N,N,(r 542),(i0 991),(i0 431),(s "/claim/cut.py" 992)]::fu (t "function") (st 68) "_law_other" 3 N N N (s "law_nt0054_01" 851) (r 543) 0::tu []::fi N []::tu [(s "book" 997),(s "data" 998),(s "told" 999),(s "one" 1000),(s "other" 1001),(s "keys" 1002),(s "text" 1003),(s "apart" 1004)]::tu []::fu N (st 69) "_law_texts_right" 0 N N N N N 0::cq "_law_texts_right" "_law_texts_right" 994 438 5 545 546 1005::fu (t "function") (st 69) "_law_texts_right" 3 N N N (s "law_nt0054_01" 851) (r 550) 0::tu []::fi N []::fu N (st 70) "_law_pattern_right" 0 N N N N N 0::co [(s "_law_pattern_right" 1008),(s "_law_pattern_right" 1009),(s "/claim/cut.py" 1010),(i0 452),(i0 4),(i0 0),(i0 0),(i0 3),(r 552),T,(i0 181),(r 553),N,N,N,(r 554),(i0 1011),(i0 452),(s "/claim/cut.py" 1012)]::fu (t "function") (st 70) "_law_pattern_right" 3 N N N (s "law_nt0054_01" 851) (r 555) 0::tu []::fi N []::fu N (st 71) "law" 0 N N N N N 0::co [(s "law" 1014),(s "law" 1015),(s "/claim/cut.py" 1016),(i0 456),(i0 1),(i0 0),(i0 0),(i0 3),(r 557),T,(i0 181),(r 558),N,N,N,(r 559),(i0 1017),(i0 456),(s "/claim/cut.py" 1018)]::fu (t "function") (st 71) "law" 3 N N N (s "law_nt0054_01" 851) (r 560) 0::R
noncomputable def H0(P:Of):NV:=⟨⟨g0 P (MB P) (MA P) (JI P) ([])⟩,{}⟩
noncomputable def H1(P:Of):NV:=⟨⟨g0 P (MB P) (MA P) (JI P) ([])⟩,{}⟩
noncomputable def H2(P:Of):NV:=⟨⟨g0 P (Jl P) (M3 P) (LU P) (g2 P ([]))⟩,{}⟩
noncomputable def H3(P:Of):NV:=⟨⟨g0 P (Jl P) (M2 P) (LT P) (g2 P (g3 P ([])))⟩,{}⟩
noncomputable def H4(P:Of):NV:=⟨⟨g0 P (Jl P) (MZ P) (LS P) (g2 P (g3 P (g4 P ([]))))⟩,{}⟩
noncomputable def H5(P:Of):NV:=⟨⟨g0 P (Jl P) (MY P) (LR P) (g2 P (g3 P (g4 P (g5 P ([])))))⟩,{}⟩
noncomputable def H6(P:Of):NV:=⟨⟨g0 P (Jl P) (MX P) (LQ P) (g2 P (g3 P (g4 P (g5 P (g6 P ([]))))))⟩,{}⟩
noncomputable def H7(P:Of):NV:=⟨⟨g0 P (Jl P) (MW P) (LP P) (g2 P (g3 P (g4 P (g5 P (g6 P (g7 P ([])))))))⟩,{}⟩
end
noncomputable abbrev p0:Pos:=⟨0,0,0,0⟩
noncomputable abbrev bE:List OS:=behindTheImports pw
noncomputable abbrev env:Env:={scope:=pw.main.scope,locals:=mainNs,globals:=mainNs,cells:=[],code:=.ref 13,frame:=Nk 14}
noncomputable abbrev cE:Code:=.body bE env
noncomputable abbrev B:List Frame:=[topFrame p0]
noncomputable abbrev S(H:Of->NV)(t:Nat)(w:Pi)(a:Qf):Np:=⟨H w.params,Uo [],VW,t,a⟩
noncomputable def sk(k n:Nat):List OS:=(bE.drop k).take n
theorem L3(w:Pi)(a:Qf):topGo Qa pw w 11 (Nk (.ref 6)) 12 (S Q2 Wk w a) (topStub pw)=Nk (S H0 187 w a,⟨denote Qa cE,cE,p0,B⟩):=by kernel_rfl
theorem IB(w:Pi)(a:Qf):Ua Qa pw w 11 (Nk (.ref 6)) 1 1 (S H0 187 w a) (blockOf bE env cE p0 B)=Nk (.next,S H1 187 w a,cE,p0):=by kernel_rfl
theorem h_1(w:Pi)(a:Qf):Ua Qa pw w 11 (Nk (.ref 6)) 1 619 (S H1 187 w a) (SW (sk 0 15) env cE p0 B)=Nk (.next,S H2 273 w a,cE,(⟨30,0,30,9⟩:Pos)):=by kernel_rfl
theorem h_2(w:Pi)(a:Qf):Ua Qa pw w 11 (Nk (.ref 6)) 1 653 (S H2 273 w a) (SW (sk 15 13) env cE (⟨30,0,30,9⟩:Pos) B)=Nk (.next,S H3 436 w a,cE,(⟨111,0,124,16⟩:Pos)):=by kernel_rfl
theorem h_3(w:Pi)(a:Qf):Ua Qa pw w 11 (Nk (.ref 6)) 1 633 (S H3 436 w a) (SW (sk 28 11) env cE (⟨111,0,124,16⟩:Pos) B)=Nk (.next,S H4 589 w a,cE,(⟨190,0,196,18⟩:Pos)):=by kernel_rfl
theorem h_4(w:Pi)(a:Qf):Ua Qa pw w 11 (Nk (.ref 6)) 1 746 (S H4 589 w a) (SW (sk 39 11) env cE (⟨190,0,196,18⟩:Pos) B)=Nk (.next,S H5 776 w a,cE,(⟨243,0,290,16⟩:Pos)):=by kernel_rfl
theorem h_5(w:Pi)(a:Qf):Ua Qa pw w 11 (Nk (.ref 6)) 1 623 (S H5 776 w a) (SW (sk 50 12) env cE (⟨243,0,290,16⟩:Pos) B)=Nk (.next,S H6 942 w a,cE,(⟨383,0,393,15⟩:Pos)):=by kernel_rfl
theorem h_6(w:Pi)(a:Qf):Ua Qa pw w 11 (Nk (.ref 6)) 1 285 (S H6 942 w a) (SW (sk 62 10) env cE (⟨383,0,393,15⟩:Pos) B)=Nk (.next,S H7 1020 w a,cE,(⟨456,0,474,57⟩:Pos)):=by kernel_rfl
theorem L4(w:Pi)(a:Qf):topRun Qa pw w 11 (Nk (.ref 6)) 2 (S H7 1020 w a) ⟨doneF .next,cE,(⟨456,0,474,57⟩:Pos),B⟩=Nk (S H7 1020 w a):=by kernel_rfl
theorem L5:bE=sk 0 15++(sk 15 13++(sk 28 11++(sk 39 11++(sk 50 12++(sk 62 10++[]))))):=by kernel_rfl
theorem L2(w:Pi)(a:Qf):topRun Qa pw w 11 (Nk (.ref 6)) (12+(1+(619+(653+(633+(746+(623+(285+2)))))))) (S Q2 Wk w a) (topStub pw)=Nk (S H7 1020 w a):=by refine go_top (L3 w a) (piece_block (IB w a) ?_);have h:=(Sn (h_1 w a) (Sn (h_2 w a) (Sn (h_3 w a) (Sn (h_4 w a) (Sn (h_5 w a) (Sn (h_6 w a) (piece_nil (L4 w a))))))));rw[<-L5]at h;exact h
abbrev rw':OpenLaw:=RF
noncomputable def num(k:Nat):List Obj->List (NF×Obj)|[]=>[]|o::r=>(k,o)::num (k+1) r
noncomputable def K0(P:Of):U8:=num 0 (H7 P).objs.toList
noncomputable def as0:List NF:=Qr 562
theorem F8(P:Of):as0=(K0 P).map (·.1):=by kernel_rfl
noncomputable abbrev Ds:Hook:=kHook K0 as0 F8
noncomputable def Q:Rl:={pw with main:={pw.main with body:=[st 71]}}
noncomputable def loose:List OA:=(pw.main.scope.names.map (·.1)).filter λk=> !(k=="law")&& !startupNames.contains k
noncomputable def D:DefRec:=match defOf Q "law" with|some p=>p.1|none=>{name:="law",params:=⟨[],[],Nq,[],[],Nq,[]⟩,body:=[],scope:=pw.main.scope,pos:=⟨0,0,0,0⟩}
noncomputable abbrev Xt(s:Np):Bool:=xlAt Q [] s&&recOk (RowW.records rw'.row.toRowW) s
theorem Ci(w:Pi):((Q2 w.params).isNs OC&&(Uo []:Array GenState).size==0,(Q2 w.params).objs.size,(Q2 w.params).nsMap OC "__annotations__")=(Nm,11,Nk (.ref 6)):=by kernel_rfl
theorem Ch(w:Pi)(a:Qf):(staticsOk (Wo pw.main.body) (Q2 w.params) (H7 w.params)&&namesBound pw (H7 w.params)&&gensDone (S H7 1020 w a)&&laidKept (Q2 w.params) (H7 w.params))=Nm:=by kernel_rfl
theorem Cj(w:Pi)(a:Qf):openSeen Q loose (Wo pw.main.body) Xt Nm (S H7 1020 w a)=openGood Q loose:=by kernel_rfl
theorem Ia{h:NV}{l:List Obj}:∀{k:Nat},(∀i o,l[i]? =Nk o->h.get? (k+i)=Nk o)->(num k l).map (λp=>h.get? p.1)=(num k l).map λp=>Nk p.2:=by induction l with|nil=>exact λ_=>rfl|cons o r a=>intro k q;refine List.cons_eq_cons.mpr ⟨q 0 o rfl,a λi o e=>?_⟩;have:=q (i+1) o e;rwa [show k+(i+1)=k+1+i by lia]at this
theorem Dl(P:Of):(H7 P).objs.toList.all (·.alive)=Nm:=by kernel_rfl
theorem Kj(w:Pi)(a:Qf):Ds.obs (S H7 1020 w a)=Ds.val w:=by show as0.map (H7 w.params).get? =(K0 w.params).map λp=>Nk p.2;rw[F8 w.params,Pe];refine Ia λi o e=>(PySem.Heap.get?_eq_some _ _ _).mpr ⟨?_,ND.mp (Dl _) _ (Op e)⟩;rw[Oz,<-Oa];exact e
theorem left:LeftO pw Q loose Xt Ds.obs Ds.val 8000 Nm:=LeftO.of_pieces (p:=pw) (H₀:=Q2) (H₁:=H7) (gs₀:=Uo []) (gs₁:=Uo []) (d₀:=VW) (d₁:=VW) (k₀:=Wk) (k₁:=1020) (m₀:=11) (ann:=Nk (.ref 6)) (boot_open (by kernel_rfl) (by kernel_rfl) (λs=>by kernel_rfl)) Ci L2 (by kernel_rfl) (λw=>funext λa=>Prod.ext (Ch w a) (Prod.ext (Cj w a) (Kj w a)))
abbrev Ni:Prop:=WalkO Q loose (XL Q []) Ds.says rw'.row.toRowW D [] (λf a=>PySem.call f a)
end Mine.HD
end
section
namespace Mine
open PySem
noncomputable def names:List (List Nat):=[[108,111,119],[104,105,103,104],[102,105,114,115,116,115],[109,105,100,100,108,101],[110,117,109,98,101,114],[112,108,97,99,101,95,98,121,95,104,97,108,102],[99,111,100,101],[83,89,76,76,65,66,76,69,95,70,73,82,83,84],[83,89,76,76,65,66,76,69,83],[105,115,95,104,97,110,103,117,108,95,115,121,108,108,97,98,108,101],[86,79,87,69,76,83],[84,65,73,76,83],[104,97,110,103,117,108,95,110,117,109,98,101,114,115],[76,69,65,68,95,70,73,82,83,84],[108,101,97,100],[86,79,87,69,76,95,70,73,82,83,84],[118,111,119,101,108],[84,65,73,76,95,78,79,78,69],[116,97,105,108],[104,97,110,103,117,108,95,112,97,114,116,115],[111,110,101],[111,116,104,101,114],[76,69,65,68,83],[104,97,110,103,117,108,95,112,97,105,114],[116,111,108,100],[],[105,115,95,99,111,109,112,97,116],[100,97,116,97],[103,101,116],[100,109],[112,97,114,116,115],[102,111,114,109,95,109,97,112,112,105,110,103],[102,111,117,110,100],[119,97,105,116,105,110,103],[104,101,114,101],[111,112,101,110,95,99,111,100,101,115],[112,97,114,116],[102,111,114,109,95,101,120,112,97,110,100,101,100],[102,111,114,109,95,115,111,114,116,101,100],[114,117,110],[116,101,120,116],[119,101,105,103,104,116],[99,99,99],[111,114,100,101,114,101,100],[100,101,99,111,109,112,111,115,101,100],[102,105,114,115,116],[108,97,115,116],[109,97,112,95,111,102],[114,97,110,103,101,115],[102,111,114,109,95,105,115,95,112,114,105,109,97,114,121],[112,114,105,109,97,114,121,95,99,111,109,112,111,115,105,116,101,115],[101,120],[115,101,108,102],[112,97,105,114,115],[115,101,99,111,110,100,115],[67,111,109,112,111,115,101,114,46,95,95,105,110,105,116,95,95],[67,111,109,112,111,115,101,114,46,112,97,105,114],[115,116,97,114,116,101,114],[109,111,115,116],[112,97,105,114],[99,111,109,112,111,115,101,114],[67,111,109,112,111,115,101,114],[99,111,109,112,111,115,101,100],[119,111,114,100],[110,102,100],[110,102,107,100],[110,102,107,99],[102,111,114,109,95,111,102],[110,102,99],[114,97,110,103,101,95,97,114,101,95,108,105,107,101],[118,97,108,117,101,115],[100,101,102,97,117,108,116],[115,116,97,114,116,115],[82,97,110,103,101,77,97,112,46,95,95,105,110,105,116,95,95],[82,97,110,103,101,77,97,112,46,103,101,116],[118,97,108,117,101],[77,65,88,95,67,79,68,69],[98,101,104,105,110,100],[82,97,110,103,101,77,97,112,46,112,117,116],[114,97,110,103,101,95,114,111,119,115],[114,111,119],[82,97,110,103,101,77,97,112,46,114,97,110,103,101,115],[97,116],[114,97,110,103,101,95,109,97,112],[107,110,111,119,110],[115,116,97,116,117,115],[115,116,97,116,117,115,101,115],[99,102],[102,111,108,100,95,111,102],[105,115,95,116,117,114,107,105,99],[84],[105,115,95,102,117,108,108],[70],[67],[83],[102,111,108,100,95,115,116,97,116,117,115,101,115],[102,111,108,100,95,98,121],[102,111,108,100,95,102,117,108,108],[110,102,107,99,95,99,102],[110,102,107,99,95,99,97,115,101,102,111,108,100],[99,97,115,101,108,101,115,115,95,105,100,101,110,116,105,102,105,101,114],[109,97,116,99,104,101,115,95,105,100,101,110,116,105,102,105,101,114],[112,108,97,105,110],[99,104,97,110,103,101,115,95,119,104,101,110,95,102,111,108,100,101,100],[99,104,97,110,103,101,115,95,119,104,101,110,95,110,102,107,99,95,99,97,115,101,102,111,108,100,101,100],[108,111,119,101,114],[117,112,112,101,114],[108,99],[117,99],[102,111,108,100,95,116,111,103,103,108,101,100],[116,117,114,110],[100,105],[102,111,108,100,95,105,100,101,110,116,105,102,105,101,114,95,109,97,112,112,105,110,103],[112,117,116],[116,111,95,109,97,110,121],[116,111,95,111,110,101],[102,117,108,108],[115,105,109,112,108,101],[70,111,108,100,73,110,100,101,120,46,95,95,105,110,105,116,95,95],[103,111,97,108],[70,111,108,100,73,110,100,101,120,46,112,117,116],[70,111,108,100,73,110,100,101,120,46,97,108,105,107,101],[105,110,100,101,120],[97,108,105,107,101],[70,111,108,100,73,110,100,101,120],[102,111,108,100,95,112,97,116,116,101,114,110],[105,100,110,97],[100,105,115,97,108,108,111,119,101,100],[110,97,109,101],[115,117,99],[115,108,99],[115,116,99],[97,108,105,97,115],[116,99],[98,109],[98,112,98],[115,99,120],[110,116],[110,118],[99,111,110,102],[115,100],[99,97,115,101,100],[99,105],[101,112],[105,100,115],[105,100,99],[120,105,100,115],[120,105,100,99],[112,97,116,95,115,121,110],[112,97,116,95,119,115],[105,100,115,116],[103,99,98],[119,98],[115,98],[79,116,104,101,114],[105,110,99,98],[78,111,110,101],[106,116],[85],[115,99],[90,122,122,122],[101,97],[78],[108,98],[88,88],[98,99],[76],[103,99],[67,110],[100,97,116,97,95,100,101,102,97,117,108,116,115],[119,111,114,100,115],[112,114,111,112,101,114,116,105,101,115],[109,97,112,115],[100,101,102,97,117,108,116,115],[68,97,116,97,46,95,95,105,110,105,116,95,95],[68,97,116,97,46,112,117,116],[68,97,116,97,46,103,101,116],[82,97,110,103,101,77,97,112],[68,97,116,97,46,109,97,112,95,111,102],[112,105,99,107],[115,105,122,101],[119,101,108,108],[115,116,105,114,114,101,100],[99,101,108,108,115],[95,108,97,119,95,100,114,97,119],[99,108,97,115,115,101,115],[98,105,116,115],[76,108],[76,117],[77,110],[67,102],[83,111],[76,116],[99,111,109,112,97,116],[95,108,97,119,95,98,111,111,107],[98,111,111,107],[68,97,116,97],[95,108,97,119,95,100,97,116,97],[105,115,95,109,111,118,101,100],[95,108,97,119,95,97,112,97,114,116],[112,108,97,99,101],[98,101,116,119,101,101,110],[95,108,97,119,95,112,97,105,114],[95,108,97,119,95,116,111,103,101,116,104,101,114],[115,111,109,101],[95,108,97,119,95,102,111,108,100,101,100],[110,111,119],[116,104,101,110],[102,111,114,109,101,100],[101,97,99,104],[102,111,108,100,101,100],[95,108,97,119,95,109,97,112,112,105,110,103],[95,108,97,119,95,109,97,112,112,101,100],[95,108,97,119,95,116,117,114,110,101,100],[95,108,97,119,95,99,111,100,101,115],[95,108,97,119,95,97,108,105,107,101],[119,97,121],[95,108,97,119,95,111,116,104,101,114],[107,101,121,115],[97,112,97,114,116],[95,108,97,119,95,116,101,120,116,115,95,114,105,103,104,116],[100,117,101],[95,108,97,119,95,112,97,116,116,101,114,110,95,114,105,103,104,116],[109,97,112,112,105,110,103],[95,108,97,119,95,99,108,97,115,115,101,115],[115,99,114,105,112,116],[108,97,119]]
noncomputable def bv(k:Nat):Str:=match names[k]? with|some l=>⟨l.toArray⟩|none=>⟨(List.replicate (k+64) 97).toArray⟩
set_option genInjectivity true in
set_option genCtorIdx true in
inductive Key where|i (n:Int)|s (n:Nat) deriving DecidableEq
set_option genInjectivity true in
set_option genCtorIdx true in
inductive D where|none|bool (b:Bool)|int (i:Int)|str (n:Nat)|tup (l:List D)|ae (l:List D)|ap (l:List (Key×D))|ak (l:List (List Int×D))|obj (c:Nat) (fs:List (Nat×D))|ag (i:Nat)
set_option genInjectivity true in
set_option genCtorIdx true in
inductive ao where|ae (l:List D)|ap (l:List (Key×D))|ak (l:List (List Int×D))|obj (c:Nat) (fs:List (Nat×D))
abbrev am:=List ao
abbrev Loc:=List (Nat×D)
noncomputable def ao.toD:ao->D|.ae l=>.ae l|.ap l=>.ap l|.ak l=>.ak l|.obj c a=>.obj c a
noncomputable def jB(st:am):D->Option D|.ag i=>(st[i]?).map ao.toD|d=>Nk d
mutual
noncomputable def D.plain:D->Bool|.ag _=>Nl|.tup l=>D.ax l|.ae l=>D.ax l|.ap l=>D.aq l|.ak l=>D.plainT l|.obj _ a=>D.bf a|.none=>Nm|.bool _=>Nm|.int _=>Nm|.str _=>Nm
noncomputable def D.ax:List D->Bool|[]=>Nm|d::r=>D.plain d&&D.ax r
noncomputable def D.aq:List (Key×D)->Bool|[]=>Nm|(_,d)::r=>D.plain d&&D.aq r
noncomputable def D.plainT:List (List Int×D)->Bool|[]=>Nm|(_,d)::r=>D.plain d&&D.plainT r
noncomputable def D.bf:List (Nat×D)->Bool|[]=>Nm|(_,d)::r=>D.plain d&&D.bf r
end
mutual
noncomputable def iZ(f:Nat->Option D):D->Option D|.ag i=>f i|.tup l=>(snapL f l).map .tup|.ae l=>(snapL f l).map .ae|.ap l=>(snapK f l).map .ap|.ak l=>(snapT f l).map .ak|.obj c a=>(snapF f a).map (.obj c)|.none=>Nk .none|.bool b=>Nk (.bool b)|.int i=>Nk (.int i)|.str n=>Nk (.str n)
noncomputable def snapL(f:Nat->Option D):List D->Option (List D)|[]=>Nk []|d::r=>(iZ f d).bind λa=>(snapL f r).bind λb=>Nk (a::b)
noncomputable def snapK(f:Nat->Option D):List (Key×D)->Option (List (Key×D))|[]=>Nk []|(k,d)::r=>(iZ f d).bind λa=>(snapK f r).bind λb=>Nk ((k,a)::b)
noncomputable def snapT(f:Nat->Option D):List (List Int×D)->Option (List (List Int×D))|[]=>Nk []|(k,d)::r=>(iZ f d).bind λa=>(snapT f r).bind λb=>Nk ((k,a)::b)
noncomputable def snapF(f:Nat->Option D):List (Nat×D)->Option (List (Nat×D))|[]=>Nk []|(k,d)::r=>(iZ f d).bind λa=>(snapF f r).bind λb=>Nk ((k,a)::b)
end
noncomputable def jD(st:am):Nat->Nat->Option D|0,_=>Nq|n+1,i=>(st[i]?).bind λc=>iZ (jD st n) c.toD
noncomputable def tQ(st:am)(d:D):Option D:=if d.plain then Nk d else iZ (jD st 6) d
noncomputable def ol(st:am):List D->Option (List D)|[]=>Nk []|d::r=>(tQ st d).bind λa=>(ol st r).bind λb=>Nk (a::b)
noncomputable def D.scalar:D->Bool|.none|.bool _|.int _|.str _=>Nm|_=>Nl
noncomputable def D.flat:D->Bool|.tup l=>l.all D.scalar|d=>d.scalar
mutual
noncomputable def vS:D->OF|.none=>.none|.bool b=>.bool b|.int i=>.int i|.str n=>.str (bv n)|.tup l=>.tuple (toPyL l)|.ae l=>.list (toPyL l)|.ap _=>.none|.ak _=>.none|.obj _ _=>.none|.ag _=>.none
noncomputable def toPyL:List D->List OF|[]=>[]|d::r=>vS d::toPyL r
end
noncomputable def eqB(a b:D):Bool:=QD (vS a) (vS b)
set_option genCtorIdx true in
inductive eX where|add|sub|mul|fdiv|mod
set_option genCtorIdx true in
inductive dG where|eq|ne|lt|le|gt|ge
set_option genCtorIdx true in
inductive It where|plain|aL|aV|bI deriving DecidableEq
mutual
inductive E where|ab (x:Nat)|glob (x:Nat)|none|bool (b:Bool)|int (i:Int)|str (n:Nat)|neg (i:Int)|bin (o:eX) (a b:E)|cmp (o:dG) (a b:E)|bQ (gB gA:dG) (a b c:E)|bq (neg:Bool) (a:E)|bz (neg:Bool) (a b:E)|and (es:Es)|or (es:Es)|not (a:E)|ite (t a b:E)|attr (o:E) (f:Nat)|aj (o i:E)|slice (ag:Bool) (o a b:E)|bG (ag:Bool) (o b:E)|aM (ag:Bool) (o a:E)|rev (ag:Bool) (o:E)|tup (es:Es)|ae (ag:Bool) (es:Es)|dict (ag:Bool) (kvs:dF)|bJ|call (ag:Bool) (f:Nat) (args:Es)|aC (f:Nat) (args:Es)|new (c:Nat) (args:Es)|aw (ag:Bool) (o:E) (f:Nat) (args:Es)|ba (o:E) (f:Nat) (args:Es)|len (a:E)|list (ag:Bool) (a:E)|tuple (a:E)|sorted (ag:Bool) (a:E)|sortedK (ag:Bool) (a:E)|cM (a:E)|max2 (a b:E)|dH (a:E)|cQ (o k:E)|aH (o k d:E)|bW (o k:E)|append (o x:E)|extend (o x:E)|pop (o:E)|cW (o i:E)|comp (ag:Bool) (elt:E) (xs fv:List Nat) (single:Bool) (it:It) (a b:E) (hasIf:Bool) (cond:E)
inductive Es where|nil|cons (e:E) (r:Es)
inductive dF where|nil|cons (k v:E) (r:dF)
end
inductive Tg where|name (x:Nat)|names (xs:List Nat)|attr (o:E) (f:Nat)|aj (o i:E)|slice (o a b:E)
mutual
inductive S where|assign (t:Tg) (e:E)|expr (e:E)|ret (e:E)|ite (t:E) (a b:Ss)|bF (t:E) (b:Ss)|bu (xs:List Nat) (single:Bool) (it:It) (a b:E) (body:Ss)|brk|cont|stuck
inductive Ss where|nil|cons (s:S) (r:Ss)
end
set_option genInjectivity true in
set_option genCtorIdx true in
inductive Fl where|next|brk|cont|ret (d:D)
structure aN where
 F:Nat->List D->Option (D×Bool)
 S:Nat->List D->am->Option (D×am)
noncomputable def Loc.get(m:Loc)(x:Nat):Option D:=match m with|[]=>Nq|(y,d)::r=>if N0 x y then Nk d else Loc.get r x
noncomputable def Loc.set(m:Loc)(x:Nat)(d:D):Loc:=match m with|[]=>[(x,d)]|(y,e)::r=>if N0 x y then(y,d)::r else(y,e)::Loc.set r x d
noncomputable def Loc.only(fv:List Nat)(m:Loc):Loc:=m.filter λp=>fv.any (N0 p.1)
noncomputable def gL{K:Type}[DecidableEq K]{a:Type}:List (K×a)->K->Option a|[],_=>Nq|(b,v)::r,k=>if k=b then Nk v else gL r k
noncomputable def jv{K:Type}[DecidableEq K]{b:Type}:List (K×b)->K->b->List (K×b)|[],k,v=>[(k,v)]|(a,c)::r,k,v=>if k=a then(a,v)::r else(a,c)::jv r k v
noncomputable def mu:List D->Option (List Int)|[]=>Nk []|.int i::r=>(mu r).map (i:: ·)|_::_=>Nq
set_option genInjectivity true in
set_option genCtorIdx true in
inductive cJ where|v (k:Key)|t (l:List Int)
noncomputable def oW:D->Option cJ|.int i=>Nk (.v (.i i))|.str n=>Nk (.v (.s n))|.tup l=>(mu l).map .t|_=>Nq
noncomputable def Key.toD:Key->D|.i n=>.int n|.s n=>.str n
noncomputable def cap:Nat:=1048576
noncomputable def ry(i:Int):Bool:=decide (-(2^62)<i)&&decide (i<2^62)
section
variable{α β:Type}
noncomputable def bp(o:Option (α×am))(f:α->am->Option β):Option β:=match o with|some (x,a)=>f x a|none=>Nq
noncomputable def bi(o:Option (D×am))(f:Int->am->Option β):Option β:=match o with|some (.int i,a)=>f i a|_=>Nq
noncomputable def bb(o:Option (D×am))(f:Bool->am->Option β):Option β:=match o with|some (.bool i,a)=>f i a|_=>Nq
noncomputable def bo(o:Option (D×am))(f:Nat->am->Option β):Option β:=match o with|some (.ag i,a)=>f i a|_=>Nq
noncomputable def bn(o:Option (D×am))(f:am->Option β):Option β:=match o with|some (.none,a)=>f a|_=>Nq
noncomputable def bl(o:Option D)(f:List D->Option β):Option β:=match o with|some (.ae l)=>f l|_=>Nq
noncomputable def bj(o:Option D)(f:Nat->List (Nat×D)->Option β):Option β:=match o with|some (.obj c a)=>f c a|_=>Nq
noncomputable def bk(o:Option cJ)(f:Key->Option β):Option β:=match o with|some (.v k)=>f k|_=>Nq
noncomputable def bt(o:Option Bool)(t e:Option β):Option β:=match o with|some Nm=>t|some Nl=>e|none=>Nq
noncomputable def gp(p:Prop)[Decidable p](x:Option β):Option β:=if p then x else Nq
noncomputable def cL(c:Option ao)(f:List D->Option β):Option β:=match c with|some (.ae l)=>f l|_=>Nq
noncomputable def dI(d:D)(f:Int->Option β):Option β:=match d with|.int i=>f i|_=>Nq
noncomputable def dLs(d:D)(f:List D->Option β):Option β:=match d with|.ae i=>f i|_=>Nq
noncomputable def dTp(d:D)(f:List D->Option β):Option β:=match d with|.tup i=>f i|_=>Nq
noncomputable def bkt(o:Option cJ)(f:List Int->Option β):Option β:=match o with|some (.t k)=>f k|_=>Nq
end
noncomputable def Nh(x y:D):Option D:=match x with|.int a=>dI y λb=>Nk (.int (a+b))|.ae a=>dLs y λb=>gp (a.length+b.length<=cap) (Nk (.ae (a++b)))|.tup a=>dTp y λb=>gp (a≠[]/\b≠[]/\a.length+b.length<=cap) (Nk (.tup (a++b)))|_=>Nq
noncomputable def F6(o:eX)(x y:D):Option D:=match o with|.add=>Nh x y|.sub=>dI x λa=>dI y λb=>Nk (.int (a-b))|.mul=>dI x λa=>dI y λb=>gp (ry a=Nm/\ry b=Nm) (Nk (.int (a*b)))|.fdiv=>dI x λa=>dI y λb=>gp (0<b/\b<1073741824) (Nk (.int (Int.fdiv a b)))|.mod=>dI x λa=>dI y λb=>gp (ry b=Nm/\0<b) (Nk (.int (OQ a b)))
mutual
noncomputable def tR:Nat->D->Bool|_,.none=>Nm|_,.bool _=>Nm|_,.int _=>Nm|_,.str _=>Nm|n+1,.tup l=>shalL n l|n+1,.ae l=>shalL n l|0,.tup _=>Nl|0,.ae _=>Nl|_,.ap _=>Nl|_,.ak _=>Nl|_,.obj _ _=>Nl|_,.ag _=>Nl
noncomputable def shalL:Nat->List D->Bool|_,[]=>Nm|n,d::r=>tR n d&&shalL n r
end
noncomputable def isNone:D->Bool|.none=>Nm|_=>Nl
noncomputable def Iu:D->Bool|.ap _=>Nm|_=>Nl
noncomputable def shs(x y:D)(r:Bool):Option Bool:=gp (tR 64 x=Nm/\tR 64 y=Nm) (Nk r)
noncomputable def KV(f:Int->Int->Bool)(x y:D):Option Bool:=dI x λa=>dI y λb=>Nk (f a b)
noncomputable def pB(o:dG)(x y:D):Option Bool:=match o with|.eq=>cond (isNone x&&Iu y) (Nk Nl) (cond (Iu x&&isNone y) (Nk Nl) (shs x y (eqB x y)))|.ne=>shs x y (!eqB x y)|.lt=>KV (λa b=>decide (a<b)) x y|.le=>KV (λa b=>decide (a<=b)) x y|.gt=>KV (λa b=>decide (b<a)) x y|.ge=>KV (λa b=>decide (b<=a)) x y
noncomputable def inS(x:D)(l:List D):Option Bool:=gp (tR 64 x=Nm/\shalL 64 l=Nm) (Nk (l.any λy=>eqB y x))
noncomputable def inD(x y:D):Option Bool:=match y with|.ae l=>inS x l|.tup l=>inS x l|.ap l=>bk (oW x) λk=>Nk (gL l k).isSome|.ak l=>bkt (oW x) λk=>Nk (gL l k).isSome|_=>Nq
noncomputable def idx(i:Int)(n:Nat):Option Nat:=if 0<=i then(if i<n then Nk i.toNat else Nq)else if 0<=i+n then Nk (i+n).toNat else Nq
noncomputable def pU(o x:D):Option D:=match o with|.ae l=>dI x λi=>(idx i l.length).bind λj=>l[j]?|.tup l=>dI x λi=>(idx i l.length).bind λj=>l[j]?|.ap l=>bk (oW x) λk=>gL l k|.ak l=>bkt (oW x) λk=>gL l k|_=>Nq
noncomputable def vq(o k d:D):Option D:=match o with|.ap l=>bk (oW k) λk=>Nk ((gL l k).getD d)|.ak l=>bkt (oW k) λk=>Nk ((gL l k).getD d)|_=>Nq
noncomputable def cut(l:List D)(a b:Nat):List D:=(l.take b).drop a
noncomputable def sw(o:D)(a b:Int):Option D:=gp (0<=a/\0<=b/\ry a=Nm/\ry b=Nm) (dLs o λl=>Nk (.ae (cut l a.toNat b.toNat)))
noncomputable def IE(o:D)(a:Int):Option D:=gp (0<=a/\ry a=Nm) (dLs o λl=>Nk (.ae (l.drop a.toNat)))
noncomputable def MF:D->Option D|.ae l=>Nk (.ae l.reverse)|.tup l=>Nk (.tup l.reverse)|_=>Nq
noncomputable def LD:D->Option D|.ae l=>Nk (.int l.length)|.tup l=>Nk (.int l.length)|_=>Nq
noncomputable def Dq:D->Option (List D)|.ae l=>Nk l|.tup l=>Nk l|_=>Nq
noncomputable def yy:D->Option (List D)|.ae l=>Nk l|.tup l=>Nk l|.ap l=>Nk (l.map λp=>p.1.toD)|.ak l=>Nk (l.map λp=>.tup (p.1.map .int))|_=>Nq
noncomputable def j3(a:Int):Nat->List D|0=>[]|n+1=>.int a::j3 (a+1) n
noncomputable def kb(l:List Int):List Int:=l.mergeSort (· <= ·)
noncomputable def BW(d:D):Option (Int×D):=dTp d λl=>match l with|[a,b]=>dI a λi=>Nk (i,.tup [.int i,b])|_=>Nq
noncomputable def mJ:List D->Option (List (Int×D))|[]=>Nk []|d::r=>(BW d).bind λx=>(mJ r).bind λy=>Nk (x::y)
noncomputable def wZ(x:Int×D):List (Int×D)->List (Int×D)|[]=>[x]|y::r=>if x.1<y.1 then x::y::r else y::wZ x r
noncomputable def vZ(l:List (Int×D)):List (Int×D):=l.foldl (λa x=>wZ x a) []
def sg(ps:List (Int×D)):Prop:=ps.Pairwise (λa b=>a.1<=b.1)\/∀p∈ps,∀q∈ps,p.1=q.1->p=q
open Classical in
noncomputable def Bp(ps:List (Int×D))(r:D×am):Option (D×am):=gp (sg ps) (Nk r)
noncomputable def vf:Int->List Int->Int|a,[]=>a|a,b::r=>vf (if b>a then b else a) r
theorem zs{a b:Int}{r:List Int}:vf a (b::r)=vf (if b>a then b else a) r:=rfl
noncomputable def wI(i:Int):List D->List D|[]=>[]|d::r=>.tup [.int i,d]::wI (i+1) r
noncomputable def nH(st:am)(i:Nat):Bool:=match st[i]? with|some (.ae _)=>Nm|_=>Nl
noncomputable def uw(st:am)(i:Nat):Bool:=match st[i]? with|some (.ak _)=>Nm|_=>Nl
noncomputable def sU(st:am)(x:D):Bool:=match jB st x with|some (.ap _)=>Nm|some (.ak _)=>Nm|_=>Nl
noncomputable def mk(ag:Bool)(l:List D)(st:am):D×am:=cond ag (.ag st.length,st++[.ae l]) (.ae l,st)
noncomputable def mkD(ag:Bool)(d:D)(st:am):D×am:=match d with|.ae l=>mk ag l st|d=>(d,st)
noncomputable def iz(xs:List Nat)(single:Bool)(d:D)(m:Loc):Option Loc:=match single with|true=>(match xs with|[x]=>Nk (m.set x d)|_=>Nq)|false=>(Dq d).bind λl=>gp (l.length=xs.length) (Nk ((xs.zip l).foldl (λm p=>m.set p.1 p.2) m))
structure Tab where
 glob:Nat->Option D
 aw:Nat->Nat->Option Nat
 init:Nat->Option Nat
 attr:Nat->Nat->Bool
noncomputable def Fu(T:Tab)(d:D)(f:Nat):Option D:=bj (Nk d) λc a=>gp (T.attr c f=Nm) (gL a f)
noncomputable def LF:D->Option Bool|.bool _=>Nk Nm|.ag _=>Nq|.obj _ _=>Nq|_=>Nk Nl
noncomputable def M5:List Int->Option D|i::r=>Nk (.int (vf i r))|[]=>Nq
noncomputable def rD(O:aN)(ag:Bool)(f:Nat)(ds:List D)(st:am):Option (D×am):=(ol st ds).bind λa=>(O.F f a).bind λr=>gp ((ds.all D.plain||r.2||r.1.flat)=Nm) (Nk (cond r.2 (mkD ag r.1 st) (r.1,st)))
noncomputable def ki(b:It)(x y:D)(a:am):Option (List D):=match b,x,y with|.plain,x,_=>yy x|.aL,.int n,_=>if decide (n.toNat<=cap)&&ry n then Nk (j3 0 n.toNat)else Nq|.aV,.int i,.int j=>if decide ((j-i).toNat<=cap)&&ry i&&ry j then Nk (j3 i (j-i).toNat)else Nq|.bI,.ae l,_=>Nk (wI 0 l)|_,_,_=>Nq
noncomputable def compLoop(step:D->am->Option (Option D×am)):List D->am->Option (List D×am)|[],c=>Nk ([],c)|x::r,c=>bp (step x c) λd a=>match d with|some d=>bp (compLoop step r a) λl b=>Nk (d::l,b)|none=>compLoop step r a
noncomputable def dcT(c:Option ao)(f:List (List Int×D)->Option (D×am)):Option (D×am):=match c with|some (.ak l)=>f l|_=>Nq
noncomputable def v3(i:Nat)(y:D)(st:am):Option (D×am):=match oW y with
 |some (.t a)=>dcT st[i]? λl=>match gL l a with|some d=>Nk (d,st++[ao.ae []])|none=>gp (l.length<cap) (Nk (D.ag st.length,(st++[ao.ae []]).set i (ao.ak (l++[(a,D.ag st.length)]))))
 |_=>Nq
section
variable(T:Tab)(O:aN)
set_option smartUnfolding false in
mutual
noncomputable def ev:E->Loc->am->Option (D×am)|.ab x,m,e=>(m.get x).map (·,e)|.glob x,_,e=>(T.glob x).map (·,e)|.none,_,e=>Nk (.none,e)|.bool b,_,e=>Nk (.bool b,e)|.int i,_,e=>Nk (.int i,e)|.str n,_,e=>Nk (.str n,e)|.neg i,_,e=>Nk (.int (-i),e)|.bin o a b,m,e=>bp (ev a m e) λx e=>bp (ev b m e) λy e=>(jB e x).bind λq=>(jB e y).bind λF=>(F6 o q F).map (·,e)|.cmp o a b,m,e=>bp (ev a m e) λx e=>bp (ev b m e) λy e=>(tQ e x).bind λq=>(tQ e y).bind λF=>(pB o q F).map λr=>(.bool r,e)|.bQ B C a b c,m,e=>bp (ev a m e) λx e=>bp (ev b m e) λy e=>bt (pB B x y) (bp (ev c m e) λz e=>(pB C y z).map λr=>(.bool r,e)) (Nk (.bool Nl,e))|.bq n a,m,e=>bp (ev a m e) λx e=>Nk (.bool (n !=isNone x),e)|.bz n a b,m,e=>bp (ev a m e) λx e=>bp (ev b m e) λy e=>(jB e y).bind λF=>(inD x F).map λr=>(.bool (n !=r),e)|.and v,m,e=>evB Nm v m e|.or v,m,e=>evB Nl v m e|.not a,m,e=>bb (ev a m e) λb e=>Nk (.bool (!b),e)|.ite t a b,m,e=>bb (ev t m e) λc e=>cond c (ev a m e) (ev b m e)|.attr o f,m,e=>bp (ev o m e) λx e=>(jB e x).bind λq=>(Fu T q f).map (·,e)|.aj o i,m,e=>bp (ev o m e) λx e=>bp (ev i m e) λy e=>(jB e x).bind λq=>(pU q y).map (·,e)|.slice h o a b,m,e=>bp (ev o m e) λx e=>bi (ev a m e) λi e=>bi (ev b m e) λj e=>(jB e x).bind λq=>(sw q i j).map (mkD h · e)|.bG h o b,m,e=>bp (ev o m e) λx e=>bi (ev b m e) λj e=>(jB e x).bind λq=>(sw q 0 j).map (mkD h · e)|.aM h o a,m,e=>bp (ev o m e) λx e=>bi (ev a m e) λi e=>(jB e x).bind λq=>(IE q i).map (mkD h · e)|.rev h o,m,e=>bp (ev o m e) λx e=>(jB e x).bind λq=>(MF q).map (mkD h · e)|.tup v,m,e=>bp (evs v m e) λl e=>gp (l.length<=cap) (Nk (.tup l,e))|.ae h v,m,e=>bp (evs v m e) λl e=>gp (l.length<=cap) (Nk (mk h l e))|.dict h I,m,e=>bp (evKV I m e []) λl e=>Nk (cond h (.ag e.length,e++[.ap l]) (.ap l,e))|.bJ,_,e=>Nk (.ag e.length,e++[.ak []])|.call h f p,m,e=>bp (evs p m e) λs e=>rD O h f s e|.aC f p,m,e=>bp (evs p m e) λs e=>O.S f s e|.new c p,m,e=>bp (evs p m e) λs e=>(T.init c).bind λf=>bn (O.S f (.ag e.length::s) (e++[.obj c []])) λK=>Nk (.ag e.length,K)|.aw h o f p,m,e=>bp (ev o m e) λx e=>bj (jB e x) λc H=>(T.aw c f).bind λg=>gp ((gL H f).isNone=Nm) (bp (evs p m e) λs e=>rD O h g (x::s) e)|.ba o f p,m,e=>bp (ev o m e) λx e=>bj (jB e x) λc H=>(T.aw c f).bind λg=>gp ((gL H f).isNone=Nm) (bp (evs p m e) λs e=>O.S g (x::s) e)|.len a,m,e=>bp (ev a m e) λx e=>(jB e x).bind λq=>(LD q).map (·,e)|.list h a,m,e=>bp (ev a m e) λx e=>(jB e x).bind λq=>(Dq q).map (mk h · e)|.tuple a,m,e=>bp (ev a m e) λx e=>(jB e x).bind λq=>(Dq q).map λl=>(.tup l,e)|.sorted h a,m,e=>bp (ev a m e) λx e=>bl (jB e x) λl=>gp (l.length<64) ((mu l).map λP=>mk h ((kb P).map .int) e)|.sortedK h a,m,e=>bp (ev a m e) λx e=>bl (jB e x) λl=>gp (l.length<64) ((mJ l).bind λL=>Bp L (mk h ((vZ L).map (·.2)) e))|.cM a,m,e=>bp (ev a m e) λx e=>bl (jB e x) λl=>((mu l).bind M5).map (·,e)|.max2 a b,m,e=>bi (ev a m e) λi e=>bi (ev b m e) λj e=>Nk (.int (vf i [j]),e)|.dH a,m,e=>bp (ev a m e) λx e=>(LF x).map λb=>(.bool b,e)|.cQ o k,m,e=>bp (ev o m e) λx e=>gp (sU e x=Nm) (bp (ev k m e) λy e=>(jB e x).bind λq=>(vq q y .none).map (·,e))|.aH o k d,m,e=>bp (ev o m e) λx e=>gp (sU e x=Nm) (bp (ev k m e) λy e=>bp (ev d m e) λz e=>(jB e x).bind λq=>(vq q y z).map (·,e))|.bW o k,m,e=>bo (ev o m e) λi e=>gp (uw e i=Nm) (bp (ev k m e) λy e=>v3 i y e)|.append o x,m,e=>bo (ev o m e) λi e=>gp (nH e i=Nm) (bp (ev x m e) λd e=>cL e[i]? λl=>gp (l.length<cap) (Nk (.none,e.set i (.ae (l++[d])))))|.extend o x,m,e=>bo (ev o m e) λi e=>gp (nH e i=Nm) (bp (ev x m e) λd e=>cL e[i]? λl=>((jB e d).bind Dq).bind λr=>gp (l.length+r.length<=cap) (Nk (.none,e.set i (.ae (l++r)))))|.pop o,m,e=>bo (ev o m e) λi e=>cL e[i]? λl=>l.getLast?.map λd=>(d,e.set i (.ae l.dropLast))|.cW o k,m,e=>bo (ev o m e) λi e=>gp (nH e i=Nm) (bi (ev k m e) λj e=>cL e[i]? λl=>gp (0<=j) (l[j.toNat]?.map λd=>(d,e.set i (.ae (l.eraseIdx j.toNat)))))|.comp h A R M u N a b w G,m,e=>bp (ev a m e) λx e=>bp (ev b m e) λy e=>(ki N x y e).bind λl=>gp (l.length<=cap) (bp (compLoop (λd e=>(iz R u d (m.only M)).bind λJ=>cond w (bb (ev G J e) λc e=>cond c (bp (ev A J e) λr e=>Nk (Nk r,e)) (Nk (Nq,e))) (bp (ev A J e) λr e=>Nk (Nk r,e))) l e) λQ e=>Nk (mk h Q e))
noncomputable def evs:Es->Loc->am->Option (List D×am)|.nil,_,a=>Nk ([],a)|.cons e r,m,a=>bp (ev e m a) λd a=>bp (evs r m a) λb a=>Nk (d::b,a)
noncomputable def evB(o:Bool):Es->Loc->am->Option (D×am)|.nil,_,a=>Nk (.bool o,a)|.cons e r,m,a=>bb (ev e m a) λb a=>cond (b==o) (evB o r m a) (Nk (.bool b,a))
noncomputable def evKV:dF->Loc->am->List (Key×D)->Option (List (Key×D)×am)|.nil,_,b,a=>Nk (a,b)|.cons k v r,m,b,a=>bp (ev k m b) λx b=>bp (ev v m b) λd b=>bk (oW x) λc=>gp (a.length<cap) (evKV r m b (jv a c d))
end
noncomputable def Eh(i:Nat)(y d:D)(st:am):Option am:=match st[i]?,oW y with|some (.ap l),Nk (.v a)=>gp (l.length<cap) (Nk (st.set i (.ap (jv l a d))))|some (.ak l),Nk (.t a)=>gp (l.length<cap) (Nk (st.set i (.ak (jv l a d))))|some (.ae l),Nk (.v (.i j))=>gp (0<=j/\j<l.length) (Nk (st.set i (.ae (l.set j.toNat d))))|_,_=>Nq
noncomputable def cO(c:Option ao)(f:Nat->List (Nat×D)->Option (Loc×am)):Option (Loc×am):=match c with|some (.obj c a)=>f c a|_=>Nq
noncomputable def assign(t:Tg)(d:D)(m:Loc)(st:am):Option (Loc×am):=match t with|.name x=>Nk (m.set x d,st)|.names h=>(jB st d).bind λg=>(iz h Nl g m).map (·,st)|.attr o f=>bo (ev T O o m st) λi st=>cO st[i]? λc e=>gp (T.attr c f=Nm/\e.length<100) (Nk (m,st.set i (.obj c (jv e f d))))|.aj o k=>bo (ev T O o m st) λi st=>bp (ev T O k m st) λy st=>(Eh i y d st).map (m,·)|.slice o a b=>bo (ev T O o m st) λi st=>bi (ev T O a m st) λp st=>bi (ev T O b m st) λq st=>cL st[i]? λl=>dLs d λr=>gp (0<=p/\p<=q/\q<=l.length/\l.length+r.length<=cap) (Nk (m,st.set i (.ae (l.take p.toNat++r++l.drop q.toNat))))
abbrev Ot:=Option (Fl×Loc×am)
noncomputable def fk(o:Ot)(f:Loc->am->Ot):Ot:=match o with|some (.next,m,a)=>f m a|some (.cont,m,a)=>f m a|some (.brk,m,a)=>Nk (.next,m,a)|some (.ret d,m,a)=>Nk (.ret d,m,a)|none=>Nq
noncomputable def xk(o:Ot)(f:Loc->am->Ot):Ot:=match o with|some (.next,m,a)=>f m a|some (.cont,m,a)=>Nk (.cont,m,a)|some (.brk,m,a)=>Nk (.brk,m,a)|some (.ret d,m,a)=>Nk (.ret d,m,a)|none=>Nq
noncomputable def forLoop(xs:List Nat)(single:Bool)(body:Loc->am->Ot):List D->Loc->am->Ot|[],m,a=>Nk (.next,m,a)|d::r,m,a=>(iz xs single d m).bind λm=>fk (body m a) (forLoop xs single body r)
noncomputable def gX(test:Loc->am->Option (D×am))(body:Loc->am->Ot):Nat->Loc->am->Ot|0,_,_=>Nq|n+1,m,a=>bb (test m a) λb a=>cond b (fk (body m a) (gX test body n)) (Nk (.next,m,a))
noncomputable def MM:Nat:=1000
mutual
noncomputable def ex:S->Loc->am->Ot|.assign t e,m,f=>bp (ev T O e m f) λd f=>bp (assign T O t d m f) λm f=>Nk (.next,m,f)|.expr e,m,f=>bp (ev T O e m f) λ_ f=>Nk (.next,m,f)|.ret e,m,f=>bp (ev T O e m f) λd f=>Nk (.ret d,m,f)|.ite t a b,m,f=>bb (ev T O t m f) λc f=>cond c (exs a m f) (exs b m f)|.bF t b,m,f=>gX (ev T O t) (exs b) MM m f|.bu j g i a b h,m,f=>bp (ev T O a m f) λx f=>bp (ev T O b m f) λy f=>(ki i x y f).bind λl=>forLoop j g (exs h) l m f|.brk,m,f=>Nk (.brk,m,f)|.cont,m,f=>Nk (.cont,m,f)|.stuck,_,_=>Nq
noncomputable def exs:Ss->Loc->am->Ot|.nil,m,a=>Nk (.next,m,a)|.cons s r,m,a=>xk (ex s m a) (exs r)
end
end
structure Fn where
 params:List Nat
 cA:List D
 body:Ss
noncomputable def kH(f:Fn)(ds:List D):Option Loc:=gp (ds.length<=f.params.length/\f.params.length<=ds.length+f.cA.length) (Nk (f.params.zip (ds++f.cA.drop (f.cA.length-(f.params.length-ds.length)))))
noncomputable def BK:Fl->Option D|.next=>Nk .none|.ret d=>Nk d|_=>Nq
noncomputable def CN:D->D->Bool|.ag _,.ae l=>l.all D.scalar|_,_=>Nl
noncomputable def oy(d:D)(st:am):Option (D×Bool):=(tQ st d).map λr=>(r,CN d r)
noncomputable def run(T:Tab)(O:aN)(o:Option Fn)(ds:List D)(st:am):Option (D×am):=o.bind λa=>(kH a ds).bind λm=>(exs T O a.body m st).bind λx=>(BK x.1).map (·,x.2.2)
noncomputable def ops(T:Tab)(P:Nat->Option Fn):Nat->aN|0=>⟨λ_ _=>Nq,λ_ _ _=>Nq⟩|n+1=>⟨λf a=>bp (run T (ops T P n) (P f) a []) oy,λf a b=>run T (ops T P n) (P f) a b⟩
theorem hid{P:Prop}(h:∀G:Prop,(P->G)->G):P:=h P id
theorem w03{a b c:Prop}{G:Prop}(h:a/\b/\c)(k:a->b->c->G):G:=h.elim λd h=>h.elim λe f=>k d e f
theorem w04{a b c d:Prop}{G:Prop}(h:a/\b/\c/\d)(k:a->b->c->d->G):G:=h.elim λe h=>h.elim λf h=>h.elim λg i=>k e f g i
theorem w05{a b c d e:Prop}{G:Prop}(h:a/\b/\c/\d/\e)(k:a->b->c->d->e->G):G:=h.elim λf h=>h.elim λg h=>h.elim λi h=>h.elim λj l=>k f g i j l
theorem w07{a b c d e f g:Prop}{G:Prop}(h:a/\b/\c/\d/\e/\f/\g)(k:a->b->c->d->e->f->g->G):G:=h.elim λi h=>h.elim λj h=>h.elim λl h=>h.elim λm h=>h.elim λn h=>h.elim λo p=>k i j l m n o p
theorem w12{b:Sort _}{c d:b->Prop}{G:Prop}(h:∃a,c a/\d a)(k:∀a,c a->d a->G):G:=h.elim λa h=>h.elim λe f=>k a e f
theorem w14{b:Sort _}{c d e f:b->Prop}{G:Prop}(h:∃a,c a/\d a/\e a/\f a)(k:∀a,c a->d a->e a->f a->G):G:=h.elim λa h=>h.elim λg h=>h.elim λi h=>h.elim λj l=>k a g i j l
theorem w21{c d:Sort _}{e:c->d->Prop}{G:Prop}(h:∃a b,e a b)(k:∀a b,e a b->G):G:=h.elim λa h=>h.elim λb h=>k a b h
theorem w22{c d:Sort _}{e f:c->d->Prop}{G:Prop}(h:∃a b,e a b/\f a b)(k:∀a b,e a b->f a b->G):G:=h.elim λa h=>h.elim λb h=>h.elim λg i=>k a b g i
theorem w23{c d:Sort _}{e f g:c->d->Prop}{G:Prop}(h:∃a b,e a b/\f a b/\g a b)(k:∀a b,e a b->f a b->g a b->G):G:=h.elim λa h=>h.elim λb h=>h.elim λi h=>h.elim λj l=>k a b i j l
theorem w24{c d:Sort _}{e f g i:c->d->Prop}{G:Prop}(h:∃a b,e a b/\f a b/\g a b/\i a b)(k:∀a b,e a b->f a b->g a b->i a b->G):G:=h.elim λa h=>h.elim λb h=>h.elim λj h=>h.elim λl h=>h.elim λm n=>k a b j l m n
theorem w25{c d:Sort _}{e f g i j:c->d->Prop}{G:Prop}(h:∃a b,e a b/\f a b/\g a b/\i a b/\j a b)(k:∀a b,e a b->f a b->g a b->i a b->j a b->G):G:=h.elim λa h=>h.elim λb h=>h.elim λl h=>h.elim λm h=>h.elim λn h=>h.elim λo p=>k a b l m n o p
theorem w26{c d:Sort _}{e f g i j l:c->d->Prop}{G:Prop}(h:∃a b,e a b/\f a b/\g a b/\i a b/\j a b/\l a b)(k:∀a b,e a b->f a b->g a b->i a b->j a b->l a b->G):G:=h.elim λa h=>h.elim λb h=>h.elim λm h=>h.elim λn h=>h.elim λo h=>h.elim λp h=>h.elim λq r=>k a b m n o p q r
theorem w31{d e f:Sort _}{g:d->e->f->Prop}{G:Prop}(h:∃a b c,g a b c)(k:∀a b c,g a b c->G):G:=h.elim λa h=>h.elim λb h=>h.elim λc h=>k a b c h
theorem w32{d e f:Sort _}{g i:d->e->f->Prop}{G:Prop}(h:∃a b c,g a b c/\i a b c)(k:∀a b c,g a b c->i a b c->G):G:=h.elim λa h=>h.elim λb h=>h.elim λc h=>h.elim λj l=>k a b c j l
theorem w33{d e f:Sort _}{g i j:d->e->f->Prop}{G:Prop}(h:∃a b c,g a b c/\i a b c/\j a b c)(k:∀a b c,g a b c->i a b c->j a b c->G):G:=h.elim λa h=>h.elim λb h=>h.elim λc h=>h.elim λl h=>h.elim λm n=>k a b c l m n
theorem w34{d e f:Sort _}{g i j l:d->e->f->Prop}{G:Prop}(h:∃a b c,g a b c/\i a b c/\j a b c/\l a b c)(k:∀a b c,g a b c->i a b c->j a b c->l a b c->G):G:=h.elim λa h=>h.elim λb h=>h.elim λc h=>h.elim λm h=>h.elim λn h=>h.elim λo p=>k a b c m n o p
theorem w35{d e f:Sort _}{g i j l m:d->e->f->Prop}{G:Prop}(h:∃a b c,g a b c/\i a b c/\j a b c/\l a b c/\m a b c)(k:∀a b c,g a b c->i a b c->j a b c->l a b c->m a b c->G):G:=h.elim λa h=>h.elim λb h=>h.elim λc h=>h.elim λn h=>h.elim λo h=>h.elim λp h=>h.elim λq r=>k a b c n o p q r
theorem w36{d e f:Sort _}{g i j l m n:d->e->f->Prop}{G:Prop}(h:∃a b c,g a b c/\i a b c/\j a b c/\l a b c/\m a b c/\n a b c)(k:∀a b c,g a b c->i a b c->j a b c->l a b c->m a b c->n a b c->G):G:=h.elim λa h=>h.elim λb h=>h.elim λc h=>h.elim λo h=>h.elim λp h=>h.elim λq h=>h.elim λr h=>h.elim λs t=>k a b c o p q r s t
theorem w38{d e f:Sort _}{g i j l m n o p:d->e->f->Prop}{G:Prop}(h:∃a b c,g a b c/\i a b c/\j a b c/\l a b c/\m a b c/\n a b c/\o a b c/\p a b c)(k:∀a b c,g a b c->i a b c->j a b c->l a b c->m a b c->n a b c->o a b c->p a b c->G):G:=h.elim λa h=>h.elim λb h=>h.elim λc h=>h.elim λq h=>h.elim λr h=>h.elim λs h=>h.elim λt h=>h.elim λu h=>h.elim λv h=>h.elim λw x=>k a b c q r s t u v w x
theorem w42{e f g i:Sort _}{j l:e->f->g->i->Prop}{G:Prop}(h:∃a b c d,j a b c d/\l a b c d)(k:∀a b c d,j a b c d->l a b c d->G):G:=h.elim λa h=>h.elim λb h=>h.elim λc h=>h.elim λd h=>h.elim λm n=>k a b c d m n
theorem w47{e f g i:Sort _}{j l m n o p q:e->f->g->i->Prop}{G:Prop}(h:∃a b c d,j a b c d/\l a b c d/\m a b c d/\n a b c d/\o a b c d/\p a b c d/\q a b c d)(k:∀a b c d,j a b c d->l a b c d->m a b c d->n a b c d->o a b c d->p a b c d->q a b c d->G):G:=h.elim λa h=>h.elim λb h=>h.elim λc h=>h.elim λd h=>h.elim λr h=>h.elim λs h=>h.elim λt h=>h.elim λu h=>h.elim λv h=>h.elim λw x=>k a b c d r s t u v w x
theorem w65{g i j l m n:Sort _}{o p q r s:g->i->j->l->m->n->Prop}{G:Prop}(h:∃a b c d e f,o a b c d e f/\p a b c d e f/\q a b c d e f/\r a b c d e f/\s a b c d e f)(k:∀a b c d e f,o a b c d e f->p a b c d e f->q a b c d e f->r a b c d e f->s a b c d e f->G):G:=h.elim λa h=>h.elim λb h=>h.elim λc h=>h.elim λd h=>h.elim λe h=>h.elim λf h=>h.elim λt h=>h.elim λu h=>h.elim λv h=>h.elim λw x=>k a b c d e f t u v w x
theorem i03{a b c:Prop}(d:a)(e:b)(f:c):a/\b/\c:=⟨d,e,f⟩
theorem i05{a b c d e:Prop}(f:a)(g:b)(h:c)(i:d)(j:e):a/\b/\c/\d/\e:=⟨f,g,h,i,j⟩
theorem i12{b:Sort _}{c d:b->Prop}(a:b)(e:c a)(f:d a):∃a,c a/\d a:=⟨a,e,f⟩
theorem i14{b:Sort _}{c d e f:b->Prop}(a:b)(g:c a)(h:d a)(i:e a)(j:f a):∃a,c a/\d a/\e a/\f a:=⟨a,g,h,i,j⟩
theorem i15{b:Sort _}{c d e f g:b->Prop}(a:b)(h:c a)(i:d a)(j:e a)(k:f a)(l:g a):∃a,c a/\d a/\e a/\f a/\g a:=⟨a,h,i,j,k,l⟩
theorem i21{a b:Sort _}{e:a->b->Prop}(c:a)(d:b)(f:e c d):∃c d,e c d:=⟨c,d,f⟩
theorem i22{c d:Sort _}{e f:c->d->Prop}(a:c)(b:d)(g:e a b)(h:f a b):∃a b,e a b/\f a b:=⟨a,b,g,h⟩
theorem i23{c d:Sort _}{e f g:c->d->Prop}(a:c)(b:d)(h:e a b)(i:f a b)(j:g a b):∃a b,e a b/\f a b/\g a b:=⟨a,b,h,i,j⟩
theorem i24{c d:Sort _}{e f g h:c->d->Prop}(a:c)(b:d)(i:e a b)(j:f a b)(k:g a b)(l:h a b):∃a b,e a b/\f a b/\g a b/\h a b:=⟨a,b,i,j,k,l⟩
theorem i25{c d:Sort _}{e f g h i:c->d->Prop}(a:c)(b:d)(j:e a b)(k:f a b)(l:g a b)(m:h a b)(n:i a b):∃a b,e a b/\f a b/\g a b/\h a b/\i a b:=⟨a,b,j,k,l,m,n⟩
theorem i26{c d:Sort _}{e f g h i j:c->d->Prop}(a:c)(b:d)(k:e a b)(l:f a b)(m:g a b)(n:h a b)(o:i a b)(p:j a b):∃a b,e a b/\f a b/\g a b/\h a b/\i a b/\j a b:=⟨a,b,k,l,m,n,o,p⟩
theorem i31{a b c:Sort _}{g:a->b->c->Prop}(d:a)(e:b)(f:c)(h:g d e f):∃d e f,g d e f:=⟨d,e,f,h⟩
theorem i32{d e f:Sort _}{g h:d->e->f->Prop}(a:d)(b:e)(c:f)(i:g a b c)(j:h a b c):∃a b c,g a b c/\h a b c:=⟨a,b,c,i,j⟩
theorem i33{d e f:Sort _}{g h i:d->e->f->Prop}(a:d)(b:e)(c:f)(j:g a b c)(k:h a b c)(l:i a b c):∃a b c,g a b c/\h a b c/\i a b c:=⟨a,b,c,j,k,l⟩
theorem i34{d e f:Sort _}{g h i j:d->e->f->Prop}(a:d)(b:e)(c:f)(k:g a b c)(l:h a b c)(m:i a b c)(n:j a b c):∃a b c,g a b c/\h a b c/\i a b c/\j a b c:=⟨a,b,c,k,l,m,n⟩
theorem i36{d e f:Sort _}{g h i j k l:d->e->f->Prop}(a:d)(b:e)(c:f)(m:g a b c)(n:h a b c)(o:i a b c)(p:j a b c)(q:k a b c)(r:l a b c):∃a b c,g a b c/\h a b c/\i a b c/\j a b c/\k a b c/\l a b c:=⟨a,b,c,m,n,o,p,q,r⟩
theorem i38{d e f:Sort _}{g h i j k l m n:d->e->f->Prop}(a:d)(b:e)(c:f)(o:g a b c)(p:h a b c)(q:i a b c)(r:j a b c)(s:k a b c)(t:l a b c)(u:m a b c)(v:n a b c):∃a b c,g a b c/\h a b c/\i a b c/\j a b c/\k a b c/\l a b c/\m a b c/\n a b c:=⟨a,b,c,o,p,q,r,s,t,u,v⟩
theorem i42{e f g h:Sort _}{i j:e->f->g->h->Prop}(a:e)(b:f)(c:g)(d:h)(k:i a b c d)(l:j a b c d):∃a b c d,i a b c d/\j a b c d:=⟨a,b,c,d,k,l⟩
theorem i47{e f g h:Sort _}{i j k l m n o:e->f->g->h->Prop}(a:e)(b:f)(c:g)(d:h)(p:i a b c d)(q:j a b c d)(r:k a b c d)(s:l a b c d)(t:m a b c d)(u:n a b c d)(v:o a b c d):∃a b c d,i a b c d/\j a b c d/\k a b c d/\l a b c d/\m a b c d/\n a b c d/\o a b c d:=⟨a,b,c,d,p,q,r,s,t,u,v⟩
theorem i58{f g h i j:Sort _}{k l m n o p q r:f->g->h->i->j->Prop}(a:f)(b:g)(c:h)(d:i)(e:j)(s:k a b c d e)(t:l a b c d e)(u:m a b c d e)(v:n a b c d e)(w:o a b c d e)(x:p a b c d e)(y:q a b c d e)(z:r a b c d e):∃a b c d e,k a b c d e/\l a b c d e/\m a b c d e/\n a b c d e/\o a b c d e/\p a b c d e/\q a b c d e/\r a b c d e:=⟨a,b,c,d,e,s,t,u,v,w,x,y,z⟩
theorem i65{g h i j k l:Sort _}{m n o p q:g->h->i->j->k->l->Prop}(a:g)(b:h)(c:i)(d:j)(e:k)(f:l)(r:m a b c d e f)(s:n a b c d e f)(t:o a b c d e f)(u:p a b c d e f)(v:q a b c d e f):∃a b c d e f,m a b c d e f/\n a b c d e f/\o a b c d e f/\p a b c d e f/\q a b c d e f:=⟨a,b,c,d,e,f,r,s,t,u,v⟩
theorem i67{g h i j k l:Sort _}{m n o p q r s:g->h->i->j->k->l->Prop}(a:g)(b:h)(c:i)(d:j)(e:k)(f:l)(t:m a b c d e f)(u:n a b c d e f)(v:o a b c d e f)(w:p a b c d e f)(x:q a b c d e f)(y:r a b c d e f)(z:s a b c d e f):∃a b c d e f,m a b c d e f/\n a b c d e f/\o a b c d e f/\p a b c d e f/\q a b c d e f/\r a b c d e f/\s a b c d e f:=⟨a,b,c,d,e,f,t,u,v,w,x,y,z⟩
@[elab_as_elim] theorem rG{A:Sort _}{a b:A}{P:A->Prop}(h:a=b)(k:P b):P a:=h▸k
@[elab_as_elim] theorem rL{A:Sort _}{a b:A}{P:A->Prop}(h:a=b)(k:P a):P b:=h▸k
theorem iM{b:Type _}{a:b}{C:Prop}(h:a∈([]:List b)):C:=absurd h Ow
theorem nS{b:Type _}{a:b}{C:Prop}(h:Nq=Nk a):C:=by cases h
theorem sN{b:Type _}{a:b}{C:Prop}(h:Nk a=Nq):C:=by cases h
theorem fT{C:Prop}(h:Nl=Nm):C:=by cases h
theorem tF{C:Prop}(h:Nm=Nl):C:=by cases h
theorem eI{c:Type _}{a b:c}{C:Prop}(h:a=b)(k:a=b->C):C:=k h
theorem sI{c:Type _}{a b:c}{C:Prop}(h:Nk a=Nk b)(k:a=b->C):C:=k (NE h)
theorem pI{e f:Type _}{a c:e}{b d:f}{C:Prop}(h:(a,b)=(c,d))(k:a=c->b=d->C):C:=k (congrArg VM h) (congrArg Prod.snd h)
theorem spI{e f:Type _}{a c:e}{b d:f}{C:Prop}(h:Nk (a,b)=Nk (c,d))(k:a=c->b=d->C):C:=pI (NE h) k
noncomputable def vNo:No->Nat|.none=>0|.bool _=>1|.int _ _=>2|.str _ _=>3|.ref _=>4|.type _=>5|.builtin _=>6|_=>7
theorem vN{a b:No}{C:Prop}(h:a=b)(e:N0 (vNo a) (vNo b)=Nl):C:=by subst h;exact nomatch (QI _).symm.trans e
noncomputable def lk{a:Type}:List (Nat×a)->Nat->Option a|[],_=>Nq|p::r,x=>cond (N0 x p.1) (Nk p.2) (lk r x)
noncomputable def lk2{a:Type}:List (Nat×Nat×a)->Nat->Nat->Option a|[],_,_=>Nq|p::r,x,y=>cond (N0 x p.1&&N0 y p.2.1) (Nk p.2.2) (lk2 r x y)
noncomputable def lE:Fn:=⟨[2,4],[],(.cons (.assign (.name 0) (.int 0)) (.cons (.assign (.name 1) (.len (.ab 2))) (.cons (.bF (.cmp .lt (.ab 0) (.ab 1)) (.cons (.assign (.name 3) (.bin .fdiv (.bin .add (.ab 0) (.ab 1)) (.int 2))) (.cons (.ite (.cmp .le (.aj (.ab 2) (.ab 3)) (.ab 4)) (.cons (.assign (.name 0) (.bin .add (.ab 3) (.int 1))) .nil) (.cons (.assign (.name 1) (.ab 3)) .nil)) .nil))) (.cons (.ret (.bin .sub (.ab 0) (.int 1))) .nil))))⟩
noncomputable def lm:Fn:=⟨[6],[],(.cons (.ret (.bQ .le .lt (.int 0) (.bin .sub (.ab 6) (.glob 7)) (.glob 8))) .nil)⟩
noncomputable def rz:Fn:=⟨[6],[],(.cons (.assign (.name 4) (.bin .sub (.ab 6) (.glob 7))) (.cons (.ret (.tup (.cons (.bin .fdiv (.ab 4) (.bin .mul (.glob 10) (.glob 11))) (.cons (.bin .mod (.bin .fdiv (.ab 4) (.glob 11)) (.glob 10)) (.cons (.bin .mod (.ab 4) (.glob 11)) .nil))))) .nil))⟩
noncomputable def oz:Fn:=⟨[6],[],(.cons (.ite (.not (.call Nl 9 (.cons (.ab 6) .nil))) (.cons (.ret .none) .nil) .nil) (.cons (.assign (.names [14,16,18]) (.call Nl 12 (.cons (.ab 6) .nil))) (.cons (.ite (.cmp .eq (.ab 18) (.int 0)) (.cons (.ret (.tup (.cons (.bin .add (.glob 13) (.ab 14)) (.cons (.bin .add (.glob 15) (.ab 16)) .nil)))) .nil) .nil) (.cons (.ret (.tup (.cons (.bin .add (.glob 13) (.ab 14)) (.cons (.bin .add (.glob 15) (.ab 16)) (.cons (.bin .add (.glob 17) (.ab 18)) .nil))))) .nil))))⟩
noncomputable def mV:Fn:=⟨[20,21],[],(.cons (.assign (.name 14) (.bin .sub (.ab 20) (.glob 13))) (.cons (.assign (.name 16) (.bin .sub (.ab 21) (.glob 15))) (.cons (.ite (.and (.cons (.bQ .le .lt (.int 0) (.ab 14) (.glob 22)) (.cons (.bQ .le .lt (.int 0) (.ab 16) (.glob 10)) .nil))) (.cons (.ret (.bin .add (.glob 7) (.bin .mul (.bin .add (.bin .mul (.ab 14) (.glob 10)) (.ab 16)) (.glob 11)))) .nil) .nil) (.cons (.ite (.and (.cons (.call Nl 9 (.cons (.ab 20) .nil)) (.cons (.cmp .eq (.bin .mod (.bin .sub (.ab 20) (.glob 7)) (.glob 11)) (.int 0)) (.cons (.bQ .lt .lt (.int 0) (.bin .sub (.ab 21) (.glob 17)) (.glob 11)) .nil)))) (.cons (.ret (.bin .sub (.bin .add (.ab 20) (.ab 21)) (.glob 17))) .nil) .nil) (.cons (.ret .none) .nil)))))⟩
noncomputable def mc:Fn:=⟨[6,27,26],[],(.cons (.assign (.name 30) (.call Nl 19 (.cons (.ab 6) .nil))) (.cons (.ite (.bq Nm (.ab 30)) (.cons (.ret (.ab 30)) .nil) .nil) (.cons (.assign (.name 24) (.aw Nl (.ab 27) 28 (.cons (.str 29) (.cons (.ab 6) .nil)))) (.cons (.ite (.or (.cons (.bq Nl (.ab 24)) (.cons (.and (.cons (.cmp .ne (.aj (.ab 24) (.int 0)) (.str 25)) (.cons (.not (.ab 26)) .nil))) .nil))) (.cons (.ret .none) .nil) .nil) (.cons (.ret (.aj (.ab 24) (.int 1))) .nil)))))⟩
noncomputable def lG:Fn:=⟨[6,27,26],[],(.cons (.assign (.name 32) (.ae Nm .nil)) (.cons (.assign (.names [33,35]) (.tup (.cons (.ae Nm (.cons (.ab 6) .nil)) (.cons (.ae Nm .nil) .nil)))) (.cons (.bF (.cmp .ne (.ab 33) (.ae Nl .nil)) (.cons (.assign (.name 34) (.pop (.ab 33))) (.cons (.ite (.bq Nl (.ab 34)) (.cons (.expr (.pop (.ab 35))) (.cons .cont .nil)) .nil) (.cons (.assign (.name 30) (.call Nl 31 (.cons (.ab 34) (.cons (.ab 27) (.cons (.ab 26) .nil))))) (.cons (.ite (.bq Nl (.ab 30)) (.cons (.expr (.append (.ab 32) (.ab 34))) .nil) (.cons (.ite (.bz Nl (.ab 34) (.ab 35)) (.cons .stuck .nil) (.cons (.expr (.append (.ab 35) (.ab 34))) (.cons (.expr (.append (.ab 33) .none)) (.cons (.bu [36] Nm .plain (.rev Nl (.ab 30)) .none (.cons (.expr (.append (.ab 33) (.ab 36))) .nil)) .nil)))) .nil)) .nil))))) (.cons (.ret (.ab 32)) .nil))))⟩
noncomputable def s8:Fn:=⟨[40,27],[],(.cons (.assign (.names [32,39]) (.tup (.cons (.ae Nm .nil) (.cons (.ae Nm .nil) .nil)))) (.cons (.bu [6] Nm .plain (.ab 40) .none (.cons (.assign (.name 41) (.aw Nl (.ab 27) 28 (.cons (.str 42) (.cons (.ab 6) .nil)))) (.cons (.ite (.cmp .gt (.ab 41) (.int 0)) (.cons (.expr (.append (.ab 39) (.tup (.cons (.ab 41) (.cons (.ab 6) .nil))))) .nil) (.cons (.expr (.extend (.ab 32) (.call Nl 38 (.cons (.ab 39) .nil)))) (.cons (.expr (.append (.ab 32) (.ab 6))) (.cons (.assign (.name 39) (.ae Nm .nil)) .nil)))) .nil))) (.cons (.expr (.extend (.ab 32) (.call Nl 38 (.cons (.ab 39) .nil)))) (.cons (.ret (.ab 32)) .nil))))⟩
noncomputable def mW:Fn:=⟨[39],[],(.cons (.ret (.comp Nm (.ab 6) [41,6] [] Nl .plain (.sortedK Nl (.ab 39)) .none Nl .none)) .nil)⟩
noncomputable def nO:Fn:=⟨[40,27,26],[(.bool Nl)],(.cons (.assign (.name 32) (.ae Nm .nil)) (.cons (.bu [6] Nm .plain (.ab 40) .none (.cons (.expr (.extend (.ab 32) (.call Nl 37 (.cons (.ab 6) (.cons (.ab 27) (.cons (.ab 26) .nil)))))) .nil)) (.cons (.ret (.call Nm 43 (.cons (.ab 32) (.cons (.ab 27) .nil)))) .nil)))⟩
noncomputable def jG:Fn:=⟨[27],[],(.cons (.assign (.name 32) .bJ) (.cons (.bu [45,46,24] Nl .plain (.aw Nl (.aw Nl (.ab 27) 47 (.cons (.str 29) .nil)) 48 .nil) .none (.cons (.ite (.or (.cons (.bq Nl (.ab 24)) (.cons (.cmp .ne (.aj (.ab 24) (.int 0)) (.str 25)) (.cons (.cmp .ne (.len (.aj (.ab 24) (.int 1))) (.int 2)) .nil)))) (.cons .cont .nil) .nil) (.cons (.bu [6] Nm .aV (.ab 45) (.bin .add (.ab 46) (.int 1)) (.cons (.ite (.and (.cons (.call Nl 49 (.cons (.ab 6) (.cons (.aj (.ab 24) (.int 1)) (.cons (.ab 27) .nil)))) (.cons (.bz Nm (.aj (.ab 24) (.int 1)) (.ab 32)) .nil))) (.cons (.assign (.aj (.ab 32) (.aj (.ab 24) (.int 1))) (.ab 6)) .nil) .nil) .nil)) .nil))) (.cons (.ret (.ab 32)) .nil)))⟩
noncomputable def kD:Fn:=⟨[6,30,27],[],(.cons (.ite (.or (.cons (.aw Nl (.ab 27) 28 (.cons (.str 51) (.cons (.ab 6) .nil))) (.cons (.bq Nm (.call Nl 19 (.cons (.ab 6) .nil))) .nil))) (.cons (.ret (.bool Nl)) .nil) .nil) (.cons (.ret (.and (.cons (.cmp .eq (.aw Nl (.ab 27) 28 (.cons (.str 42) (.cons (.ab 6) .nil))) (.int 0)) (.cons (.cmp .eq (.aw Nl (.ab 27) 28 (.cons (.str 42) (.cons (.aj (.ab 30) (.int 0)) .nil))) (.int 0)) .nil)))) .nil))⟩
noncomputable def lL:Fn:=⟨[52,27],[],(.cons (.assign (.attr (.ab 52) 53) (.call Nl 50 (.cons (.ab 27) .nil))) (.cons (.assign (.attr (.ab 52) 54) (.dict Nm .nil)) (.cons (.bu [20,21] Nl .plain (.attr (.ab 52) 53) .none (.cons (.assign (.aj (.attr (.ab 52) 54) (.ab 21)) (.bool Nm)) .nil)) .nil)))⟩
noncomputable def lK:Fn:=⟨[52,20,21],[],(.cons (.assign (.name 32) (.call Nl 23 (.cons (.ab 20) (.cons (.ab 21) .nil)))) (.cons (.ret (.ite (.bq Nm (.ab 32)) (.ab 32) (.aH (.attr (.ab 52) 53) (.tup (.cons (.ab 20) (.cons (.ab 21) .nil))) .none))) .nil))⟩
noncomputable def pW:Fn:=⟨[40,27,60],[.none],(.cons (.assign (.name 60) (.ite (.bq Nl (.ab 60)) (.new 61 (.cons (.ab 27) .nil)) (.ab 60))) (.cons (.assign (.names [32,57,58]) (.tup (.cons (.ae Nm .nil) (.cons (.neg 1) (.cons (.neg 1) .nil))))) (.cons (.bu [6] Nm .plain (.ab 40) .none (.cons (.assign (.name 41) (.aw Nl (.ab 27) 28 (.cons (.str 42) (.cons (.ab 6) .nil)))) (.cons (.ite (.and (.cons (.cmp .ge (.ab 57) (.int 0)) (.cons (.or (.cons (.cmp .eq (.ab 57) (.bin .sub (.len (.ab 32)) (.int 1))) (.cons (.cmp .lt (.ab 58) (.ab 41)) .nil))) .nil))) (.cons (.assign (.name 59) (.aw Nl (.ab 60) 59 (.cons (.aj (.ab 32) (.ab 57)) (.cons (.ab 6) .nil)))) (.cons (.ite (.bq Nm (.ab 59)) (.cons (.assign (.aj (.ab 32) (.ab 57)) (.ab 59)) (.cons .cont .nil)) .nil) .nil)) .nil) (.cons (.ite (.cmp .eq (.ab 41) (.int 0)) (.cons (.assign (.names [57,58]) (.tup (.cons (.len (.ab 32)) (.cons (.neg 1) .nil)))) .nil) (.cons (.assign (.name 58) (.max2 (.ab 58) (.ab 41))) .nil)) (.cons (.expr (.append (.ab 32) (.ab 6))) .nil))))) (.cons (.ret (.ab 32)) .nil))))⟩
noncomputable def ta:Fn:=⟨[40,27,63,60],[.none],(.cons (.assign (.name 32) (.call Nm 44 (.cons (.ab 40) (.cons (.ab 27) (.cons (.bz Nl (.ab 63) (.tup (.cons (.str 65) (.cons (.str 66) .nil)))) .nil))))) (.cons (.ret (.ite (.bz Nl (.ab 63) (.tup (.cons (.str 64) (.cons (.str 65) .nil)))) (.ab 32) (.call Nm 62 (.cons (.ab 32) (.cons (.ab 27) (.cons (.ab 60) .nil)))))) .nil))⟩
noncomputable def IJ:Fn:=⟨[40,27],[],(.cons (.ret (.call Nm 67 (.cons (.ab 40) (.cons (.ab 27) (.cons (.str 64) .nil))))) .nil)⟩
noncomputable def IL:Fn:=⟨[40,27],[],(.cons (.ret (.call Nm 67 (.cons (.ab 40) (.cons (.ab 27) (.cons (.str 68) .nil))))) .nil)⟩
noncomputable def CQ:Fn:=⟨[40,27],[],(.cons (.ret (.call Nm 67 (.cons (.ab 40) (.cons (.ab 27) (.cons (.str 66) .nil))))) .nil)⟩
noncomputable def lh:Fn:=⟨[20,21],[],(.cons (.ret (.and (.cons (.cmp .eq (.ab 20) (.ab 21)) (.cons (.cmp .eq (.dH (.ab 20)) (.dH (.ab 21))) .nil)))) .nil)⟩
noncomputable def lI:Fn:=⟨[52,71],[],(.cons (.assign (.attr (.ab 52) 71) (.ab 71)) (.cons (.assign (.attr (.ab 52) 72) (.ae Nl (.cons (.int 0) .nil))) (.cons (.assign (.attr (.ab 52) 70) (.ae Nl (.cons (.ab 71) .nil))) .nil)))⟩
noncomputable def mi:Fn:=⟨[52,6],[],(.cons (.ret (.aj (.attr (.ab 52) 70) (.call Nl 5 (.cons (.attr (.ab 52) 72) (.cons (.ab 6) .nil))))) .nil)⟩
noncomputable def mh:Fn:=⟨[52,45,46,75],[],(.cons (.ite (.cmp .gt (.ab 45) (.ab 46)) (.cons (.ret .none) .nil) .nil) (.cons (.assign (.name 0) (.bin .add (.call Nl 5 (.cons (.attr (.ab 52) 72) (.cons (.bin .sub (.ab 45) (.int 1)) .nil))) (.int 1))) (.cons (.assign (.name 1) (.bin .add (.call Nl 5 (.cons (.attr (.ab 52) 72) (.cons (.bin .add (.ab 46) (.int 1)) .nil))) (.int 1))) (.cons (.assign (.name 77) (.aj (.attr (.ab 52) 70) (.bin .sub (.ab 1) (.int 1)))) (.cons (.assign (.names [72,70]) (.tup (.cons (.ae Nm (.cons (.ab 45) .nil)) (.cons (.ae Nm (.cons (.ab 75) .nil)) .nil)))) (.cons (.ite (.and (.cons (.cmp .lt (.ab 46) (.glob 76)) (.cons (.not (.call Nl 69 (.cons (.ab 77) (.cons (.ab 75) .nil)))) .nil))) (.cons (.expr (.append (.ab 72) (.bin .add (.ab 46) (.int 1)))) (.cons (.expr (.append (.ab 70) (.ab 77))) .nil)) .nil) (.cons (.ite (.and (.cons (.cmp .gt (.ab 0) (.int 0)) (.cons (.call Nl 69 (.cons (.aj (.attr (.ab 52) 70) (.bin .sub (.ab 0) (.int 1))) (.cons (.ab 75) .nil))) .nil))) (.cons (.assign (.names [72,70]) (.tup (.cons (.aM Nm (.ab 72) (.int 1)) (.cons (.aM Nm (.ab 70) (.int 1)) .nil)))) .nil) .nil) (.cons (.assign (.attr (.ab 52) 72) (.bin .add (.bin .add (.bG Nl (.attr (.ab 52) 72) (.ab 0)) (.ab 72)) (.aM Nl (.attr (.ab 52) 72) (.ab 1)))) (.cons (.assign (.attr (.ab 52) 70) (.bin .add (.bin .add (.bG Nl (.attr (.ab 52) 70) (.ab 0)) (.ab 70)) (.aM Nl (.attr (.ab 52) 70) (.ab 1)))) .nil)))))))))⟩
noncomputable def kE:Fn:=⟨[52],[],(.cons (.ret (.comp Nm (.ab 80) [80] [52] Nm .plain (.call Nl 79 (.cons (.ab 52) .nil)) .none Nm (.not (.call Nl 69 (.cons (.aj (.ab 80) (.int 2)) (.cons (.attr (.ab 52) 71) .nil)))))) .nil)⟩
noncomputable def nN:Fn:=⟨[83],[],(.cons (.assign (.names [72,32]) (.tup (.cons (.attr (.ab 83) 72) (.cons (.ae Nm .nil) .nil)))) (.cons (.bu [82,75] Nl .bI (.attr (.ab 83) 70) .none (.cons (.assign (.name 46) (.ite (.cmp .lt (.bin .add (.ab 82) (.int 1)) (.len (.ab 72))) (.bin .sub (.aj (.ab 72) (.bin .add (.ab 82) (.int 1))) (.int 1)) (.glob 76))) (.cons (.expr (.append (.ab 32) (.tup (.cons (.aj (.ab 72) (.ab 82)) (.cons (.ab 46) (.cons (.ab 75) .nil)))))) .nil))) (.cons (.ret (.ab 32)) .nil)))⟩
noncomputable def te:Fn:=⟨[6,27,86],[],(.cons (.assign (.name 84) (.aw Nl (.ab 27) 28 (.cons (.str 87) (.cons (.ab 6) .nil)))) (.cons (.ite (.bq Nm (.ab 84)) (.cons (.bu [85] Nm .plain (.ab 86) .none (.cons (.ite (.bz Nl (.ab 85) (.ab 84)) (.cons (.ret (.tuple (.aj (.ab 84) (.ab 85)))) .nil) .nil) .nil)) .nil) .nil) (.cons (.ret (.tup (.cons (.ab 6) .nil))) .nil)))⟩
noncomputable def tc:Fn:=⟨[91,89],[],(.cons (.assign (.name 32) (.ite (.ab 91) (.tup (.cons (.str 92) (.cons (.str 93) .nil))) (.tup (.cons (.str 94) (.cons (.str 93) .nil))))) (.cons (.ret (.ite (.ab 89) (.bin .add (.tup (.cons (.str 90) .nil)) (.ab 32)) (.ab 32))) .nil))⟩
noncomputable def tg:Fn:=⟨[40,27,86],[],(.cons (.assign (.name 32) (.ae Nm .nil)) (.cons (.bu [6] Nm .plain (.ab 40) .none (.cons (.expr (.extend (.ab 32) (.call Nl 88 (.cons (.ab 6) (.cons (.ab 27) (.cons (.ab 86) .nil)))))) .nil)) (.cons (.ret (.ab 32)) .nil)))⟩
noncomputable def mX:Fn:=⟨[40,27,89],[(.bool Nl)],(.cons (.ret (.call Nm 96 (.cons (.ab 40) (.cons (.ab 27) (.cons (.call Nl 95 (.cons (.bool Nm) (.cons (.ab 89) .nil))) .nil))))) .nil)⟩
noncomputable def lF:Fn:=⟨[40,27],[],(.cons (.assign (.name 32) (.ae Nm .nil)) (.cons (.bu [6] Nm .plain (.ab 40) .none (.cons (.assign (.name 84) (.aw Nl (.ab 27) 28 (.cons (.str 98) (.cons (.ab 6) .nil)))) (.cons (.ite (.bq Nl (.ab 84)) (.cons (.expr (.append (.ab 32) (.ab 6))) .nil) (.cons (.expr (.extend (.ab 32) (.ab 84))) .nil)) .nil))) (.cons (.ret (.call Nm 68 (.cons (.ab 32) (.cons (.ab 27) .nil)))) .nil)))⟩
noncomputable def jq:Fn:=⟨[40,27],[],(.cons (.ret (.call Nm 99 (.cons (.call Nl 64 (.cons (.ab 40) (.cons (.ab 27) .nil))) (.cons (.ab 27) .nil)))) .nil)⟩
noncomputable def jH:Fn:=⟨[20,21,27],[],(.cons (.ret (.cmp .eq (.call Nl 100 (.cons (.ab 20) (.cons (.ab 27) .nil))) (.call Nl 100 (.cons (.ab 21) (.cons (.ab 27) .nil))))) .nil)⟩
noncomputable def jp:Fn:=⟨[40,27],[],(.cons (.assign (.name 102) (.call Nl 64 (.cons (.ab 40) (.cons (.ab 27) .nil)))) (.cons (.ret (.cmp .ne (.call Nl 97 (.cons (.ab 102) (.cons (.ab 27) .nil))) (.ab 102))) .nil))⟩
noncomputable def iF:Fn:=⟨[40,27],[],(.cons (.ret (.cmp .ne (.call Nl 99 (.cons (.ab 40) (.cons (.ab 27) .nil))) (.list Nl (.ab 40)))) .nil)⟩
noncomputable def me:Fn:=⟨[40,27],[],(.cons (.assign (.name 32) (.ae Nm .nil)) (.cons (.bu [6] Nm .plain (.ab 40) .none (.cons (.assign (.names [105,106]) (.tup (.cons (.aw Nl (.ab 27) 28 (.cons (.str 107) (.cons (.ab 6) .nil))) (.cons (.aw Nl (.ab 27) 28 (.cons (.str 108) (.cons (.ab 6) .nil))) .nil)))) (.cons (.ite (.and (.cons (.bq Nm (.ab 105)) (.cons (.cmp .ne (.ab 105) (.ab 6)) .nil))) (.cons (.expr (.append (.ab 32) (.ab 105))) .nil) (.cons (.expr (.append (.ab 32) (.ite (.bq Nl (.ab 106)) (.ab 6) (.ab 106)))) .nil)) .nil))) (.cons (.ret (.ab 32)) .nil)))⟩
noncomputable def iR:Fn:=⟨[6,27,58],[(.int 8)],(.cons (.assign (.name 84) (.ae Nl (.cons (.ab 6) .nil))) (.cons (.bu [110] Nm .aL (.ab 58) .none (.cons (.assign (.name 24) (.call Nl 66 (.cons (.call Nl 97 (.cons (.ab 84) (.cons (.ab 27) .nil))) (.cons (.ab 27) .nil)))) (.cons (.assign (.name 24) (.comp Nl (.ab 20) [20] [27] Nm .plain (.ab 24) .none Nm (.not (.aw Nl (.ab 27) 28 (.cons (.str 111) (.cons (.ab 20) .nil)))))) (.cons (.ite (.cmp .eq (.ab 24) (.ab 84)) (.cons .brk .nil) .nil) (.cons (.assign (.name 84) (.ab 24)) .nil))))) (.cons (.ret (.tuple (.ab 84))) .nil)))⟩
noncomputable def li:Fn:=⟨[52,27,89],[(.bool Nl)],(.cons (.assign (.attr (.ab 52) 27) (.ab 27)) (.cons (.assign (.attr (.ab 52) 117) (.call Nl 95 (.cons (.bool Nl) (.cons (.ab 89) .nil)))) (.cons (.assign (.attr (.ab 52) 116) (.call Nl 95 (.cons (.bool Nm) (.cons (.ab 89) .nil)))) (.cons (.assign (.attr (.ab 52) 115) .bJ) (.cons (.assign (.attr (.ab 52) 114) .bJ) (.cons (.bu [45,46,84] Nl .plain (.aw Nl (.aw Nl (.ab 27) 47 (.cons (.str 87) .nil)) 48 .nil) .none (.cons (.ite (.bq Nm (.ab 84)) (.cons (.bu [6] Nm .aV (.ab 45) (.bin .add (.ab 46) (.int 1)) (.cons (.expr (.ba (.ab 52) 113 (.cons (.ab 6) .nil))) .nil)) .nil) .nil) .nil)) .nil))))))⟩
noncomputable def lJ:Fn:=⟨[52,6],[],(.cons (.assign (.name 119) (.call Nl 88 (.cons (.ab 6) (.cons (.attr (.ab 52) 27) (.cons (.attr (.ab 52) 117) .nil))))) (.cons (.ite (.cmp .ne (.ab 119) (.tup (.cons (.ab 6) .nil))) (.cons (.expr (.append (.bW (.attr (.ab 52) 115) (.ab 119)) (.ab 6))) .nil) .nil) (.cons (.assign (.name 119) (.call Nl 88 (.cons (.ab 6) (.cons (.attr (.ab 52) 27) (.cons (.attr (.ab 52) 116) .nil))))) (.cons (.ite (.cmp .ne (.len (.ab 119)) (.int 1)) (.cons (.expr (.append (.bW (.attr (.ab 52) 114) (.ab 119)) (.ab 6))) .nil) .nil) .nil))))⟩
noncomputable def kF:Fn:=⟨[52,6],[],(.cons (.assign (.name 119) (.call Nl 88 (.cons (.ab 6) (.cons (.attr (.ab 52) 27) (.cons (.attr (.ab 52) 117) .nil))))) (.cons (.assign (.name 32) (.list Nm (.aH (.attr (.ab 52) 115) (.ab 119) (.ae Nl .nil)))) (.cons (.ite (.and (.cons (.cmp .eq (.call Nl 88 (.cons (.aj (.ab 119) (.int 0)) (.cons (.attr (.ab 52) 27) (.cons (.attr (.ab 52) 117) .nil)))) (.ab 119)) (.cons (.bz Nm (.aj (.ab 119) (.int 0)) (.ab 32)) .nil))) (.cons (.expr (.append (.ab 32) (.aj (.ab 119) (.int 0)))) .nil) .nil) (.cons (.ite (.bz Nm (.ab 6) (.ab 32)) (.cons (.expr (.append (.ab 32) (.ab 6))) .nil) .nil) (.cons (.ret (.sorted Nm (.ab 32))) .nil)))))⟩
noncomputable def kU:Fn:=⟨[40,27,89],[(.bool Nl)],(.cons (.assign (.name 122) (.new 124 (.cons (.ab 27) (.cons (.ab 89) .nil)))) (.cons (.ret (.comp Nm (.aw Nl (.ab 122) 123 (.cons (.ab 6) .nil)) [6] [122] Nm .plain (.call Nl 97 (.cons (.ab 40) (.cons (.ab 27) (.cons (.ab 89) .nil)))) .none Nl .none)) .nil))⟩
noncomputable def th:Fn:=⟨[],[],(.cons (.assign (.name 32) (.dict Nm (.cons (.str 167) (.str 168) (.cons (.str 42) (.int 0) (.cons (.str 165) (.str 166) (.cons (.str 163) (.str 164) (.cons (.str 161) (.str 162) (.cons (.str 159) (.str 160) (.cons (.str 157) (.str 158) (.cons (.str 155) (.str 156) .nil)))))))))) (.cons (.bu [128] Nm .plain (.tup (.cons (.str 151) (.cons (.str 152) (.cons (.str 153) .nil)))) .none (.cons (.assign (.aj (.ab 32) (.ab 128)) (.str 154)) .nil)) (.cons (.bu [128] Nm .plain (.tup (.cons (.str 51) (.cons (.str 140) (.cons (.str 141) (.cons (.str 142) (.cons (.str 143) (.cons (.str 111) (.cons (.str 144) (.cons (.str 145) (.cons (.str 146) (.cons (.str 147) (.cons (.str 148) (.cons (.str 149) (.cons (.str 150) .nil)))))))))))))) .none (.cons (.assign (.aj (.ab 32) (.ab 128)) (.bool Nl)) .nil)) (.cons (.bu [128] Nm .plain (.tup (.cons (.str 29) (.cons (.str 108) (.cons (.str 107) (.cons (.str 133) (.cons (.str 87) (.cons (.str 134) (.cons (.str 135) (.cons (.str 136) (.cons (.str 137) (.cons (.str 138) (.cons (.str 128) (.cons (.str 139) (.cons (.str 98) .nil)))))))))))))) .none (.cons (.assign (.aj (.ab 32) (.ab 128)) .none) .nil)) (.cons (.bu [128] Nm .plain (.tup (.cons (.str 129) (.cons (.str 130) (.cons (.str 131) (.cons (.str 132) .nil))))) .none (.cons (.assign (.aj (.ab 32) (.ab 128)) (.tup .nil)) .nil)) (.cons (.assign (.aj (.ab 32) (.str 126)) (.tup (.cons (.str 127) (.cons (.tup .nil) .nil)))) (.cons (.ret (.ab 32)) .nil)))))))⟩
noncomputable def oS:Fn:=⟨[52],[],(.cons (.assign (.attr (.ab 52) 173) (.call Nl 169 .nil)) (.cons (.assign (.attr (.ab 52) 172) (.dict Nm .nil)) (.cons (.assign (.attr (.ab 52) 171) (.dict Nm .nil)) (.cons (.assign (.attr (.ab 52) 170) (.dict Nm .nil)) .nil))))⟩
noncomputable def pX:Fn:=⟨[52,128,45,46,75],[],(.cons (.expr (.ba (.ba (.ab 52) 47 (.cons (.ab 128) .nil)) 113 (.cons (.ab 45) (.cons (.ab 46) (.cons (.ab 75) .nil))))) .nil)⟩
noncomputable def mw:Fn:=⟨[52,128,6],[],(.cons (.ite (.bz Nl (.ab 128) (.attr (.ab 52) 172)) (.cons (.ret (.aw Nm (.aj (.attr (.ab 52) 172) (.ab 128)) 28 (.cons (.ab 6) .nil))) .nil) .nil) (.cons (.ret (.cQ (.attr (.ab 52) 173) (.ab 128))) .nil))⟩
noncomputable def i4:Fn:=⟨[52,128],[],(.cons (.ite (.bz Nm (.ab 128) (.attr (.ab 52) 172)) (.cons (.assign (.aj (.attr (.ab 52) 172) (.ab 128)) (.new 177 (.cons (.cQ (.attr (.ab 52) 173) (.ab 128)) .nil))) .nil) .nil) (.cons (.ret (.aj (.attr (.ab 52) 172) (.ab 128))) .nil))⟩
noncomputable def oQ:Fn:=⟨[181,180],[],(.cons (.assign (.names [183,82,182]) (.ab 181)) (.cons (.assign (.name 179) (.ite (.cmp .lt (.ab 82) (.len (.ab 183))) (.aj (.ab 183) (.ab 82)) (.ab 182))) (.cons (.assign (.aj (.ab 181) (.int 1)) (.bin .add (.ab 82) (.int 1))) (.cons (.assign (.aj (.ab 181) (.int 2)) (.bin .mod (.bin .add (.bin .add (.bin .add (.bin .mul (.ab 182) (.int 48271)) (.bin .mod (.ab 179) (.int 65521))) (.bin .mul (.int 7) (.ab 82))) (.int 13)) (.int 2147483647))) (.cons (.ret (.bin .mod (.ab 179) (.ab 180))) .nil)))))⟩
noncomputable def yL:Fn:=⟨[186,185],[],(.cons (.assign (.name 87) (.dict Nm (.cons (.int 65) (.dict Nl (.cons (.str 93) (.tup (.cons (.int 97) .nil)) .nil)) (.cons (.int 75) (.dict Nl (.cons (.str 93) (.tup (.cons (.int 107) .nil)) .nil)) (.cons (.int 90) (.dict Nl (.cons (.str 93) (.tup (.cons (.int 122) .nil)) .nil)) (.cons (.int 73) (.dict Nl (.cons (.str 93) (.tup (.cons (.int 105) .nil)) (.cons (.str 90) (.tup (.cons (.int 305) .nil)) .nil))) .nil)))))) (.cons (.assign (.aj (.ab 87) (.int 304)) (.dict Nl (.cons (.str 92) (.tup (.cons (.int 105) (.cons (.int 769) .nil))) (.cons (.str 90) (.tup (.cons (.int 105) .nil)) .nil)))) (.cons (.assign (.aj (.ab 87) (.int 8490)) (.dict Nl (.cons (.str 93) (.tup (.cons (.int 107) .nil)) .nil))) (.cons (.assign (.aj (.ab 87) (.int 453)) (.dict Nl (.cons (.str 93) (.tup (.cons (.int 122) .nil)) .nil))) (.cons (.assign (.aj (.ab 87) (.int 223)) (.dict Nl (.cons (.str 92) (.ite (.cmp .eq (.bin .mod (.bin .fdiv (.ab 186) (.int 16)) (.int 2)) (.int 1)) (.tup (.cons (.int 97) (.cons (.int 769) .nil))) (.tup (.cons (.int 97) (.cons (.int 107) .nil)))) .nil))) (.cons (.ite (.cmp .eq (.bin .mod (.bin .fdiv (.ab 186) (.int 2)) (.int 2)) (.int 1)) (.cons (.assign (.aj (.ab 87) (.int 193)) (.dict Nl (.cons (.str 93) (.tup (.cons (.int 225) .nil)) .nil))) .nil) .nil) (.cons (.assign (.name 107) (.dict Nl (.cons (.int 65) (.int 97) (.cons (.int 75) (.int 107) (.cons (.int 90) (.int 122) (.cons (.int 73) (.int 105) (.cons (.int 304) (.int 105) (.cons (.int 193) (.int 225) (.cons (.int 8490) (.int 107) (.cons (.int 453) (.int 122) .nil)))))))))) (.cons (.assign (.name 108) (.dict Nl (.cons (.int 97) (.int 65) (.cons (.int 107) (.int 75) (.cons (.int 122) (.int 90) (.cons (.int 105) (.int 73) (.cons (.int 305) (.int 73) (.cons (.int 225) (.int 193) (.cons (.int 453) (.int 90) .nil))))))))) (.cons (.assign (.name 29) (.dict Nm (.cons (.int 13189) (.tup (.cons (.str 193) (.cons (.ite (.cmp .eq (.bin .mod (.bin .fdiv (.ab 186) (.int 32)) (.int 2)) (.int 1)) (.tup (.cons (.int 75) (.cons (.int 173) (.cons (.int 73) .nil)))) (.tup (.cons (.int 75) (.cons (.int 122) .nil)))) .nil))) .nil))) (.cons (.ite (.cmp .eq (.bin .mod (.ab 186) (.int 2)) (.int 1)) (.cons (.assign (.aj (.ab 29) (.int 193)) (.tup (.cons (.str 25) (.cons (.tup (.cons (.int 65) (.cons (.int 769) .nil))) .nil)))) (.cons (.assign (.aj (.ab 29) (.int 225)) (.tup (.cons (.str 25) (.cons (.tup (.cons (.int 97) (.cons (.int 769) .nil))) .nil)))) .nil)) .nil) (.cons (.ite (.cmp .eq (.bin .mod (.bin .fdiv (.ab 186) (.int 4)) (.int 2)) (.int 1)) (.cons (.assign (.aj (.ab 29) (.int 8490)) (.tup (.cons (.str 25) (.cons (.tup (.cons (.int 75) .nil)) .nil)))) .nil) .nil) (.cons (.assign (.name 167) (.dict Nm (.cons (.int 453) (.str 192) (.cons (.int 223) (.str 187) (.cons (.int 13189) (.str 191) (.cons (.int 173) (.str 190) (.cons (.int 769) (.str 189) (.cons (.int 803) (.str 189) .nil)))))))) (.cons (.bu [6] Nm .plain (.ab 107) .none (.cons (.assign (.aj (.ab 167) (.ab 6)) (.aH (.ab 167) (.ab 6) (.str 188))) .nil)) (.cons (.bu [6] Nm .plain (.ab 108) .none (.cons (.assign (.aj (.ab 167) (.ab 6)) (.aH (.ab 167) (.ab 6) (.str 187))) .nil)) (.cons (.assign (.name 111) (.ite (.cmp .eq (.bin .mod (.bin .fdiv (.ab 186) (.int 8)) (.int 2)) (.int 1)) (.dict Nl (.cons (.int 173) (.bool Nm) .nil)) (.dict Nl .nil))) (.cons (.ret (.dict Nm (.cons (.str 87) (.ab 87) (.cons (.str 107) (.ab 107) (.cons (.str 108) (.ab 108) (.cons (.str 29) (.ab 29) (.cons (.str 167) (.ab 167) (.cons (.str 111) (.ab 111) (.cons (.str 42) (.dict Nl (.cons (.int 769) (.aj (.ab 185) (.int 0)) (.cons (.int 803) (.aj (.ab 185) (.int 1)) .nil))) .nil))))))))) .nil))))))))))))))))⟩
noncomputable def oR:Fn:=⟨[195],[],(.cons (.assign (.name 27) (.new 196 .nil)) (.cons (.bu [128] Nm .plain (.ab 195) .none (.cons (.bu [6] Nm .plain (.aj (.ab 195) (.ab 128)) .none (.cons (.expr (.ba (.ab 27) 113 (.cons (.ab 128) (.cons (.ab 6) (.cons (.ab 6) (.cons (.aj (.aj (.ab 195) (.ab 128)) (.ab 6)) .nil)))))) .nil)) .nil)) (.cons (.ret (.ab 27)) .nil)))⟩
noncomputable def nP:Fn:=⟨[195,40,26],[],(.cons (.assign (.names [32,33]) (.tup (.cons (.ae Nm .nil) (.cons (.rev Nm (.ab 40)) .nil)))) (.cons (.bF (.cmp .ne (.ab 33) (.ae Nl .nil)) (.cons (.assign (.name 6) (.pop (.ab 33))) (.cons (.assign (.name 30) (.aH (.aj (.ab 195) (.str 29)) (.ab 6) .none)) (.cons (.ite (.and (.cons (.bq Nm (.ab 30)) (.cons (.or (.cons (.ab 26) (.cons (.cmp .eq (.aj (.ab 30) (.int 0)) (.str 25)) .nil))) .nil))) (.cons (.expr (.extend (.ab 33) (.rev Nl (.list Nl (.aj (.ab 30) (.int 1)))))) .nil) (.cons (.expr (.append (.ab 32) (.ab 6))) .nil)) .nil)))) (.cons (.assign (.name 198) (.bool Nm)) (.cons (.bF (.ab 198) (.cons (.assign (.name 198) (.bool Nl)) (.cons (.bu [82] Nm .aL (.bin .sub (.len (.ab 32)) (.int 1)) .none (.cons (.assign (.names [20,21]) (.tup (.cons (.aH (.aj (.ab 195) (.str 42)) (.aj (.ab 32) (.ab 82)) (.int 0)) (.cons (.aH (.aj (.ab 195) (.str 42)) (.aj (.ab 32) (.bin .add (.ab 82) (.int 1))) (.int 0)) .nil)))) (.cons (.ite (.bQ .gt .gt (.ab 20) (.ab 21) (.int 0)) (.cons (.assign (.slice (.ab 32) (.ab 82) (.bin .add (.ab 82) (.int 2))) (.ae Nl (.cons (.aj (.ab 32) (.bin .add (.ab 82) (.int 1))) (.cons (.aj (.ab 32) (.ab 82)) .nil)))) (.cons (.assign (.name 198) (.bool Nm)) .nil)) .nil) .nil))) .nil))) (.cons (.ret (.ab 32)) .nil)))))⟩
noncomputable def oP:Fn:=⟨[195,40,200],[],(.cons (.assign (.names [41,82]) (.tup (.cons (.aH (.aj (.ab 195) (.str 42)) (.aj (.ab 40) (.ab 200)) (.int 0)) (.cons (.bin .sub (.ab 200) (.int 1)) .nil)))) (.cons (.bF (.and (.cons (.cmp .ge (.ab 82) (.int 0)) (.cons (.cmp .ne (.aH (.aj (.ab 195) (.str 42)) (.aj (.ab 40) (.ab 82)) (.int 0)) (.int 0)) .nil))) (.cons (.assign (.name 82) (.bin .sub (.ab 82) (.int 1))) .nil)) (.cons (.assign (.name 201) (.comp Nl (.aH (.aj (.ab 195) (.str 42)) (.ab 6) (.int 0)) [6] [195] Nm .plain (.slice Nl (.ab 40) (.bin .add (.ab 82) (.int 1)) (.ab 200)) .none Nl .none)) (.cons (.ite (.or (.cons (.cmp .lt (.ab 82) (.int 0)) (.cons (.and (.cons (.cmp .ne (.ab 201) (.ae Nl .nil)) (.cons (.or (.cons (.cmp .eq (.ab 41) (.int 0)) (.cons (.cmp .ge (.cM (.ab 201)) (.ab 41)) .nil))) .nil))) .nil))) (.cons (.ret .none) .nil) .nil) (.cons (.bu [6] Nm .plain (.aj (.ab 195) (.str 29)) .none (.cons (.ite (.cmp .eq (.aj (.aj (.ab 195) (.str 29)) (.ab 6)) (.tup (.cons (.str 25) (.cons (.tup (.cons (.aj (.ab 40) (.ab 82)) (.cons (.aj (.ab 40) (.ab 200)) .nil))) .nil)))) (.cons (.ret (.tup (.cons (.ab 82) (.cons (.ab 6) .nil)))) .nil) .nil) .nil)) (.cons (.ret .none) .nil))))))⟩
noncomputable def lH:Fn:=⟨[195,40],[],(.cons (.assign (.names [32,200]) (.tup (.cons (.list Nm (.ab 40)) (.cons (.int 1) .nil)))) (.cons (.bF (.cmp .lt (.ab 200) (.len (.ab 32))) (.cons (.assign (.name 59) (.call Nl 202 (.cons (.ab 195) (.cons (.ab 32) (.cons (.ab 200) .nil))))) (.cons (.ite (.bq Nl (.ab 59)) (.cons (.assign (.name 200) (.bin .add (.ab 200) (.int 1))) .nil) (.cons (.assign (.aj (.ab 32) (.aj (.ab 59) (.int 0))) (.aj (.ab 59) (.int 1))) (.cons (.expr (.cW (.ab 32) (.ab 200))) .nil))) .nil))) (.cons (.ret (.ab 32)) .nil)))⟩
noncomputable def m4:Fn:=⟨[195,40,86],[],(.cons (.assign (.name 32) (.ae Nm .nil)) (.cons (.bu [6] Nm .plain (.ab 40) .none (.cons (.assign (.name 24) (.aH (.aj (.ab 195) (.str 87)) (.ab 6) (.dict Nl .nil))) (.cons (.assign (.name 204) (.comp Nl (.ab 63) [63] [24] Nm .plain (.ab 86) .none Nm (.bz Nl (.ab 63) (.ab 24)))) (.cons (.expr (.extend (.ab 32) (.ite (.cmp .ne (.ab 204) (.ae Nl .nil)) (.aj (.ab 24) (.aj (.ab 204) (.int 0))) (.tup (.cons (.ab 6) .nil))))) .nil)))) (.cons (.ret (.ab 32)) .nil)))⟩
noncomputable def mf:Fn:=⟨[195,6],[],(.cons (.assign (.name 206) (.ae Nl (.cons (.ab 6) .nil))) (.cons (.bu [110] Nm .aL (.int 8) .none (.cons (.assign (.name 210) (.call Nl 205 (.cons (.ab 195) (.cons (.ab 206) (.cons (.tup (.cons (.str 92) (.cons (.str 93) .nil))) .nil))))) (.cons (.assign (.name 208) (.call Nl 203 (.cons (.ab 195) (.cons (.call Nl 199 (.cons (.ab 195) (.cons (.ab 210) (.cons (.bool Nm) .nil)))) .nil)))) (.cons (.assign (.name 207) (.comp Nl (.ab 209) [209] [195] Nm .plain (.ab 208) .none Nm (.bz Nm (.ab 209) (.aj (.ab 195) (.str 111))))) (.cons (.ite (.cmp .eq (.ab 207) (.ab 206)) (.cons (.ret (.ab 206)) .nil) .nil) (.cons (.assign (.name 206) (.ab 207)) .nil)))))) (.cons (.ret (.ab 206)) .nil)))⟩
noncomputable def mZ:Fn:=⟨[24,195,40],[],(.cons (.assign (.name 32) (.ae Nm .nil)) (.cons (.bu [6] Nm .plain (.ab 40) .none (.cons (.expr (.extend (.ab 32) (.aH (.ab 24) (.ab 6) (.tup (.cons (.ab 6) .nil))))) .nil)) (.cons (.ret (.call Nm 203 (.cons (.ab 195) (.cons (.call Nl 199 (.cons (.ab 195) (.cons (.ab 32) (.cons (.bool Nl) .nil)))) .nil)))) .nil)))⟩
noncomputable def mY:Fn:=⟨[195,40],[],(.cons (.ret (.comp Nm (.aH (.aj (.ab 195) (.str 107)) (.ab 6) (.aH (.aj (.ab 195) (.str 108)) (.ab 6) (.ab 6))) [6] [195] Nm .plain (.ab 40) .none Nl .none)) .nil)⟩
noncomputable def nQ:Fn:=⟨[195,6,86],[],(.cons (.assign (.name 119) (.call Nl 205 (.cons (.ab 195) (.cons (.ae Nl (.cons (.ab 6) .nil)) (.cons (.ab 86) .nil))))) (.cons (.ret (.sorted Nm (.comp Nl (.ab 209) [209] [119,195,86] Nm .plain (.glob 214) .none Nm (.cmp .eq (.call Nl 205 (.cons (.ab 195) (.cons (.ae Nl (.cons (.ab 209) .nil)) (.cons (.ab 86) .nil)))) (.ab 119))))) .nil))⟩
noncomputable def jr:Fn:=⟨[181,195,20],[],(.cons (.assign (.name 216) (.aC 184 (.cons (.ab 181) (.cons (.int 3) .nil)))) (.cons (.ite (.cmp .eq (.ab 216) (.int 0)) (.cons (.ret (.call Nl 213 (.cons (.ab 195) (.cons (.ab 20) .nil)))) .nil) .nil) (.cons (.ite (.cmp .eq (.ab 216) (.int 1)) (.cons (.ret (.call Nl 199 (.cons (.ab 195) (.cons (.ab 20) (.cons (.bool Nl) .nil))))) .nil) .nil) (.cons (.ret (.comp Nl (.aj (.glob 214) (.aC 184 (.cons (.ab 181) (.cons (.int 19) .nil)))) [110] [181] Nm .aL (.aC 184 (.cons (.ab 181) (.cons (.int 5) .nil))) .none Nl .none)) .nil))))⟩
noncomputable def kl:Fn:=⟨[195,27,24,20,21],[],(.cons (.assign (.name 218) (.ae Nm .nil)) (.cons (.bu [40] Nm .plain (.tup (.cons (.ab 20) (.cons (.ab 21) .nil))) .none (.cons (.assign (.name 219) (.call Nl 199 (.cons (.ab 195) (.cons (.ab 40) (.cons (.bool Nl) .nil))))) (.cons (.expr (.append (.ab 218) (.call Nl 212 (.cons (.ab 24) (.cons (.ab 195) (.cons (.ab 219) .nil)))))) (.cons (.ite (.cmp .ne (.list Nl (.call Nl 100 (.cons (.list Nl (.ab 40)) (.cons (.ab 27) .nil)))) (.aj (.ab 218) (.neg 1))) (.cons (.ret (.bool Nl)) .nil) .nil) (.cons (.ite (.cmp .ne (.call Nl 103 (.cons (.list Nl (.ab 40)) (.cons (.ab 27) .nil))) (.cmp .ne (.call Nl 205 (.cons (.ab 195) (.cons (.ab 219) (.cons (.tup (.cons (.str 92) (.cons (.str 93) .nil))) .nil)))) (.ab 219))) (.cons (.ret (.bool Nl)) .nil) .nil) (.cons (.ite (.cmp .ne (.call Nl 104 (.cons (.list Nl (.ab 40)) (.cons (.ab 27) .nil))) (.cmp .ne (.call Nl 212 (.cons (.ab 24) (.cons (.ab 195) (.cons (.ab 40) .nil)))) (.ab 40))) (.cons (.ret (.bool Nl)) .nil) .nil) (.cons (.ite (.cmp .ne (.list Nl (.call Nl 109 (.cons (.list Nl (.ab 40)) (.cons (.ab 27) .nil)))) (.call Nl 213 (.cons (.ab 195) (.cons (.ab 40) .nil)))) (.cons (.ret (.bool Nl)) .nil) .nil) .nil))))))) (.cons (.ret (.cmp .eq (.call Nl 101 (.cons (.list Nl (.ab 20)) (.cons (.list Nl (.ab 21)) (.cons (.ab 27) .nil)))) (.cmp .eq (.aj (.ab 218) (.int 0)) (.aj (.ab 218) (.int 1))))) .nil)))⟩
noncomputable def jI:Fn:=⟨[195,27,40,89],[],(.cons (.assign (.name 210) (.call Nl 205 (.cons (.ab 195) (.cons (.ab 40) (.cons (.ite (.ab 89) (.tup (.cons (.str 90) (.cons (.str 92) (.cons (.str 93) .nil)))) (.tup (.cons (.str 92) (.cons (.str 93) .nil)))) .nil))))) (.cons (.assign (.name 221) (.comp Nl (.call Nl 215 (.cons (.ab 195) (.cons (.ab 6) (.cons (.ite (.ab 89) (.tup (.cons (.str 90) (.cons (.str 94) (.cons (.str 93) .nil)))) (.tup (.cons (.str 94) (.cons (.str 93) .nil)))) .nil)))) [6] [195,89] Nm .plain (.ab 210) .none Nl .none)) (.cons (.ret (.cmp .eq (.comp Nl (.list Nl (.ab 80)) [80] [] Nm .plain (.call Nl 125 (.cons (.list Nl (.ab 210)) (.cons (.ab 27) (.cons (.ab 89) .nil)))) .none Nl .none) (.ab 221))) .nil)))⟩
noncomputable def IM:Fn:=⟨[225],[],(.cons (.assign (.name 181) (.ae Nm (.cons (.comp Nl (.bin .mod (.ab 4) (.int 2305843009213693951)) [4] [] Nm .plain (.bG Nl (.ab 225) (.int 24)) .none Nl .none) (.cons (.int 0) (.cons (.int 90001) .nil))))) (.cons (.assign (.name 195) (.call Nl 194 (.cons (.aC 184 (.cons (.ab 181) (.cons (.int 64) .nil))) (.cons (.aj (.glob 224) (.aC 184 (.cons (.ab 181) (.cons (.int 4) .nil)))) .nil)))) (.cons (.assign (.name 20) (.comp Nl (.aj (.glob 214) (.aC 184 (.cons (.ab 181) (.cons (.int 19) .nil)))) [110] [181] Nm .aL (.aC 184 (.cons (.ab 181) (.cons (.int 5) .nil))) .none Nl .none)) (.cons (.assign (.name 27) (.aC 197 (.cons (.ab 195) .nil))) (.cons (.assign (.name 24) (.dict Nm .nil)) (.cons (.bu [6] Nm .plain (.glob 214) .none (.cons (.assign (.name 223) (.call Nl 211 (.cons (.ab 195) (.cons (.ab 6) .nil)))) (.cons (.ite (.cmp .ne (.ab 223) (.ae Nl (.cons (.ab 6) .nil))) (.cons (.assign (.aj (.ab 24) (.ab 6)) (.tuple (.ab 223))) (.cons (.expr (.ba (.ab 27) 113 (.cons (.str 98) (.cons (.ab 6) (.cons (.ab 6) (.cons (.aj (.ab 24) (.ab 6)) .nil)))))) .nil)) .nil) .nil))) (.cons (.assign (.name 21) (.aC 217 (.cons (.ab 181) (.cons (.ab 195) (.cons (.ab 20) .nil))))) (.cons (.ite (.not (.call Nl 220 (.cons (.ab 195) (.cons (.ab 27) (.cons (.ab 24) (.cons (.ab 20) (.cons (.ab 21) .nil))))))) (.cons (.ret (.bool Nl)) .nil) .nil) (.cons (.assign (.names [6,89]) (.tup (.cons (.aj (.glob 214) (.aC 184 (.cons (.ab 181) (.cons (.int 19) .nil)))) (.cons (.cmp .eq (.aC 184 (.cons (.ab 181) (.cons (.int 2) .nil))) (.int 1)) .nil)))) (.cons (.assign (.name 32) (.call Nl 112 (.cons (.ab 6) (.cons (.ab 27) .nil)))) (.cons (.ite (.cmp .ne (.ite (.bq Nm (.ab 32)) (.list Nl (.ab 32)) (.ae Nl (.cons (.ab 6) .nil))) (.list Nl (.aH (.ab 24) (.ab 6) (.tup (.cons (.ab 6) .nil))))) (.cons (.ret (.bool Nl)) .nil) .nil) (.cons (.ret (.call Nm 222 (.cons (.ab 195) (.cons (.ab 27) (.cons (.ab 20) (.cons (.ab 89) .nil)))))) .nil))))))))))))⟩
noncomputable def J6:List (Nat×Fn):=[(5,lE),(9,lm),(12,rz),(19,oz),(23,mV),(31,mc),(37,lG),(43,s8),(38,mW),(44,nO),(50,jG),(49,kD),(55,lL),(56,lK),(62,pW),(67,ta),(64,IJ),(68,IL),(66,CQ),(69,lh),(73,lI),(74,mi),(78,mh),(81,kE),(79,nN),(88,te),(95,tc),(96,tg),(97,mX),(99,lF),(100,jq),(101,jH),(103,jp),(104,iF),(109,me),(112,iR),(118,li),(120,lJ),(121,kF),(125,kU),(169,th),(174,oS),(175,pX),(176,mw),(178,i4),(184,oQ),(194,yL),(197,oR),(199,nP),(202,oP),(203,lH),(205,m4),(211,mf),(212,mZ),(213,mY),(215,nQ),(217,jr),(220,kl),(222,jI),(226,IM)]
noncomputable def prog(f:Nat):Option Fn:=lk J6 f
noncomputable def KE:List (Nat×D):=[(76,(.int 1114111)),(7,(.int 44032)),(13,(.int 4352)),(15,(.int 4449)),(17,(.int 4519)),(22,(.int 19)),(10,(.int 21)),(11,(.int 28)),(8,(.int 11172)),(214,(.tup [(.int 97),(.int 107),(.int 122),(.int 105),(.int 305),(.int 65),(.int 75),(.int 90),(.int 73),(.int 304),(.int 193),(.int 225),(.int 8490),(.int 223),(.int 453),(.int 13189),(.int 173),(.int 769),(.int 803)])),(224,(.tup [(.tup [(.int 230),(.int 220)]),(.tup [(.int 230),(.int 230)]),(.tup [(.int 220),(.int 230)]),(.tup [(.int 1),(.int 202)])]))]
noncomputable def KD(f:Nat):Option D:=lk KE f
noncomputable def EF:List (Nat×Nat×Nat):=[(61,59,56),(177,28,74),(177,113,78),(177,48,81),(124,113,120),(124,123,121),(196,113,175),(196,28,176),(196,47,178)]
noncomputable def B9(c f:Nat):Option Nat:=lk2 EF c f
noncomputable def EZ:List (Nat×Nat):=[(61,55),(177,73),(124,118),(196,174)]
noncomputable def Iv(c:Nat):Option Nat:=lk EZ c
noncomputable def Jd:List (Nat×Nat×Unit):=[(61,53,()),(61,54,()),(177,71,()),(177,72,()),(177,70,()),(124,27,()),(124,117,()),(124,116,()),(124,115,()),(124,114,()),(196,173,()),(196,172,()),(196,171,()),(196,170,())]
noncomputable def Ja(c f:Nat):Bool:=(lk2 Jd c f).isSome
noncomputable def tab:Tab:=⟨KD,B9,Iv,Ja⟩
end Mine
end
section
namespace Mine
open PySem PySem.W PySem.Calls PyProof.Rows
noncomputable def zq:Bool:=names.all (λl=>decide (l.length<64))&&decide ((names.map λl=>l.foldl (λn c=>n*1114112+c+1) 0).Nodup)
theorem Ig:zq=Nm:=by decide+kernel
theorem lx{a b:Nat}(h:bv a=bv b):a=b:=by
 have q:=Ig;unfold zq at q;rw[NI,decide_eq_true_eq,ND]at q;(refine q.elim λc d=>?_;try clear q);unfold bv at h;cases ha:names[a]? with
 |none=>cases hb:names[b]? with|none=>simp only[ha,hb]at h;simpa using(congrArg (λx:Str=>x.cps.size) h)|some l=>simp[ha,hb]at h;have:=of_decide_eq_true (c l (Op hb));have e:=congrArg Array.size h;simp at e;lia
 |some l=>cases hb:names[b]? with|none=>simp[ha,hb]at h;have:=of_decide_eq_true (c l (Op ha));have e:=congrArg Array.size h;simp at e;lia|some g=>simp[ha,hb]at h;subst h;exact(Vg (i:=a) (j:=b) (by rw[Nu];exact((Nv.mp ha).1)) d).mp (by rw[Oc,Oc,ha,hb])
noncomputable def Cp:Key->No->Bool|.i n,v=>No.isInt n v|.s k,v=>No.isStrOf (bv k) v
theorem iQ{k:Key}{v:No}(h:Cp k v=Nm):(∃n t,k=.i n/\v=.int n t)\/(∃n t,k=.s n/\v=.str (bv n) t):=by induction k using Key.casesOn with|i n=>(refine(UP h).elim λt b=>?_;subst b);exact .inl ⟨n,t,rfl,rfl⟩|s n=>(refine(No.isStrOf_shape h).elim λt c=>?_;subst c);exact .inr ⟨n,t,rfl,rfl⟩
theorem Kt(v:No)(a b:Key)(c:Cp a v=Nm)(hb:Cp b v=Nm):a=b:=by
 rcases iQ c with⟨n,t,rfl,rfl⟩|⟨n,t,rfl,rfl⟩<;>rcases iQ hb with⟨d,g,rfl,e⟩|⟨d,g,rfl,e⟩
 injection e with e;exact rG e rfl
 exact nomatch e
 exact nomatch e
 injection e with e;exact rG (lx e) rfl
noncomputable def keyHash(w:Pi):Key->Int|.i n=>hashInt n|.s k=>hashStr w (bv k)
noncomputable def kk(c:Rl)(w:Pi):KeyKind c w Key:=⟨Cp,keyHash w,Kt,λk v h=>by rcases iQ h with⟨n,t,rfl,rfl⟩|⟨n,t,rfl,rfl⟩<;>rfl,
 λj h=>by
  rcases iQ j with⟨n,t,rfl,rfl⟩|⟨n,t,rfl,rfl⟩
  exact wpAny_pyHash_int h;exact wpAny_pyHash_str h,
 λ{A E s a b u v Q}l j h=>by
  rcases iQ l with⟨n,t,rfl,rfl⟩|⟨n,t,rfl,rfl⟩<;>rcases iQ j with⟨d,g,rfl,rfl⟩|⟨d,g,rfl,rfl⟩
  exact wpAny_eqBool_int (by refine rG (by simp only[Um,Key.i.injEq]:(n==d)=decide (Key.i n=Key.i d)) ?_;exact h);exact SY.int_str n t (bv d) g c w E Q (by rw[decide_eq_false (λe=>nomatch e)]at h;exact h);exact SY.str_int (bv n) t d g c w E Q (by rw[decide_eq_false (λe=>nomatch e)]at h;exact h);exact wpAny_eqBool_str (by
   have e:decide (bv n=bv d)=decide (Key.s n=Key.s d):=by by_cases q:n=d;subst q;exact rG (decide_eq_true rfl) (rG (decide_eq_true rfl) rfl);exact rG (decide_eq_false λz=>q (lx z)) (rG (decide_eq_false λz=>q (Key.s.inj z)) rfl)
   refine rG e ?_;exact h),
 λk x t v h=>by
  rcases iQ h with⟨n,g,rfl,e⟩|⟨n,g,rfl,e⟩
  exact nomatch e
  injection e with e _;subst e
  induction v using Qn<;>rfl⟩
def je(o:Obj):Prop:=o.cls=.type "code"/\∃b,o.data=.fields b
abbrev gU:=NF->Option Obj
abbrev gH:=List (NF×NF)
set_option genSizeOf false in
set_option genInjectivity false in
set_option genCtorIdx false in
structure Wd where
 prog:Rl
 w:Pi
 K:U8
 ca:Nat->NF
 tb:NF
 cy:NV->Prop
 n1:Nat
 b0:gU
 eQ:∀a o,K.lookup a=Nk o->a<n1/\a≠tb
 cX:tb<n1
 fj:∀h:NV,K.In h->n1<=h.objs.size
 fa:Nat->NF
 mg:Str->Option No
 mb:Str->Option No
 dJ:Q7<n1
 lc:NF
 lq:Str
 cV:∀h,cy h->∃o,h.get? tb=Nk o
 dz:∀h h',cy h->h'.get? tb=h.get? tb->(∀b o,h.get? b=Nk o->b≠tb->b<n1\/je o->h'.get? b=Nk o)->cy h'
def Wd.be(W:Wd)(h:NV):Prop:=W.K.In h/\W.cy h
noncomputable abbrev uT(vs:Array No)(n:Nat):Obj:={cls:=.type "tuple",data:=.seq vs n}
noncomputable abbrev jd(vs:Array No)(n:Nat):Obj:={cls:=.type "list",data:=.seq vs n}
inductive aU(prog:Rl)(w:Pi)(o:Obj)(xs:List (List Int×NF×No)):Prop|mk (es:Array OI) (ep:Nat):o.ExactDict->o.data=.dict es ep->es.toList=xs.map (T6 (PU (PH prog w)))->(xs.map (·.1)).Nodup->aU prog w o xs
theorem obI{b c j:Type}{o:Option b}{p:Option c}{g:b->c->j}{d:j}{G:Prop}(e:(o.bind λx=>p.bind λy=>Nk (g x y))=Nk d)(k:∀x y,o=Nk x->p=Nk y->g x y=d->G):G:=(Og.mp e).elim λx h=>(Og.mp h.2).elim λy z=>k x y h.1 z.1 (NE z.2)
theorem obS{b c j:Type}{o:Option b}{p:Option c}{g:b->c->j}{x:b}{y:c}(e:o=Nk x)(d:p=Nk y):(o.bind λx=>p.bind λy=>Nk (g x y))=Nk (g x y):=by subst e;subst d;rfl
theorem omI{b c:Type}{o:Option b}{g:b->c}{d:c}{G:Prop}(e:o.map g=Nk d)(k:∀l,o=Nk l->g l=d->G):G:=(Ol.mp e).elim λl h=>k l h.1 h.2
variable(W:Wd)
section
inductive aA(f:Array No->Nat->Obj)(G:gU)(n:Nat)(P:List No->Prop):No->Prop|mk {a vs k}:G a=Nk (f vs k)->n<=cap->P vs.toList->aA f G n P (.ref a)
inductive bT(G:gU)(n:Nat)(P:List (Key×No)->Prop):No->Prop|mk {a o kvs}:G a=Nk o->W.n1<=a/\n<=cap->o.IsDictOf (kk W.prog W.w) kvs->P kvs->bT G n P (.ref a)
inductive cb(G:gU)(n:Nat)(P:List (List Int×NF×No)->Prop):No->Prop|mk {a o xs}:G a=Nk o->W.n1<=a/\n<=cap->aU W.prog W.w o xs->P xs->cb G n P (.ref a)
inductive de(G:gU)(c:Nat)(P:List (Key×No)->Prop):No->Prop|mk {a o dx od kvs}:G a=Nk o->o.cls=.ref (W.ca c)->o.dict=Nk dx->o.data=.plain->G dx=Nk od->od.IsDictOf (kk W.prog W.w) kvs->P kvs->de G c P (.ref a)
inductive aT(P:No->Prop)(Q:List No->Prop):List No->Prop|mk {v r}:P v->Q r->aT P Q (v::r)
inductive br{α β:Type}(f:α->β)(P:α->Prop)(Q:List β->Prop):List β->Prop|mk {v r}:P v->Q r->br f P Q (f v::r)
inductive cu(B:gU)(k:List Int)(P:No->Prop)(Q:List (List Int×NF×No)->Prop):List (List Int×NF×No)->Prop|mk {a v r items n}:B a=Nk (uT items n)->k.length<=cap->ItemsAre (PH W.prog W.w) k items.toList->P v->Q r->cu B k P Q ((k,a,v)::r)
inductive aG(i:Int):No->Prop|mk t:aG i (.int i t)
inductive cK(n:Nat):No->Prop|mk t:cK n (.str (bv n) t)
inductive bR(as:gH)(i:Nat):No->Prop|mk {p:NF×NF}:as[i]? =Nk p->bR as i (.ref p.1)
variable(B:gU)(as:gH)
mutual
def Rv:D->No->Prop|.none,v=>v=.none|.bool b,v=>v=.bool b|.int i,v=>aG i v|.str n,v=>cK n v|.tup l,v=>aA uT B l.length (λd=>RvL l d) v|.ae l,v=>aA jd B l.length (λd=>RvL l d) v|.ap l,v=>bT W B l.length (λd=>RvK l d) v|.ak l,v=>cb W B l.length (λd=>RvT l d) v|.obj c e,v=>de W B c (λd=>RvF e d) v|.ag i,v=>bR as i v
def RvL:List D->List No->Prop|[],b=>b=[]|d::l,b=>aT (λv=>Rv d v) (λr=>RvL l r) b
def RvK:List (Key×D)->List (Key×No)->Prop|[],b=>b=[]|(k,d)::l,b=>br (λv=>(k,v)) (λv=>Rv d v) (λr=>RvK l r) b
def RvT:List (List Int×D)->List (List Int×NF×No)->Prop|[],b=>b=[]|(k,d)::l,b=>cu W B k (λv=>Rv d v) (λr=>RvT l r) b
def RvF:List (Nat×D)->List (Key×No)->Prop|[],b=>b=[]|(k,d)::l,b=>br (λv=>(Key.s k,v)) (λv=>Rv d v) (λr=>RvF l r) b
end
end
section
variable{W:Wd}{B:gU}{as:gH}
theorem Rv.none:Rv W B as .none .none:=rfl
theorem Rv.bool(b:Bool):Rv W B as (.bool b) (.bool b):=rfl
theorem Rv.int(i:Int)(t:Tok):Rv W B as (.int i) (.int i t):=.mk t
theorem Rv.str(n:Nat)(t:Tok):Rv W B as (.str n) (.str (bv n) t):=.mk t
theorem Rv.tup{l:List D}{a vs n}(h:B a=Nk (uT vs n))(b:l.length<=cap)(r:RvL W B as l vs.toList):Rv W B as (.tup l) (.ref a):=.mk h b r
theorem Rv.ae{l:List D}{a vs n}(h:B a=Nk (jd vs n))(b:l.length<=cap)(r:RvL W B as l vs.toList):Rv W B as (.ae l) (.ref a):=.mk h b r
theorem Rv.ap{l:List (Key×D)}{a o b}(h:B a=Nk o)(d:W.n1<=a/\l.length<=cap)(c:o.IsDictOf (kk W.prog W.w) b)(r:RvK W B as l b):Rv W B as (.ap l) (.ref a):=.mk h d c r
theorem Rv.ak{l:List (List Int×D)}{a o xs}(h:B a=Nk o)(c:W.n1<=a/\l.length<=cap)(b:aU W.prog W.w o xs)(r:RvT W B as l xs):Rv W B as (.ak l) (.ref a):=.mk h c b r
theorem Rv.obj{c:Nat}{fs:List (Nat×D)}{a o dx d b}(h:B a=Nk o)(e:o.cls=.ref (W.ca c))(g:o.dict=Nk dx)(j:o.data=.plain)(k:B dx=Nk d)(l:d.IsDictOf (kk W.prog W.w) b)(r:RvF W B as fs b):Rv W B as (.obj c fs) (.ref a):=.mk h e g j k l r
theorem Rv.ag{i:Nat}{p:NF×NF}(h:as[i]? =Nk p):Rv W B as (.ag i) (.ref p.1):=.mk h
theorem RvL.nil:RvL W B as [] []:=rfl
theorem RvL.cons{d v l vs}(a:Rv W B as d v)(b:RvL W B as l vs):RvL W B as (d::l) (v::vs):=.mk a b
theorem RvK.nil:RvK W B as [] []:=rfl
theorem RvK.cons{k d v l vs}(a:Rv W B as d v)(b:RvK W B as l vs):RvK W B as ((k,d)::l) ((k,v)::vs):=.mk (f:=λv=>(k,v)) a b
theorem RvT.nil:RvT W B as [] []:=rfl
theorem RvT.cons{k d v l vs a b n}(h:B a=Nk (uT b n))(e:k.length<=cap)(c:ItemsAre (PH W.prog W.w) k b.toList)(x:Rv W B as d v)(y:RvT W B as l vs):RvT W B as ((k,d)::l) ((k,a,v)::vs):=.mk h e c x y
theorem RvF.nil:RvF W B as [] []:=rfl
theorem RvF.cons{k d v l vs}(a:Rv W B as d v)(b:RvF W B as l vs):RvF W B as ((k,d)::l) ((.s k,v)::vs):=.mk (f:=λv=>(Key.s k,v)) a b
end
structure bS(B:gU)(as:gH)(B':gU)(as':gH):Prop where
 base:∀a o,B a=Nk o->B' a=Nk o
 cells:∀(i:Nat)(p:NF×NF),as[i]? =Nk p->as'[i]? =Nk p
theorem bS.refl(B:gU)(as:gH):bS B as B as:=⟨λ_ _ e=>e,λ_ _ e=>e⟩
theorem bS.trans{B B' c:gU}{as as' b:gH}(x:bS B as B' as')(y:bS B' as' c b):bS B as c b:=⟨λa o e=>y.base a o (x.base a o e),λi p e=>y.cells i p (x.cells i p e)⟩
section
variable{W:Wd}{B B':gU}{as as':gH}(h:∀a o,B a=Nk o->B' a=Nk o)(f:Nat->Option D)(hf:∀i d' p,f i=Nk d'->as[i]? =Nk p->Rv W B' as' d' (.ref p.1))
include h hf
mutual
theorem FM:∀(d:D){d':D}{v:No},Rv W B as d v->iZ f d=Nk d'->Rv W B' as' d' v
 |.none=>λr e=>NE e▸r|.bool _=>λr e=>NE e▸r|.int _=>λr e=>NE e▸r|.str _=>λr e=>NE e▸r|.tup l=>λr e=>by induction r using aA.casesOn with|mk c g r=>exact omI e λk b q=>q▸.mk (h _ _ c) ((mapL l r b).2▸g) (mapL l r b).1
 |.ae l=>λr e=>by induction r using aA.casesOn with|mk c g r=>exact omI e λk b q=>q▸.mk (h _ _ c) ((mapL l r b).2▸g) (mapL l r b).1
 |.ap l=>λr e=>by induction r using bT.casesOn with|mk c g j r=>exact omI e λk b q=>q▸.mk (h _ _ c) ((mapK l r b).2▸g) j (mapK l r b).1
 |.ak l=>λr e=>by induction r using cb.casesOn with|mk c g j r=>exact omI e λk b q=>q▸.mk (h _ _ c) ((mapT l r b).2▸g) j (mapT l r b).1
 |.obj _ l=>λr e=>by induction r using de.casesOn with|mk m c g j n s r=>exact omI e λk b q=>q▸.mk (h _ _ m) c g j (h _ _ n) s (dO l r b)
 |.ag _=>λr e=>by induction r using bR.casesOn with|mk m=>exact hf _ _ _ e m
termination_by structural x=>x
theorem mapL:∀(l:List D){l':List D}{vs:List No},RvL W B as l vs->snapL f l=Nk l'->RvL W B' as' l' vs/\l.length=l'.length|[]=>λr e=>NE e▸⟨r,rfl⟩|d::l=>λr e=>by induction r using aT.casesOn with|mk x y=>exact obI e λd' g c b q=>q▸⟨.mk (FM d x c) (mapL l y b).1,congrArg Pd (mapL l y b).2⟩
termination_by structural x=>x
theorem mapK:∀(l:List (Key×D)){l':List (Key×D)}{vs:List (Key×No)},RvK W B as l vs->snapK f l=Nk l'->RvK W B' as' l' vs/\l.length=l'.length|[]=>λr e=>NE e▸⟨r,rfl⟩|(_,d)::l=>λr e=>by induction r using br.casesOn with|mk x y=>exact obI e λd' g c b q=>q▸⟨.mk (f:=λv=>(_,v)) (FM d x c) (mapK l y b).1,congrArg Pd (mapK l y b).2⟩
termination_by structural x=>x
theorem mapT:∀(l:List (List Int×D)){l':List (List Int×D)}{vs:List (List Int×NF×No)},RvT W B as l vs->snapT f l=Nk l'->RvT W B' as' l' vs/\l.length=l'.length|[]=>λr e=>NE e▸⟨r,rfl⟩|(_,d)::l=>λr e=>by induction r using cu.casesOn with|mk c g j x y=>exact obI e λd' m k b q=>q▸⟨.mk (h _ _ c) g j (FM d x k) (mapT l y b).1,congrArg Pd (mapT l y b).2⟩
termination_by structural x=>x
theorem dO:∀(l:List (Nat×D)){l':List (Nat×D)}{vs:List (Key×No)},RvF W B as l vs->snapF f l=Nk l'->RvF W B' as' l' vs|[]=>λr e=>NE e▸r|(_,d)::l=>λr e=>by induction r using br.casesOn with|mk x y=>exact obI e λd' g b c q=>q▸.mk (f:=λv=>(Key.s _,v)) (FM d x b) (dO l y c)
termination_by structural x=>x
end
end
section
variable{f:Nat->Option D}
mutual
theorem lw:∀(d:D),(d.plain=Nm\/∀i,f i=Nk (.ag i))->iZ f d=Nk d|.none,_=>rfl|.bool _,_=>rfl|.int _,_=>rfl|.str _,_=>rfl|.tup l,h=>congrArg (RX D.tup) (snapL_self l h)|.ae l,h=>congrArg (RX D.ae) (snapL_self l h)|.ap l,h=>congrArg (RX D.ap) (snapK_self l h)|.ak l,h=>congrArg (RX D.ak) (snapT_self l h)|.obj c l,h=>congrArg (RX (D.obj c)) (snapF_self l h)|.ag i,h=>h.elim (λe=>fT e) λh=>h i
theorem snapL_self:∀(l:List D),(D.ax l=Nm\/∀i,f i=Nk (.ag i))->snapL f l=Nk l|[],_=>rfl|d::r,h=>obS (lw d (h.imp (λe=>(NH.mp e).1) id)) (snapL_self r (h.imp (λe=>(NH.mp e).2) id))
theorem snapK_self:∀(l:List (Key×D)),(D.aq l=Nm\/∀i,f i=Nk (.ag i))->snapK f l=Nk l|[],_=>rfl|(k,d)::r,h=>obS (g:=λx y=>(k,x)::y) (lw d (h.imp (λe=>(NH.mp e).1) id)) (snapK_self r (h.imp (λe=>(NH.mp e).2) id))
theorem snapT_self:∀(l:List (List Int×D)),(D.plainT l=Nm\/∀i,f i=Nk (.ag i))->snapT f l=Nk l|[],_=>rfl|(k,d)::r,h=>obS (g:=λx y=>(k,x)::y) (lw d (h.imp (λe=>(NH.mp e).1) id)) (snapT_self r (h.imp (λe=>(NH.mp e).2) id))
theorem snapF_self:∀(l:List (Nat×D)),(D.bf l=Nm\/∀i,f i=Nk (.ag i))->snapF f l=Nk l|[],_=>rfl|(k,d)::r,h=>obS (g:=λx y=>(k,x)::y) (lw d (h.imp (λe=>(NH.mp e).1) id)) (snapF_self r (h.imp (λe=>(NH.mp e).2) id))
end
end
section
variable{W:Wd}{B B':gU}{as as':gH}
theorem sH(x:bS B as B' as'):∀(i:Nat)(d':D)(p:NF×NF),Nk (D.ag i)=Nk d'->as[i]? =Nk p->Rv W B' as' d' (.ref p.1):=λi d' p e b=>NE e▸.ag (x.cells i p b)
theorem Rv.mono(W:Wd)(x:bS B as B' as'){d:D}{v:No}(r:Rv W B as d v):Rv W B' as' d v:=FM x.base (λi=>Nk (.ag i)) (sH x) _ r (lw d (.inr λ_=>rfl))
theorem RvL.mono(W:Wd)(x:bS B as B' as'){d:List D}{v:List No}(r:RvL W B as d v):RvL W B' as' d v:=(mapL x.base (λi=>Nk (.ag i)) (sH x) _ r (snapL_self d (.inr λ_=>rfl))).1
theorem RvK.mono(W:Wd)(x:bS B as B' as'){d:List (Key×D)}{v:List (Key×No)}(r:RvK W B as d v):RvK W B' as' d v:=(mapK x.base (λi=>Nk (.ag i)) (sH x) _ r (snapK_self d (.inr λ_=>rfl))).1
theorem RvT.mono(W:Wd)(x:bS B as B' as'){d:List (List Int×D)}{v:List (List Int×NF×No)}(r:RvT W B as d v):RvT W B' as' d v:=(mapT x.base (λi=>Nk (.ag i)) (sH x) _ r (snapT_self d (.inr λ_=>rfl))).1
theorem RvF.mono(W:Wd)(x:bS B as B' as'){d:List (Nat×D)}{v:List (Key×No)}(r:RvF W B as d v):RvF W B' as' d v:=dO x.base (λi=>Nk (.ag i)) (sH x) _ r (snapF_self d (.inr λ_=>rfl))
end
variable(W:Wd)
noncomputable def foot:ao->NF×NF->List NF|.obj _ _,p=>[p.1,p.2]|_,p=>[p.1]
noncomputable def iU(as:gH)(st:am):List NF:=((as.zip st).map λq=>foot q.2 q.1).flatten
section
variable(h:NV)
inductive cH(a:NF)(n:Nat)(P:List No->Prop):Prop|mk (vs k):h.get? a=Nk (jd vs k)->n<=cap->P vs.toList->cH a n P
inductive cI(a:NF)(n:Nat)(P:List (Key×No)->Prop):Prop|mk (o kvs):h.get? a=Nk o->n<=cap->o.IsDictOf (kk W.prog W.w) kvs->P kvs->cI a n P
inductive cF(a:NF)(n:Nat)(P:List (List Int×NF×No)->Prop):Prop|mk (o xs):h.get? a=Nk o->n<=cap->aU W.prog W.w o xs->P xs->cF a n P
inductive cG(p:NF×NF)(c:Nat)(P:List (Key×No)->Prop):Prop|mk (o od kvs):h.get? p.1=Nk o->o.cls=.ref (W.ca c)->o.dict=Nk p.2->o.data=.plain->h.get? p.2=Nk od->od.IsDictOf (kk W.prog W.w) kvs->P kvs->cG p c P
end
def CellAt(B:gU)(as:gH)(h:NV)(p:NF×NF):ao->Prop|.ae l=>cH h p.1 l.length (RvL W B as l)|.ap l=>cI W h p.1 l.length (RvK W B as l)|.ak l=>cF W h p.1 l.length (RvT W B as l)|.obj c b=>cG W h p c (RvF W B as b)
structure Hs(B:gU)(as:gH)(st:am)(h:NV):Prop where
 aK:W.be h
 base:∀a o,B a=Nk o->h.get? a=Nk o/\a≠W.tb
 b0:∀a o,W.b0 a=Nk o->B a=Nk o
 len:as.length=st.length
 cell:∀(i:Nat)(c:ao)(p:NF×NF),st[i]? =Nk c->as[i]? =Nk p->CellAt W B as h p c
 off:∀a∈iU as st,B a=Nq/\W.n1<=a/\∃o,h.get? a=Nk o
 nodup:(iU as st).Nodup
structure ai(X:List NF)(B:gU)(as:gH)(st:am)(s:Np)(B':gU)(as':gH)(st':am)(s':Np):Prop where
 rest:s'={s with heap:=s'.heap,toks:=s'.toks}
 live:∀b o,s.heap.get? b=Nk o->b∉X->∃o',s'.heap.get? b=Nk o'
 keep:∀b o,s.heap.get? b=Nk o->b≠W.tb->b∉iU as st->b∉X->s'.heap.get? b=Nk o
 ext:bS B as B' as'
 cv:∀a o,B' a=Nk o->B a=Nk o\/s.heap.get? a=Nq\/a∈X
 cz:∀a∈iU as' st',a∈iU as st\/s.heap.get? a=Nq\/a∈X
 hs:Hs W B' as' st' s'.heap
variable{W}
theorem Hs.low{B as st}{h:NV}(H:Hs W B as st h):W.n1<=h.objs.size:=W.fj h H.aK.1
theorem ai.refl{X:List NF}{B as st}{s:Np}(h:Hs W B as st s.heap):ai W X B as st s B as st s:=⟨rfl,λ_ o e _=>⟨o,e⟩,λ_ _ e _ _ _=>e,bS.refl _ _,λ_ _ e=>.inl e,λ_ e=>.inl e,h⟩
theorem ai.tok{X:List NF}{B as st}{s:Np}(h:Hs W B as st s.heap)(t:Nat):ai W X B as st s B as st {s with toks:=t}:=⟨rfl,λ_ o e _=>⟨o,e⟩,λ_ _ e _ _ _=>e,bS.refl _ _,λ_ _ e=>.inl e,λ_ e=>.inl e,h⟩
theorem ai.dead{X:List NF}{B as st}{s:Np}{d c aa}{b:Np}(x:ai W X B as st s d c aa b){a:NF}(h:b.heap.get? a=Nq):s.heap.get? a=Nq\/a∈X:=by by_cases q:a∈X;exact .inr q;cases e:s.heap.get? a with|none=>exact .inl rfl|some o=>(refine(x.live a o e q).elim λg z=>?_);rw[h]at z;exact nS z
theorem ai.trans{X:List NF}{B as st}{s:Np}{g c aa}{k:Np}{j d ah}{az:Np}(x:ai W X B as st s g c aa k)(y:ai W X g c aa k j d ah az):ai W X B as st s j d ah az:=by
 refine⟨?_,λb o e r=>?_,λb o e m n l=>?_,x.ext.trans y.ext,λa o e=>?_,λa h=>?_,y.hs⟩;exact rG y.rest (rG x.rest rfl);(refine(x.live b o e r).elim λu q=>?_);exact y.live b u q r;refine y.keep b o (x.keep b o e m n l) m (λt=>?_) l;rcases x.cz b t with q|q|q
 exact n q;rw[q]at e;exact nS e;exact l q;rcases y.cv a o e with q|q|q
 exact x.cv a o q;exact .inr (x.dead q);exact .inr (.inr q);rcases y.cz a h with q|q|q
 exact x.cz a q;exact .inr (x.dead q);exact .inr (.inr q)
theorem ai.drop{X Y:List NF}{B as st}{s:Np}{d c aa}{g:Np}(x:ai W X B as st s d c aa g)(h:∀a∈X,a∈Y\/s.heap.get? a=Nq):ai W Y B as st s d c aa g:={x with
  live:=λb o e m=>x.live b o e λq=>(h _ q).elim m λz=>by rw[z]at e;exact nS e
  keep:=λb o e j k l=>x.keep b o e j k λq=>(h _ q).elim l λz=>by rw[z]at e;exact nS e
  cv:=λa o e=>(x.cv a o e).imp id λq=>q.elim .inl λz=>(h a z).elim .inr .inl
  cz:=λa e=>(x.cz a e).imp id λq=>q.elim .inl λz=>(h a z).elim .inr .inl}
theorem ai.weaken{X Y:List NF}{B as st}{s:Np}{c b aa}{d:Np}(x:ai W X B as st s c b aa d)(h:∀a∈X,a∈Y):ai W Y B as st s c b aa d:=x.drop λa e=>.inl (h a e)
theorem Wd.be.eM{h g:NV}(S:W.be h)(d:∀b o,h.get? b=Nk o->b<W.n1->g.get? b=Nk o)(code:∀b o,h.get? b=Nk o->je o->g.get? b=Nk o)(j:g.get? W.tb=h.get? W.tb):W.be g:=⟨λa o e=>d a o (S.1 a o e) (W.eQ a o e).1,W.dz h g S.2 j λb o e _ q=>q.elim (d b o e) λc=>code b o e c⟩
abbrev gS:=Str->Option N8
noncomputable def ou(n:Nat)(s:Str):Bool:=decide (s=bv n)&&s !=("__debug__":Str)&&s !=("__classdict__":Str)
section
variable{α:Type}
noncomputable def w8(x:Expr)(f:Str->Bool):Bool:=if h:x.ctorIdx=23 then @Sw (λ_=>Bool) x h (λs _=>f s)else Nl
noncomputable def oY(x:Expr)(f:QH->Bool):Bool:=if h:x.ctorIdx=19 then @Rg (λ_=>Bool) x h (λc _ _=>f c)else Nl
noncomputable def xUn(x:Expr)(f:QQ->Expr->Bool):Bool:=if h:x.ctorIdx=3 then @Rx (λ_=>Bool) x h (λo y _=>f o y)else Nl
noncomputable def Mz(x:Expr)(f:Expr->Operator->Expr->Bool):Bool:=if h:x.ctorIdx=2 then @Sa (λ_=>Bool) x h (λl o r _=>f l o r)else Nl
noncomputable def JF(x:Expr)(f:Expr->List UW->List Expr->Bool):Bool:=if h:x.ctorIdx=15 then @Ry (λ_=>Bool) x h (λl o r _=>f l o r)else Nl
noncomputable def Gg(x:Expr)(f:BoolOp->List Expr->Bool):Bool:=if h:x.ctorIdx=0 then @RU (λ_=>Bool) x h (λo l _=>f o l)else Nl
noncomputable def xIf(x:Expr)(f:Expr->Expr->Expr->Bool):Bool:=if h:x.ctorIdx=5 then @R9 (λ_=>Bool) x h (λa b c _=>f a b c)else Nl
noncomputable def DD(x:Expr)(f:Expr->Str->Pos->Bool):Bool:=if h:x.ctorIdx=20 then @Q4 (λ_=>Bool) x h (λl s p=>f l s p)else Nl
noncomputable def DB(x:Expr)(f:Expr->Expr->Bool):Bool:=if h:x.ctorIdx=21 then @Q3 (λ_=>Bool) x h (λl r _=>f l r)else Nl
noncomputable def t4(x:Expr)(f:Option Expr->Option Expr->Option Expr->Bool):Bool:=if h:x.ctorIdx=26 then @R8 (λ_=>Bool) x h (λa b c _=>f a b c)else Nl
noncomputable def Jz(x:Expr)(f:List Expr->Bool):Bool:=if h:x.ctorIdx=25 then @R7 (λ_=>Bool) x h (λl _ _=>f l)else Nl
noncomputable def Ge(x:Expr)(f:List Expr->Bool):Bool:=if h:x.ctorIdx=24 then @Sx (λ_=>Bool) x h (λl _=>f l)else Nl
noncomputable def Gf(x:Expr)(f:List (Option Expr)->List Expr->Bool):Bool:=if h:x.ctorIdx=6 then @Sy (λ_=>Bool) x h (λa b _=>f a b)else Nl
noncomputable def Ba(x:Expr)(f:Expr->List Expr->List Va->Pos->Bool):Bool:=if h:x.ctorIdx=16 then @Sz (λ_=>Bool) x h (λg l c p=>f g l c p)else Nl
noncomputable def My(x:Expr)(f:Sp->Expr->Scope->Pos->Bool):Bool:=if h:x.ctorIdx=4 then @RT (λ_=>Bool) x h (λa b c p=>f a b c p)else Nl
noncomputable def JE(x:Expr)(f:Expr->List Comprehension->Scope->Bool):Bool:=if h:x.ctorIdx=8 then @Rf (λ_=>Bool) x h (λa b c _=>f a b c)else Nl
noncomputable def l0(l:List α):Bool:=match l with|[]=>Nm|_=>Nl
noncomputable def l1(l:List α)(f:α->Bool):Bool:=match l with|[a]=>f a|_=>Nl
noncomputable def l2(l:List α)(f:α->α->Bool):Bool:=match l with|[a,b]=>f a b|_=>Nl
noncomputable def o0(l:Option α):Bool:=match l with|none=>Nm|_=>Nl
noncomputable def o1(l:Option α)(f:α->Bool):Bool:=match l with|some a=>f a|_=>Nl
section
variable{G:Expr->Prop}{x:Expr}{P:Prop}
theorem tN{a:Type}{i:a->Nat}{G:a->Prop}{x:a}{n:Nat}{g:i x=n->Bool}(h:(if h:i x=n then g h else Nl)=Nm)(k:∀e:i x=n,g e=Nm->G x):G x:=by by_cases e:i x=n;rw[dif_pos e]at h;exact k e h;rw[dif_neg e]at h;exact fT h
theorem oD{f}(h:w8 x f=Nm)(k:∀s p,f s=Nm->G (.Name s p)):G x:=tN (i:=Expr.ctorIdx) h λe h=>@Sw (λx=>∀e,@Sw (λ_=>Bool) x e (λs _=>f s)=Nm->G x) x e (λs p _ h=>k s p h) e h
theorem jN{f}(h:oY x f=Nm)(k:∀c q p,f c=Nm->G (.Constant c q p)):G x:=tN (i:=Expr.ctorIdx) h λe h=>@Rg (λx=>∀e,@Rg (λ_=>Bool) x e (λc _ _=>f c)=Nm->G x) x e (λc q p _ h=>k c q p h) e h
theorem Dz{f}(h:xUn x f=Nm)(k:∀o y p,f o y=Nm->G (.UnaryOp o y p)):G x:=tN (i:=Expr.ctorIdx) h λe h=>@Rx (λx=>∀e,@Rx (λ_=>Bool) x e (λo y _=>f o y)=Nm->G x) x e (λo y p _ h=>k o y p h) e h
theorem JG{f}(h:Mz x f=Nm)(k:∀l o r p,f l o r=Nm->G (.BinOp l o r p)):G x:=tN (i:=Expr.ctorIdx) h λe h=>@Sa (λx=>∀e,@Sa (λ_=>Bool) x e (λl o r _=>f l o r)=Nm->G x) x e (λl o r p _ h=>k l o r p h) e h
theorem y5{f}(h:JF x f=Nm)(k:∀l o r p,f l o r=Nm->G (.Compare l o r p)):G x:=tN (i:=Expr.ctorIdx) h λe h=>@Ry (λx=>∀e,@Ry (λ_=>Bool) x e (λl o r _=>f l o r)=Nm->G x) x e (λl o r p _ h=>k l o r p h) e h
theorem Bb{f}(h:Gg x f=Nm)(k:∀o l p,f o l=Nm->G (.BoolOp o l p)):G x:=tN (i:=Expr.ctorIdx) h λe h=>@RU (λx=>∀e,@RU (λ_=>Bool) x e (λo l _=>f o l)=Nm->G x) x e (λo l p _ h=>k o l p h) e h
theorem LO{f}(h:xIf x f=Nm)(k:∀a b c p,f a b c=Nm->G (.IfExp a b c p)):G x:=tN (i:=Expr.ctorIdx) h λe h=>@R9 (λx=>∀e,@R9 (λ_=>Bool) x e (λa b c _=>f a b c)=Nm->G x) x e (λa b c p _ h=>k a b c p h) e h
theorem yb{f}(h:DD x f=Nm)(k:∀l s p,f l s p=Nm->G (.Attribute l s p)):G x:=tN (i:=Expr.ctorIdx) h λe h=>@Q4 (λx=>∀e,@Q4 (λ_=>Bool) x e (λl s p=>f l s p)=Nm->G x) x e (λl s p _ h=>k l s p h) e h
theorem rd{f}(h:DB x f=Nm)(k:∀l r p,f l r=Nm->G (.Subscript l r p)):G x:=tN (i:=Expr.ctorIdx) h λe h=>@Q3 (λx=>∀e,@Q3 (λ_=>Bool) x e (λl r _=>f l r)=Nm->G x) x e (λl r p _ h=>k l r p h) e h
theorem oX{f}(h:t4 x f=Nm)(k:∀a b c p,f a b c=Nm->G (.Slice a b c p)):G x:=tN (i:=Expr.ctorIdx) h λe h=>@R8 (λx=>∀e,@R8 (λ_=>Bool) x e (λa b c _=>f a b c)=Nm->G x) x e (λa b c p _ h=>k a b c p h) e h
theorem FG{f}(h:Jz x f=Nm)(k:∀l q p,f l=Nm->G (.Tuple l q p)):G x:=tN (i:=Expr.ctorIdx) h λe h=>@R7 (λx=>∀e,@R7 (λ_=>Bool) x e (λl _ _=>f l)=Nm->G x) x e (λl q p _ h=>k l q p h) e h
theorem A7{f}(h:Ge x f=Nm)(k:∀l p,f l=Nm->G (.List l p)):G x:=tN (i:=Expr.ctorIdx) h λe h=>@Sx (λx=>∀e,@Sx (λ_=>Bool) x e (λl _=>f l)=Nm->G x) x e (λl p _ h=>k l p h) e h
theorem A8{f}(h:Gf x f=Nm)(k:∀a b p,f a b=Nm->G (.Dict a b p)):G x:=tN (i:=Expr.ctorIdx) h λe h=>@Sy (λx=>∀e,@Sy (λ_=>Bool) x e (λa b _=>f a b)=Nm->G x) x e (λa b p _ h=>k a b p h) e h
theorem w9{f}(h:Ba x f=Nm)(k:∀g l c p,f g l c p=Nm->G (.Call g l c p)):G x:=tN (i:=Expr.ctorIdx) h λe h=>@Sz (λx=>∀e,@Sz (λ_=>Bool) x e (λg l c p=>f g l c p)=Nm->G x) x e (λg l c p _ h=>k g l c p h) e h
theorem JC{f}(h:My x f=Nm)(k:∀a b c p,f a b c p=Nm->G (.Lambda a b c p)):G x:=tN (i:=Expr.ctorIdx) h λe h=>@RT (λx=>∀e,@RT (λ_=>Bool) x e (λa b c p=>f a b c p)=Nm->G x) x e (λa b c p _ h=>k a b c p h) e h
theorem A9{f}(h:JE x f=Nm)(k:∀a b c p,f a b c=Nm->G (.ListComp a b c p)):G x:=tN (i:=Expr.ctorIdx) h λe h=>@Rf (λx=>∀e,@Rf (λ_=>Bool) x e (λa b c _=>f a b c)=Nm->G x) x e (λa b c p _ h=>k a b c p h) e h
end
section
variable{P:Prop}{G:List α->Prop}{J:Option α->Prop}{l:List α}{o:Option α}
theorem zC(h:l0 l=Nm)(k:G []):G l:=match l,h with|[],_=>k
theorem wm{f}(h:l1 l f=Nm)(k:∀a,f a=Nm->G [a]):G l:=match l,h with|[a],h=>k a h
theorem LE{f}(h:l2 l f=Nm)(k:∀a b,f a b=Nm->G [a,b]):G l:=by
 induction l using NA with|nil=>exact fT h|cons a l=>
 induction l using NA with|nil=>exact fT h|cons b l=>
 induction l using NA with|nil=>exact k a b h|cons _ _=>exact fT h
theorem B2(h:o0 o=Nm)(k:J Nq):J o:=match o,h with|none,_=>k
theorem G8{f}(h:o1 o f=Nm)(k:∀a,f a=Nm->J (Nk a)):J o:=match o,h with|some a,h=>k a h
theorem db{a b:Bool}(h:(a&&b)=Nm)(k:a=Nm->b=Nm->P):P:=k (NH.mp h).1 (NH.mp h).2
end
end
noncomputable def I5:QH->Bool|.none=>Nm|_=>Nl
noncomputable def K8(b:Bool):QH->Bool|.bool c=>b==c|_=>Nl
noncomputable def K7(b:Int):QH->Bool|.int c=>b==c|_=>Nl
noncomputable def MQ(n:Nat):QH->Bool|.str s=>decide (s=bv n)|_=>Nl
section
variable{G:QH->Prop}{c:QH}
theorem Dd(h:I5 c=Nm)(k:G .none):G c:=by induction c using Qo<;>first|exact k|exact fT h
theorem I6{b:Bool}(h:K8 b c=Nm)(k:G (.bool b)):G c:=by induction c using Qo<;>first|(rw[beq_iff_eq.mp h]at k;exact k)|exact fT h
theorem zZ{b:Int}(h:K7 b c=Nm)(k:G (.int b)):G c:=by induction c using Qo<;>first|(rw[beq_iff_eq.mp h]at k;exact k)|exact fT h
theorem K3{b:Nat}(h:MQ b c=Nm)(k:G (.str (bv b))):G c:=by induction c using Qo<;>first|(rw[<-of_decide_eq_true h]at k;exact k)|exact fT h
end
noncomputable def EE(n:Nat):Bool:=match names[n]? with|some l=> !l.contains 46|none=>Nl
noncomputable def Ce(k:gS)(n:Nat)(x:Expr):Bool:=w8 x λs=>ou n s&&k s==Nk .globalImplicit&&EE n
noncomputable def Kh(k:gS)(n:Str)(x:Expr):Bool:=w8 x λs=>decide (s=n)&&k s==Nk .globalImplicit
noncomputable def LX:eX->Operator|.add=>.Add|.sub=>.Sub|.mul=>.Mult|.fdiv=>.FloorDiv|.mod=>.Mod
noncomputable def tW:dG->UW|.eq=>.Eq|.ne=>.NotEq|.lt=>.Lt|.le=>.LtE|.gt=>.Gt|.ge=>.GtE
noncomputable def LG(n:Bool):UW:=cond n .IsNot .Is
noncomputable def LI(n:Bool):UW:=cond n .NotIn .In
noncomputable def Lb(o:Bool):BoolOp:=cond o .And .Or
noncomputable def zA(k:gS)(n:Nat)(x:Expr):Bool:=w8 x λs=>ou n s&&(k s==Nk .local||k s==Nk .cell)
noncomputable def yt(k:gS):List Nat->List Expr->Bool|[],[]=>Nm|n::ns,x::xs=>zA k n x&&yt k ns xs|_,_=>Nl
noncomputable def sQ(k:gS)(single:Bool)(xs:List Nat)(x:Expr):Bool:=match single with|true=>l1 xs λn=>zA k n x|false=>Jz x λa=>yt k xs a
noncomputable def gZ(k:gS)(sc:Scope):gS:=λs=>(sc.names.map λ(n,j)=>if j==.free&&k n==Nk .cell then(n,QM)else(n,j)).lookup s
noncomputable def FZ(k:gS)(sc:Scope)(xs fv:List Nat)(single:Bool)(a:It):Bool:=sc.names.lookup ("run":Str) !=Nk Pv&&sc.kind==.function&&(a !=.bI|| !single)&&sc.names.all (λp=>p.2==.local||p.2==.globalImplicit||(p.2==.free&&k p.1==Nk .cell))&&xs.all (λn=>sc.names.lookup (bv n)==Nk .local)&&fv.all (λn=>sc.names.lookup (bv n)==Nk .free)&&decide ((sc.names.map (·.1)).Nodup)&&decide ((xs.map bv).Nodup)
noncomputable def ma(e:E):Bool:=match e with|.none=>Nm|_=>Nl
theorem wq{e:E}{G:E->Prop}(h:ma e=Nm)(k:G .none):G e:=by revert h;apply @E.casesOn (λe=>ma e=Nm->G e) e<;>intros<;>first|exact k|(rename_i h;exact fT h)
noncomputable def iP(x:Expr):Bool:= !(Ba x λg l a _=>l0 l&&(l0 a&&w8 g λ_=>Nm))
noncomputable def xF(x:Expr)(f:Expr->List Expr->Bool):Bool:=Ba x λg l a _=>l0 a&&f g l
noncomputable def xB1(k:gS)(n:Str)(x:Expr)(f:Expr->Bool):Bool:=xF x λg l=>Kh k n g&&l1 l f
noncomputable def xB2(k:gS)(n:Str)(x:Expr)(f:Expr->Expr->Bool):Bool:=xF x λg l=>Kh k n g&&l2 l f
noncomputable def xM(x:Expr)(f:Expr->Str->List Expr->Bool):Bool:=Ba x λm l a q=>l0 a&&DD m λg s p=>iP g&&p.endLine==q.line&&f g s l
noncomputable def xM0(n:Str)(x:Expr)(f:Expr->Bool):Bool:=xM x λg s l=>decide (s=n)&&l0 l&&f g
noncomputable def xM1(n:Str)(x:Expr)(f:Expr->Expr->Bool):Bool:=xM x λg s l=>decide (s=n)&&l1 l (f g)
noncomputable def xM2(n:Str)(x:Expr)(f:Expr->Expr->Expr->Bool):Bool:=xM x λg s l=>decide (s=n)&&l2 l (f g)
noncomputable def L1:QQ->Bool|.USub=>Nm|_=>Nl
noncomputable def MK:QQ->Bool|.Not=>Nm|_=>Nl
noncomputable def neL(l:List Expr):Bool:=match l with|[]=>Nl|_=>Nm
noncomputable def MI(x:Expr):Bool:=DB x λa b=>w8 a (λs=>decide (s=("pair":Str)))&&oY b (K7 0)
noncomputable def MJ(a:Sp):Bool:=l0 a.posonlyargs&&(l1 a.args (λx=>decide (x.arg=("pair":Str))&&o0 x.annotation)&&(o0 a.vararg&&(l0 a.kwonlyargs&&(l0 a.kw_defaults&&(o0 a.kwarg&&l0 a.defaults)))))
noncomputable def Kp(k:gS)(x:Va):Bool:=match x with|⟨Nk e,v,_⟩=>decide (e=("key":Str))&&My v λa b d f=>MJ a&&MI b&&(d.kind==.function&& !d.isGenerator&& !d.isCoroutine&&decide (d.names=[(("pair":Str),Pv)])&&f.line==92&&f.col==53&&k "run"==Nk .local&&k "form_sorted"==Nq)|_=>Nl
set_option smartUnfolding false in
mutual
noncomputable def mE(k:gS):E->Expr->Bool|.ab n,x=>w8 x λs=>ou n s&&(k s==Nk .local||k s==Nk .cell||k s==Nk .free)|.glob n,x=>Ce k n x|.none,x=>oY x I5|.bool b,x=>oY x (K8 b)|.int i,x=>oY x (K7 i)|.str n,x=>oY x (MQ n)|.neg i,x=>xUn x λo y=>L1 o&&oY y (K7 i)|.bin o a b,x=>Mz x λl v r=>decide (v=LX o)&&(mE k a l&&mE k b r)|.cmp o a b,x=>JF x λl e w=>l1 e λv=>l1 w λr=>decide (v=tW o)&&(mE k a l&&mE k b r)|.bQ A B a b c,x=>JF x λl e w=>l2 e λp q=>l2 w λr t=>decide (p=tW A)&&(decide (q=tW B)&&(mE k a l&&(mE k b r&&mE k c t)))|.bq n a,x=>JF x λl e w=>l1 e λv=>l1 w λr=>decide (v=LG n)&&(oY r I5&&mE k a l)|.bz n a b,x=>JF x λl e w=>l1 e λv=>l1 w λr=>decide (v=LI n)&&(mE k a l&&mE k b r)|.and j,x=>Gg x λo l=>decide (o=.And)&&(neL l&&mL k j l)|.or j,x=>Gg x λo l=>decide (o=.Or)&&(neL l&&mL k j l)|.not a,x=>xUn x λo y=>MK o&&mE k a y|.ite t a b,x=>xIf x λy l r=>mE k t y&&(mE k a l&&mE k b r)|.attr o f,x=>DD x λl s _=>iP l&&(ou f s&&mE k o l)|.aj o i,x=>DB x λl r=>mE k o l&&mE k i r|.slice _ o a b,x=>DB x λl r=>mE k o l&&t4 r λp q t=>o0 t&&o1 p λp=>o1 q λq=>mE k a p&&mE k b q|.bG _ o b,x=>DB x λl r=>mE k o l&&t4 r λp q t=>o0 p&&(o0 t&&o1 q λq=>mE k b q)|.aM _ o a,x=>DB x λl r=>mE k o l&&t4 r λp q t=>o0 q&&(o0 t&&o1 p λp=>mE k a p)|.rev _ o,x=>DB x λl r=>mE k o l&&t4 r λp q t=>o0 p&&(o0 q&&o1 t λt=>xUn t λu y=>L1 u&&oY y (K7 1))|.tup j,x=>Jz x λl=>mL k j l|.ae _ j,x=>Ge x λl=>mL k j l|.dict _ H,x=>Gf x λz I=>decide (z.length<=15)&&mKV k H z I|.bJ,x=>Gf x λz I=>l0 z&&l0 I|.call _ f d,x=>xF x λg l=>Ce k f g&&(decide (l.length<28)&&mL k d l)|.aC f d,x=>xF x λg l=>Ce k f g&&(decide (l.length<28)&&mL k d l)|.new c d,x=>xF x λg l=>Ce k c g&&(decide (l.length<28)&&mL k d l)|.aw _ o f d,x=>xM x λg s l=>ou f s&&(decide (l.length<28)&&(mE k o g&&mL k d l))|.ba o f d,x=>xM x λg s l=>ou f s&&(decide (l.length<28)&&(mE k o g&&mL k d l))|.len a,x=>xB1 k "len" x λl=>mE k a l|.list _ a,x=>xB1 k "list" x λl=>mE k a l|.tuple a,x=>xB1 k "tuple" x λl=>mE k a l|.sorted _ a,x=>xB1 k "sorted" x λl=>mE k a l|.sortedK _ a,x=>Ba x λg l z _=>Kh k "sorted" g&&(l1 z (Kp k)&&l1 l λl=>mE k a l)|.cM a,x=>xB1 k "max" x λl=>mE k a l|.max2 a b,x=>xB2 k "max" x λl r=>mE k a l&&mE k b r|.dH a,x=>xB2 k "isinstance" x λl r=>Kh k "bool" r&&mE k a l|.cQ o a,x=>xM1 "get" x λg l=>mE k o g&&mE k a l|.aH o a b,x=>xM2 "get" x λg l r=>mE k o g&&(mE k a l&&mE k b r)|.bW o a,x=>xM2 "setdefault" x λg l r=>Ge r l0&&(mE k o g&&mE k a l)|.append o a,x=>xM1 "append" x λg l=>mE k o g&&mE k a l|.extend o a,x=>xM1 "extend" x λg l=>mE k o g&&mE k a l|.pop o,x=>xM0 "pop" x λg=>mE k o g|.cW o a,x=>xM1 "pop" x λg l=>mE k o g&&mE k a l|.comp _ F L M h K a b m D,x=>JE x λy N C=>l1 N λg=>g.is_async==0&&(FZ k C L M h K&&(sQ (gZ k C) h L g.target&&((match K with|.plain=>ma b&&mE k a g.iter|.aL=>xB1 k "range" g.iter λl=>ma b&&mE k a l|.aV=>xB2 k "range" g.iter λl r=>mE k a l&&mE k b r|.bI=>xB1 k "enumerate" g.iter λl=>ma b&&mE k a l)&&(mE (gZ k C) F y&&cond m (l1 g.ifs λc=>mE (gZ k C) D c) (l0 g.ifs)))))
noncomputable def mL(k:gS):Es->List Expr->Bool|.nil,[]=>Nm|.cons e r,x::l=>mE k e x&&mL k r l|_,_=>Nl
noncomputable def mKV(k:gS):dF->List (Option Expr)->List Expr->Bool|.nil,[],[]=>Nm|.cons a b r,Nk x::ks,y::vs=>mE k a x&&(mE k b y&&mKV k r ks vs)|_,_,_=>Nl
end
noncomputable def mIt(k:gS)(d:It)(a b:E)(i:Expr):Bool:=match d with|.plain=>ma b&&mE k a i|.aL=>xB1 k "range" i λl=>ma b&&mE k a l|.aV=>xB2 k "range" i λl r=>mE k a l&&mE k b r|.bI=>xB1 k "enumerate" i λl=>ma b&&mE k a l
noncomputable def mTg(k:gS):Tg->Expr->Bool|.name n,x=>zA k n x|.names d,x=>sQ k Nl d x&&decide ((d.map bv).Nodup)|.attr o f,x=>DD x λl s _=>iP l&&(ou f s&&mE k o l)|.aj o i,x=>DB x λl r=>mE k o l&&mE k i r|.slice o a b,x=>DB x λl r=>mE k o l&&t4 r λp q t=>o0 t&&o1 p λp=>o1 q λq=>mE k a p&&mE k b q
noncomputable def vU(x v:Expr):Bool:= !(Jz x λb=>Jz v λa=>b.length==a.length&&a.all (T8 8))
noncomputable def sJ(x:Expr):Bool:= !(N0 x.ctorIdx 8||(N0 x.ctorIdx 9||N0 x.ctorIdx 10))
noncomputable def Mw(x:OS)(f:Expr->Expr->Bool):Bool:=if h:x.ctorIdx=5 then @RQ (λ_=>Bool) x h (λa v _=>l1 a λt=>f t v)else Nl
noncomputable def Js(x:OS)(f:Expr->Bool):Bool:=if h:x.ctorIdx=24 then @Su (λ_=>Bool) x h (λv _=>f v)else Nl
noncomputable def Mu(x:OS)(f:Option Expr->Bool):Bool:=if h:x.ctorIdx=3 then @RP (λ_=>Bool) x h (λv _=>f v)else Nl
noncomputable def yIf(x:OS)(f:Expr->List OS->List OS->Bool):Bool:=if h:x.ctorIdx=12 then @Tl (λ_=>Bool) x h (λa b c _=>f a b c)else Nl
noncomputable def FC(x:OS)(f:Expr->List OS->Bool):Bool:=if h:x.ctorIdx=11 then @R6 (λ_=>Bool) x h (λa b c _=>l0 c&&f a b)else Nl
noncomputable def Mv(x:OS)(f:Expr->Expr->List OS->Bool):Bool:=if h:x.ctorIdx=9 then @SN (λ_=>Bool) x h (λa b c d _=>l0 d&&f a b c)else Nl
section
variable{G:OS->Prop}{x:OS}
theorem Jt{f}(h:Mw x f=Nm)(k:∀t v p,f t v=Nm->G (.Assign [t] v p)):G x:=tN (i:=QC) h λe h=>@RQ (λx=>∀e,@RQ (λ_=>Bool) x e (λa v _=>l1 a λt=>f t v)=Nm->G x) x e (λa v p _ h=>wm (G:=λa=>G (.Assign a v p)) h λt h=>k t v p h) e h
theorem Gd{f}(h:Js x f=Nm)(k:∀v p,f v=Nm->G (.Expr v p)):G x:=tN (i:=QC) h λe h=>@Su (λx=>∀e,@Su (λ_=>Bool) x e (λv _=>f v)=Nm->G x) x e (λv p _ h=>k v p h) e h
theorem Jq{f}(h:Mu x f=Nm)(k:∀v p,f v=Nm->G (.Return v p)):G x:=tN (i:=QC) h λe h=>@RP (λx=>∀e,@RP (λ_=>Bool) x e (λv _=>f v)=Nm->G x) x e (λv p _ h=>k v p h) e h
theorem LL{f}(h:yIf x f=Nm)(k:∀a b c p,f a b c=Nm->G (.If a b c p)):G x:=tN (i:=QC) h λe h=>@Tl (λx=>∀e,@Tl (λ_=>Bool) x e (λa b c _=>f a b c)=Nm->G x) x e (λa b c p _ h=>k a b c p h) e h
theorem Dy{f}(h:FC x f=Nm)(k:∀a b p,f a b=Nm->G (.While a b [] p)):G x:=tN (i:=QC) h λe h=>@R6 (λx=>∀e,@R6 (λ_=>Bool) x e (λa b c _=>l0 c&&f a b)=Nm->G x) x e (λa b c p _ h=>db h λh d=>zC (G:=λc=>G (.While a b c p)) h (k a b p d)) e h
theorem Jr{f}(h:Mv x f=Nm)(k:∀t i l p,f t i l=Nm->G (.For t i l [] p)):G x:=tN (i:=QC) h λe h=>@SN (λx=>∀e,@SN (λ_=>Bool) x e (λa b c d _=>l0 d&&f a b c)=Nm->G x) x e (λa b c d p _ h=>db h λh g=>zC (G:=λd=>G (.For a b c d p)) h (k a b c p g)) e h
theorem Mg(h:N0 x.ctorIdx 26=Nm)(k:∀p,G (.Break p)):G x:=@OS.Break.elim (λx=>G x) x (O3 h) k
theorem KT(h:N0 x.ctorIdx 27=Nm)(k:∀p,G (.Continue p)):G x:=@OS.Continue.elim (λx=>G x) x (O3 h) k
end
mutual
noncomputable def mS(k:gS):S->OS->Bool
 |.assign t e,x=>Mw x λg i=>mTg k t g&&(mE k e i&&vU g i)|.expr e,x=>Js x λv=>mE k e v&&sJ v|.ret e,x=>Mu x λv=>match v with|some v=>mE k e v|none=>ma e
 |.ite t a b,x=>yIf x λy l r=>mE k t y&&(mSs k a l&&mSs k b r)|.bF t b,x=>FC x λy l=>mE k t y&&mSs k b l|.bu j d h a b f,x=>Mv x λg m l=>sQ k d j g&&(decide ((j.map bv).Nodup)&&((h !=.bI|| !d)&&(mIt k h a b m&&mSs k f l)))|.brk,x=>N0 x.ctorIdx 26|.cont,x=>N0 x.ctorIdx 27|.stuck,_=>Nm
noncomputable def mSs(k:gS):Ss->List OS->Bool|.nil,[]=>Nm|.cons s r,x::l=>mS k s x&&mSs k r l|_,_=>Nl
end
section
variable{α β:Type}{G:Prop}{r:β}
theorem jm{o:Option (α×am)}{f:α->am->Option β}(h:bp o f=Nk r)(k:∀a st,o=Nk (a,st)->f a st=Nk r->G):G:=by induction o using N3 with|none=>exact nS h|some p=>exact k p.1 p.2 rfl h
theorem Fr{o:Option (D×am)}{f:Int->am->Option β}(h:bi o f=Nk r)(k:∀a st,o=Nk (.int a,st)->f a st=Nk r->G):G:=by induction o using N3 with|none=>exact nS h|some p=>obtain⟨d,st⟩:=p;induction d using D.casesOn<;>first|exact k _ _ rfl h|exact nS h
theorem Ft{o:Option (D×am)}{f:Bool->am->Option β}(h:bb o f=Nk r)(k:∀a st,o=Nk (.bool a,st)->f a st=Nk r->G):G:=by induction o using N3 with|none=>exact nS h|some p=>obtain⟨d,st⟩:=p;induction d using D.casesOn<;>first|exact k _ _ rfl h|exact nS h
theorem F5{o:Option (D×am)}{f:Nat->am->Option β}(h:bo o f=Nk r)(k:∀a st,o=Nk (.ag a,st)->f a st=Nk r->G):G:=by induction o using N3 with|none=>exact nS h|some p=>obtain⟨d,st⟩:=p;induction d using D.casesOn<;>first|exact k _ _ rfl h|exact nS h
theorem Nd{o:Option (D×am)}{f:am->Option β}(h:bn o f=Nk r)(k:∀st,o=Nk (.none,st)->f st=Nk r->G):G:=by induction o using N3 with|none=>exact nS h|some p=>obtain⟨d,st⟩:=p;induction d using D.casesOn<;>first|exact k _ rfl h|exact nS h
theorem Mi{o:Option D}{f:List D->Option β}(h:bl o f=Nk r)(k:∀l,o=Nk (.ae l)->f l=Nk r->G):G:=by induction o using N3 with|none=>exact nS h|some d=>induction d using D.casesOn<;>first|exact k _ rfl h|exact nS h
theorem Mk{o:Option D}{f:Nat->List (Nat×D)->Option β}(h:bj o f=Nk r)(k:∀c l,o=Nk (.obj c l)->f c l=Nk r->G):G:=by induction o using N3 with|none=>exact nS h|some d=>induction d using D.casesOn<;>first|exact k _ _ rfl h|exact nS h
theorem Le{o:Option cJ}{f:Key->Option β}(h:bk o f=Nk r)(k:∀l,o=Nk (.v l)->f l=Nk r->G):G:=by induction o using N3 with|none=>exact nS h|some d=>induction d using cJ.casesOn<;>first|exact k _ rfl h|exact nS h
theorem MR{o:Option Bool}{t e:Option β}(h:bt o t e=Nk r)(k:o=Nk Nm->t=Nk r->G)(a:o=Nk Nl->e=Nk r->G):G:=by induction o using N3 with|none=>exact nS h|some b=>induction b using Nw with|true=>exact k rfl h|false=>exact a rfl h
theorem mQ{p:Prop}[Decidable p]{x:Option β}(h:gp p x=Nk r)(k:p->x=Nk r->G):G:=by by_cases q:p;exact k q ((if_pos q).symm.trans h);exact nS ((if_neg q).symm.trans h)
theorem K5{o:Option ao}{f:List D->Option β}(h:cL o f=Nk r)(k:∀l,o=Nk (.ae l)->f l=Nk r->G):G:=by induction o using N3 with|none=>exact nS h|some d=>induction d using ao.casesOn<;>first|exact k _ rfl h|exact nS h
theorem ml{o:Option α}{f:α->Option β}(h:o.bind f=Nk r)(k:∀a,o=Nk a->f a=Nk r->G):G:=by induction o using N3 with|none=>exact nS h|some a=>exact k a rfl h
theorem pH{o:Option α}{f:α->β}{G:β->Prop}(h:o.map f=Nk r)(k:∀a,o=Nk a->G (f a)):G r:=by induction o using N3 with|none=>exact nS h|some a=>exact NE h▸k a rfl
theorem on{x:β}{G:β->Prop}(h:Nk x=Nk r)(k:G x):G r:=NE h▸k
theorem MP{b:Bool}{x y:β}{G:β->Prop}(h:b=Nm->G x)(a:b=Nl->G y):G (cond b x y):=by induction b using Nw with|true=>exact h rfl|false=>exact a rfl
end
inductive ci(env:Env)(h:NV)(x:Str)(v:No):Prop|ab (a:env.kindOf x=Nk .local) (mv) (hn:h.Ns env.locals mv) (e:mv x=Nk v):ci env h x v|fb (a:env.kindOf x=Nk .cell\/env.kindOf x=Nk .free) (c) (hc:env.cells.lookup x=Nk c) (hi:h.IsCell c (Nk v)):ci env h x v
noncomputable def dl(env:Env):List NF:=env.locals::env.cells.map (·.2)
variable{W:Wd}
structure Frame(W:Wd)(env:Env)(m:Loc)(B:gU)(as:gH)(st:am)(h:NV):Prop where
 kind:env.scope.kind=.function
 glob:env.globals=OC
 blt:env.builtins=PP
 ns:∃mv,h.Ns env.locals mv
 cells:∀x c,(x,c)∈env.cells->∃v,h.IsCell c v
 vals:∀x d,m.get x=Nk d->∃v,ci env h (bv x) v/\Rv W B as d v
 off:∀a∈dl env,a∉iU as st/\B a=Nq/\W.n1<=a
 nodup:(dl env).Nodup
 cl:∀x,env.kindOf x=Nk .cell->(env.cells.lookup x).isSome=Nm
 en:env.kindOf "run"=Nk .local->env.kindOf "form_sorted"=Nq->env.code=.ref W.lc/\env.qual=W.lq
theorem Frame.live{env m B as st h}(F:Frame W env m B as st h):∀a∈dl env,∃o,h.get? a=Nk o:=by
 intro a b;rcases Nz.mp b with rfl|b
 (refine F.ns.elim λu e=>e.elim λo f=>f.elim λt i=>i.elim λq j=>j.elim λd _=>?_);exact⟨o,d⟩;refine w12 (Nx.mp b) λe g f=>?_;obtain⟨x,c⟩:=e;subst f;(refine(F.cells x c g).elim λv l=>l.elim λo p=>p.elim λd _=>?_);exact⟨o,d⟩
theorem ci.keep{env:Env}{h d:NV}{x:Str}{v:No}(N:ci env h x v)(k:∀a∈dl env,∀o,h.get? a=Nk o->d.get? a=Nk o):ci env d x v:=by
 rcases N with⟨a,l,⟨o,i,g,b,r⟩,e⟩|⟨a,c,f,o,b,j⟩
 exact .ab a l ⟨o,i,g,k _ (.head _) _ b,r⟩ e;exact .fb a c f ⟨o,k _ (.tail _ (Nx.mpr ⟨_,mem_of_lookup f,rfl⟩)) _ b,j⟩
theorem Frame.step{env m B as st}{s:Np}{g f st'}{s':Np}{X:List NF}(F:Frame W env m B as st s.heap)(S:ai W X B as st s g f st' s')(h:∀a∈dl env,a∉X):Frame W env m g f st' s'.heap:=by
 have k:∀a∈dl env,∀o,s.heap.get? a=Nk o->s'.heap.get? a=Nk o:=λa b o e=>S.keep a o e (λq=>absurd W.cX (by refine rL q ?_;exact Pa.mpr (F.off a b).2.2)) (F.off a b).1 (h a b);refine⟨F.kind,F.glob,F.blt,?_,λx c D=>?_,λx d i=>?_,λa b=>⟨λq=>?_,?_,(F.off a b).2.2⟩,F.nodup,F.cl,F.en⟩;(refine F.ns.elim λI l=>l.elim λo p=>p.elim λH t=>t.elim λE u=>u.elim λj r=>?_);exact i42 I o H E (k _ (.head _) _ j) r;(refine(F.cells x c D).elim λv w=>w.elim λo y=>y.elim λj i=>?_);exact i22 v o (k _ (.tail _ (Nx.mpr ⟨_,D,rfl⟩)) _ j) i;(refine(F.vals x d i).elim λv C=>C.elim λN r=>?_);exact i12 v (N.keep k) (r.mono W S.ext);rcases S.cz a q with z|z|z
 exact(F.off a b).1 z;(refine(F.live a b).elim λo e=>?_);rw[z]at e;exact nS e;exact h a b z;cases e:g a with
 |none=>rfl|some o=>
 rcases S.cv a o e with z|z|z
 rw[(F.off a b).2.1]at z;exact nS z;(refine(F.live a b).elim λo e=>?_);rw[z]at e;exact nS e;exact absurd z (h a b)
structure aF(A:Ob)(n:Nat):Prop where
 handled:A.handled=Nq
 depth:10*A.depth+n<=9000
 units:A.units+n<=9000
theorem aF.less{A n a}(R:aF A n)(h:a<=n):aF A a:=⟨R.handled,NN (Oe h _) R.depth,NN (Oe h _) R.units⟩
theorem aF.up{A n}(R:aF A n){k m:Nat}(h:9000+k<m):A.units+k<m:=N6 (Nat.add_le_add_right (NN (Pl _ n) R.units) k) h
theorem aF.bV{A n}(R:aF A n):A.units+64<Sj:=R.up (by decide)
theorem aF.eY{A n}(R:aF A n):A.units+66<Sj:=R.up (by decide)
theorem aF.deeper{A n}{env:Env}(R:aF A (n+10)):aF (A.deeper env) n:=⟨R.handled,NN (Pf (by show 10*A.depth+10+n=_;rw[TO,SB 10])) R.depth,NN (by show A.units+3+n<=_;rw[TO,SB 3];exact Oe (Oe (by decide) _) _) R.units⟩
theorem aF.in1{A n}(R:aF A (n+10)):aF A.in1 n:=⟨R.handled,NN (Oe (Pl _ _) _) R.depth,NN (by show A.units+1+n<=_;refine rG (TO _ _ _) (rG (SB 1 _) ?_);exact Oe (Oe (by decide) _) _) R.units⟩
inductive aQ(W:Wd)(B:gU)(as:gH)(st:am)(s:Np)(d:D)(st':am)(v:No)(s':Np):Prop|mk (B' as'):ai W [] B as st s B' as' st' s'->Rv W B' as' d v->aQ W B as st s d st' v s'
inductive fw(W:Wd)(B:gU)(as:gH)(st:am)(s:Np)(st':am)(s':Np):Prop|mk (B' as'):ai W [] B as st s B' as' st' s'->fw W B as st s st' s'
def ng(W:Wd)(A:Ob)(env:Env)(x:Expr)(B:gU)(as:gH)(st:am)(s:Np)(Er:No->Np->Prop)(q:D×am):Prop:=NL (NT W.prog W.w) A (Oi x env) (aQ W B as st s q.1 q.2) Er s
def SoundE(W:Wd)(T:Tab)(O:aN)(n:Nat)(k:gS)(e:E)(x:Expr):Prop:=∀(A:Ob)(env:Env)(m:Loc)(B:gU)(as:gH)(st:am)(s:Np)(q:D×am)(Er:No->Np->Prop),aF A n->Frame W env m B as st s.heap->(∀y,env.kindOf y=k y)->Hs W B as st s.heap->ev T O e m st=Nk q->ng W A env x B as st s Er q
def SoundT(W:Wd)(T:Tab)(O:aN)(n:Nat)(k:gS)(e:E)(x:Expr):Prop:=∀(A:Ob)(env:Env)(m:Loc)(B:gU)(as:gH)(st:am)(s:Np)(b:Bool)(st':am)(Er:No->Np->Prop),aF A n->Frame W env m B as st s.heap->(∀y,env.kindOf y=k y)->Hs W B as st s.heap->ev T O e m st=Nk (.bool b,st')->NL (NT W.prog W.w) A (isTrue x env (Oi x env)) (λa c=>a=b/\fw W B as st s st' c) Er s
theorem nu{B as st}{s:Np}{b a aa}{c:Np}{d ah v az}(S:ai W [] B as st s b a aa c)(P:aQ W b a aa c d ah v az):aQ W B as st s d ah v az:=by obtain⟨f,e,g,r⟩:=P;exact⟨f,e,S.trans g,r⟩
section
variable{T:Tab}{O:aN}{n:Nat}{k:gS}{A:Ob}{env:Env}{m:Loc}{B:gU}{as:gH}{st:am}{s:Np}{Er:No->Np->Prop}
theorem jo{n:Nat}{x:Str}{G:Str->Prop}(h:ou n x=Nm)(k:(bv n==("__debug__":Str))=Nl->(bv n==("__classdict__":Str))=Nl->G (bv n)):G x:=by refine db h λh c=>db h λa b=>?_;obtain rfl:=of_decide_eq_true a;exact k (OV _▸b) (OV _▸c)
theorem BA{y:Nat}{x:Expr}(h:mE k (.ab y) x=Nm):SoundE W T O n k (.ab y) x:=oD h λj p h=>db h λl z=>jo (G:=λj=>SoundE W T O n k (.ab y) (.Name j p)) l λo b A env m B as st s q Er R F C H t=>pH (G:=ng W A env _ B as st s Er) t λf u=>by
  (refine(F.vals y f u).elim λv d=>d.elim λN r=>?_);refine wpAny_Name ?_ o;have P:aQ W B as st s f st v s:=⟨B,as,ai.refl H,r⟩;rcases N with⟨a,D,w,e⟩|⟨a,c,g,i⟩
  exact wpAny_loadName_local F.kind a w e P;(refine a.elim (λa=>?_) λa=>?_);exact wpAny_loadName_cell F.kind a g i P;exact wpAny_loadName_free F.kind a g i P b
theorem DU{x:Expr}(h:mE k .none x=Nm):SoundE W T O n k .none x:=jN h λc q p h=>Dd (G:=λc=>SoundE W T O n k .none (.Constant c q p)) h λA env m B as st s _ Er R F b H a=>on (G:=ng W A env _ B as st s Er) a (VJ ⟨B,as,ai.refl H,.none⟩)
theorem Ed{b:Bool}{x:Expr}(h:mE k (.bool b) x=Nm):SoundE W T O n k (.bool b) x:=jN h λc q p h=>I6 (G:=λc=>SoundE W T O n k (.bool b) (.Constant c q p)) h λA env m B as st s _ Er R F d H a=>on (G:=ng W A env _ B as st s Er) a (wpAny_Constant_bool ⟨B,as,ai.refl H,.bool _⟩)
theorem BB{i:Int}{x:Expr}(h:mE k (.int i) x=Nm):SoundE W T O n k (.int i) x:=jN h λc q p h=>zZ (G:=λc=>SoundE W T O n k (.int i) (.Constant c q p)) h λA env m B as st s _ Er R F b H a=>on (G:=ng W A env _ B as st s Er) a (SJ ⟨B,as,ai.tok H _,.int _ _⟩)
theorem Gw{i:Nat}{x:Expr}(h:mE k (.str i) x=Nm):SoundE W T O n k (.str i) x:=jN h λc q p h=>K3 (G:=λc=>SoundE W T O n k (.str i) (.Constant c q p)) h λA env m B as st s _ Er R F b H a=>on (G:=ng W A env _ B as st s Er) a (wpAny_Constant_str ⟨B,as,ai.tok H _,.str _ _⟩)
theorem Cv{o:QQ}{G:QQ->Prop}(h:L1 o=Nm)(k:G .USub):G o:=by induction o using SF<;>first|exact k|exact fT h
theorem Kw{o:QQ}{G:QQ->Prop}(h:MK o=Nm)(k:G .Not):G o:=by induction o using SF<;>first|exact k|exact fT h
theorem GC{i:Int}{x:Expr}(h:mE k (.neg i) x=Nm):SoundE W T O n k (.neg i) x:=Dz h λo y p h=>db h λa b=>Cv (G:=λo=>SoundE W T O n k (.neg i) (.UnaryOp o y p)) a (jN (G:=λy=>SoundE W T O n k (.neg i) (.UnaryOp .USub y p)) b λc q e h=>zZ (G:=λc=>SoundE W T O n k (.neg i) (.UnaryOp .USub (.Constant c q e) p)) h λA env m B as st s _ Er R F f H d=>on (G:=ng W A env _ B as st s Er) d (by refine UF (SJ ?_);exact neg_int (s:={s with toks:=s.toks+1}) ⟨B,as,ai.tok H _,.int _ _⟩))
end
theorem AI{m:Type}{x y:List m}{a:m}:∀{L:List (List m)}{i j:Nat},L.flatten.Nodup->i≠j->L[i]? =Nk x->L[j]? =Nk y->a∈x->a∈y->False:=λ{L}=>by
 induction L with
 |nil=>intro i j _ _ h;exact nS h|cons z L o=>
 intro i j n c d f g k;have b:=Oj.mp n;induction i using NY with
 |zero=>induction j using NY with|zero=>exact c rfl|succ j=>(refine sI d λl=>?_;subst l);exact b.2.2 a g a (Rb.mpr ⟨y,Op f,k⟩) rfl
 |succ i=>induction j using NY with|zero=>(refine sI f λl=>?_;subst l);exact b.2.2 a k a (Rb.mpr ⟨x,Op d,g⟩) rfl|succ j=>exact o b.2.1 (λe=>c (congrArg Pd e)) d f g k
theorem yI{as:gH}{st:am}{i:Nat}{c:ao}{p:NF×NF}(a:st[i]? =Nk c)(b:as[i]? =Nk p):((as.zip st).map λq=>foot q.2 q.1)[i]? =Nk (foot c p):=by refine rG (Oc) (rG ((Ts (z:=(p,c))).mpr ⟨b,a⟩) ?_);rfl
theorem wg{a:NF}{as:gH}{st:am}:a∈iU as st↔∃(i:Nat)(c:ao)(p:NF×NF),st[i]? =Nk c/\as[i]? =Nk p/\a∈foot c p:=by refine⟨λh=>?_,λj=>w33 j λi c p b d e=>Rb.mpr ⟨_,Op (yI b d),e⟩⟩;refine hid λr k=>?_;(refine(Rb.mp h).elim λl m=>m.elim λb d=>?_);(refine(Nx.mp b).elim λq n=>n.elim λe o=>?_;subst o);(refine(List.mem_iff_getElem?.mp e).elim λi g=>?_);refine k ?_;have f:=Ts.mp g;exact i33 i q.2 q.1 f.2 f.1 d
theorem nI{as:gH}{st:am}(p:NF×NF)(c:ao)(h:as.length=st.length):iU (as++[p]) (st++[c])=iU as st++foot c p:=by rw[iU,VF h,Pq,List.flatten_append];exact congrArg (iU as st++ ·) (OY _)
theorem CO{st:am}:∀{as:gH}{i:Nat}{c c':ao},st[i]? =Nk c->(∀p,foot c' p=foot c p)->iU as (st.set i c')=iU as st:=by induction st with|nil=>intro as i c c' h;exact nS h|cons d st b=>intro as i c c' h a;induction as using NA with|nil=>rfl|cons p as=>induction i using NY with|zero=>(refine sI h λe=>?_;subst e);exact congrArg (· ++iU as st) (a p)|succ i=>exact congrArg (foot d p++ ·) (b h a)
theorem Hs.fe{B as st h}(H:Hs W B as st h){i:Nat}{p:NF×NF}(e:as[i]? =Nk p):∃c,st[i]? =Nk c:=by exact⟨st[i]'(H.len▸((Nv.mp e).1)),NQ _⟩
theorem Hs.aR{B as st h}(f:Hs W B as st h){i:Nat}{c:ao}{p:NF×NF}(e:st[i]? =Nk c)(b:as[i]? =Nk p){a:NF}(d:a∈foot c p):a∈iU as st:=wg.mpr ⟨i,c,p,e,b,d⟩
theorem ph(c:ao)(p:NF×NF):p.1∈foot c p:=by induction c using ao.casesOn<;>exact .head _
theorem CellAt.keep{B as}{h i:NV}{p:NF×NF}{c:ao}(x:CellAt W B as h p c)(k:∀a∈foot c p,∀o,h.get? a=Nk o->i.get? a=Nk o):CellAt W B as i p c:=by
 induction c using ao.casesOn with
 |ae l=>induction x using cH.casesOn with|mk q n a b r=>exact .mk q n (k _ (.head _) _ a) b r
 |ap l=>induction x using cI.casesOn with|mk o g a b d r=>exact .mk o g (k _ (.head _) _ a) b d r
 |ak l=>induction x using cF.casesOn with|mk o g a b d r=>exact .mk o g (k _ (.head _) _ a) b d r
 |obj c s=>induction x using cG.casesOn with|mk o m g a b j d e f r=>exact .mk o m g (k _ (.head _) _ a) b j d (k _ (.tail _ (.head _)) _ e) f r
theorem CellAt.mono{B j:gU}{as i:gH}{h:NV}{p:NF×NF}{c:ao}(x:CellAt W B as h p c)(e:bS B as j i):CellAt W j i h p c:=by
 induction c using ao.casesOn with
 |ae l=>induction x using cH.casesOn with|mk s n a b r=>exact .mk s n a b (r.mono W e)
 |ap l=>induction x using cI.casesOn with|mk o g a b d r=>exact .mk o g a b d (r.mono W e)
 |ak l=>induction x using cF.casesOn with|mk o g a b d r=>exact .mk o g a b d (r.mono W e)
 |obj c t=>induction x using cG.casesOn with|mk o q g a b k d m f r=>exact .mk o q g a b k d m f (r.mono W e)
def KeepAll(h a:NV):Prop:=∀b o,h.get? b=Nk o->a.get? b=Nk o
theorem KeepAll.push(h:NV)(o:Obj):KeepAll h (h.push o):=λ_ _ e=>NS _ e
theorem KeepAll.trans{h c a:NV}(x:KeepAll h c)(y:KeepAll c a):KeepAll h a:=λb o e=>y b o (x b o e)
theorem Wd.be.aD{h a:NV}(S:W.be h)(k:KeepAll h a)(c:a.get? W.tb=h.get? W.tb):W.be a:=S.eM (λb o e _=>k b o e) (λb o e _=>k b o e) c
theorem im{h:NV}{a:NF}(e:h.objs.size<=a):h.get? a=Nq:=by cases q:h.get? a with|none=>rfl|some o=>exact absurd (Pr q) (Pa.mpr e)
theorem k6{a w}{o:Obj}{b:List (Key×No)}(x:o.IsDictOf (kk a w) b):o.cls=.type "dict":=x.elim λ_ x=>x.elim λ_ x=>x.1.1
theorem sT{a w}{o:Obj}{xs}(x:aU a w o xs):o.cls=.type "dict":=by induction x using aU.casesOn with|mk _ _ e=>exact e.1
inductive ck(v:No):Prop|l:v=.type "list"->ck v|d:v=.type "dict"->ck v|r (a):v=.ref a->ck v
theorem CellAt.objs{B as}{h:NV}{p:NF×NF}{c:ao}(x:CellAt W B as h p c):∀a∈foot c p,∃o,h.get? a=Nk o/\ck o.cls:=by
 intro a ha;induction c using ao.casesOn with
 |ae l=>induction x using cH.casesOn with|mk vs n q=>obtain rfl:=NC.mp ha;exact i12 _ q (.l rfl)
 |ap l=>induction x using cI.casesOn with|mk o n q _ e=>obtain rfl:=NC.mp ha;exact i12 _ q (.d (k6 e))
 |ak l=>induction x using cF.casesOn with|mk o n q _ e=>obtain rfl:=NC.mp ha;exact i12 _ q (.d (sT e))
 |obj c l=>
 induction x using cG.casesOn with|mk o od kvs q e _ _ q' e'=>
  rcases Nz.mp ha with rfl|ha
  exact i12 _ q (.r _ e);obtain rfl:=NC.mp ha;exact i12 _ q' (.d (k6 e'))
theorem CellAt.live{B as}{h:NV}{p:NF×NF}{c:ao}(x:CellAt W B as h p c):∀a∈foot c p,∃o,h.get? a=Nk o:=λa b=>(x.objs a b).imp λ_ q=>q.1
theorem Hs.cls{B as st h}(H:Hs W B as st h){b:NF}(hb:b∈iU as st){o:Obj}(f:h.get? b=Nk o):ck o.cls:=by(refine(wg.mp hb).elim λi l=>l.elim λc m=>m.elim λp n=>n.elim λa q=>q.elim λd e=>?_);(refine((H.cell i c p a d).objs b e).elim λs r=>r.elim λj k=>?_);(refine sI (j.symm.trans f) λg=>?_;subst g);exact k
theorem ck.ne{v:No}(x:ck v){n:String}(h:n≠"list"/\n≠"dict"):v≠.type n:=by induction x using ck.casesOn with|l e=>exact λq=>h.1 (by rw[e]at q;injection q with q;exact q.symm)|d e=>exact λq=>h.2 (by rw[e]at q;injection q with q;exact q.symm)|r a e=>exact λq=>(by rw[e]at q;exact vN q rfl)
theorem Hs.dB{B as st h}(H:Hs W B as st h):∀b∈iU as st,∀o,h.get? b=Nk o->o.cls≠.type "code":=λb a o c=>(H.cls a c).ne (by decide)
theorem Hs.bH{B as st}{h:NV}(H:Hs W B as st h):∃o,h.get? W.tb=Nk o:=W.cV h H.aK.2
theorem KeepAll.live{h a:NV}(k:KeepAll h a):∀b o,h.get? b=Nk o->∃c,a.get? b=Nk c:=λb o e=>⟨o,k b o e⟩
theorem ai.aD{X:List NF}{B as st}{s s':Np}(H:Hs W B as st s.heap)(rest:s'={s with heap:=s'.heap,toks:=s'.toks})(d:KeepAll s.heap s'.heap):ai W X B as st s B as st s':=by
 have f:s'.heap.get? W.tb=s.heap.get? W.tb:=by(refine H.bH.elim λo q=>?_);exact rG q (rG (d _ _ q) rfl)
 exact⟨rest,λb o e _=>d.live b o e,λb o e _ _ _=>d b o e,bS.refl _ _,λa o e=>.inl e,λa h=>.inl h,⟨H.aK.aD d f,λa o e=>⟨d _ _ (H.base a o e).1,(H.base a o e).2⟩,H.b0,H.len,λi c p g j=>(H.cell i c p g j).keep λa _ o e=>d a o e,λa h=>⟨(H.off a h).1,(H.off a h).2.1,let⟨o,e⟩:=(H.off a h).2.2;⟨o,d a o e⟩⟩,H.nodup⟩⟩
theorem ai.push{X:List NF}{B as st}{s:Np}(H:Hs W B as st s.heap)(o:Obj)(t:Nat):ai W X B as st s B as st {s with heap:=s.heap.push o,toks:=t}:=ai.aD H rfl (KeepAll.push _ _)
noncomputable def ti(B:gU)(a:NF)(o:Obj):gU:=λb=>if b=a then Nk o else B b
theorem js(B:gU)(a:NF)(o:Obj):ti B a o a=Nk o:=by simp[ti]
theorem jO{B:gU}{a:NF}{o:Obj}{as:gH}(h:B a=Nq):bS B as (ti B a o) as:=⟨λb c e=>by unfold ti;by_cases q:b=a;subst q;rw[h]at e;exact nS e;refine rG (if_neg q) ?_;exact e,λ_ _ e=>e⟩
theorem Hs.av{B as st}{h:NV}(H:Hs W B as st h){a:NF}(b:h.get? a=Nq):B a=Nq:=by cases e:B a with|none=>rfl|some o=>have:=(H.base a o e).1;rw[b]at this;exact nS this
theorem ai.frozen{X:List NF}{B as st}{s s':Np}(H:Hs W B as st s.heap)(rest:s'={s with heap:=s'.heap,toks:=s'.toks})(d:KeepAll s.heap s'.heap){a:NF}{o:Obj}(g:s.heap.get? a=Nq)(n:s'.heap.get? a=Nk o):ai W X B as st s (ti B a o) as st s':=by
 have j:s'.heap.get? W.tb=s.heap.get? W.tb:=by(refine H.bH.elim λo q=>?_);exact rG q (rG (d _ _ q) rfl)
 have x:bS B as (ti B a o) as:=jO (H.av g);have k:∀b f,ti B a o b=Nk f->(b=a/\f=o)\/B b=Nk f:=λb f e=>by unfold ti at e;split at e;exact .inl ⟨‹_›,(NE e).symm⟩;exact .inr e
 refine⟨rest,λb o e _=>d.live b o e,λb o e _ _ _=>d b o e,x,λb f e=>?_,λa h=>.inl h,⟨H.aK.aD d j,λb f e=>?_,λb f e=>x.base _ _ (H.b0 b f e),H.len,λi c p l m=>((H.cell i c p l m).keep λa _ o e=>d a o e).mono x,λb h=>⟨?_,(H.off b h).2.1,let⟨o,e⟩:=(H.off b h).2.2;⟨o,d b o e⟩⟩,H.nodup⟩⟩;rcases k b f e with⟨rfl,_⟩|z
 exact .inr (.inl g);exact .inl z;rcases k b f e with⟨rfl,rfl⟩|z
 exact⟨n,λq=>by(refine H.bH.elim λo e=>?_);rw[<-q,g]at e;exact nS e⟩;exact⟨d _ _ (H.base b f z).1,(H.base b f z).2⟩;have q:=H.off b h;unfold ti;refine rG (if_neg (λz=>by(refine q.2.2.elim λo e=>?_);rw[z,g]at e;exact nS e)) ?_;exact q.1
theorem ai.cell{X:List NF}{B as st}{s s':Np}(H:Hs W B as st s.heap)(rest:s'={s with heap:=s'.heap,toks:=s'.toks})(d:KeepAll s.heap s'.heap){p:NF×NF}{c:ao}(hp:∀a∈foot c p,s.heap.get? a=Nq/\W.n1<=a)(t:(foot c p).Nodup)(hc:CellAt W B (as++[p]) s'.heap p c):ai W X B as st s B (as++[p]) (st++[c]) s':=by
 have m:s'.heap.get? W.tb=s.heap.get? W.tb:=by(refine H.bH.elim λo q=>?_);exact rG q (rG (d _ _ q) rfl)
 have x:bS B as B (as++[p]):=⟨λ_ _ e=>e,λi q e=>by refine rG (NK (Nv.mp e).1) ?_;exact e⟩;have j:=nI (as:=as) (st:=st) p c H.len;refine⟨rest,λb o e _=>d.live b o e,λb o e _ _ _=>d b o e,x,λb l e=>.inl e,λa h=>?_,⟨H.aK.aD d m,λb l e=>⟨d _ _ (H.base b l e).1,(H.base b l e).2⟩,H.b0,by simp[H.len],λi r q f g=>?_,λb h=>?_,?_⟩⟩;rw[j]at h;exact(NW.mp h).imp id λz=>.inl (hp a z).1;by_cases n:i<st.length;rw[NK n]at f;rw[NK (by refine rG H.len ?_;exact n)]at g;exact((H.cell i r q f g).keep λa _ o e=>d a o e).mono x;have k:i=st.length:=by have:=(Nv.mp f).1;simp at this;lia
 subst k;simp at f;rw[<-H.len]at g;simp at g;subst f;subst g;exact hc;rw[j]at h;rcases NW.mp h with z|z
 exact i03 ((H.off b z).1) ((H.off b z).2.1) (let⟨o,e⟩:=(H.off b z).2.2;⟨o,d b o e⟩);exact i03 (H.av (hp b z).1) ((hp b z).2) (hc.live b z);refine rG j ?_;exact Oj.mpr ⟨H.nodup,t,λa f b g e=>by subst e;(refine((H.off a f).2.2).elim λo e=>?_);rw[(hp a g).1]at e;exact nS e⟩
theorem yH{as:gH}{st:am}{i j:Nat}{c d:ao}{p q:NF×NF}(l:(iU as st).Nodup)(b:i≠j)(e:st[i]? =Nk c)(f:as[i]? =Nk p)(g:st[j]? =Nk d)(h:as[j]? =Nk q){a:NF}(k:a∈foot c p)(hb:a∈foot d q):False:=AI l b (yI e f) (yI g h) k hb
theorem ai.turn{X:List NF}{B as st}{s s':Np}(H:Hs W B as st s.heap)(rest:s'={s with heap:=s'.heap,toks:=s'.toks}){i:Nat}{c c':ao}{p:NF×NF}(u:st[i]? =Nk c)(hp:as[i]? =Nk p)(hf:∀p,foot c' p=foot c p)(f:∀b o,s.heap.get? b=Nk o->b∉foot c p->s'.heap.get? b=Nk o)(hc:CellAt W B as s'.heap p c'):ai W X B as st s B as (st.set i c') s':=by
 have k:∀a∈foot c p,a∈iU as st:=λa w=>H.aR u hp w;have v:iU as (st.set i c')=iU as st:=CO u hf;have g:∀b,b<W.n1->b∉foot c p:=λb x q=>absurd x (Pa.mpr (H.off b (k b q)).2.1);have C:s'.heap.get? W.tb=s.heap.get? W.tb:=by(refine H.bH.elim λo q=>?_);exact rG q (rG (f _ _ q (g _ W.cX)) rfl)
 have l:∀b o,s.heap.get? b=Nk o->∃r,s'.heap.get? b=Nk r:=λb o e=>by by_cases q:b∈foot c p;exact hc.live b (by refine rG (hf _) ?_;exact q);exact⟨o,f b o e q⟩
 refine⟨rest,λb o e _=>l b o e,λb o e _ h _=>f b o e λq=>h (k b q),bS.refl _ _,λb r e=>.inl e,λa h=>.inl (v▸h),⟨H.aK.eM (λb o e x=>f b o e (g b x)) (λb o e m=>f b o e λq=>H.dB b (k b q) o e m.1) C,λb r e=>⟨f _ _ (H.base b r e).1 λq=>(by rw[(H.off b (k b q)).1]at e;exact nS e),(H.base b r e).2⟩,H.b0,by simp[H.len],λj d q n t=>?_,λb h=>?_,by refine rG v ?_;exact H.nodup⟩⟩;by_cases y:j=i;subst y;rw[hp]at t;(refine sI t λA=>?_;subst A);rw[NJ (Nv.mp u).1]at n;(refine sI n λA=>?_;subst A);exact hc;rw[NM (O9 y)]at n;refine(H.cell j d q n t).keep λa w o e=>f a o e λz=>?_;exact yH H.nodup (O9 y) u hp n t z w;rw[v]at h;exact i03 ((H.off b h).1) ((H.off b h).2.1) (let⟨o,e⟩:=(H.off b h).2.2;l b o e)
theorem kg{W:Wd}{a:NF}(h:W.n1<=a):(a==Q7)=Nl:=by simp only[beq_eq_false_iff_ne,ne_eq];intro e;subst e;exact absurd (W.dJ) (Pa.mpr h)
def wW(W:Wd)(B:gU)(as:gH)(h:NV):D->No->Prop|.none,v=>v=.none|.bool b,v=>v=.bool b|.int i,v=>aG i v|.str n,v=>cK n v|.tup l,v=>aA uT h.get? l.length (RvL W B as l) v|.ae l,v=>aA jd h.get? l.length (RvL W B as l) v|.ap l,v=>bT W h.get? l.length (RvK W B as l) v|.ak l,v=>cb W h.get? l.length (RvT W B as l) v|.obj c a,v=>de W h.get? c (RvF W B as a) v|.ag _,_=>False
theorem u1{B as st h}(H:Hs W B as st h){d w:D}{v:No}(r:Rv W B as d v)(p:jB st d=Nk w):wW W B as h w v:=by
 induction d using D.casesOn with
 |ag i=>
  induction r using bR.casesOn with|mk y=>
   refine pH (G:=λw=>wW W B as h w _) p λc x=>?_;have C:=H.cell i c _ x y;have u:=(H.off _ (H.aR x y (ph c _))).2.1;induction c using ao.casesOn with
   |ae l=>induction C using cH.casesOn with|mk I n a b r=>exact .mk a b r
   |ap l=>induction C using cI.casesOn with|mk o t a b r q=>exact .mk a ⟨u,b⟩ r q
   |ak l=>induction C using cF.casesOn with|mk o t a b r q=>exact .mk a ⟨u,b⟩ r q
   |obj c E=>induction C using cG.casesOn with|mk o F t a b z d e f g=>exact .mk a b z d e f g
 |tup=>(refine sI p λj=>?_;subst j);induction r using aA.casesOn with|mk a b c=>exact .mk (H.base _ _ a).1 b c
 |ae=>(refine sI p λj=>?_;subst j);induction r using aA.casesOn with|mk a b c=>exact .mk (H.base _ _ a).1 b c
 |ap=>(refine sI p λj=>?_;subst j);induction r using bT.casesOn with|mk a b c d=>exact .mk (H.base _ _ a).1 b c d
 |ak=>(refine sI p λj=>?_;subst j);induction r using cb.casesOn with|mk a b c d=>exact .mk (H.base _ _ a).1 b c d
 |obj=>(refine sI p λj=>?_;subst j);induction r using de.casesOn with|mk a b c d e f g=>exact .mk (H.base _ _ a).1 b c d (H.base _ _ e).1 f g
 |none=>(refine sI p λj=>?_;subst j);exact r|bool=>(refine sI p λj=>?_;subst j);exact r|int=>(refine sI p λj=>?_;subst j);exact r|str=>(refine sI p λj=>?_;subst j);exact r
section
variable{B:gU}{as:gH}
theorem RvL.length{l:List D}:∀{vs:List No},RvL W B as l vs->l.length=vs.length:=by induction l with|nil=>intro vs r;subst r;rfl|cons d l c=>intro vs r;induction r using aT.casesOn with|mk a b=>exact congrArg Pd (c b)
theorem RvL.get{l:List D}:∀{vs:List No},RvL W B as l vs->∀{i:Nat}{d:D},l[i]? =Nk d->∃v,vs[i]? =Nk v/\Rv W B as d v:=by induction l with|nil=>intro vs r i d e;exact nS e|cons d l c=>intro vs r i d e;induction r using aT.casesOn with|mk a b=>induction i using NY with|zero=>(refine sI e λf=>?_;subst f);exact⟨_,rfl,a⟩|succ i=>exact c b e
theorem RvL.append{l l':List D}{c:List No}(y:RvL W B as l' c):∀{vs:List No},RvL W B as l vs->RvL W B as (l++l') (vs++c):=by induction l with|nil=>intro vs r;subst r;exact y|cons d l e=>intro vs r;induction r using aT.casesOn with|mk a b=>exact .cons a (e b)
theorem RvL.take{l:List D}:∀{vs:List No},RvL W B as l vs->∀n,RvL W B as (l.take n) (vs.take n):=by induction l with|nil=>intro vs r n;subst r;refine rG R3 (rG R3 ?_);exact .nil|cons d l c=>intro vs r n;induction r using aT.casesOn with|mk a b=>induction n using NY with|zero=>exact .nil|succ n=>exact .cons a (c b n)
theorem RvL.drop{l:List D}:∀{vs:List No},RvL W B as l vs->∀n,RvL W B as (l.drop n) (vs.drop n):=by induction l with|nil=>intro vs r n;subst r;refine rG TH (rG TH ?_);exact .nil|cons d l c=>intro vs r n;induction r using aT.casesOn with|mk a b=>induction n using NY with|zero=>exact .cons a b|succ n=>exact c b n
theorem RvL.reverse{l:List D}:∀{vs:List No},RvL W B as l vs->RvL W B as l.reverse vs.reverse:=by induction l with|nil=>intro vs r;subst r;exact .nil|cons d l c=>intro vs r;induction r using aT.casesOn with|mk a b=>refine rG OU (rG OU ?_);exact RvL.append (.cons a .nil) (c b)
theorem RvL.set{l:List D}:∀{vs:List No},RvL W B as l vs->∀(i:Nat){d v},Rv W B as d v->RvL W B as (l.set i d) (vs.set i v):=by induction l with|nil=>intro vs r i d v _;subst r;exact .nil|cons d l c=>intro vs r i d v q;induction r using aT.casesOn with|mk a b=>induction i using NY with|zero=>exact .cons q b|succ i=>exact .cons a (c b i q)
theorem RvL.erase{l:List D}:∀{vs:List No},RvL W B as l vs->∀(i:Nat),RvL W B as (l.eraseIdx i) (vs.eraseIdx i):=by induction l with|nil=>intro vs r i;subst r;exact .nil|cons d l c=>intro vs r i;induction r using aT.casesOn with|mk a b=>induction i using NY with|zero=>exact b|succ i=>exact .cons a (c b i)
theorem io{l:List D}{vs:Array No}(r:RvL W B as l vs.toList):vs.size=l.length:=by refine rG r.length ?_;rfl
end
section
variable{T:Tab}{O:aN}{n:Nat}{k:gS}{A:Ob}{env:Env}{m:Loc}{B:gU}{as:gH}{st:am}{s:Np}{Er:No->Np->Prop}
theorem SoundE.use{e:E}{x:Expr}(S:SoundE W T O n k e x)(R:aF A n)(F:Frame W env m B as st s.heap)(g:∀y,env.kindOf y=k y)(H:Hs W B as st s.heap){d:D}{st':am}(f:ev T O e m st=Nk (d,st')){Q:No->Np->Prop}(q:∀b a v s',ai W [] B as st s b a st' s'->Frame W env m b a st' s'.heap->Hs W b a st' s'.heap->Rv W b a d v->Q v s'):NL (NT W.prog W.w) A (Oi x env) Q Er s:=NR (S A env m B as st s (d,st') Er R F g H f) (λv s'⟨b,a,c,r⟩=>q b a v s' c (F.step c λ_ _ h=>iM h) c.hs r) λ_ _ e=>e
theorem SoundT.use{e:E}{x:Expr}(S:SoundT W T O n k e x)(R:aF A n)(F:Frame W env m B as st s.heap)(j:∀y,env.kindOf y=k y)(H:Hs W B as st s.heap){b:Bool}{st':am}(i:ev T O e m st=Nk (.bool b,st')){Q:Bool->Np->Prop}(q:∀c a s',ai W [] B as st s c a st' s'->Frame W env m c a st' s'.heap->Hs W c a st' s'.heap->Q b s'):NL (NT W.prog W.w) A (isTrue x env (Oi x env)) Q Er s:=NR (S A env m B as st s b st' Er R F j H i) (λv s'⟨g,⟨c,a,f⟩⟩=>g▸q c a s' f (F.step f λ_ _ h=>iM h) f.hs) λ_ _ e=>e
theorem gT(h:NV):h.get? h.objs.size=Nq:=im (N4 _)
theorem u9{e b aa}{c az:Np}(S:ai W [] B as st s e b aa c)(rest:az={c with heap:=az.heap,toks:=az.toks})(f:KeepAll c.heap az.heap){a:NF}{o:Obj}(g:c.heap.get? a=Nq)(h:az.heap.get? a=Nk o){d:D}(r:Rv W (ti e a o) b d (.ref a)):aQ W B as st s d aa (.ref a) az:=⟨_,b,S.trans (ai.frozen S.hs rest f g h),r⟩
theorem mH{c b aa}{a:Np}(S:ai W [] B as st s c b aa a)(o:Obj)(e:o.isFreed=Nl:=by rfl){d:D}(r:Rv W (ti c a.heap.objs.size o) b d (.ref a.heap.objs.size)){t:Nat}:aQ W B as st s d aa (.ref a.heap.objs.size) {a with heap:=a.heap.push o,toks:=t}:=u9 S rfl (KeepAll.push _ _) (gT _) (NP _ e) r
theorem lV{b a aa}{h:NV}(H:Hs W b a aa h)(p:NF×NF):(a++[p])[aa.length]? =Nk p:=by refine rL H.len (rG (Ti (N4 _)) ?_);simp
theorem nR{B:gU}{as:gH}(p:NF×NF):bS B as B (as++[p]):=⟨λ_ _ e=>e,λi q e=>by refine rG (NK (Nv.mp e).1) ?_;exact e⟩
theorem rj{g f aa}{e az:Np}(S:ai W [] B as st s g f aa e)(rest:az={e with heap:=az.heap,toks:=az.toks})(h:KeepAll e.heap az.heap){a:NF}{vs:Array No}{n:Nat}(i:e.heap.get? a=Nq)(q:W.n1<=a)(t:az.heap.get? a=Nk (jd vs n)){l:List D}(o:l.length<=cap)(r:RvL W g f l vs.toList):aQ W B as st s (.ag aa.length) (aa++[.ae l]) (.ref a) az:=by exact⟨_,_,S.trans (ai.cell (X:=[]) (s':=az) (p:=(a,a)) (c:=.ae l) S.hs rest h (λb j=>by obtain rfl:=NC.mp j;exact⟨i,q⟩) (by show[a].Nodup;simp) ⟨vs,n,t,o,r.mono W (nR _)⟩),.ag (lV S.hs (a,a))⟩
theorem BO{c b aa}{a:Np}(S:ai W [] B as st s c b aa a){l:List D}{vs:Array No}(e:l.length<=cap)(r:RvL W c b l vs.toList){t:Nat}:aQ W B as st s (.ag aa.length) (aa++[.ae l]) (.ref a.heap.objs.size) {a with heap:=a.heap.push (jd vs 0),toks:=t}:=rj S rfl (KeepAll.push _ _) (gT _) S.hs.low (NP _ rfl) e r
theorem rE{e c aa}{b az:Np}(S:ai W [] B as st s e c aa b)(rest:az={b with heap:=az.heap,toks:=az.toks})(f:KeepAll b.heap az.heap){a:NF}{vs:Array No}{n:Nat}(g:b.heap.get? a=Nq)(j:W.n1<=a)(i:az.heap.get? a=Nk (jd vs n))(ag:Bool){l:List D}(h:l.length<=cap)(r:RvL W e c l vs.toList):aQ W B as st s (mk ag l aa).1 (mk ag l aa).2 (.ref a) az:=by induction ag using Nw with|true=>exact rj S rest f g j i h r|false=>exact u9 S rest f g i (.ae (js _ _ _) h (r.mono W (jO (S.hs.av g))))
theorem G4{c b aa}{a:Np}(S:ai W [] B as st s c b aa a)(ag:Bool){l:List D}{vs:Array No}(e:l.length<=cap)(r:RvL W c b l vs.toList){t:Nat}:aQ W B as st s (mk ag l aa).1 (mk ag l aa).2 (.ref a.heap.objs.size) {a with heap:=a.heap.push (jd vs 0),toks:=t}:=by induction ag using Nw with|true=>exact BO S e r|false=>exact mH S _ (r:=.ae (js _ _ _) e (r.mono W (jO (S.hs.av (gT _)))))
theorem zk{c b aa}{a:Np}(S:ai W [] B as st s c b aa a){l:List D}{vs:Array No}(e:l.length<=cap)(r:RvL W c b l vs.toList){t:Nat}:aQ W B as st s (.tup l) aa (.ref a.heap.objs.size) {a with heap:=a.heap.push (uT vs 0),toks:=t}:=mH S _ (r:=.tup (js _ _ _) e (r.mono W (jO (S.hs.av (gT _)))))
theorem ym{B:gU}{as:gH}{b:Bool}{v:No}(r:Rv W B as (.bool b) v):v=.bool b:=r
theorem J0{B:gU}{as:gH}{i:Nat}{v:No}(r:Rv W B as (.ag i) v):∃p,as[i]? =Nk p/\v=.ref p.1:=by induction r using bR.casesOn with|mk e=>exact⟨_,e,rfl⟩
theorem nM{i:Int}(h:ry i=Nm): -(2^62)<i/\i<2^62:=db h λa b=>⟨of_decide_eq_true a,of_decide_eq_true b⟩
section
variable{β:Type}{r:β}{G:D->Prop}{d:D}
theorem zT{f:Int->Option β}(h:dI d f=Nk r)(k:∀i,f i=Nk r->G (.int i)):G d:=by induction d using D.casesOn<;>first|exact k _ h|exact nS h
theorem C5{f:List D->Option β}(h:dLs d f=Nk r)(k:∀i,f i=Nk r->G (.ae i)):G d:=by induction d using D.casesOn<;>first|exact k _ h|exact nS h
theorem IU{f:List D->Option β}(h:dTp d f=Nk r)(k:∀i,f i=Nk r->G (.tup i)):G d:=by induction d using D.casesOn<;>first|exact k _ h|exact nS h
theorem I7{G:Prop}{o:Option cJ}{f:List Int->Option β}(h:bkt o f=Nk r)(k:∀l,o=Nk (.t l)->f l=Nk r->G):G:=by induction o using N3 with|none=>exact nS h|some d=>induction d using cJ.casesOn<;>first|exact k _ rfl h|exact nS h
end
theorem Fj:cap<=PT:=by decide
theorem ld{n:Nat}(h:n<=cap):n<=PT:=NN h Fj
theorem tD{q:Operator}{a b:Int}{v w:No}{d:D}{g e f}{i:Np}(S:ai W [] g e f i B as st s)(j:wW W B as s.heap (.int a) v)(l:wW W B as s.heap (.int b) w)(hd:∃c,d=.int c/\∀o p,(∀t,aQ W g e f i (.int c) st (.int c t) {s with toks:=s.toks+1})->NL (NT W.prog W.w) A (binaryOp q (.int a o) (.int b p)) (aQ W g e f i (.int c) st) Er s):NL (NT W.prog W.w) A (binaryOp q v w) (aQ W g e f i d st) Er s:=by induction j using aG.casesOn;induction l using aG.casesOn;(refine hd.elim λc u=>u.elim λx h=>?_;try clear hd;subst x);exact h _ _ λt=>⟨B,as,S.trans (ai.tok S.hs _),.int _ _⟩
theorem Di{o:eX}{y u v}{z:Np}(S:ai W [] y u v z B as st s){d₁ c d:D}{q j:No}(f:wW W B as s.heap d₁ q)(g:wW W B as s.heap c j)(i:F6 o d₁ c=Nk d):NL (NT W.prog W.w) A (binaryOp (LX o) q j) (aQ W y u v z d st) Er s:=by
 revert f g;induction o using eX.casesOn with
 |add=>
  induction d₁ using D.casesOn with
  |int a=>exact zT (G:=λc=>_->wW W B as s.heap c j->_) i λb i f g=>tD S f g ⟨_,(NE i).symm,λ_ _ p=>P.add_int (p _)⟩|ae a=>refine C5 (G:=λc=>_->wW W B as s.heap c j->_) i λb i f g=>mQ i λt i=>?_;(refine sI i λJ=>?_;subst J);induction f using aA.casesOn with|mk I M E=>induction g using aA.casesOn with|mk H L C=>refine P.add_list I H ?_ (by refine rG (io E) (rG (io C) ?_);exact ld t);have x:∀o,bS B as (ti B s.heap.objs.size o) as:=λo=>jO (S.hs.av (gT s.heap));exact mH S _ (r:=.ae (js _ _ _) (by refine rG NG ?_;exact t) (by refine rG Px ?_;exact RvL.append (C.mono W (x _)) (E.mono W (x _))))
  |tup a=>
   refine IU (G:=λc=>_->wW W B as s.heap c j->_) i λb i f g=>mQ i λt i=>?_;(refine sI i λJ=>?_;subst J);have K:∀{l:List D}{vs:Array No},RvL W B as l vs.toList->l≠[]->¬vs.isEmpty=Nm:=λr h e=>by rw[Array.isEmpty_iff.mp e]at r;exact h (TR.mp r.length)
   induction f using aA.casesOn with|mk I M E=>induction g using aA.casesOn with|mk H L C=>refine P.add_tuple I H (K E t.1) (K C t.2.1) ?_ (by refine rG (io E) (rG (io C) ?_);exact ld t.2.2);have x:∀o,bS B as (ti B s.heap.objs.size o) as:=λo=>jO (S.hs.av (gT s.heap));exact mH S _ (r:=.tup (js _ _ _) (by refine rG NG ?_;exact t.2.2) (by refine rG Px ?_;exact RvL.append (C.mono W (x _)) (E.mono W (x _))))
  |_=>exact nS i
 |sub=>exact zT (G:=λd₁=>wW W B as s.heap d₁ q->_) i λa i=>zT (G:=λc=>_->wW W B as s.heap c j->_) i λb i f g=>tD S f g ⟨_,(NE i).symm,λ_ _ p=>P.sub_int (p _)⟩|mul=>exact zT (G:=λd₁=>wW W B as s.heap d₁ q->_) i λa i=>zT (G:=λc=>_->wW W B as s.heap c j->_) i λb i f g=>mQ i λF i=>tD S f g ⟨_,(NE i).symm,λ_ _ p=>P.mul_int (p _) (IntMulOk.of_left (intBits_le_64 (by have:=nM F.1;omega) (by have:=nM F.1;omega)))⟩|fdiv=>exact zT (G:=λd₁=>wW W B as s.heap d₁ q->_) i λa i=>zT (G:=λc=>_->wW W B as s.heap c j->_) i λb i f g=>mQ i λF i=>tD S f g ⟨_,(NE i).symm,λ_ _ p=>floordiv_int (by omega) (p _) (.inl (PyProof.noPylong_small (by omega)))⟩|mod=>exact zT (G:=λd₁=>wW W B as s.heap d₁ q->_) i λa i=>zT (G:=λc=>_->wW W B as s.heap c j->_) i λb i f g=>mQ i λF i=>tD S f g ⟨_,(NE i).symm,λ_ _ p=>mod_int' (by omega) (p _)⟩
theorem GK{o:eX}{a b:E}{l r:Expr}{pos:Pos}(U:SoundE W T O n k a l)(hb:SoundE W T O n k b r):SoundE W T O n k (.bin o a b) (.BinOp l (LX o) r pos):=by intro A env m B as st s q Er R F K H c;refine jm c λx v Q c=>jm c λy w S c=>ml c λZ V c=>ml c λy' X c=>pH (G:=ng W A env _ B as st s Er) c λz Y=>?_;refine wpAny_BinOp (U.use R F K H Q λC t N L i g h j=>hb.use R g K h S λI u P M f J e p=>?_);exact Di (i.trans f) (u1 e (j.mono W f.ext) V) (u1 e p X) Y
end
noncomputable def pD(B:gU)(as:gH)(st:am)(h:NV):gU:=λa=>if a∈iU as st then h.get? a else B a
theorem ly{B as st h}(H:Hs W B as st h){a:NF}{o:Obj}(e:B a=Nk o):pD B as st h a=Nk o:=by unfold pD;refine rG (if_neg (λq=>by rw[(H.off a q).1]at e;exact nS e)) ?_;exact e
theorem rP{B as st h}(H:Hs W B as st h):Hs W (pD B as st h) [] [] h:=by refine⟨H.aK,λa o e=>?_,λa o e=>ly H (H.b0 a o e),rfl,λi c p b _=>by simp at b,λa q=>by simp[iU]at q,by simp[iU]⟩;unfold pD at e;split at e;rename_i q;exact⟨e,λz=>absurd W.cX (by refine rL z ?_;exact Pa.mpr (H.off a q).2.1)⟩;exact H.base a o e
theorem De{B as st h}(H:Hs W B as st h):bS B as (pD B as st h) as:=⟨λ_ _=>ly H,λ_ _ e=>e⟩
theorem I4{B as st h}(H:Hs W B as st h){i:Nat}{c:ao}{p:NF×NF}(q:st[i]? =Nk c)(u:as[i]? =Nk p):Rv W (pD B as st h) as c.toD (.ref p.1):=by
 have e:∀a∈foot c p,∀o,h.get? a=Nk o->pD B as st h a=Nk o:=λa w o y=>(if_pos (H.aR q u w)).trans y;have j:=(H.off p.1 (H.aR q u (ph c p))).2.1;have C:=H.cell i c p q u;have x:=De H;induction c using ao.casesOn with
 |ae l=>induction C using cH.casesOn with|mk E n a b r=>exact .ae (e _ (.head _) _ a) b (r.mono W x)
 |ap l=>induction C using cI.casesOn with|mk o f a b r t=>exact .ap (e _ (.head _) _ a) ⟨j,b⟩ r (t.mono W x)
 |ak l=>induction C using cF.casesOn with|mk o f a b r t=>exact .ak (e _ (.head _) _ a) ⟨j,b⟩ r (t.mono W x)
 |obj c z=>induction C using cG.casesOn with|mk o D f a b v d g r t=>exact .obj (e _ (.head _) _ a) b v d (e _ (.tail _ (.head _)) _ g) r (t.mono W x)
theorem yl{B as st h}(H:Hs W B as st h):∀(n i:Nat)(a:D)(p:NF×NF),jD st n i=Nk a->as[i]? =Nk p->Rv W (pD B as st h) [] a (.ref p.1):=λn=>by induction n with|zero=>intro i a p e;exact nS e|succ n f=>intro i a p e d;exact ml e λc b e=>FM (λ_ _ e=>e) (jD st n) f c.toD (I4 H b d) e
theorem Rv.bare{B c:gU}{as b:gH}(f:∀a o,B a=Nk o->c a=Nk o){d:D}{v:No}(r:Rv W B as d v)(h:d.plain=Nm):Rv W c b d v:=FM f (λ_=>Nq) (λ_ _ _ e=>nS e) d r (lw d (.inl h))
theorem RvL.bare{B c:gU}{as b:gH}(f:∀a o,B a=Nk o->c a=Nk o){d:List D}{v:List No}(r:RvL W B as d v)(h:D.ax d=Nm):RvL W c b d v:=(mapL f (λ_=>Nq) (λ_ _ _ e=>nS e) d r (snapL_self d (.inl h))).1
theorem nY{B as st h}(H:Hs W B as st h){d c:D}{v:No}(r:Rv W B as d v)(e:tQ st d=Nk c):Rv W (pD B as st h) [] c v:=by have f:∀a o,B a=Nk o->pD B as st h a=Nk o:=λa o=>ly H;unfold tQ at e;by_cases b:d.plain=Nm;rw[if_pos b]at e;(refine sI e λg=>?_;subst g);exact r.bare f b;rw[if_neg b]at e;exact FM f (jD st 6) (yl H 6) d r e
theorem B8(n:Nat):Tw (bv n)=Nm:=by unfold bv;cases h:names[n]? with|some l=>exact ND.mp (by decide+kernel:names.all (λl=>Tw ⟨l.toArray⟩)=Nm) l (Op h)|none=>simp only;unfold Tw;rw[Array.all_eq_true];intro i a;simp
mutual
theorem nZ:∀(d:D)(n:Nat),tR n d=Nm->(vS d).canLay0=Nm/\(vS d).depth<=n
 |.none=>λ_ _=>⟨rfl,NX _⟩|.bool _=>λ_ _=>⟨rfl,NX _⟩|.int _=>λ_ _=>⟨rfl,NX _⟩|.str n=>λ_ _=>⟨B8 n,NX _⟩|.tup l=>λn h=>by induction n using NY with|zero=>exact fT h|succ n=>exact⟨(shalL_lay l n h).1,Pk (shalL_lay l n h).2⟩
 |.ae l=>λn h=>by induction n using NY with|zero=>exact fT h|succ n=>exact⟨(shalL_lay l n h).1,Pk (shalL_lay l n h).2⟩
 |.ap _=>λn h=>by induction n using NY<;>exact fT h
 |.ak _=>λn h=>by induction n using NY<;>exact fT h
 |.obj _ _=>λn h=>by induction n using NY<;>exact fT h
 |.ag _=>λn h=>by induction n using NY<;>exact fT h
termination_by structural x=>x
theorem shalL_lay:∀(d:List D)(n:Nat),shalL n d=Nm->OF.canLayAll0 (toPyL d)=Nm/\OF.depthAll (toPyL d)<=n|[]=>λ_ _=>⟨rfl,NX _⟩|d::r=>λn h=>db h λa b=>⟨NH.mpr ⟨(nZ d n a).1,(shalL_lay r n b).1⟩,Nat.max_le.mpr ⟨(nZ d n a).2,(shalL_lay r n b).2⟩⟩
termination_by structural x=>x
end
section
variable{B:gU}{as:gH}{st:am}{h:NV}(H:Hs W B as st h)
include H
mutual
theorem pe:∀(d:D)(n:Nat){v:No},Rv W B as d v->tR n d=Nm->∃l,V8 h v (vS d) l
 |.none=>λ_ _ r _=>r▸⟨_,.none⟩|.bool b=>λ_ _ r _=>r▸⟨_,.bool b⟩|.int i=>λ_ _ r _=>by induction r using aG.casesOn with|mk t=>exact⟨_,.int i t⟩
 |.str i=>λ_ _ r _=>by induction r using cK.casesOn with|mk t=>exact⟨_,.str _ t⟩
 |.tup l=>λn _ r e=>by induction n using NY with|zero=>exact fT e|succ n=>induction r using aA.casesOn with|mk a b c=>exact(readsL_of l n c e).elim λ_ q=>⟨_,.tuple (H.base _ _ a).1 rfl rfl q⟩
 |.ae l=>λn _ r e=>by induction n using NY with|zero=>exact fT e|succ n=>induction r using aA.casesOn with|mk a b c=>exact(readsL_of l n c e).elim λ_ q=>⟨_,.list (H.base _ _ a).1 rfl rfl q⟩
 |.ap _=>λn _ _ h=>by induction n using NY<;>exact fT h
 |.ak _=>λn _ _ h=>by induction n using NY<;>exact fT h
 |.obj _ _=>λn _ _ h=>by induction n using NY<;>exact fT h
 |.ag _=>λn _ _ h=>by induction n using NY<;>exact fT h
termination_by structural x=>x
theorem readsL_of:∀(d:List D)(n:Nat){v:List No},RvL W B as d v->shalL n d=Nm->∃l,ReadsAll h v (toPyL d) l|[]=>λ_ _ r _=>r▸⟨_,.nil⟩|d::r=>λn _ x e=>by induction x using aT.casesOn with|mk a b=>exact db e λc f=>(pe d n a c).elim λ_ p=>(readsL_of r n b f).elim λ_ q=>⟨_,.cons p q⟩
termination_by structural x=>x
end
end
section
variable{T:Tab}{O:aN}{n:Nat}{k:gS}{A:Ob}{env:Env}{m:Loc}{B:gU}{as:gH}{st:am}{s:Np}{Er:No->Np->Prop}
open MeetsSeq in
theorem pA(a:NF)(o:Obj)(hx:o.cls=.type "dict"):Meets (Oq.«dict.__eq__» ⟨[.ref a,.none],[]⟩) (λ_ R s=>s.heap.get? a=Nk o/\R (.ok (.ret .notImplemented)) s):=.of_wp λb w A R s h=>by obtain⟨f,g,d,j,i⟩:=s;obtain⟨c,h⟩:=h;have e:=F.sub_NoneType_dict;wp_walk using AutoSeq1.wpAny_loadPart' c;exact⟨_,rfl,h⟩
open SeqAt in
theorem wE{a:NF}{o:Obj}(d:s.heap.get? a=Nk o)(hx:o.cls=.type "dict")(e:A.units<Sj){c w}{Q:No->Np->Prop}(h:Q (.bool Nl) s):NL (NT c w) A (Qx .Eq .none (.ref a)) Q Er s:=Wl (k:=Nl) rfl ⟨_,d,hx⟩ (by decide) F.sub_dict_NoneType F.slot_NoneType_eq F.slot_dict_eq_refl (λ_ b=>call_gives F.slot_NoneType_eq rfl F.entry_NoneType_eq (F.args_NoneType_eq_2 _ _) (Ub a) b) (λ_ b=>call_meets F.slot_dict_eq_refl ⟨_,d,hx⟩ F.entry_dict_eq (F.args_dict_eq_2 _ _) (pA a o hx) ⟨d,b⟩) (λ_ b=>Sd (rfl:isSame .none (.ref a)=OW Nl) b) (.inr e) h
open SeqAt in
theorem wG{a:NF}{o:Obj}(d:s.heap.get? a=Nk o)(hx:o.cls=.type "dict")(e:A.units<Sj){c w}{Q:No->Np->Prop}(h:Q (.bool Nl) s):NL (NT c w) A (Qx .Eq (.ref a) .none) Q Er s:=Wl (k:=Nl) ⟨_,d,hx⟩ rfl (by decide) F.sub_NoneType_dict F.slot_dict_eq F.slot_NoneType_eq_refl (λ_ b=>call_meets F.slot_dict_eq ⟨_,d,hx⟩ F.entry_dict_eq (F.args_dict_eq_2 _ _) (pA a o hx) ⟨d,b⟩) (λ_ b=>call_gives F.slot_NoneType_eq_refl rfl F.entry_NoneType_eq (F.args_NoneType_eq_2 _ _) (Ub a) b) (λ_ b=>Sd (rfl:isSame (.ref a) .none=OW Nl) b) (.inr e) h
theorem v2{x y:D}{c b:Bool}{G:Bool->Prop}(H:Hs W B as st s.heap){v w:No}(i:Rv W B as x v)(j:Rv W B as y w)(e:A.units+64<Sj)(d:shs x y c=Nk b)(k:∀{l l'},V8 s.heap v (vS x) l->V8 s.heap w (vS y) l'->(vS x).canLay0=Nm->(vS y).canLay0=Nm->A.units+min (vS x).depth (vS y).depth<Sj->G c):G b:=mQ d λa d=>by(refine sI d λg=>?_;subst g);(refine(pe H x 64 i a.1).elim λl q=>?_);(refine(pe H y 64 j a.2).elim λl' f=>?_);have p:=nZ x 64 a.1;exact k q f p.1 (nZ y 64 a.2).1 (N6 (Oe (NN (S7 _ _) p.2) _) e)
theorem zX{f:Int->Int->Bool}{x y:D}{b:Bool}{v w:No}{G:No->No->Bool->Prop}(a:KV f x y=Nk b)(c:Rv W B as x v)(d:Rv W B as y w)(k:∀i j t g,G (.int i t) (.int j g) (f i j)):G v w b:=by revert c d;exact zT (G:=λx=>Rv W B as x v->Rv W B as y w->G v w b) a λi a=>zT (G:=λy=>_->Rv W B as y w->G v w b) a λj a c d=>by induction c using aG.casesOn;induction d using aG.casesOn;(refine sI a λe=>?_;subst e);exact k _ _ _ _
theorem jt{o:dG}(J:A.units+64<Sj)(H:Hs W B as st s.heap){d₁ u:D}{y z:No}{b:Bool}(f:Rv W B as d₁ y)(g:Rv W B as u z)(t:pB o d₁ u=Nk b){Q:No->Np->Prop}(h:Q (.bool b) s):NL (NT W.prog W.w) A (Qx (tW o) y z) Q Er s:=by
 revert h;induction o using dG.casesOn with
 |lt=>exact zX (G:=λv w b=>Q (.bool b) s->NL _ A (Qx _ v w) Q Er s) t f g λ_ _ _ _ h=>P.lt_int h|le=>exact zX (G:=λv w b=>Q (.bool b) s->NL _ A (Qx _ v w) Q Er s) t f g λ_ _ _ _ h=>P.le_int h|gt=>exact zX (G:=λv w b=>Q (.bool b) s->NL _ A (Qx _ v w) Q Er s) t f g λ_ _ _ _ h=>P.gt_int h|ge=>exact zX (G:=λv w b=>Q (.bool b) s->NL _ A (Qx _ v w) Q Er s) t f g λ_ _ _ _ h=>P.ge_int h|ne=>exact v2 (G:=λb=>Q (.bool b) s->_) H f g J t λq L p K F h=>SeqAt.compareNe_reads q L p K F h|eq=>
 have i:∀{d:D},isNone d=Nm->d=.none:=λ{d}e=>by induction d using D.casesOn<;>first|rfl|exact fT e
 have j:∀{d:D}{v:No},Iu d=Nm->Rv W B as d v->∃a o,v=.ref a/\s.heap.get? a=Nk o/\o.cls=.type "dict":=λ{d v}e r=>by
  induction d using D.casesOn with
  |ap l=>induction r using bT.casesOn with|mk a b c=>exact⟨_,_,rfl,(H.base _ _ a).1,k6 c⟩
  |_=>exact fT e
 have C:A.units<Sj:=N6 (Pl _ _) J;revert t;unfold pB;refine MP (G:=λx=>x=Nk b->Q (.bool b) s->_) (λe t h=>?_) λ_=>MP (G:=λx=>x=Nk b->Q (.bool b) s->_) (λe t h=>?_) λ_ t=>v2 (G:=λb=>Q (.bool b) s->_) H f g J t λq L p K F h=>SeqAt.compareEq_reads q L p K F h;(refine sI t λM=>?_;subst M);have e:=NH.mp e;rw[i e.1]at f;(refine(j e.2 g).elim λa S=>S.elim λo U=>U.elim λV X=>X.elim λI E=>?_;subst V);subst f;exact wE I E C h;(refine sI t λM=>?_;subst M);have e:=NH.mp e;rw[i e.2]at g;(refine(j e.1 f).elim λa Y=>Y.elim λo Z=>Z.elim λN R=>R.elim λI E=>?_;subst N);subst g;exact wG I E C h
end
section
variable{B:gU}{as:gH}
theorem RvK.length{l:List (Key×D)}:∀{vs:List (Key×No)},RvK W B as l vs->l.length=vs.length:=by induction l with|nil=>intro vs r;subst r;rfl|cons d l c=>intro vs r;induction r using br.casesOn with|mk a b=>exact congrArg Pd (c b)
theorem RvT.length{l:List (List Int×D)}:∀{vs:List (List Int×NF×No)},RvT W B as l vs->l.length=vs.length:=by induction l with|nil=>intro vs r;subst r;rfl|cons d l c=>intro vs r;induction r using cu.casesOn with|mk _ _ _ a b=>exact congrArg Pd (c b)
def Agree(W:Wd)(B:gU)(as:gH)(x:Option D)(y:Option No):Prop:=match x with|some d=>∃v,y=Nk v/\Rv W B as d v|none=>y=Nq
theorem Agree.isSome{x:Option D}{y:Option No}(h:Agree W B as x y):x.isSome=y.isSome:=by induction x using N3 with|none=>exact h▸rfl|some d=>exact h.elim λv e=>e.1▸rfl
theorem Agree.some{d:D}{y:Option No}(h:Agree W B as (Nk d) y):∃v,y=Nk v/\Rv W B as d v:=h
theorem Agree.getD{x:Option D}{y:Option No}(h:Agree W B as x y){d:D}{v:No}(r:Rv W B as d v):Rv W B as (x.getD d) (y.getD v):=by induction x using N3 with|none=>exact h▸r|some d=>exact h.elim λv e=>e.1▸e.2
theorem RvK.at(k:Key){l:List (Key×D)}:∀{vs:List (Key×No)},RvK W B as l vs->Agree W B as (gL l k) (TU vs k):=by
 induction l with
 |nil=>intro vs r;subst r;rfl|cons d l c=>
 intro vs r;induction r using br.casesOn with|@mk v vs a b=>
  have q:TU ((d.1,v)::vs) k=if d.1=k then Nk v else TU vs k:=by unfold TU;refine rG (Qw) ?_;by_cases h:d.1=k<;>simp[h]
  show Agree W B as (if k=d.1 then Nk d.2 else gL l k) _;refine rG q ?_;by_cases h:k=d.1;refine rG (if_pos h) (rG (if_pos h.symm) ?_);exact i12 _ rfl a;refine rG (if_neg h) (rG (if_neg (O9 h)) ?_);exact c b
theorem RvF.toK{l:List (Nat×D)}:∀{vs:List (Key×No)},RvF W B as l vs->RvK W B as (l.map λp=>(Key.s p.1,p.2)) vs:=by induction l with|nil=>intro vs r;subst r;exact .nil|cons d l c=>intro vs r;induction r using br.casesOn with|mk a b=>exact .cons a (c b)
theorem Ac{f:Nat}{l:List (Nat×D)}:gL (l.map λp=>(Key.s p.1,p.2)) (Key.s f)=gL l f:=by
 induction l with
 |nil=>rfl|cons p r a=>
 show(if Key.s f=Key.s p.1 then _ else _)=if f=p.1 then _ else _
 refine rG a ?_;by_cases h:f=p.1;exact rG (if_pos h) (rG (if_pos (congrArg Key.s h)) rfl);exact rG (if_neg h) (rG (if_neg λe=>h (Key.s.inj e)) rfl)
theorem RvT.at(k:List Int){l:List (List Int×D)}:∀{vs:List (List Int×NF×No)},RvT W B as l vs->Agree W B as (gL l k) ((RW vs k).map (·.2)):=by
 induction l with
 |nil=>intro vs r;subst r;rfl|cons d l e=>
 intro vs r;induction r using cu.casesOn with|@mk c v vs _ _ _ _ _ a b=>
  have q:(RW ((d.1,c,v)::vs) k).map (·.2)=if d.1=k then Nk v else(RW vs k).map (·.2):=by unfold RW;refine rG (Qw) ?_;by_cases h:d.1=k<;>simp[h]
  show Agree W B as (if k=d.1 then Nk d.2 else gL l k) _;refine rG q ?_;by_cases h:k=d.1;refine rG (if_pos h) (rG (if_pos h.symm) ?_);exact i12 _ rfl a;refine rG (if_neg h) (rG (if_neg (O9 h)) ?_);exact e b
theorem np{d:D}{v:No}{k:Key}(r:Rv W B as d v)(e:oW d=Nk (.v k)):(kk W.prog W.w).is k v=Nm:=by
 induction d using D.casesOn with
 |int i=>cases e;induction r using aG.casesOn;exact decide_eq_true rfl
 |str i=>cases e;induction r using cK.casesOn;exact decide_eq_true rfl
 |tup l=>exact omI e λ_ _ e=>nomatch e|_=>exact nS e
theorem wt{l:List D}:∀{vs:List No}{ns:List Int},RvL W B as l vs->mu l=Nk ns->QF (PH W.prog W.w) ns vs:=by
 induction l with
 |nil=>intro vs ns r e;subst r;(refine sI e λf=>?_;subst f);exact .nil|cons d l c=>
 intro vs ns r e;induction r using aT.casesOn with|mk a b=>
  induction d using D.casesOn with
  |int i=>induction a using aG.casesOn;exact pH (G:=λns=>QF _ ns _) e λr h=>.cons (intKind_is _ _ _ _) (c b h)
  |_=>exact nS e
inductive bc(W:Wd)(B:gU)(k:List Int):No->Prop|mk {a items n}:B a=Nk (uT items n)->k.length<=cap->QF (PH W.prog W.w) k items.toList->bc W B k (.ref a)
theorem nl{d:D}{v:No}{k:List Int}(r:Rv W B as d v)(e:oW d=Nk (.t k)):bc W B k v:=by
 induction d using D.casesOn with
 |tup l=>refine omI e λg f e=>?_;cases e;induction r using aA.casesOn with|mk b c a=>have q:=wt a f;exact .mk b (by refine rG q.length (rL a.length ?_);exact c) q
 |int i=>exact nomatch e|str i=>exact nomatch e|_=>exact nS e
theorem bc.is{h:NV}(hb:∀a o,B a=Nk o->h.get? a=Nk o){k:List Int}{a:NF}(x:bc W B k (.ref a)):(PU (PH W.prog W.w)).is h k a:=by cases x with|mk b c q=>exact i34 _ _ _ (hb _ _ b) rfl rfl q
theorem lN{h:NV}{a:NF}{o:Obj}{b:List (Key×No)}(d:h.get? a=Nk o)(c:o.IsDictOf (kk W.prog W.w) b):h.DictOf (kk W.prog W.w) a b:=Ru.mpr ⟨o,d,c⟩
theorem RvT.keys{h:NV}(hb:∀a o,B a=Nk o->h.get? a=Nk o){l:List (List Int×D)}:∀{vs:List (List Int×NF×No)},RvT W B as l vs->∀x∈vs,(PU (PH W.prog W.w)).is h x.1 x.2.1:=by induction l with|nil=>intro vs r x c;subst r;exact iM c|cons d l e=>intro vs r x c;induction r using cu.casesOn with|mk p q r _ b=>cases c with|head=>exact i34 _ _ _ (hb _ _ p) rfl rfl r|tail _ c=>exact e b x c
theorem k8{h:NV}(hb:∀a o,B a=Nk o->h.get? a=Nk o){a:NF}{o:Obj}{l}{xs:List (List Int×NF×No)}(j:h.get? a=Nk o)(i:aU W.prog W.w o xs)(r:RvT W B as l xs):h.DictOfH (PU (PH W.prog W.w)) a xs:=by induction i using aU.casesOn with|mk c b d e f g=>exact i36 o c b j d e f (RvT.keys hb r) g
end
section
variable{T:Tab}{O:aN}{n:Nat}{k:gS}{A:Ob}{env:Env}{m:Loc}{B:gU}{as:gH}{st:am}{s:Np}{Er:No->Np->Prop}
structure af(W:Wd)(T:Tab)(O:aN)(n:Nat)(k:gS)(e:E)(x:Expr):Prop where
 val:SoundE W T O n k e x
 eh:SoundT W T O n k e x
theorem af.aE{e:E}{x:Expr}(h:SoundE W T O n k e x)(hx:∀env a,isTrue x env a=(do let v<-a;TV x.pos;U6 [v] (truthy v)):=by intro _ _;rfl):af W T O n k e x:=⟨h,λA env m B as st s b i Er R F g H f=>wpAny_isTrue_value (h.use R F g H f λd c v j S _ _ r=>ym r▸O0 ⟨rfl,d,c,S⟩) (hx _ _)⟩
def FA(W:Wd)(T:Tab)(O:aN)(n:Nat)(k:gS)(e:E)(l:Expr)(h:UW)(r:Expr):Prop:=∀(A:Ob)(env:Env)(m:Loc)(B:gU)(as:gH)(st:am)(s:Np)(q:D×am)(Er:No->Np->Prop)(Q:No->Np->Prop),aF A n->Frame W env m B as st s.heap->(∀y,env.kindOf y=k y)->Hs W B as st s.heap->ev T O e m st=Nk q->(∀b s' g f,q.1=.bool b->ai W [] B as st s g f q.2 s'->Q (.bool b) s')->NL (NT W.prog W.w) A (Oi l env) (λa c=>NL (NT W.prog W.w) A (Oi r env) (λb d=>NL (NT W.prog W.w) A (Qx h a b) Q Er d) Er c) Er s
theorem af.dj{e:E}{l:Expr}{i:UW}{r:Expr}{pos:Pos}(h:FA W T O n k e l i r)(o:Qe i r=Nl):af W T O n k e (.Compare l [i] [r] pos):=⟨λA env m B as st s q Er R F g H f=>wpAny_Compare1 (h A env m B as st s q Er _ R F g H f λb p c a d S=>⟨c,a,S,d▸.bool _⟩) o,λA env m B as st s b j Er R F g H f=>wpAny_isTrue_Compare1 (h A env m B as st s (.bool b,j) Er _ R F g H f λt p c a d S=>O0 ⟨(D.bool.inj d).symm,c,a,S⟩) o⟩
theorem Ik{a:UW}(h:(a==.In||a==.NotIn)=Nl)(r:Expr):Qe a r=Nl:=by apply @Expr.casesOn (λr=>Qe a r=Nl) r<;>intros<;>first|rfl|(rename_i e k p;show(k==0&&(a==.In||a==.NotIn)&&e.all (T8 8))=Nl;rw[h,Tk,Bool.false_and])
theorem zt(o:dG)(r:Expr):Qe (tW o) r=Nl:=Ik (by induction o using dG.casesOn<;>rfl) r
theorem GJ{o:dG}{a b:E}{l r:Expr}{pos:Pos}(V:af W T O n k a l)(hb:af W T O n k b r):af W T O n k (.cmp o a b) (.Compare l [tW o] [r] pos):=by refine .dj (λA env m B as st s q Er Q R F J H d q=>?_) (zt o r);revert q;refine jm d λx v S d=>jm d λy w U d=>ml d λx' X d=>ml d λy' Y d=>pH (G:=λq=>(∀b s' P p,q.1=.bool b->ai W [] B as st s P p q.2 s'->Q (.bool b) s')->_) d λz Z q=>?_;refine V.val.use R F J H S λC t M K h f g i=>hb.val.use R f J g U λD u N L e I c j=>?_;exact jt R.bV (rP c) (nY c (i.mono W e.ext) X) (nY c j Y) Z (q _ _ _ _ rfl (h.trans e))
theorem Eb{K r:dG}{a b c:E}{l M t:Expr}{pos:Pos}(ha:af W T O n k a l)(hb:af W T O n k b M)(hc:af W T O n k c t):af W T O n k (.bQ K r a b c) (.Compare l [tW K,tW r] [M,t] pos):=by have hm:lastMarks [tW K,tW r] [M,t]=Nl:=zt r t;refine⟨λA env m B as st s q Er R F S H e=>?_,λA env m B as st s bb a5 Er R F S H e=>?_⟩;refine jm e λx U h1 e=>jm e λy V h2 e=>Compare_chain (ha.val.use R F S H h1 λY P a2 a0 h C I j=>chain_link (hb.val.use R C S I h2 λu o a3 a1 d D f g=>?_)) hm;refine MR e (λQ e=>jm e λz X h4 e=>jt R.bV f (j.mono W d.ext) g Q (O0 (chain_last (hc.val.use R D S f h4 λv p a4 N i Z J L=>?_)))) λQ e=>jt R.bV f (j.mono W d.ext) g Q (O0 ?_);exact pH (G:=λq=>NL _ A _ (aQ W B as st s q.1 q.2) Er N) e λw h5=>jt R.bV J (g.mono W i.ext) L h5 ⟨v,p,(h.trans d).trans i,.bool _⟩;(refine sI e λq0=>?_;subst q0);exact⟨u,o,h.trans d,.bool _⟩;refine jm e λx U h1 e=>jm e λy V h2 e=>isTrue_chain (ha.val.use R F S H h1 λY P a2 a0 h C I j=>test_link (hb.val.use R C S I h2 λu o a3 a1 d D f g=>?_)) hm;refine MR e (λQ e=>jm e λz X h4 e=>jt R.bV f (j.mono W d.ext) g Q (O0 (test_last (hc.val.use R D S f h4 λv p a4 N i Z J L=>ml (Option.map_eq_bind▸e) λw h5 e=>?_)))) λQ e=>jt R.bV f (j.mono W d.ext) g Q (O0 ?_);cases e;exact jt R.bV J (g.mono W i.ext) L h5 (O0 ⟨rfl,v,p,(h.trans d).trans i⟩);cases e;exact⟨rfl,u,o,h.trans d⟩
theorem BG{B:gU}{as:gH}{d:D}{v:No}(r:Rv W B as d v):(v==.none)=isNone d:=by induction d using D.casesOn<;>cases r<;>rfl
theorem GG{c:Bool}{a:E}{l:Expr}{kd:Nat}{p pos:Pos}(z:af W T O n k a l):af W T O n k (.bq c a) (.Compare l [LG c] [.Constant .none kd p] pos):=by refine .dj (λA env m B as st s q Er Q R F C H i q=>?_) (by induction c using Nw<;>rfl);revert q;refine jm i λx j y i=>on (G:=λq=>(∀b s' w g,q.1=.bool b->ai W [] B as st s w g q.2 s'->Q (.bool b) s')->_) i λq=>z.val.use R F C H y λo h v u d r t f=>VJ ?_;have e:=BG f;induction c using Nw with|false=>refine is_none ?_;refine rG e ?_;exact q _ _ _ _ (by cases isNone x<;>rfl) d|true=>refine isNot_none ?_;refine rG e ?_;exact q _ _ _ _ (by cases isNone x<;>rfl) d
end
section
variable{T:Tab}{O:aN}{n:Nat}{k:gS}{A:Ob}{env:Env}{m:Loc}{B:gU}{as:gH}{st:am}{s:Np}{Er:No->Np->Prop}
open Classical in
noncomputable def uD(h:NV)(dx:OF)(y:No):Bool:=if q:∃d:OF,d.canLay0=Nm/\∃l,V8 h y d l then QD (Classical.choose q) dx else Nl
theorem CT{h:NV}{dx d:OF}{y:No}{l:List NF}(hd:d.canLay0=Nm)(r:V8 h y d l):uD h dx y=QD d dx:=by unfold uD;have q:∃d:OF,d.canLay0=Nm/\∃l,V8 h y d l:=⟨d,hd,l,r⟩;rw[dif_pos q];(refine(Classical.choose_spec q).elim λa c=>c.elim λe b=>?_);rw[SeqAt.Reads.unique _ _ _ _ _ a b r]
theorem KB(H:Hs W B as st s.heap)(j:A.units+66<Sj){x:D}{v:No}(u:Rv W B as x v)(hx:tR 64 x=Nm){l:List D}:∀{vs:List No},RvL W B as l vs->shalL 64 l=Nm->vs.any (uD s.heap (vS x))=(l.any λy=>eqB y x)/\∀y,y∈vs->SY A.in1 s y v (uD s.heap (vS x) y):=by induction l with|nil=>intro vs r _;subst r;exact⟨rfl,λy b=>iM b⟩|cons d l o=>intro vs r h;induction r using aT.casesOn with|mk p q=>refine db h λc g=>?_;(refine(pe H d 64 p c).elim λw f=>?_);have a:=nZ d 64 c;have e:=CT (dx:=vS x) a.1 f;have i:=o q g;refine⟨by refine rG Q5 (rG Q5 (rG i.1 (rG e ?_)));rfl,λy b=>?_⟩;cases b with|head=>(refine(pe H x 64 u hx).elim λz t=>?_);refine rG e ?_;exact SeqAt.eqAt_reads _ _ _ _ _ _ _ _ f t a.1 (nZ x 64 hx).1 (N6 (Oe (NN (S7 _ _) a.2) _) (N6 (by show A.units+1+64<=A.units+66;exact Oe (by decide:1+64<=66) _) j))|tail _ b=>exact i.2 y b
theorem KA(H:Hs W B as st s.heap)(d:A.units+66<Sj){x:D}{v:No}(f:Rv W B as x v){l:List D}{vs:Array No}(r:RvL W B as l vs.toList){b:Bool}{G:Prop}(a:inS x l=Nk b)(k:vs.any (uD s.heap (vS x))=b->(∀y,y∈vs->SY A.in1 s y v (uD s.heap (vS x) y))->G):G:=mQ a λc a=>by have q:=KB (A:=A) H d f c.1 r c.2;exact k (by refine rL SE (rG q.1 ?_);exact NE a) λy e=>q.2 y (RI.mpr e)
theorem E0(c:Bool)(J:A.units+66<Sj)(H:Hs W B as st s.heap){x y y':D}{v w:No}{b:Bool}(E:Rv W B as x v)(P:Rv W B as y w)(hy:jB st y=Nk y')(g:inD x y'=Nk b){Q:No->Np->Prop}(h:∀t,Q (.bool (c !=b)) {s with toks:=t}):NL (NT W.prog W.w) A (Qx (LI c) v w) Q Er s:=by
 have S:=u1 H P hy;have G:∀a o,B a=Nk o->s.heap.get? a=Nk o:=λa o e=>(H.base a o e).1;have C:∀t,c=Nm->Q (.bool (!b)) {s with toks:=t}:=λt e=>by have:=h t;rw[e,Bool.true_bne]at this;exact this
 have z:∀t,c=Nl->Q (.bool b) {s with toks:=t}:=λt e=>by have:=h t;rw[e,Bool.false_bne]at this;exact this
 induction y' using D.casesOn with
 |ae l=>induction S using aA.casesOn with|mk f j F=>refine KA (A:=A) H J E F g λe d=>?_;induction c using Nw with|false=>exact SeqAt.in_listAt _ ⟨_,f,rfl,_,rfl⟩ d (e▸z s.toks rfl)|true=>exact SeqAt.notIn_listAt _ ⟨_,f,rfl,_,rfl⟩ d (e▸C s.toks rfl)
 |tup l=>induction S using aA.casesOn with|mk f j F=>refine KA (A:=A) H J E F g λe d=>?_;induction c using Nw with|false=>exact SeqAt.in_tupleAt _ ⟨_,f,rfl,_,rfl⟩ d (e▸z s.toks rfl)|true=>exact SeqAt.notIn_tupleAt _ ⟨_,f,rfl,_,rfl⟩ d (e▸C s.toks rfl)
 |ap l=>induction S using bT.casesOn with|mk f j r u=>refine Le g λK I g=>?_;have e:=(RvK.at K u).isSome.symm.trans (NE g);have q:=np E I;induction c using Nw with|false=>exact wpAny_in_of q (kg j.1) (lN f r).mapOf (e▸z _ rfl)|true=>exact wpAny_notIn_of q (kg j.1) (lN f r).mapOf (e▸C _ rfl)
 |ak l=>
  induction S using cb.casesOn with|mk f j r u=>
   refine I7 g λK I g=>?_;have L:=nl E I;have e:=(RvT.at K u).isSome.symm.trans (NE g);rw[QS]at e;have M:=k8 G f r u;have i:(PU (PH W.prog W.w)).room A.in1:=Qj (N6 (Oe (by decide) _) J);have p:∃N,v=.ref N:=by induction L using bc.casesOn;exact⟨_,rfl⟩
   (refine p.elim λN R=>?_;try clear p;subst R);induction c using Nw with|false=>exact wpAny_in_heap i (L.is G) (kg j.1) M (e▸z _ rfl)|true=>exact wpAny_notIn_heap i (L.is G) (kg j.1) M (e▸C _ rfl)
 |_=>exact nS g
theorem GI{c:Bool}{a b:E}{l r:Expr}{pos:Pos}(Y:Qe (LI c) r=Nl)(X:af W T O n k a l)(hb:af W T O n k b r):af W T O n k (.bz c a b) (.Compare l [LI c] [r] pos):=by refine .dj (λA env m B as st s q Er Q R F K H f q=>?_) Y;revert q;refine jm f λx w U f=>jm f λy C V f=>ml f λy' Z f=>pH (G:=λq=>(∀b s' S p,q.1=.bool b->ai W [] B as st s S p q.2 s'->Q (.bool b) s')->_) f λz hz q=>?_;refine X.val.use R F K H U λD u N L i g h j=>hb.val.use R g K h V λI v P M e J d o=>?_;exact E0 c R.eY d (j.mono W e.ext) o Z hz λt=>q _ _ _ _ rfl ((i.trans e).trans (ai.tok d t))
inductive ay(W:Wd)(T:Tab)(O:aN)(n:Nat)(k:gS):Es->List Expr->Prop|nil:ay W T O n k .nil []|cons {e r x l}:af W T O n k e x->(∀y p,x≠.Starred y p)->ay W T O n k r l->ay W T O n k (.cons e r) (x::l)
theorem vV{c a aa}{d:Np}{st':am}{b f:Bool}{s':Np}(S:ai W [] B as st s c a aa d)(x:f=b/\fw W c a aa d st' s'):f=b/\fw W B as st s st' s':=⟨x.1,by cases x.2 with|mk g e h=>exact⟨g,e,S.trans h⟩⟩
def Mt(W:Wd)(T:Tab)(O:aN)(n:Nat)(k:gS)(o:Bool)(es:Es)(xs:List Expr):Prop:=∀(A:Ob)(env:Env)(m:Loc)(B:gU)(as:gH)(st:am)(s:Np)(b:Bool)(st':am)(Er:No->Np->Prop),aF A n->Frame W env m B as st s.heap->(∀y,env.kindOf y=k y)->Hs W B as st s.heap->evB T O o es m st=Nk (.bool b,st')->NL (NT W.prog W.w) A (allTrue (Lb o) xs env) (λa c=>a=b/\fw W B as st s st' c) Er s
theorem Aa(o:Bool){es:Es}{xs:List Expr}(h:ay W T O n k es xs):Mt W T O n k o es xs:=by
 induction h with
 |nil=>intro A env m B as st s b q Er R F r H p;cases p;induction o using Nw with|true=>exact wpAny_allTrue_And_nil ⟨rfl,B,as,ai.refl H⟩|false=>exact wpAny_allTrue_Or_nil ⟨rfl,B,as,ai.refl H⟩
 |cons h _ v u=>
 intro A env m B as st s b q Er R F r H p;refine Ft p λc j t p=>?_;induction o using Nw with
 |true=>refine wpAny_allTrue_And_cons (h.eh.use R F r H t λd a l f g i=>?_);induction c using Nw with|true=>exact NR (u A env m d a j l b q Er R g r i p) (λ_ _=>vV f) λ_ _ e=>e|false=>cases p;exact⟨rfl,d,a,f⟩
 |false=>
 refine wpAny_allTrue_Or_cons (h.eh.use R F r H t λd a l f g i=>?_);induction c using Nw with
 |true=>cases p;exact⟨rfl,d,a,f⟩
 |false=>exact NR (u A env m d a j l b q Er R g r i p) (λ_ _=>vV f) λ_ _ e=>e
def Ly(W:Wd)(T:Tab)(O:aN)(n:Nat)(k:gS)(o:Bool)(pos:Pos)(es:Es)(xs:List Expr):Prop:=∀(A:Ob)(env:Env)(m:Loc)(B:gU)(as:gH)(st:am)(s:Np)(q:D×am)(Er:No->Np->Prop),aF A n->Frame W env m B as st s.heap->(∀y,env.kindOf y=k y)->Hs W B as st s.heap->evB T O o es m st=Nk q->NL (NT W.prog W.w) A (boolOp pos (Lb o) (evalEach xs env)) (aQ W B as st s q.1 q.2) Er s
theorem Dg(o:Bool){pos:Pos}{es:Es}{xs:List Expr}(h:ay W T O n k es xs):neL xs=Nm->Ly W T O n k o pos es xs:=by
 induction h with
 |nil=>intro D;exact fT D|@cons e r x l h _ y M=>
 intro _ A env m B as st s q Er R F C H u;refine Ft u λc w G u=>?_;induction y using ay.casesOn with
 |nil=>show NL _ _ (Oi x env) _ _ _;refine h.val.use R F C H G λb a z j d g i f=>?_;induction o using Nw<;>cases c<;>(cases u;exact⟨b,a,d,f⟩)
 |@cons N Q J I P L E=>
 have K:boolOp pos (Lb o) (evalEach (x::J::I) env)=(do let v<-Oi x env;TV pos;let t<-U6 [v] (truthy v);match Lb o,t with|.And,Nl|.Or,Nm=>OW v|_,_=>boolOp pos (Lb o) (evalEach (J::I) env)):=by induction o using Nw<;>rfl
 refine rG K ?_;refine Nn (h.val.use R F C H G λb a z j d g i f=>?_);obtain rfl:=ym f;refine Nn (OB (Nn (N7 (O0 ?_))));induction o using Nw<;>cases c<;>first|exact(λu=>NR (M rfl A env m b a w j q Er R g C i u) (λ_ _ p=>nu d p) λ_ _ e=>e) u|(cases u;exact Nt ⟨b,a,d,f⟩)
theorem GL{es:Es}{l:List Expr}{pos:Pos}(e:neL l=Nm)(h:ay W T O n k es l):af W T O n k (.and es) (.BoolOp .And l pos):=by induction l using NA with|nil=>exact fT e|cons x l=>exact⟨λA env m B as st s q Er R F b H a=>Dg Nm h rfl A env m B as st s q Er R F b H a,λA env m B as st s d c Er R F b H a=>VI (Aa Nm h A env m B as st s d c Er R F b H a)⟩
theorem JO{es:Es}{l:List Expr}{pos:Pos}(e:neL l=Nm)(h:ay W T O n k es l):af W T O n k (.or es) (.BoolOp .Or l pos):=by induction l using NA with|nil=>exact fT e|cons x l=>exact⟨λA env m B as st s q Er R F b H a=>Dg Nl h rfl A env m B as st s q Er R F b H a,λA env m B as st s d c Er R F b H a=>VI (Aa Nl h A env m B as st s d c Er R F b H a)⟩
theorem GA{a:E}{x:Expr}{pos:Pos}(h:af W T O n k a x):af W T O n k (.not a) (.UnaryOp .Not x pos):=⟨λA env m B as st s q Er R F t H g=>Ft g λb i r g=>on (G:=ng W A env _ B as st s Er) g (UF (h.val.use R F t H r λe d u p f j l o=>not_value (ym o▸O0 ⟨e,d,f,.bool _⟩))),λA env m B as st s b v Er R F t H g=>Ft g λc i r g=>wpAny_isTrue_Not (h.eh.use R F t H r λe d p f j l=>by cases g;exact⟨rfl,e,d,f⟩)⟩
theorem GF{t a b:E}{x y z:Expr}{pos:Pos}(L:af W T O n k t x)(K:af W T O n k a y)(hb:af W T O n k b z):af W T O n k (.ite t a b) (.IfExp x y z pos):=by
 refine⟨λA env m B as st s q Er R F w H u=>Ft u λc C J u=>wpAny_IfExp (L.eh.use R F w H J λD v G j h i=>?_),λA env m B as st s d M Er R F w H u=>Ft u λc C J u=>?_⟩;induction c using Nw with|true=>exact K.val.use R h w i u λf e I r g l o p=>⟨f,e,j.trans g,p⟩|false=>exact hb.val.use R h w i u λf e I r g l o p=>⟨f,e,j.trans g,p⟩
 refine rG (arm_isTrue_IfExp _ _ _ _ _ _) ?_;refine Nn (L.eh.use R F w H J λD v G j h i=>?_);induction c using Nw with|true=>exact K.eh.use R h w i u λf e r g l o=>⟨rfl,f,e,j.trans g⟩|false=>exact hb.eh.use R h w i u λf e r g l o=>⟨rfl,f,e,j.trans g⟩
end
theorem IV{c:Type}(l:List c)(a b:Nat):(l.drop (min a l.length)).take (min b l.length-min a l.length)=(l.take b).drop a:=by rw[List.drop_take];by_cases h:a<=l.length;rw[S8 h];exact List.take_eq_take_iff.mpr (by rw[Pz,Uv,Uv,Nat.min_assoc,Nat.min_self]);have h:=Nat.le_of_not_le h;rw[Nat.min_eq_right h,List.drop_length,Rq h,R3,R3]
theorem Ew(c:Array No){x y:Int}(hx:0<=x)(hy:0<=y):Q0 c (Nk x) (Nk y) Nq=((c.toList.take y.toNat).drop x.toNat).toArray:=by(refine(OR hx).elim λa d=>?_;subst d);(refine(OR hy).elim λb e=>?_;subst e);refine rG (slicePick_plain _ _ _) ?_;show((c.toList.drop (clipAt c.size a)).take (clipAt c.size b-clipAt c.size a)).toArray=_;refine rG (VS _ _) (rG (VS _ _) (rL Oo (rG (IV _ _ _) ?_)));rfl
theorem BR(a:Array No){y:Int}(hy:0<=y):Q0 a Nq (Nk y) Nq=(a.toList.take y.toNat).toArray:=by(refine(OR hy).elim λb c=>?_;subst c);exact slicePick_upto' a b
theorem Ax(a:Array No){x:Int}(hx:0<=x):Q0 a (Nk x) Nq Nq=(a.toList.drop x.toNat).toArray:=by(refine(OR hx).elim λb c=>?_;subst c);exact slicePick_from' a b
theorem zR{f:Type}(xs:List f):∀n:Nat,n=xs.length->((Qr n).filterMap λ(k:Nat)=>xs[((n:Int)-1+(k:Int)*(-1)).toNat]?)=xs.reverse:=by
 intro n c;have e:((Qr n).filterMap λ(k:Nat)=>xs[((n:Int)-1+(k:Int)*(-1)).toNat]?)=(Qr n).pmap (λk(a:k<n)=>xs[n-1-k]'(by omega)) (λk a=>VN.mp a):=by
  have:∀(l:List Nat)(b:∀k∈l,k<n),(l.filterMap λ(k:Nat)=>xs[((n:Int)-1+(k:Int)*(-1)).toNat]?)=l.pmap (λk(a:k<n)=>xs[n-1-k]'(by omega)) b:=by intro l;induction l with|nil=>intro _;rfl|cons k r d=>intro b;have a:=b k (.head _);rw[List.pmap_cons,<-d λk a=>b k (.tail _ a),Oy,(by rw[Int.mul_neg_one,show(n:Int)-1+ -(k:Int)=((n-1-k:Nat):Int)by rw[Wc (RV a),Wc (N6 (NX k) a)];rfl];rfl:((n:Int)-1+(k:Int)*(-1)).toNat=n-1-k),NQ (by omega)]
  exact this _ _
 rw[e];apply List.ext_getElem;simp[c];intro i g h;rw[List.getElem_pmap,List.getElem_reverse];simp[c]
theorem Ev(a:Array No):Q0 a Nq Nq (Nk (-1))=a.toList.reverse.toArray:=by
 unfold Q0;refine rG (by simp[sliceBounds]:sliceBounds Nq Nq (Nk (-1)) a.size=((a.size:Int)-1,-1,-1)) ?_;congr 1;unfold sliceRange;simp only[show ¬((-1:Int)>0)by decide,if_false,List.filterMap_map];have c:(if((a.size:Int)-1> -1)then(((a.size:Int)-1)-(-1)-(-1)-1)/(-(-1))else 0).toNat=a.size:=by split;simp;lia
 refine rG c ?_;refine rL (zR a.toList a.size (by simp)) ?_;congr 1;funext k;simp only[Function.comp];refine rG (Oa) ?_;congr 2;lia
section
variable{prog:Rl}{w:Pi}{A:Ob}{E:No->Np->Prop}{s:Np}{env:Env}
theorem tO(a:Expr)(o i:No):∃l,Tv a Nl o i=operate l (SU o i):=by apply @Expr.casesOn (λa=>∃l,Tv a Nl o i=operate l (SU o i)) a<;>intros<;>first|exact⟨_,rfl⟩|(rename_i c _;induction c using N3<;>exact⟨_,rfl⟩)
theorem pO{a:Expr}{o i:No}{M:UR}{Q:No->Np->Prop}(h:NL M A (SU o i) Q E s):NL M A (Tv a Nl o i) Q E s:=(tO a o i).elim λ_ e=>e▸wpAny_operating h
theorem uW{b a:Expr}{o i:No}{T j:String}{Q:No->Np->Prop}(f:s.TypeIs o T)(g:typeLookup (.type T) "__getitem__"=OW (Nk (.builtin j)))(h:NL (NT prog w) A (SU o i) Q E s):NL (NT prog w) A (UJ b a o i) Q E s:=by unfold UJ;refine Nn ?_;refine rG (getitemInPython_of_ne f.not_modules) ?_;refine Nn (TI f g ?_);have d:NL (NT prog w) A (Tv a Nl o i) (λr c=>NL (NT prog w) A (letTemporaryGo b o r>>=λ_=>OW r) Q E c) E s:=pO (NR h (λr c e=>Nn (Vy (Nt e))) λ_ _ x=>x);first|exact Nt (Nn d)|exact Nn (Nt (Nn d))|exact Nn d
theorem AZ(n:Nat):Qv Nq Nq (-1) (n:Int)=((n:Int)-1,-1):=by simp[Qv]
theorem Aw(n:Nat):PM ((n:Int)-1) (-1) (-1)=n:=by unfold PM;refine rG (if_neg (by lia)) ?_;split;simp;lia
theorem rq{d:NF}{n:Nat}{u:Tok}{Q:Int×Int×Nat->Np->Prop}(hs:s.heap.IsSliceOf d .none .none (.int (-1) u))(h:Q ((n:Int)-1,-1,n) s):NL (NT prog w) A (R2 (.ref d) (OW (n:Int))) Q E s:=by(refine(id hs).elim λj g=>g.elim λb i=>i.elim λe a=>?_);unfold R2 Oq.Slice.sliceFields;refine Nn (Nn (Ri b a (x:=.none) rfl (Nn (Ri b a (x:=.none) rfl (Nn (Ri b a (x:=.int (-1) u) rfl (Nt ?_)))))));refine Nn (slicePart_int ?_);show NL _ _ (if((-1:Int)==0)=Nm then _ else _) _ _ s;refine rG (if_neg (by decide)) ?_;refine Nn (slicePart_none (Nn (slicePart_none (Nn (Nt ?_)))));show NL _ _ (match Qv Nq Nq (-1) (n:Int)with|(c,f)=>OW (c,(-1:Int),PM c f (-1))) _ _ s;refine rG (AZ n) ?_;show NL _ _ (OW ((n:Int)-1,(-1:Int),PM ((n:Int)-1) (-1) (-1))) _ _ s;refine rG (Aw n) ?_;exact Nt h
theorem pV{t g:NF}{a:Array No}{u:Tok}{Q:No->Np->Prop}(c:IsTup s.heap t a)(hs:s.heap.IsSliceOf g .none .none (.int (-1) u))(h:Q (.ref s.heap.objs.size) {s with heap:=s.heap.push {cls:=.type "tuple",data:=.seq a.toList.reverse.toArray}})(hsz:a.size<=PT):NL (NT prog w) A (SU (.ref t) (.ref g)) Q E s:=by
 have b:sizeOk (.seq a.toList.reverse.toArray):=by show a.toList.reverse.toArray.size<=PT;rw[Vd,Pc,Oo];lia
 (refine(id hs).elim λl n=>n.elim λf o=>o.elim λd j=>?_);unfold SU;try with_reducible refine N7 ?_
 first|refine Nn (Nt ?_)|skip
 refine Nn (SR c.typeIs (by decide) ?_);refine Nn (PK (name:=Qk "__getitem__") c.typeIs Q9 (P9 Q9 c.typeIs entry_tuple_getitem ?_ (args_tuple_getitem _ _)));show NL _ _ (Oq.Tuple.tupleItemsOf (.ref t)>>=_) _ _ s;refine Nn (tupleItemsOf_ c ?_);refine Nn (U0 (⟨l,f,d⟩) ?_);rw[if_pos (by decide)];refine Nn (rq hs ?_);have e:¬((((a.size:Int)-1)==0&&(-1:Int)==1&&a.size==a.size)=Nm):=by rw[(by decide:((-1:Int)==1)=Nl)];simp
 show NL _ _ (if((((a.size:Int)-1)==0&&(-1:Int)==1&&a.size==a.size)=Nm)then _ else _) _ _ s;rw[if_neg e];have i:((Qr a.size).filterMap λ(k:Nat)=>a[((a.size:Int)-1+(k:Int)*(-1)).toNat]?).toArray=a.toList.reverse.toArray:=by rw[<-(zR a.toList a.size (by simp))];congr 2;funext k;rw[Oa]
 rw[i];first|exact Nn (m:=PQ _) (O1 (Nt ⟨_,rfl,Nt h⟩) b)|exact Nn (m:=PQ _) (O1 (Nn (Nt (Nt ⟨_,rfl,Nt h⟩))) b)|exact Nn (Nn (m:=PQ _) (O1 (Nt (Nt ⟨_,rfl,Nt h⟩)) b))|exact Nn (Nn (m:=PQ _) (O1 (Nt ⟨_,rfl,Nt h⟩) b))
end
structure ar(W:Wd)(B:gU)(as:gH)(st:am)(h:NV)(a:NF):Prop where
 foot:a∉iU as st
 base:B a=Nq
 bB:W.n1<=a
 code:∀o,h.get? a=Nk o->¬je o
theorem ar.dD{B as st h a}(x:ar W B as st h a):a≠W.tb:=λq=>absurd W.cX (by refine rL q ?_;exact Pa.mpr x.bB)
theorem ai.other{X:List NF}{B as st}{s s':Np}(H:Hs W B as st s.heap)(rest:s'={s with heap:=s'.heap,toks:=s'.toks})(f:∀a∈X,ar W B as st s.heap a)(d:∀b o,s.heap.get? b=Nk o->b∉X->s'.heap.get? b=Nk o):ai W X B as st s B as st s':=by
 have j:s'.heap.get? W.tb=s.heap.get? W.tb:=by(refine H.bH.elim λo q=>?_);exact rG q (rG (d _ _ q λz=>(f _ z).dD rfl) rfl)
 have m:∀a∈iU as st,∀o,s.heap.get? a=Nk o->s'.heap.get? a=Nk o:=λa g o e=>d a o e λz=>(f a z).foot g;exact⟨rest,λb o e h=>⟨o,d b o e h⟩,λb o e _ _ h=>d b o e h,bS.refl _ _,λa o e=>.inl e,λa h=>.inl h,⟨H.aK.eM (λb o e n=>d b o e λz=>absurd n (Pa.mpr (f b z).bB)) (λb o e r=>d b o e λz=>(f b z).code o e r) j,λa o e=>⟨d _ _ (H.base a o e).1 λz=>(by rw[(f a z).base]at e;exact nS e),(H.base a o e).2⟩,H.b0,H.len,λi c p k l=>(H.cell i c p k l).keep λa g o e=>m a (H.aR k l g) o e,λa h=>⟨(H.off a h).1,(H.off a h).2.1,let⟨o,e⟩:=(H.off a h).2.2;⟨o,m a h o e⟩⟩,H.nodup⟩⟩
theorem ai.adopt{X:List NF}{B as st}{s:Np}{f d aa}{g:Np}(x:ai W X B as st s f d aa g)(u:∀a∈X,s.heap.get? a=Nq){p:NF×NF}{c:ao}(hp:∀a∈foot c p,s.heap.get? a=Nq/\ar W f d aa g.heap a)(w:(foot c p).Nodup)(hc:CellAt W f (d++[p]) g.heap p c):ai W [] B as st s f (d++[p]) (aa++[c]) g:=by
 have m:=nI (as:=d) (st:=aa) p c x.hs.len;have l:ai W [] B as st s f d aa g:=x.drop λa v=>.inr (u a v);have r:bS f d f (d++[p]):=nR p;have H:=x.hs;refine⟨x.rest,l.live,l.keep,x.ext.trans r,l.cv,λa h=>?_,⟨H.aK,H.base,H.b0,by simp[H.len],λi t q j k=>?_,λb h=>?_,?_⟩⟩;rw[m]at h;rcases NW.mp h with z|z
 exact l.cz a z;exact .inr (.inl (hp a z).1);by_cases o:i<aa.length;rw[NK o]at j;rw[NK (by refine rG H.len ?_;exact o)]at k;exact(H.cell i t q j k).mono r;have n:i=aa.length:=by have:=(Nv.mp j).1;simp at this;lia
 subst n;simp at j;rw[<-H.len]at k;simp at k;subst j;subst k;exact hc;rw[m]at h;rcases NW.mp h with z|z
 exact H.off b z;exact⟨(hp b z).2.base,(hp b z).2.bB,hc.live b z⟩;refine rG m ?_;exact Oj.mpr ⟨H.nodup,w,λa j b k e=>by subst e;exact(hp a k).2.foot j⟩
theorem ai.dn{X:List NF}{B as st}{s:Np}{f d aa}{g:Np}(x:ai W X B as st s f d aa g)(u:∀a∈X,s.heap.get? a=Nq){a:NF}{o:Obj}(m:s.heap.get? a=Nq)(l:ar W f d aa g.heap a)(v:g.heap.get? a=Nk o):ai W [] B as st s (ti f a o) d aa g:=by
 have k:ai W [] B as st s f d aa g:=x.drop λa m=>.inr (u a m);have n:bS f d (ti f a o) d:=jO l.base;have H:=x.hs;have q:∀b j,ti f a o b=Nk j->(b=a/\j=o)\/f b=Nk j:=λb j e=>by unfold ti at e;split at e;exact .inl ⟨‹_›,(NE e).symm⟩;exact .inr e
 refine⟨x.rest,k.live,k.keep,x.ext.trans n,λb j e=>?_,k.cz,⟨H.aK,λb j e=>?_,λb j e=>n.base _ _ (H.b0 b j e),H.len,λi c p r t=>(H.cell i c p r t).mono n,λb h=>⟨?_,(H.off b h).2⟩,H.nodup⟩⟩;rcases q b j e with⟨rfl,_⟩|z
 exact .inr (.inl m);exact k.cv b j z;rcases q b j e with⟨rfl,rfl⟩|z
 exact⟨v,l.dD⟩;exact H.base b j z;unfold ti;refine rG (if_neg (λ(z:b=a)=>by subst z;exact l.foot h)) ?_;exact(H.off b h).1
theorem ar.step{X:List NF}{B as st}{s:Np}{b c aa}{d:Np}(x:ai W X B as st s b c aa d){a:NF}{o:Obj}(f:ar W B as st s.heap a)(g:s.heap.get? a=Nk o)(h:a∉X):ar W b c aa d.heap a/\d.heap.get? a=Nk o:=by
 have e:=x.keep a o g f.dD f.foot h;refine⟨⟨λq=>?_,?_,f.bB,λi q=>?_⟩,e⟩;rcases x.cz a q with z|z|z
 exact f.foot z;rw[z]at g;exact nS g;exact h z;cases q:b a with
  |none=>rfl|some i=>
  rcases x.cv a i q with z|z|z
  rw[f.base]at z;exact nS z;rw[z]at g;exact nS g;exact absurd z h
 rw[e]at q;(refine sI q λj=>?_;subst j);exact f.code o g
theorem ar.dh{B as st}{h:NV}(H:Hs W B as st h)(o:Obj)(a:o.cls≠.type "code")(hf:o.isFreed=Nl:=by rfl):ar W B as st (h.push o) h.objs.size:=by refine⟨λq=>?_,H.av (gT _),H.low,λb e=>?_⟩;(refine((H.off _ q).2.2).elim λb e=>?_);rw[gT]at e;exact nS e;rw[NP _ hf]at e;(refine sI e λc=>?_;subst c);exact λq=>a q.1
noncomputable def Jp:List (Str×No):=[("len",.builtin "len"),("list",.type "list"),("tuple",.type "tuple"),("sorted",.builtin "sorted"),("max",.builtin "max"),("isinstance",.builtin "isinstance"),("bool",.type "bool"),("range",.type "range"),("enumerate",.type "enumerate")]
structure eg(W:Wd)(c f:Nat):Prop where
 dict:Wi W.K (W.ca c)=Nm
 none:Qy W.K (.ref (W.ca c)) (bv f)=Nk Nq
 ga:Qy W.K (.ref (W.ca c)) "__getattribute__"=Nk (Nk (.builtin "object.__getattribute__"))
 sa:Qy W.K (.ref (W.ca c)) "__setattr__"=Nk (Nk (.builtin "object.__setattr__"))
 over:Wh W.K (W.ca c)=Nm
structure aW(W:Wd)(T:Tab):Prop where
 fy:∀h,W.be h->h.Ns OC W.mg
 gg:∀h,W.be h->h.Ns PP W.mb
 blt:∀x v,(x,v)∈Jp->W.mg x=Nq/\W.mb x=Nk v
 glob:∀x d,T.glob x=Nk d->∃v,W.mg (bv x)=Nk v/\Rv W W.b0 [] d v
 attr:∀c f,T.attr c f=Nm->eg W c f
 lim:∀h,W.be h->h.NoLimit
 fN:∀h,W.be h->h.BuiltinsAt W.mg W.tb
 gb:OC≠W.tb
 en:∀h,W.be h->∃ps,CodeHd h W.lc W.tb/\h.get? W.tb=Nk (U7 ps)/\TriplesOk ps.toList/\
  ∀p:Pos,p.line=92->p.col=53->Q1 p ps.toList=Nq\/∃c',Q1 p ps.toList=Nk (.ref c')/\h.CodeRec (.ref c') (W.lq++"<lambda>")/\∃o,h.get? c'=Nk o/\je o
 grow:∀h h' ps c'(p:Pos),p.line=92->p.col=53->W.be h->h.get? W.tb=Nk (U7 ps)->Q1 p ps.toList=Nq->QX W.tb h h'->h'.get? W.tb=Nk (U7 (ps++#[PY p.line,PY p.col,.ref c']))->
  h'.CodeRec (.ref c') (W.lq++"<lambda>")->(∃o,h'.get? c'=Nk o/\je o)->W.cy h'
section
variable{T:Tab}{O:aN}{n:Nat}{k:gS}{A:Ob}{env:Env}{m:Loc}{B:gU}{as:gH}{st:am}{s:Np}{Er:No->Np->Prop}
theorem mN{x:Str}{v:No}{pos:Pos}{Q:No->Np->Prop}(L:aW W T)(F:Frame W env m B as st s.heap)(H:Hs W B as st s.heap)(hx:env.kindOf x=Nk .globalImplicit)(hd:(x==("__debug__":Str))=Nl)(a:W.mg x=Nk v)(h:Q v s):NL (NT W.prog W.w) A (Oi (.Name x pos) env) Q Er s:=VB F.kind hx (loadGlobal_global (mg:=W.mg) (by refine rG F.glob ?_;exact L.fy _ H.aK) a h) hd
theorem ny{x:Str}{v:No}{pos:Pos}{Q:No->Np->Prop}(L:aW W T)(F:Frame W env m B as st s.heap)(H:Hs W B as st s.heap)(hx:env.kindOf x=Nk .globalImplicit)(a:(x,v)∈Jp)(h:Q v s):NL (NT W.prog W.w) A (Oi (.Name x pos) env) Q Er s:=by
 (refine(L.blt x v a).elim λb c=>?_);have d:(x==("__debug__":Str))=Nl:=by simpa using ND.mp (by decide:Jp.all (λp=> !(p.1==("__debug__":Str)))=Nm) _ a
 exact VB F.kind hx (loadGlobal_builtin (mg:=W.mg) (mb:=W.mb) (by refine rG F.glob ?_;exact L.fy _ H.aK) b (by refine rG F.blt ?_;exact L.gg _ H.aK) c h) d
theorem DZ(L:aW W T){y:Nat}{x:Expr}(h:mE k (.glob y) x=Nm):af W T O n k (.glob y) x:=oD h λc p h=>db h λh _=>db h λf b=>jo (G:=λc=>(k c==Nk .globalImplicit)=Nm->af W T O n k (.glob y) (.Name c p)) f (λg _ b=>.aE λA env m B as st s q Er R F t H j=>pH (G:=ng W A env _ B as st s Er) j λd l=>by(refine(L.glob y d l).elim λv w=>w.elim λu r=>?_);exact mN L F H (by refine rG (t _) ?_;exact beq_iff_eq.mp b) g u ⟨B,as,ai.refl H,r.mono W ⟨λa o e=>H.b0 a o e,λi p e=>nS (QY.symm.trans e)⟩⟩) b
theorem wz{i:Int}{n j:Nat}(h:idx i n=Nk j):seqIndex? i n=Nk j/\j<n/\((0<=i/\j=i.toNat)\/(i<0/\ -(n:Int)<=i/\j=(i+n).toNat)):=by
 unfold idx at h;unfold seqIndex?;by_cases b:0<=i;rw[if_pos b]at h;by_cases a:i<n;rw[if_pos a]at h;(refine sI h λc=>?_;subst c);refine rG (if_neg (by lia:¬i<0)) ?_;exact⟨by simp[b,a],by lia,.inl ⟨b,rfl⟩⟩;rw[if_neg a]at h;exact nS h;rw[if_neg b]at h;by_cases a:0<=i+n;rw[if_pos a]at h;(refine sI h λc=>?_;subst c);have d:i<0:=by lia
 refine rG (if_pos d) ?_;exact⟨by simp[a,(by lia:i+n<n)],by lia,.inr ⟨d,by lia,rfl⟩⟩;rw[if_neg a]at h;exact nS h
theorem sv{i:Int}{n j:Nat}(h:(0<=i/\j=i.toNat)\/(i<0/\ -(n:Int)<=i/\j=(i+n).toNat))(b:j<n)(a:n<=cap): -(2^63)<=i/\i<2^63:=by unfold cap at a;lia
inductive eL(W:Wd)(A:Ob)(s:Np)(v w:No)(Q:No->Np->Prop)(Er:No->Np->Prop):Prop|mk (Ty id:String):s.TypeIs v Ty->typeLookup (.type Ty) "__getitem__"=OW (Nk (.builtin id))->NL (NT W.prog W.w) A (SU v w) Q Er s->eL W A s v w Q Er
theorem vo(hu:A.units+66<Sj)(H:Hs W B as st s.heap){x y x' d:D}{v w:No}(rx:Rv W B as x v)(u:Rv W B as y w)(hx:jB st x=Nk x')(b:pU x' y=Nk d){Q:No->Np->Prop}(h:∀r t,Rv W B as d r->Q r {s with toks:=t}):eL W A s v w Q Er:=by
 have S:=u1 H rx hx;have X:∀a o,B a=Nk o->s.heap.get? a=Nk o:=λa o e=>(H.base a o e).1;induction x' using D.casesOn with
 |ae l=>
  refine zT (G:=λy=>Rv W B as y w->_) b (λi b u=>ml b λj P N=>?_) u;induction u using aG.casesOn;induction S using aA.casesOn with|mk c F z=>
   (refine(z.get N).elim λr z2=>z2.elim λf g=>?_);have f:=Oa.symm.trans f;have q:=wz P;have R:=sv q.2.2 q.2.1 F;refine .mk _ _ ⟨_,c,rfl⟩ slot_list_getitem.lookup ?_;rcases q.2.2 with⟨K,e⟩|⟨K,L,e⟩
   subst e;exact wpAny_getItem_list ⟨_,c,rfl,_,rfl⟩ K R.2 f (h r s.toks g);subst e;exact wpAny_getItem_list_neg ⟨_,c,rfl,_,rfl⟩ K (by refine rG (io z) ?_;exact L) R.1 (by refine rG (io z) ?_;exact f) (h r s.toks g)
 |tup l=>refine zT (G:=λy=>Rv W B as y w->_) b (λi b u=>ml b λj P N=>?_) u;induction u using aG.casesOn;induction S using aA.casesOn with|mk c F z=>(refine(z.get N).elim λr z3=>z3.elim λf g=>?_);have q:=wz P;have R:=sv q.2.2 q.2.1 F;exact .mk _ _ ⟨_,c,rfl⟩ Q9.lookup (PyProof.Rows.getItem_tuple ⟨_,c,rfl,_,rfl⟩ R.1 R.2 (by refine rG (io z) ?_;exact q.1) (Oa.symm.trans f) (h r s.toks g))
 |ap l=>refine Le b λV U b=>?_;induction S using bT.casesOn with|mk c F M J=>have C:=RvK.at V J;rw[b]at C;(refine C.some.elim λr z4=>z4.elim λf g=>?_);have E:=lN c M;exact .mk _ _ E.typeIs V3.lookup (wpAny_getItem_of (np u U) E.mapOf f (h r _ g))
 |ak l=>
  refine I7 b λV U b=>?_;have Z:=nl u U;induction S using cb.casesOn with|mk c F M J=>
   have C:=RvT.at V J;rw[b]at C;(refine C.some.elim λr z5=>z5.elim λf g=>?_);(refine(Ol.mp f).elim λp z6=>z6.elim λhp z7=>?_;subst z7);have E:=k8 X c M J;have I:∃Y,w=.ref Y:=by induction Z using bc.casesOn;exact⟨_,rfl⟩
   (refine I.elim λY z8=>?_;try clear I;subst z8);exact .mk _ _ E.typeIs V3.lookup (wpAny_getItem_heap (Qj (N6 (Oe (by decide) _) hu)) (Z.is X) E hp (h _ _ g))
 |_=>exact nS b
theorem zc{a b:E}{l r:Expr}{pos:Pos}(S:af W T O n k a l)(hb:af W T O n k b r):af W T O n k (.aj a b) (.Subscript l r pos):=by refine .aE (λA env m B as st s q Er R F I H f=>?_);refine jm f λx w N f=>jm f λy g P f=>ml f λx' U f=>pH (G:=ng W A env _ B as st s Er) f λz V=>?_;refine SM (S.val.use R F I H N λC v L J o i j p=>hb.val.use R i I j P λh e M K d D c u=>?_);cases vo (Er:=Er) (A:=A) R.eY c (p.mono W d.ext) u U V (Q:=aQ W B as st s z g) λr t rr=>⟨h,e,(o.trans d).trans (ai.tok c t),rr⟩with|mk Ty id X Y Z=>exact uW X Y Z
theorem Eu{c b aa}{a:Np}(S:ai W [] B as st s c b aa a)(ag:Bool){l:List D}{vs:Array No}(d:l.length<=cap)(r:RvL W c b l vs.toList){t:Nat}:aQ W B as st s (mkD ag (.ae l) aa).1 (mkD ag (.ae l) aa).2 (.ref a.heap.objs.size) {a with heap:=a.heap.push (jd vs 0),toks:=t}:=G4 S ag d r
theorem pb{g:Np}{f c e}(S:ai W [] f c e g B as st s){x:D}{v:No}{l l':List D}(I:Rv W B as x v)(hx:jB st x=Nk (.ae l)){i h:Expr}{q r vs:No}{p o d:Option Int}(G:VX q p)(H:VX r o)(ps:VX vs d)(z:d≠Nk 0)(hp:∀b:Array No,Q0 b p o d=(Q0 b p o d).toList.toArray)(ag:Bool)(E:l'.length<=l.length)(F:∀b:Array No,RvL W B as l b.toList->RvL W B as l' (Q0 b p o d).toList):NL (NT W.prog W.w) A (UJ i h v (.ref s.heap.objs.size)) (aQ W f c e g (mkD ag (.ae l') st).1 (mkD ag (.ae l') st).2) Er {s with heap:=s.heap.push {cls:=.type "slice",data:=.fields #[q,r,vs]}}:=by have y:=u1 S.hs I hx;induction y using aA.casesOn with|@mk a b J C t u=>have j:(s.heap.push {cls:=.type "slice",data:=.fields #[q,r,vs]}).IsList a b:=⟨_,NS _ C,rfl,_,rfl⟩;refine uW j.typeIs list_getitem_lookup (wpAny_getItem_list_slice j (Ra ..) G H ps z ?_ ?_);exact Eu (S.trans (ai.push S.hs _ s.toks)) ag (NN E t) (F _ u);refine rG (io u) ?_;exact NN t (by decide)
theorem By{ag:Bool}{o a b:E}{l p q:Expr}{pp pos:Pos}(ho:af W T O n k o l)(ha:af W T O n k a p)(hb:af W T O n k b q):af W T O n k (.slice ag o a b) (.Subscript l (.Slice (Nk p) (Nk q) Nq pp) pos):=by refine .aE (λA env m B as st s q Er R F L H c=>?_);refine jm c λx N h1 c=>Fr c λi P h2 c=>Fr c λj Q h3 c=>ml c λx' M c=>pH (G:=ng W A env _ B as st s Er) c λz w=>mQ w λZ w=>?_;refine C5 (G:=λx'=>jB _ x=Nk x'->_) w (λll w M=>?_) M;(refine sI w λq0=>?_;subst q0);refine SM (ho.val.use R F L H h1 λS I a3 a0 v h t y=>Sf ?_);simp only[Rr,Rs];refine ha.val.use R h L t h2 λU J a4 a1 d r u C=>hb.val.use R r L u h3 λV K a5 a2 f X Y D=>Nt ?_;induction C using aG.casesOn;induction D using aG.casesOn;refine pb ((v.trans d).trans f) (y.mono W (d.ext.trans f.ext)) M (.int i _) (.int j _) .none (λe=>nS e) (λ_=>rfl) ag (by rw[cut,Pz,Rc];exact NN (Sl _ _) (VE _ _)) λg hr=>?_;refine rG (Ew g Z.1 Z.2.1) ?_;exact(hr.take _).drop _
theorem DR{ag:Bool}{o b:E}{l q:Expr}{Z pos:Pos}(X:af W T O n k o l)(hb:af W T O n k b q):af W T O n k (.bG ag o b) (.Subscript l (.Slice Nq (Nk q) Nq Z) pos):=by refine .aE (λA env m B as st s q Er R F K H c=>?_);refine jm c λx w S c=>Fr c λj y U c=>ml c λQ v c=>pH (G:=ng W A env _ B as st s Er) c λz i=>mQ i λV i=>?_;refine C5 (G:=λQ=>jB _ x=Nk Q->_) i (λll i v=>?_) v;(refine sI i λq0=>?_;subst q0);refine SM (X.val.use R F K H S λC t N L h f g p=>Sf ?_);simp only[Rr,Rs];refine Nt (hb.val.use R f K g U λD u P M a I J r=>Nt ?_);induction r using aG.casesOn;refine pb (h.trans a) (p.mono W a.ext) v .none (.int j _) .none (λe=>nS e) (λ_=>rfl) ag (by rw[cut,Pz,Rc];exact NN (Sl _ _) (VE _ _)) λd Y=>?_;refine rG (BR d V.2.1) ?_;exact(Y.take _).drop _
theorem D8{ag:Bool}{o a:E}{l p:Expr}{pp pos:Pos}(Z:af W T O n k o l)(X:af W T O n k a p):af W T O n k (.aM ag o a) (.Subscript l (.Slice (Nk p) Nq Nq pp) pos):=by refine .aE (λA env m B as st s q Er R F L H c=>?_);refine jm c λx y U c=>Fr c λi C V c=>ml c λS w c=>pH (G:=ng W A env _ B as st s Er) c λz j=>mQ j λY j=>?_;refine C5 (G:=λS=>jB _ x=Nk S->_) j (λll j w=>?_) w;(refine sI j λq0=>?_;subst q0);refine SM (Z.val.use R F L H U λD u P M h f g r=>Sf ?_);simp only[Rr,Rs];refine X.val.use R f L g V λI v Q N b J K t=>Nt (Nt ?_);induction t using aG.casesOn;refine pb (h.trans b) (r.mono W b.ext) w (.int i _) .none .none (λe=>nS e) (λ_=>rfl) ag (by refine rG Pz ?_;exact Sl _ _) λd hr=>?_;refine rG (Ax d Y.1) ?_;exact hr.drop _
theorem Gy{ag:Bool}{o:E}{l:Expr}{p1 Q S pos:Pos}{kd:Nat}(M:af W T O n k o l):af W T O n k (.rev ag o) (.Subscript l (.Slice Nq Nq (Nk (.UnaryOp .USub (.Constant (.int 1) kd p1) Q)) S) pos):=by
 refine .aE (λA env m B as st s q Er R F L H j=>?_);refine jm j λx g K j=>ml j λU C j=>pH (G:=ng W A env _ B as st s Er) j λz r=>?_;refine SM (M.val.use R F L H K λh f I b i u d e=>Sf ?_);simp only[Rr,Rs];refine Nt (Nt (UF (SJ (P.neg_int ?_))));have p:ai W [] B as st s h f g {b with toks:=b.toks+1+1}:=i.trans (ai.tok d _);induction U using D.casesOn with
 |ae l=>(refine sI r λt=>?_;subst t);exact pb p e C .none .none (.int (-1) _) (by decide) (λ_=>rfl) ag (Pf Pc) λc N=>by refine rG (Ev _) ?_;exact N.reverse|tup V=>(refine sI r λt=>?_;subst t);cases u1 d e C with|@mk a c Y J v w=>have y:IsTup (b.heap.push {cls:=.type "slice",data:=.fields #[.none,.none,.int (-1) (b.toks+1)]}) a c:=⟨_,NS _ J,rfl,_,rfl⟩;refine uW y.typeIs Q9.lookup (pV y (Ra ..) ?_ (by refine rG (io w) ?_;exact ld v));exact zk (p.trans (ai.push (X:=[]) p.hs ({cls:=.type "slice",data:=.fields #[.none,.none,.int (-1) (b.toks+1)]}:Obj) (b.toks+1+1))) (by refine rG Pc ?_;exact v) w.reverse
 |_=>exact nS r
end
section
variable{T:Tab}{O:aN}{n:Nat}{k:gS}{A:Ob}{env:Env}{m:Loc}{B:gU}{as:gH}{st:am}{s:Np}{Er:No->Np->Prop}
theorem Ck{o:Obj}{a:List (Key×No)}(b:o.IsDictOf (kk W.prog W.w) a){f:Nat}{v:No}(h:TU a (.s f)=Nk v):VU (bv f) o=Nk (Nk v):=by
 (refine b.elim λd l=>l.elim λz p=>p.elim λ_ r=>r.elim λg t=>t.elim λ_ u=>u.elim λj _=>?_;try clear b);have q:=j.find (.s f);rw[h]at q;(refine(Ol.mp q).elim λe x=>x.elim λi y=>?_;subst y);unfold VU;rw[g];dsimp only;have c:d.toList.find? (·.key.isStr (bv f))=Nk e:=by
  have:(λe:OI=>e.key.isStr (bv f))=λe=>(kk W.prog W.w).is (.s f) e.key:=by funext e;cases e.key<;>rfl
  rw[this];exact i
 rw[c]
theorem CG{B:gU}{as:gH}{d:D}{v:No}(r:Rv W B as d v):handedIn v=Nm:=by induction d using D.casesOn<;>cases r<;>rfl
theorem yB{h:NV}{a C dx:NF}{o b:Obj}(c:h.get? a=Nk o)(hc:o.cls=.ref C)(hd:o.dict=Nk dx)(hp:o.data=.plain)(hx:h.get? dx=Nk b):InstAt h a o C (Nk b):=⟨c,hc,by unfold notCls;rw[hp],by rw[hd];exact hx⟩
theorem vr(L:aW W T)(H:Hs W B as st s.heap){x x' d:D}{v:No}{f:Nat}(I:Rv W B as x v)(hx:jB st x=Nk x')(g:Fu T x' f=Nk d){Q:No->Np->Prop}{b:Bool}(h:∀r t,Rv W B as d r->Q r {s with toks:=t}):NL (NT W.prog W.w) A (getAttr v (bv f) b) Q Er s:=Mk g λc K e g=>mQ g λF i=>by(refine sI e λG=>?_;subst G);have a:=L.attr c f F;cases u1 H I hx with|mk o p q u y z C=>have j:=RvK.at (.s f) C.toK;rw[Ac,i]at j;(refine j.some.elim λr J=>J.elim λE l=>?_);exact get_value H.aK.1 (yB o p q u y) a.ga (findObj_own a.dict a.none rfl (Ck z E)) (CG l) (h r _ l)
theorem m9{o:Expr}(h:iP o=Nm)(name:Str)(env:Env)(a:Sem No):Rt o name env a=a:=by
 revert h;apply @Expr.casesOn (λo=>iP o=Nm->Rt o name env a=a) o<;>intros<;>try rfl
 rename_i g l b q h;induction l using NA with|cons=>clear h;apply @Expr.casesOn (λg=>Rt (.Call g (_::_) b q) name env a=a) g<;>intros<;>rfl|nil=>induction b using NA with|cons=>clear h;apply @Expr.casesOn (λg=>Rt (.Call g [] (_::_) q) name env a=a) g<;>intros<;>rfl|nil=>revert h;apply @Expr.casesOn (λg=>iP (.Call g [] [] q)=Nm->Rt (.Call g [] [] q) name env a=a) g<;>intros<;>first|rfl|(rename_i h;exact fT h)
theorem Ee(L:aW W T){o:E}{f:Nat}{l:Expr}{pos:Pos}(w:iP l=Nm)(y:af W T O n k o l):af W T O n k (.attr o f) (.Attribute l (bv f) pos):=by refine .aE (λA env m B as st s q Er R F v H e=>?_);refine jm e λx h u e=>ml e λJ C e=>pH (G:=ng W A env _ B as st s Er) e λz D=>?_;unfold ng;refine rG (arm_eval_Attribute _ _ _ _) (rG (m9 w _ _ _) ?_);refine Nn (y.val.use R F v H u λc b p j d i a g=>Nn (OB (Nn (N7 ?_))));exact vr L a g C D λr t I=>Nn (Vy (Nt ⟨c,b,d.trans (ai.tok a t),I⟩))
theorem jw{x:Expr}(hx:∀y p,x≠.Starred y p)(l:List Expr)(env:Env):PL (x::l) env=(Nl,Oi x env)::PL l env:=by revert hx;apply @Expr.casesOn (λx=>(∀y p,x≠.Starred y p)->PL (x::l) env=(Nl,Oi x env)::PL l env) x<;>intros<;>first|rfl|(rename_i h;exact absurd rfl (h _ _))
inductive eH(W:Wd)(B:gU)(as:gH)(st:am)(s:Np)(ds:List D)(st':am)(vs:List No)(s':Np):Prop|mk (B' as'):ai W [] B as st s B' as' st' s'->RvL W B' as' ds vs->eH W B as st s ds st' vs s'
def Jk(W:Wd)(T:Tab)(O:aN)(n:Nat)(k:gS)(pos:Pos)(es:Es)(xs:List Expr):Prop:=∀(A:Ob)(env:Env)(m:Loc)(B:gU)(as:gH)(st:am)(s:Np)(ds:List D)(st':am)(Er:No->Np->Prop),aF A n->Frame W env m B as st s.heap->(∀y,env.kindOf y=k y)->Hs W B as st s.heap->evs T O es m st=Nk (ds,st')->NL (NT W.prog W.w) A (spliced (RO pos (PL xs env))) (eH W B as st s ds st') Er s
theorem mP{pos:Pos}{es:Es}{xs:List Expr}(h:ay W T O n k es xs):Jk W T O n k pos es xs:=by induction h with|nil=>intro A env m B as st s G y Er R F v H f;(refine spI f λw x=>?_;subst w;subst x);exact Wm ⟨B,as,ai.refl H,.nil⟩|cons h K C L=>intro A env m B as st s G y Er R F v H f;refine jm f λd g I f=>jm f λu z J f=>?_;(refine spI f λw x=>?_;subst w;subst x);refine wpAny_items_cons (h.val.use R F v H I λi b E t p l o q=>?_) (jw K _ _);exact NR (L A env m i b g t u _ Er R l v o J) (λM D⟨j,c,a,r⟩=>⟨j,c,p.trans a,.cons (q.mono W a.ext) r⟩) λ_ _ e=>e
theorem Gv{es:Es}{l:List Expr}{kd:Nat}{pos:Pos}(h:ay W T O n k es l):af W T O n k (.tup es) (.Tuple l kd pos):=by refine .aE (λA env m B as st s q Er R F r H c=>jm c λo f p c=>mQ c λi c=>on (G:=ng W A env _ B as st s Er) c ?_);refine wpAny_Tuple (NR (mP h A env m B as st s o _ Er R F r H p) (λt j⟨g,d,b,a⟩=>?_) λ_ _ e=>e);exact⟨by refine rL a.length ?_;exact ld i,zk b i (vs:=t.toArray) a⟩
theorem GD{ag:Bool}{es:Es}{l:List Expr}{pos:Pos}(h:ay W T O n k es l):af W T O n k (.ae ag es) (.List l pos):=by refine .aE (λA env m B as st s q Er R F r H c=>jm c λo f p c=>mQ c λi c=>on (G:=ng W A env _ B as st s Er) c ?_);refine wpAny_List (NR (mP h A env m B as st s o _ Er R F r H p) (λt j⟨g,d,a,b⟩=>?_) λ_ _ e=>e);exact⟨by rw[<-b.length];exact ld i,rE a rfl (KeepAll.push _ _) (gT _) a.hs.low (NP _ rfl) ag i (vs:=t.toArray) b⟩
theorem jM{x:Str}{v:No}{p pos:Pos}{a:List Expr}{Q:No->Np->Prop}(L:aW W T)(F:Frame W env m B as st s.heap)(H:Hs W B as st s.heap)(hx:env.kindOf x=Nk .globalImplicit)(b:(x,v)∈Jp)(h:NL (NT W.prog W.w) A (RD pos v [] (RO pos (PL a env)) []) Q Er s):NL (NT W.prog W.w) A (Oi (.Call (.Name x p) a [] pos) env) Q Er s:=RC (ny L F H hx b h)
theorem nb{x:Expr}(hx:∀y p,x≠.Starred y p)(pos:Pos)(env:Env):RO pos (PL [x] env)=[(Nl,Oi x env)]:=by refine rG (jw hx _ _) ?_;rfl
theorem vP{x y:Expr}(hx:∀z p,x≠.Starred z p)(hy:∀z p,y≠.Starred z p)(pos:Pos)(env:Env):RO pos (PL [x,y] env)=[(Nl,Oi x env),(Nl,Oi y env)]:=by refine rG (jw hx _ _) (rG (jw hy _ _) ?_);rfl
theorem GE(L:aW W T){a:E}{l:Expr}{p pos:Pos}(hs:∀y p,l≠.Starred y p)(K:k "len"=Nk .globalImplicit)(Y:af W T O n k a l):af W T O n k (.len a) (.Call (.Name "len" p) [l] [] pos):=by
 refine .aE (λA env m B as st s q Er R F U H w=>?_);refine jm w λx j X w=>ml w λx' Z w=>pH (G:=ng W A env _ B as st s Er) w λz M=>?_;refine jM (v:=.builtin "len") L F H ((U _).trans K) (by decide) ?_;refine rG (nb hs _ _) ?_;refine callWith_builtin1 (Y.val.use R F U H X λo g V f r Q c C=>?_);have S:=u1 c C Z;have d:∀(i:Nat)t,aQ W B as st s (.int i) j (.int i t) {f with toks:=f.toks+1+1}:=λi t=>⟨o,g,r.trans (ai.tok c _),.int _ _⟩;have b:∀{n m:Nat},n=m->m<=cap->n<2^63:=λe h=>e▸N6 h (by decide);induction x' using D.casesOn with
 |ae l=>(refine sI M λN=>?_;subst N);induction S using aA.casesOn with|mk I J u=>refine rL (io u) ?_;exact PyProof.Rows.len_list ⟨_,I,rfl,_,rfl⟩ (by have:=b (io u) J;lia) (d _ _)
 |tup l=>(refine sI M λN=>?_;subst N);induction S using aA.casesOn with|mk I J u=>refine rL (io u) ?_;exact P.len_tuple I (by have:=b (io u) J;lia) (d _ _)
 |_=>exact nS M
theorem DY(L:aW W T){ag:Bool}{a:E}{l:Expr}{p pos:Pos}(hs:∀y p,l≠.Starred y p)(r:k "list"=Nk .globalImplicit)(U:af W T O n k a l):af W T O n k (.list ag a) (.Call (.Name "list" p) [l] [] pos):=by
 refine .aE (λA env m B as st s q Er R F N H g=>?_);refine jm g λx I S g=>ml g λX V g=>pH (G:=ng W A env _ B as st s Er) g λz u=>?_;refine jM (v:=.type "list") L F H ((N _).trans r) (by decide) ?_;refine rG (nb hs _ _) ?_;refine Qt (U.val.use R F N H S λJ i P d c K b h=>?_);have M:=u1 b h V;induction X using D.casesOn with
 |ae l=>(refine sI u λC=>?_;subst C);induction M using aA.casesOn with|mk j e f=>exact call_list_seq _ (.inl rfl) j rfl rfl (λo Q w t=>rE (az:={d with heap:=o}) c rfl w (gT _) b.low t ag e f) (by refine rG (io f) ?_;exact ld e)
 |tup l=>(refine sI u λC=>?_;subst C);induction M using aA.casesOn with|mk j e f=>exact call_list_seq _ (.inr rfl) j rfl rfl (λo Q w t=>rE (az:={d with heap:=o}) c rfl w (gT _) b.low t ag e f) (by refine rG (io f) ?_;exact ld e)
 |_=>exact nS u
theorem EH{st:am}{x:D}{l:List D}(h:jB st x=Nk (.tup l)):x=.tup l:=by
 induction x using D.casesOn with
 |ag i=>exact omI h λc _ a=>by induction c using ao.casesOn<;>cases a
 |_=>exact NE h
theorem wn{h a:NV}(k:KeepAll h a):h.get? a.objs.size=Nq:=by cases e:h.get? a.objs.size with|none=>rfl|some o=>have:=k _ _ e;rw[gT]at this;exact nS this
theorem Bv(L:aW W T){a:E}{l:Expr}{p pos:Pos}(hs:∀y p,l≠.Starred y p)(w:k "tuple"=Nk .globalImplicit)(Y:af W T O n k a l):af W T O n k (.tuple a) (.Call (.Name "tuple" p) [l] [] pos):=by
 refine .aE (λA env m B as st s q Er R F P H i=>?_);refine jm i λx M X i=>ml i λZ Q i=>pH (G:=ng W A env _ B as st s Er) i λz C=>?_;refine jM (v:=.type "tuple") L F H ((P _).trans w) (by decide) ?_;refine rG (nb hs _ _) ?_;refine Qt (Y.val.use R F P H X λh g U j f N c d=>?_);induction Z using D.casesOn with
 |ae l=>(refine sI C λK=>?_;subst K);cases u1 c d Q with|mk r t u=>refine call_tuple_list ⟨_,r,rfl,_,rfl⟩ (λV I=>?_) (by refine rG (io u) ?_;exact ld t);have J:∀S,KeepAll j.heap (V.push S):=λS b o e=>NS _ (I b o e);exact u9 f rfl (J _) (wn I) (NP _ rfl) (.tup (js _ _ _) t (u.mono W (jO (c.av (wn I)))))
 |tup l=>(refine sI C λK=>?_;subst K);rw[EH Q]at d;induction d using aA.casesOn with|mk r t u=>exact call_tuple_same ⟨_,(c.base _ _ r).1,rfl,_,rfl⟩ ⟨h,g,f,.tup r t u⟩
 |_=>exact nS C
end
section
variable{T:Tab}{O:aN}{n:Nat}{k:gS}{A:Ob}{env:Env}{m:Loc}{B:gU}{as:gH}{st:am}{s:Np}{Er:No->Np->Prop}
theorem mO{name:Str}{f:String}(d:Slot "list" name f)(g:typeOf (.builtin f)=OW (.type "method_descriptor")){h:NV}{a:NF}{vs:Array No}{j:Nat}{pos:Pos}{c:List (Bool×Sem No)}{Q:No->Np->Prop}(i:s.heap.get? a=Nk (jd vs j))(q:NL (NT W.prog W.w) A (RD pos (.builtin f) [.ref a] c []) Q Er s):MethodOn W.prog W.w A name pos (.ref a) c Q Er s:=⟨"list",f,PySem.F.plainAttrs_list,d,g,⟨_,i,rfl⟩,λb e=>by(refine eI (Rw e) λl=>?_;subst l);exact⟨_,i,rfl⟩,q⟩
theorem oT{name:Str}{f:String}(d:Slot "dict" name f)(g:typeOf (.builtin f)=OW (.type "method_descriptor")){a:NF}{o:Obj}{pos:Pos}{c:List (Bool×Sem No)}{Q:No->Np->Prop}(h:s.heap.get? a=Nk o)(hx:o.ExactDict)(q:NL (NT W.prog W.w) A (RD pos (.builtin f) [.ref a] c []) Q Er s):MethodOn W.prog W.w A name pos (.ref a) c Q Er s:=⟨"dict",f,PySem.F.plainAttrs_dict,d,g,⟨_,h,hx.1⟩,λb e=>by(refine eI (Rw e) λi=>?_;subst i);exact⟨_,h,hx.2.1⟩,q⟩
theorem yX{B as st h}(H:Hs W B as st h){i:Nat}{v:No}(r:Rv W B as (.ag i) v):∃p c,as[i]? =Nk p/\st[i]? =Nk c/\v=.ref p.1/\CellAt W B as h p c:=by(refine(J0 r).elim λp d=>d.elim λa e=>?_;subst e);(refine(H.fe a).elim λc b=>?_);exact i24 p c a b rfl (H.cell i c p b a)
theorem yz{st:am}{i:Nat}{G:Prop}(h:nH st i=Nm)(k:∀l,st[i]? =Nk (.ae l)->G):G:=by unfold nH at h;cases e:st[i]? with|none=>rw[e]at h;exact fT h|some c=>induction c using ao.casesOn<;>first|exact k _ e|(rw[e]at h;cases h)
theorem vi(H:Hs W B as st s.heap){i:Nat}{v:No}{l:List D}(r:Rv W B as (.ag i) v)(f:st[i]? =Nk (.ae l)){G:Prop}(k:∀p vs d,v=.ref p.1->as[i]? =Nk p->s.heap.get? p.1=Nk (jd vs d)->l.length<=cap->RvL W B as l vs.toList->G):G:=by induction r using bR.casesOn with|@mk p e=>cases H.cell _ _ _ f e with|mk vs d a b c=>exact k p vs d rfl e a b c
theorem tw(H:Hs W B as st s.heap){i:Nat}{p:NF×NF}{l:List D}(hp:as[i]? =Nk p)(e:st[i]? =Nk (.ae l)){G:Prop}(k:∀vs d,s.heap.get? p.1=Nk (jd vs d)->l.length<=cap->RvL W B as l vs.toList->G):G:=by cases H.cell _ _ _ e hp with|mk vs d a b c=>exact k vs d a b c
theorem oZ{g a c}{h:Np}(S:ai W [] g a c h B as st s){i:Nat}{l l':List D}{p:NF×NF}(w:st[i]? =Nk (.ae l))(hp:as[i]? =Nk p){vs d:Array No}{j:Nat}(y:s.heap.get? p.1=Nk (jd vs j))(f:Array No->Array No)(hf:f vs=d)(x:l'.length<=cap)(r:RvL W B as l' d.toList){t:Nat}:ai W [] g a c h B as (st.set i (.ae l')) {s with heap:=s.heap.update p.1 (Ou f),toks:=t}:=by
 have u:(s.heap.update p.1 (Ou f)).get? p.1=Nk (jd d (if(f vs).size==vs.size then j else j+1)):=by refine rL hf ?_;exact Vb y f
 refine S.trans (ai.turn (s':={s with heap:=s.heap.update p.1 (Ou f),toks:=t}) S.hs rfl w hp (λ_=>rfl) (λb o e v=>?_) ⟨d,_,u,x,r⟩);exact(PI _ _ (λq=>v (by refine rL q ?_;exact .head _))).trans e
theorem As{o a:E}{g l:Expr}{p q:Pos}(hn:iP g=Nm)(r:(p.endLine==q.line)=Nm)(hs:∀y p,l≠.Starred y p)(ho:af W T O n k o g)(ha:af W T O n k a l):af W T O n k (.append o a) (.Call (.Attribute g "append" p) [l] [] q):=by refine .aE (λA env m B as st s q Er R F V H b=>?_);refine F5 b λi L h1 b=>mQ b λK b=>jm b λx M h2 b=>K5 b λll U b=>mQ b λhc b=>on (G:=ng W A env _ B as st s Er) b ?_;refine Qm (m9 hn _ _ _) r (nb hs _ _) (ho.val.use R F V H h1 λQ J a1 I z v d C=>?_);refine yz K λX t=>vi d C t λpp N Y e hp g1 _ _=>?_;subst e;refine mO PySem.F.slot_list_append PySem.F.type_list_append (h:=I.heap) g1 (P.append_list (ha.val.use R v V d h2 λu j a2 a0 f S w D=>?_));have c:=f.ext.cells _ _ hp;refine tw w c U λvs nn Z q2 q3=>⟨vs,nn,by refine rG (io q3) ?_;exact ld q2,Z,u,j,oZ (z.trans f) U c Z _ rfl (by refine rG NG ?_;exact hc) (by refine rG Sm ?_;exact RvL.append (.cons D .nil) q3),.none⟩
theorem Gz{o:E}{g:Expr}{p q:Pos}(S:iP g=Nm)(c:(p.endLine==q.line)=Nm)(U:af W T O n k o g):af W T O n k (.pop o) (.Call (.Attribute g "pop" p) [] [] q):=by
 refine .aE (λA env m B as st s q Er R F Q H l=>?_);refine F5 l λi D N l=>K5 l λll J l=>pH (G:=ng W A env _ B as st s Er) l λx w=>?_;refine wpAny_Call_method0_late (m9 S _ _ _) c (U.val.use R F Q H N λd b M t j I f r=>?_);refine vi f r J λpp L nn e V z K C=>?_;subst e;have a:=io C;rw[List.getLast?_eq_getElem?]at w;(refine(C.get w).elim λv Z=>Z.elim λX Y=>?_);have u:L.size-1<L.size:=by refine rG a ?_;exact(Nv.mp w).1
 refine mO TA Tx (h:=t.heap) z (P.pop_list z (y:=v) (by refine rG a (rL (Oa) ?_);exact X) ?_ (by refine rG a ?_;exact ld K));refine⟨d,b,oZ j J V z _ rfl (by refine rG List.length_dropLast ?_;exact NN (Sl _ _) K) ?_,Y⟩;refine rG SQ (rG (dif_pos u) (rG T0 (rG a (rL List.eraseIdx_length_sub_one ?_))));exact C.erase _
theorem DT{o a:E}{g l:Expr}{p q:Pos}(hn:iP g=Nm)(t:(p.endLine==q.line)=Nm)(hs:∀y p,l≠.Starred y p)(ho:af W T O n k o g)(ha:af W T O n k a l):af W T O n k (.cW o a) (.Call (.Attribute g "pop" p) [l] [] q):=by
 refine .aE (λA env m B as st s q Er R F hk H b=>?_);refine F5 b λi X h1 b=>mQ b λS b=>Fr b λj Y h2 b=>K5 b λll hi b=>mQ b λU b=>pH (G:=ng W A env _ B as st s Er) b λx hx=>?_;refine Qm (m9 hn _ _ _) t (nb hs _ _) (ho.val.use R F hk H h1 λa1 Q a6 N D z d L=>?_);refine yz S λa3 u=>vi d L u λpp a0 a4 e hp g1 _ _=>?_;subst e;refine mO TA Tx (h:=N.heap) g1 (P.pop_at_list (ha.val.use R z hk d h2 λw r a7 a5 f a2 C M=>?_));have c:=f.ext.cells _ _ hp;refine tw C c hi λZ nn q1 q2 V=>?_;induction M using aG.casesOn;(refine(V.get hx).elim λv z4=>z4.elim λhv rv=>?_);have K:=io V;have J:j.toNat<Z.size:=by refine rG K ?_;exact(Nv.mp hx).1
 have I:Z.size<=cap:=by refine rG K ?_;exact q2
 refine i67 Z nn j _ j.toNat v (ld I) rfl q1 (fitsIndex_of U (Int.lt_of_lt_of_le ((Int.toNat_lt U).mp J) (Uk (QK.mpr I) (by unfold cap;decide)))) (seqIndex_of U (by lia)) (by refine rL (Oa) ?_;exact hv) ?_;refine⟨w,r,oZ (D.trans f) hi c q1 _ rfl (NN (TQ _ _) q2) ?_,rv⟩;refine rG SQ (rG (dif_pos J) (rG T0 ?_));exact V.erase _
end
section
variable{T:Tab}{O:aN}{n:Nat}{k:gS}{A:Ob}{env:Env}{m:Loc}{B:gU}{as:gH}{st:am}{s:Np}{Er:No->Np->Prop}
theorem AL{l:NF}{x:Sem No}{pos:Pos}{Q:No->Np->Prop}(h:NL (NT W.prog W.w) A x (λv d=>∃(b:NF)(c a:Array No)(n p:Nat),c.size<=PT/\c.size+a.size<=PT+1/\¬(!c.isEmpty&&Pm (c.size+a.size))=Nm/\IsL d.heap l c n/\((v=.ref b/\IsL d.heap b a p)\/(v=.ref b/\IsT d.heap b a p))/\Q .none {d with heap:=d.heap.update l (Ou λu=>u++a)}) Er s):NL (NT W.prog W.w) A (RD pos (.builtin "list.extend") [.ref l] [(Nl,x)] []) Q Er s:=seqMethod1_meets S3 PySem.F.entry_list_extend (NR h (λv d g=>by
  refine hid λK t=>?_;(refine g.elim λb y=>y.elim λc z=>z.elim λa C=>C.elim λn D=>D.elim λp E=>E.elim λo G=>G.elim λj H=>H.elim λf I=>I.elim λq J=>J.elim λi r=>?_;try clear g);refine t ?_;rcases i with⟨rfl,i⟩|⟨rfl,i⟩
  exact⟨⟨_,q,rfl⟩,SK _ _,_,AutoSeq1.list_extend_list_list_0 l c n b a p f o j,q,i,r⟩;exact⟨⟨_,q,rfl⟩,SK _ _,_,AutoSeq1.list_extend_list_tuple_0 l c n b a p f o j,q,i,r⟩) λ_ _ e=>e)
theorem Ar{o a:E}{g l:Expr}{p q:Pos}(hn:iP g=Nm)(C:(p.endLine==q.line)=Nm)(hs:∀y p,l≠.Starred y p)(ho:af W T O n k o g)(ha:af W T O n k a l):af W T O n k (.extend o a) (.Call (.Attribute g "extend" p) [l] [] q):=by
 refine .aE (λA env m B as st s q Er R F hk H c=>?_);refine F5 c λi a0 h1 c=>mQ c λY c=>jm c λx a1 h2 c=>K5 c λll hi c=>ml c λrr N c=>mQ c λhc c=>on (G:=ng W A env _ B as st s Er) c ?_;refine Qm (m9 hn _ _ _) C (nb hs _ _) (ho.val.use R F hk H h1 λa6 X b0 S L K r P=>?_);refine yz Y λa8 I=>vi r P I λpp a2 a9 e hp g1 _ _=>?_;subst e;refine mO S3 PySem.F.type_list_extend (h:=S.heap) g1 (AL (ha.val.use R K hk r h2 λj d w v u a7 t Q=>?_));have f:=u.ext.cells _ _ hp;refine tw t f hi λU nn q1 q2 q3=>ml N λx' hx N=>?_;suffices h:∃(b:NF)(z:Array No)(V:Nat),RvL W j d rr z.toList/\((w=.ref b/\IsL v.heap b z V)\/(w=.ref b/\IsT v.heap b z V))by
  refine hid λG9 k9=>?_;(refine h.elim λb a3=>a3.elim λz a4=>a4.elim λV a5=>a5.elim λJ hb=>?_;try clear h);refine k9 ?_;have e:U.size+z.size<=cap:=by refine rG (io q3) (rG (io J) ?_);exact hc
  have M:¬(!U.isEmpty&&Pm (U.size+z.size))=Nm:=by refine rG (show Pm (U.size+z.size)=Nl from decide_eq_false (Pa.mpr (NN e (by decide)))) (rG (Tk _) ?_);exact Od
  exact⟨b,U,z,nn,V,ld (NN (Pl _ _) e),Ql (ld e),M,q1,hb,j,d,oZ (L.trans u) hi f q1 _ rfl (by refine rG NG ?_;exact hc) (by refine rG Px ?_;exact RvL.append J q3),.none⟩
 have Se:=u1 t Q hx;induction x' using D.casesOn with
 |ae l'=>(refine sI N λZ=>?_;subst Z);induction Se using aA.casesOn with|mk w1 w2 J=>exact i32 _ _ _ J (.inl ⟨rfl,w1⟩)
 |tup l'=>(refine sI N λZ=>?_;subst Z);induction Se using aA.casesOn with|mk w1 w2 J=>exact i32 _ _ _ J (.inr ⟨rfl,w1⟩)
 |_=>exact nS N
theorem zF{B as st h}(H:Hs W B as st h){x:D}{v:No}{G:Prop}(r:Rv W B as x v)(hd:sU st x=Nm)(k:∀a o,v=.ref a->h.get? a=Nk o->o.ExactDict->G):G:=by
 unfold sU at hd;cases e:jB st x with
 |none=>rw[e]at hd;exact fT hd|some d=>
 induction d using D.casesOn with
 |ap l=>cases u1 H r e with|mk b f c g=>exact k _ _ rfl b (let⟨_,_,e,_⟩:=c;e)
 |ak l=>cases u1 H r e with|mk b f c g=>induction c using aU.casesOn with|mk _ _ e=>exact k _ _ rfl b e
 |_=>rw[e]at hd;exact fT hd
inductive bY(W:Wd)(A:Ob)(a:NF)(zv:No)(Q:No->Np->Prop)(w:No)(s:Np):Prop|v (kx f):(a==Q7)=Nl->(kk W.prog W.w).is kx w=Nm->s.heap.MapOf (kk W.prog W.w) a f->Q ((f kx).getD zv) {s with toks:=s.toks+1}->bY W A a zv Q w s|t (b kx xs):(a==Q7)=Nl->w=.ref b->(PU (PH W.prog W.w)).room A.in1->(PU (PH W.prog W.w)).is s.heap kx b->s.heap.DictOfH (PU (PH W.prog W.w)) a xs->Q (((RW xs kx).map (·.2)).getD zv) {s with toks:=s.toks+(PU (PH W.prog W.w)).draws kx}->bY W A a zv Q w s
theorem wB(L:A.units+66<Sj)(H:Hs W B as st s.heap){x y x' z d:D}{a:NF}{w K:No}(M:Rv W B as x (.ref a))(G:Rv W B as y w)(I:Rv W B as z K)(hx:jB st x=Nk x')(b:vq x' y z=Nk d){Q:No->Np->Prop}(h:∀r t,Rv W B as d r->Q r {s with toks:=t}):bY W A a K Q w s:=by
 have S:=u1 H M hx;have F:∀a o,B a=Nk o->s.heap.get? a=Nk o:=λa o e=>(H.base a o e).1;induction x' using D.casesOn with
 |ap l=>refine Le b λf q b=>?_;(refine sI b λC=>?_;subst C);cases S with|mk i j p g=>exact .v f _ (kg j.1) (np G q) (lN i p).mapOf (h _ _ ((RvK.at f g).getD I))
 |ak l=>
  refine I7 b λf q b=>?_;(refine sI b λC=>?_;subst C);have J:=nl G q;cases S with|mk i j p g=>
   have c:∃u,w=.ref u:=by induction J using bc.casesOn;exact⟨_,rfl⟩
   (refine c.elim λu E=>?_;try clear c;subst E);exact .t u f _ (kg j.1) rfl (Qj (N6 (Oe (by decide) _) L)) (J.is F) (k8 F i p g) (h _ _ ((RvT.at f g).getD I))
 |_=>exact nS b
theorem E4{d:NF}{x:Sem No}{pos:Pos}{Q:No->Np->Prop}(h:NL (NT W.prog W.w) A x (bY W A d .none Q) Er s):NL (NT W.prog W.w) A (RD pos (.builtin "dict.get") [.ref d] [(Nl,x)] []) Q Er s:=method1_meetsIn Qg To (NR h (λo _ g=>by induction g using bY.casesOn with|v k f i b c j=>exact⟨c.typeIs,Te _ _,_,meets_dict_get _ d b i,f,c,j⟩|t a k p i e l b c j=>subst e;exact⟨c.typeIs,Te _ _,_,meetsH_dict_get _ d a i,l,k,p,b,c,j⟩) λ_ _ e=>e)
theorem E3{d:NF}{x y:Sem No}{pos:Pos}{Q:No->Np->Prop}(h:NL (NT W.prog W.w) A x (λl o=>NL (NT W.prog W.w) A y (λb p=>bY W A d b Q l p) Er o) Er s):NL (NT W.prog W.w) A (RD pos (.builtin "dict.get") [.ref d] [(Nl,x),(Nl,y)] []) Q Er s:=Wn Qg To (NR h (λl _ i=>NR i (λb _ j=>by induction j using bY.casesOn with|v k f q c g r=>exact⟨g.typeIs,Td _ _ _,_,meets_dict_get_default _ d c q b,f,g,r⟩|t a k z q e u c g r=>subst e;exact⟨g.typeIs,Td _ _ _,_,meetsH_dict_get_default _ d a q b,u,k,z,c,g,r⟩) λ_ _ e=>e) λ_ _ e=>e)
theorem D4{o a:E}{g l:Expr}{p q:Pos}(hn:iP g=Nm)(u:(p.endLine==q.line)=Nm)(hs:∀y p,l≠.Starred y p)(ho:af W T O n k o g)(ha:af W T O n k a l):af W T O n k (.cQ o a) (.Call (.Attribute g "get" p) [l] [] q):=by refine .aE (λA env m B as st s q Er R F S H b=>?_);refine jm b λx M Z b=>mQ b λK b=>jm b λy N h2 b=>ml b λx' hx b=>pH (G:=ng W A env _ B as st s Er) b λz hz=>?_;refine Qm (m9 hn _ _ _) u (nb hs _ _) (ho.val.use R F S H Z λP I X U C w d i=>zF d i K λc oc e L J=>?_);subst e;refine oT Qg Tz L J (E4 (ha.val.use R w S d h2 λv j Y V h Q f D=>?_));exact wB R.eY f (i.mono W h.ext) D .none hx hz λr t rr=>⟨v,j,(C.trans h).trans (ai.tok f t),rr⟩
theorem D0{o a b:E}{g l r:Expr}{p q:Pos}(hn:iP g=Nm)(C:(p.endLine==q.line)=Nm)(hs:∀y p,l≠.Starred y p)(Y:∀y p,r≠.Starred y p)(ho:af W T O n k o g)(ha:af W T O n k a l)(hb:af W T O n k b r):af W T O n k (.aH o a b) (.Call (.Attribute g "get" p) [l,r] [] q):=by refine .aE (λA env m B as st s q Er R F V H f=>?_);refine jm f λx Z h1 f=>mQ f λU f=>jm f λy a0 h2 f=>jm f λz a1 h3 f=>ml f λx' hx f=>pH (G:=ng W A env _ B as st s Er) f λw hz=>?_;refine UO (m9 hn _ _ _) C (vP hs Y _ _) (ho.val.use R F V H h1 λa2 P a8 a5 L I h u=>zF h u U λc oc e X S=>?_);subst e;refine oT Qg Tz X S (E3 (ha.val.use R I V h h2 λa3 Q a9 a6 j J K M=>hb.val.use R J V K h3 λD v b0 a7 d a4 i N=>?_));exact wB R.eY i (u.mono W (j.ext.trans d.ext)) (M.mono W d.ext) N hx hz λr t rr=>⟨D,v,((L.trans j).trans d).trans (ai.tok i t),rr⟩
theorem Cu(H:Hs W B as st s.heap){x:D}{v:No}{b:Bool}(r:Rv W B as x v)(hx:LF x=Nk b){Q:No->Np->Prop}(q:∀t,Q (.bool b) {s with toks:=t}):NL (NT W.prog W.w) A (Wg (.builtin "isinstance") [v,.type "bool"]) Q Er s:=by
 induction x using D.casesOn with
 |none=>(refine sI hx λd=>?_;subst d);subst r;exact IsiPair.NoneType_bool (q _)|bool=>(refine sI hx λd=>?_;subst d);subst r;exact IsiPair.bool_bool (q _)|int=>(refine sI hx λd=>?_;subst d);induction r using aG.casesOn;exact IsiPair.int_bool (q _)
 |str=>(refine sI hx λd=>?_;subst d);induction r using cK.casesOn;exact IsiPair.str_bool (q _)
 |tup=>(refine sI hx λd=>?_;subst d);induction r using aA.casesOn with|mk a=>exact IsiPair.tuple_bool (H.base _ _ a).1 rfl (q _)
 |ae=>(refine sI hx λd=>?_;subst d);induction r using aA.casesOn with|mk a=>exact IsiPair.list_bool (H.base _ _ a).1 rfl (q _)
 |ap=>(refine sI hx λd=>?_;subst d);induction r using bT.casesOn with|mk a b c=>exact Ur (H.base _ _ a).1 (k6 c) (q _)
 |ak=>(refine sI hx λd=>?_;subst d);induction r using cb.casesOn with|mk a b c=>exact Ur (H.base _ _ a).1 (sT c) (q _)
 |_=>exact nS hx
theorem GH(L:aW W T){a:E}{l:Expr}{p J pos:Pos}(hs:∀y p,l≠.Starred y p)(r:k "isinstance"=Nk .globalImplicit)(h:k "bool"=Nk .globalImplicit)(D:af W T O n k a l):af W T O n k (.dH a) (.Call (.Name "isinstance" p) [l,.Name "bool" J] [] pos):=by refine .aE (λA env m B as st s q Er R F o H j=>?_);refine jm j λx u C j=>pH (G:=ng W A env _ B as st s Er) j λb I=>?_;refine jM (v:=.builtin "isinstance") L F H ((o _).trans r) (by decide) ?_;refine rG (vP hs (λ_ _=>Expr.noConfusion) _ _) ?_;refine TM rfl (Qu (Pj (D.val.use R F o H C λe d z w g f c i=>Pj (ny (v:=.type "bool") L f c ((o _).trans h) (by decide) (QU ?_)))));exact Cu c i I λt=>⟨e,d,g.trans (ai.tok c t),.bool _⟩
theorem DW(L:aW W T){a b:E}{l r:Expr}{p pos:Pos}(hs:∀y p,l≠.Starred y p)(I:∀y p,r≠.Starred y p)(D:k "max"=Nk .globalImplicit)(Y:af W T O n k a l)(hb:af W T O n k b r):af W T O n k (.max2 a b) (.Call (.Name "max" p) [l,r] [] pos):=by refine .aE (λA env m B as st s q Er R F C H t=>?_);refine Fr t λi J V t=>Fr t λj K X t=>on (G:=ng W A env _ B as st s Er) t ?_;refine jM (v:=.builtin "max") L F H ((C _).trans D) (by decide) ?_;refine rG (vP hs I _ _) ?_;refine TM rfl (Qu (Pj (Y.val.use R F C H V λM z Q P h e f u=>Pj (hb.val.use R e C f X λd c S x o N g w=>QU ?_))));induction u using aG.casesOn;induction w using aG.casesOn;refine max_two_ints R.handled λU tk Z=>⟨d,c,(h.trans o).trans (ai.aD (s':={x with heap:=U,toks:=tk}) g rfl Z),?_⟩;show Rv W d c (.int (if j>i then j else i)) _;split<;>exact .int _ _
theorem zH{B:gU}{as:gH}{l:List D}:∀{vs:List No}{ns:List Int},RvL W B as l vs->mu l=Nk ns->TY vs ns:=by
 induction l with
 |nil=>intro vs ns r e;subst r;(refine sI e λf=>?_;subst f);exact .nil|cons d l c=>
 intro vs ns r e;induction r using aT.casesOn with|mk a b=>
  induction d using D.casesOn with
  |int i=>induction a using aG.casesOn;exact pH (G:=λns=>TY _ ns) e λr h=>.cons _ _ (c b h)
  |_=>exact nS e
theorem yA{B:gU}{as:gH}{vs:List No}{ns:List Int}(h:TY vs ns):RvL W B as (ns.map .int) vs:=by induction h with|nil=>exact .nil|cons n t _ a=>exact .cons (.int n t) a
theorem Cb:∀(a:Int)(l:List Int)(M:Int),M∈a::l->(∀x∈a::l,x<=M)->vf a l=M
 |a,[],M,hm,_=>by simp at hm;subst hm;rfl|a,b::r,M,hm,hx=>by
  rw[zs];have ha:=hx a (by simp);have hb:=hx b (by simp);apply Cb;rcases Nz.mp hm with rfl|hm
  refine rG (if_neg (by lia)) ?_;simp;rcases Nz.mp hm with rfl|hm
  by_cases q:a<M;refine rG (if_pos q) ?_;simp;refine rG (if_neg q) (rG (show a=M by lia) ?_);simp;exact Ux _ hm;intro x hx';rcases Nz.mp hx' with rfl|hx'
  split<;>omega;exact hx x (by simp[hx'])
theorem DX(L:aW W T){a:E}{l:Expr}{p pos:Pos}(hs:∀y p,l≠.Starred y p)(I:k "max"=Nk .globalImplicit)(ha:af W T O n k a l):af W T O n k (.cM a) (.Call (.Name "max" p) [l] [] pos):=by
 refine .aE (λA env m B as st s q Er R F X H o=>?_);refine jm o λx K h1 o=>Mi o λll C o=>pH (G:=ng W A env _ B as st s Er) o λz D=>ml D λis hi D=>?_;induction is using NA with
 |nil=>exact nS D|cons i r=>
 (refine sI D λq0=>?_;subst q0);refine jM (v:=.builtin "max") L F H ((X _).trans I) (by decide) ?_;refine rG (nb hs _ _) ?_;refine callWith_builtin1 (ha.val.use R F X H h1 λg c Y w h Q b u=>?_);cases u1 b u C with|@mk a vs nn Z g2 g3=>
  have U:=zH g3 hi;(refine U.allInts.items.elim λf e=>?_);have d:(i::r)=f.toList.map (·.1):=by exact rL U.numsOf (rL (nums_intItems _) (rL e rfl))
  have J:0<f.size:=by have S:0<(i::r).length:=Nat.succ_pos _;rw[d,Nu,Oo]at S;exact S
  refine max_intList R.handled (l:=a) (xs:=f) ⟨_,Z,rfl,_,by exact rG (show vs=intItems f from e) rfl⟩ J λv h' tk hv kp=>?_;(refine(intItems_at hv).elim λt M=>?_;subst M);(refine(argBest_gt (numAt f) (f.size-1)).elim λq1 q2=>?_);refine⟨g,c,h.trans (ai.aD (s':={w with heap:=h',toks:=tk}) b rfl kp),?_⟩;rw[Cb i r _ ?_ ?_];exact .int _ _;refine rG d (rG (numAt_eq _ _) ?_);exact getD_mem (by refine rG (Nu _) (rG Oo ?_);omega);intro x C;rw[d]at C;(refine(mem_getD C).elim λj N=>N.elim λV P=>?_;subst P);rw[Nu,Oo]at V;refine rL (numAt_eq _ _) ?_;exact q2 j (RV V)
theorem yh{ns d:List Int}(g:d.Perm ns)(h:d.Pairwise (· <= ·)):d=kb ns:=by refine QJ (le:=(· <= ·)) (λa b _ _ e f=>Ta e f) h ?_ (g.trans (RZ ns _).symm);simpa[kb]using(TP (le:=λa b:Int=>decide (a<=b)) (by intro a b c;simp;lia) (by intro a b;simp;lia) ns)
theorem Aq(L:aW W T){ag:Bool}{a:E}{l:Expr}{p pos:Pos}(hs:∀y p,l≠.Starred y p)(t:k "sorted"=Nk .globalImplicit)(Q:af W T O n k a l):af W T O n k (.sorted ag a) (.Call (.Name "sorted" p) [l] [] pos):=by refine .aE (λA env m B as st s q Er R F I H e=>?_);refine jm e λx u P e=>Mi e λll V e=>mQ e λr e=>pH (G:=ng W A env _ B as st s Er) e λns S=>?_;refine jM (v:=.builtin "sorted") L F H ((I _).trans t) (by decide) ?_;refine rG (nb hs _ _) ?_;refine callWith_builtin1 (Q.val.use R F I H P λz i K c f C d h=>?_);cases u1 d h V with|@mk a w X M N j=>have D:=zH j S;refine sorted_ints (l:=a) (vs:=w.toList) ⟨_,M,rfl,X,rfl⟩ D (by refine rL j.length ?_;exact r) λg Y Z J q3=>?_;(refine(sortedAll_at c.heap w.toList g).elim λee U=>?_);refine rL (yh J q3) ?_;refine rE (az:={c with heap:=sortedAll c.heap w.toList g}) f rfl (λb o q=>sortedAll_old q) (im (OZ _)) (NN d.low (OZ _)) U ag ?_ (yA Z);refine rG (Nu _) (rG J.length_eq (rL D.length (rL j.length ?_)));exact N
end
theorem oG{a k:Key}{b v:No}{vs:List (Key×No)}(c:(((a,b)::vs).map (·.1)).Nodup):RN ((a,b)::vs) k v=if k=a then(a,v)::vs else(a,b)::RN vs k v:=by rw[Ny,NZ]at c;by_cases h:k=a;subst h;have f:k∉vs.map (·.1):=c.1;rw[if_pos rfl];simp only[RN,Q5,decide_true,Bool.true_or,if_true,Ny];rw[map_store_of_not_mem vs k v f];rw[if_neg h];have d:¬a=k:=λe=>h e.symm;simp only[RN,Q5,d,decide_false,V0,Ny,if_false];split<;>simp
theorem RvK.store{B:gU}{as:gH}{k:Key}{d:D}{v:No}(r:Rv W B as d v){l:List (Key×D)}:∀{vs:List (Key×No)},RvK W B as l vs->(vs.map (·.1)).Nodup->RvK W B as (jv l k d) (RN vs k v):=by induction l with|nil=>intro vs h _;subst h;exact .cons r .nil|cons p l e=>intro vs h c;induction h using br.casesOn with|mk a b=>refine rG (oG c) ?_;show RvK W B as (if k=p.1 then(p.1,d)::l else p::jv l k d) _;by_cases h:k=p.1;refine rG (if_pos h) (rG (if_pos h) ?_);exact .cons r b;refine rG (if_neg h) (rG (if_neg h) ?_);exact .cons a (e b (NZ.mp c).2)
theorem rg{k:Key}{v:No}:∀{vs:List (Key×No)},(vs.map (·.1)).Nodup->((RN vs k v).map (·.1)).Nodup:=by intro vs f;unfold RN;split;refine rG (keys_map_store _ _ _) ?_;exact f;rename_i h;simp only[Rd,decide_eq_true_eq,not_exists,not_and]at h;rw[Pq,Oj];refine⟨f,by simp,λa g b d e=>?_⟩;simp at d;subst d;subst e;(refine(Nx.mp g).elim λp j=>j.elim λi c=>?_);exact h p i c
theorem vW{b k:List Int}{c:NF×No}{a:NF}{v:No}{vs:List (List Int×NF×No)}(g:(((b,c)::vs).map (·.1)).Nodup):SS ((b,c)::vs) k a v=if k=b then(b,c.1,v)::vs else(b,c)::SS vs k a v:=by
 rw[Ny,NZ]at g;have i:∀l:List (List Int×NF×No),k∉l.map (·.1)->l.map (putAt k v)=l:=by intro l d;induction l with|nil=>rfl|cons x r j=>simp only[Ny,Nz,not_or]at d;rw[Ny,j d.2];unfold putAt;rw[if_neg (λe=>d.1 e.symm)]
 by_cases h:k=b;subst h;rw[if_pos rfl];simp only[SS,RW,Qw,decide_true,Ok,Uu,if_true,Ny];rw[i vs (g.1)];simp[putAt];rw[if_neg h];have f:¬b=k:=λe=>h e.symm;unfold SS;rw[(by simp[RW,Qw,f]:RW ((b,c)::vs) k=RW vs k)];cases q:(RW vs k).isSome;rfl;simp[putAt,f]
theorem RvT.store{B:gU}{as:gH}{k:List Int}{d:D}{v:No}{a:NF}{c:Array No}{o:Nat}(f:B a=Nk (uT c o))(i:k.length<=cap)(g:QF (PH W.prog W.w) k c.toList)(r:Rv W B as d v){l:List (List Int×D)}:∀{vs:List (List Int×NF×No)},RvT W B as l vs->(vs.map (·.1)).Nodup->RvT W B as (jv l k d) (SS vs k a v):=by induction l with|nil=>intro vs h _;subst h;exact .cons f i g r .nil|cons p l j=>intro vs h e;induction h using cu.casesOn with|mk x y z q b=>refine rG (vW e) ?_;show RvT W B as (if k=p.1 then(p.1,d)::l else p::jv l k d) _;by_cases h:k=p.1;refine rG (if_pos h) (rG (if_pos h) ?_);exact .cons x y z r b;refine rG (if_neg h) (rG (if_neg h) ?_);exact .cons x y z q (j b (NZ.mp e).2)
theorem na{K:Type}[DecidableEq K]{a:Type}(k:K)(d:a)(l:List (K×a)):(jv l k d).length<=l.length+1:=by induction l with|nil=>exact N4 _|cons p r b=>show(if k=p.1 then(p.1,d)::r else p::jv r k d).length<=_;split;exact OZ _;exact Pk b
section
variable{T:Tab}{O:aN}{n:Nat}{k:gS}{A:Ob}{env:Env}{m:Loc}{B:gU}{as:gH}{st:am}{s:Np}{Er:No->Np->Prop}
inductive bD(W:Wd)(T:Tab)(O:aN)(n:Nat)(k:gS):dF->List (Option Expr)->List Expr->Prop|nil:bD W T O n k .nil [] []|cons {a b r x y ks vs}:af W T O n k a x->af W T O n k b y->bD W T O n k r ks vs->bD W T O n k (.cons a b r) (Nk x::ks) (y::vs)
inductive cT(W:Wd)(B:gU)(as:gH)(st:am)(s:Np)(acc l:List (Key×D))(st':am)(m:Nat)(vs:List (No×No))(s':Np):Prop|mk (B' as' kvs):ai W [] B as st s B' as' st' s'->Carries (kk W.prog W.w) vs kvs->(∀acc',RvK W B' as' acc acc'->(acc'.map (·.1)).Nodup->RvK W B' as' l (merged acc' kvs))->vs.length=m->cT W B as st s acc l st' m vs s'
def Ji(W:Wd)(T:Tab)(O:aN)(n:Nat)(k:gS)(pos:Pos)(b:dF)(c:List (Option Expr))(vs:List Expr):Prop:=∀(A:Ob)(env:Env)(m:Loc)(B:gU)(as:gH)(st:am)(s:Np)(a l:List (Key×D))(st':am)(Er:No->Np->Prop),aF A n->Frame W env m B as st s.heap->(∀y,env.kindOf y=k y)->Hs W B as st s.heap->evKV T O b m st a=Nk (l,st')->NL (NT W.prog W.w) A (evalPairs (pairTrees c vs env pos)) (cT W B as st s a l st' c.length) Er s
theorem yp{pos:Pos}{b:dF}{U:List (Option Expr)}{vs:List Expr}(h:bD W T O n k b U vs):Ji W T O n k pos b U vs:=by induction h with|nil=>intro A env m B as st s L l I Er R F K H a;(refine spI a λq0 q1=>?_;subst q0;subst q1);exact evalPairs_nil ⟨B,as,[],ai.refl H,trivial,λf h _=>h,rfl⟩|cons ha hb X ih=>intro A env m B as st s L l I Er R F K H a;refine jm a λx P h1 a=>jm a λd o h2 a=>Le a λV N a=>mQ a λhc a=>?_;refine evalPairs_cons (ha.val.use R F K H h1 λQ M a0 Y w r u E=>Nn (hb.val.use R r K u h2 λp i g J y t v G=>Nn (OB (Nt ?_))));refine NR (ih A env m p i o J _ l I Er R t K v a) (λvs Z h=>?_) λ_ _ e=>e;induction h using cT.casesOn with|mk q j b c z D C=>exact⟨q,j,(V,g)::b,(w.trans y).trans c,⟨np E N,rfl,z⟩,λf ra S=>D (RN f V g) (RvK.store (G.mono W c.ext) ra S) (rg S),congrArg Pd C⟩
theorem uX{b:dF}{a:List (Option Expr)}{vs:List Expr}(h:bD W T O n k b a vs):a.all (·.isSome)=Nm/\a.length=vs.length:=by induction h with|nil=>exact⟨rfl,rfl⟩|cons _ _ _ c=>exact⟨c.1,congrArg Pd c.2⟩
theorem tj:∀(f:dF){m:Loc}{st:am}{e l:List (Key×D)}{st':am},e.length<=cap->evKV T O f m st e=Nk (l,st')->l.length<=cap|.nil=>λi c=>by(refine spI c λq t=>?_;subst q;subst t);exact i|.cons a b r=>λi c=>jm c λx g u c=>jm c λd h v c=>Le c λp o c=>mQ c λj c=>tj r (NN (na p d _) j) c
termination_by structural x=>x
theorem jE{c:Type}{a b:c}{G:c->Prop}(h:b∈[a])(k:G a):G b:=NC.mp h▸k
theorem v9{X:List NF}{e d aa}{f:Np}(S:ai W X B as st s e d aa f)(i:∀a∈X,s.heap.get? a=Nq){a:NF}{o:Obj}{g:List (Key×No)}(j:s.heap.get? a=Nq)(h:ar W e d aa f.heap a)(u:f.heap.get? a=Nk o)(q:o.IsDictOf (kk W.prog W.w) g)(ag:Bool){l:List (Key×D)}(t:l.length<=cap)(r:RvK W e d l g):aQ W B as st s (cond ag (D.ag aa.length,aa++[ao.ap l]) (.ap l,aa)).1 (cond ag (D.ag aa.length,aa++[ao.ap l]) (.ap l,aa)).2 (.ref a) f:=by induction ag using Nw with|true=>exact⟨e,d++[(a,a)],S.adopt i (p:=(a,a)) (c:=.ap l) (λb v=>jE (G:=λb=>s.heap.get? b=Nq/\ar W e d aa f.heap b) v ⟨j,h⟩) (OO _ _) ⟨o,g,u,t,q,r.mono W (nR _)⟩,.ag (lV S.hs (a,a))⟩|false=>exact⟨_,d,S.dn i j h u,.ap (js _ _ _) ⟨h.bB,t⟩ q (r.mono W (jO h.base))⟩
noncomputable abbrev ul:Obj:={cls:=.type "dict",data:=.dict #[]}
theorem sK{a w}:ul.IsDictOf (kk a w) []:=⟨#[],0,⟨rfl,rfl,rfl⟩,rfl,(λ_ b=>by simp at b),Pairs.nil,PX⟩
theorem Ea{ag:Bool}{t:dF}{z:List (Option Expr)}{vs:List Expr}{pos:Pos}(v:z.length<=15)(h:bD W T O n k t z vs):af W T O n k (.dict ag t) (.Dict z vs pos):=by
 refine .aE (λA env m B as st s q Er R F Z H I=>jm I λl c E I=>on (G:=ng W A env _ B as st s Er) I ?_);have P:=tj t (NX _) E;have L:ar W B as st (s.heap.push ul) s.heap.objs.size:=ar.dh H _ (by decide);have M:(s.heap.push ul).get? s.heap.objs.size=Nk ul:=NP _ rfl;have D:ai W [] B as st s B as st {s with heap:=s.heap.push ul}:=ai.push H _ s.toks;induction z using NA with
 |nil=>cases h with|nil=>(refine spI E λK q1=>?_;subst K;subst q1);exact Wf (v9 D (λa w=>iM w) (gT _) L M sK ag P .nil)
 |cons k0 z=>
 have S:=uX h;refine wpAny_Dict_any S.1 S.2 (List.cons_ne_nil _ _) v ?_;refine NR (yp h A env m B as st _ [] l c Er R (F.step D λ_ _ h=>iM h) Z D.hs E) (λU f h=>?_) λ_ _ e=>e;induction h using cT.casesOn with|mk g d r i p C y=>
  have u:=L.step i M (λh=>iM h);have j:([]:List (Key×No)).length+r.length<=PT:=by refine rG O8 (rG (Oz _) (rG (Carries.length p) (rG y ?_)));exact NN v (by decide)
  refine wpAny_storeAll U r [] f _ p (Ru.mpr ⟨_,u.2,sK⟩) j λN hm J=>?_;(refine(Ru.mp hm).elim λo z2=>z2.elim λQ x=>?_);have X:ai W [s.heap.objs.size] g d c f g d c {f with heap:=N,toks:=f.toks+U.length}:=ai.other (i.hs) rfl (λa w=>jE (G:=λa=>ar W g d c f.heap a) w u.1) (λb o e Y=>(J.2 b λq=>Y (by refine rG q ?_;exact .head _)).trans e);have V:ar W g d c N s.heap.objs.size:=⟨u.1.foot,u.1.base,u.1.bB,λo' e q=>by(refine sI (Q.symm.trans e) λK=>?_;subst K);exact absurd ((k6 x).symm.trans q.1) (by decide)⟩;exact v9 (((D.trans i).weaken λa h=>iM h).trans X) (λa w=>jE (G:=λa=>s.heap.get? a=Nq) w (gT _)) (gT _) V Q x ag P (C [] .nil PX)
theorem BC{pos:Pos}:af W T O n k .bJ (.Dict [] [] pos):=by refine .aE (λA env m B as st s q Er R F g H f=>on (G:=ng W A env _ B as st s Er) f (Wf ?_));exact⟨B,_,(ai.push H _ s.toks).adopt (λa d=>iM d) (p:=(s.heap.objs.size,s.heap.objs.size)) (c:=.ak []) (λb e=>jE (G:=λb=>s.heap.get? b=Nq/\ar W B as st (s.heap.push ul) b) e ⟨gT _,(ar.dh H _ (by decide))⟩) (OO _ _) ⟨_,[],NP _ rfl,NX _,⟨#[],0,⟨rfl,rfl,rfl⟩,rfl,rfl,PX⟩,.nil⟩,.ag (lV H _)⟩
end
def CallPost(Q:No->Np->Prop):Tm->Np->Prop:=λr a=>match r with|.ok (.ret v)=>Q v a|_=>False
theorem Dc{A:Ob}{s:Np}{f:No}{vs:List No}{Q:No->Np->Prop}{Er:No->Np->Prop}(h:P0 (NT W.prog W.w) A (.call f ⟨vs,[]⟩) (CallPost Q) s):NL (NT W.prog W.w) A (Wg f vs []) Q Er s:=wpAny_call (SV h λr a q=>by rcases r with e|(v|_|_|_)<;>first|exact q|exact q.elim)
inductive dY(W:Wd)(s:Np)(B':gU)(r:D)(v:No)(s':Np):Prop|mk (a vs nn l):v=.ref a->r=.ae l->l.length<=cap->l.all D.scalar=Nm->s.heap.get? a=Nq->W.n1<=a->B' a=Nq->s'.heap.get? a=Nk (jd vs nn)->RvL W B' [] l vs.toList->dY W s B' r v s'
inductive bP(W:Wd)(B:gU)(s:Np)(r:D)(Sh:Bool)(v:No)(s':Np):Prop|mk (B'):ai W [] B [] [] s B' [] [] s'->(Sh=Nl->Rv W B' [] r v)->(Sh=Nm->dY W s B' r v s')->bP W B s r Sh v s'
structure aB(W:Wd)(O:aN)(n:Nat):Prop where
 S:∀f ds st d st',O.S f ds st=Nk (d,st')->∀A B as(s:Np)vs,aF A n->Hs W B as st s.heap->RvL W B as ds vs->
  codeAny (NT W.prog W.w) A (.call (.ref (W.fa f)) ⟨vs,[]⟩) (CallPost (aQ W B as st s d st')) s
 F:∀f ds r Sh,O.F f ds=Nk (r,Sh)->∀A B(s:Np)vs,aF A n->Hs W B [] [] s.heap->RvL W B [] ds vs->
  codeAny (NT W.prog W.w) A (.call (.ref (W.fa f)) ⟨vs,[]⟩) (CallPost (bP W B s r Sh)) s
theorem aB.more{O:aN}{n j:Nat}(h:aB W O n)(i:n<=j):aB W O j:=⟨λf b st d c e A B as s g R=>h.S f b st d c e A B as s g (R.less i),λf b r a e A B s g R=>h.F f b r a e A B s g (R.less i)⟩
theorem sZ{B as st h}(H:Hs W B as st h):∀b∈iU as st,∀o,h.get? b=Nk o->o.cls≠.type "tuple":=λb a o c=>(H.cls a c).ne (by decide)
open Classical in
noncomputable def sM(B:gU)(l:List NF):gU:=λa=>if a∈l then Nq else B a
theorem ai.back{B as st}{s s':Np}(H:Hs W B as st s.heap){g d:gU}(hf:∀a o,B a=Nk o->g a=Nk o)(r:∀a o,g a=Nk o->a∉iU as st->B a=Nk o)(x:ai W [] g [] [] s d [] [] s'):ai W [] B as st s (sM d (iU as st)) as st s':=by
 have j:bS B as (sM d (iU as st)) as:=⟨λa o e=>by unfold sM;refine rG (if_neg (λq=>by rw[(H.off a q).1]at e;exact nS e)) ?_;exact x.ext.base a o (hf a o e),λ_ _ e=>e⟩;refine⟨x.rest,x.live,λb o e f l u=>x.keep b o e f (λq=>iM q) (λq=>iM q),j,λa o e=>?_,λa h=>.inl h,⟨x.hs.aK,λa o e=>?_,λa o e=>j.base a o (H.b0 a o e),H.len,λi c p f l=>((H.cell i c p f l).keep λa t o e=>?_).mono j,λa h=>⟨?_,(H.off a h).2.1,let⟨o,e⟩:=(H.off a h).2.2;x.live a o e (λq=>iM q)⟩,H.nodup⟩⟩;unfold sM at e;split at e;exact nS e;rename_i q;rcases x.cv a o e with z|z|z
 exact .inl (r a o z q);exact .inr (.inl z);exact iM z;unfold sM at e;split at e;exact nS e;exact x.hs.base a o e;exact x.keep a o e (λq=>absurd W.cX (by refine rL q ?_;exact Pa.mpr (H.off a (H.aR f l t)).2.1)) (λq=>iM q) (λq=>iM q);unfold sM;exact rG (if_pos h) rfl
theorem v4{B b:gU}{as a:gH}{d:D}{v:No}(r:Rv W B as d v)(h:d.scalar=Nm):Rv W b a d v:=by induction d using D.casesOn<;>first|exact r|exact fT h
theorem pQ{B e:gU}{as c:gH}{l:List D}:∀{vs:List No},RvL W B as l vs->l.all D.scalar=Nm->RvL W e c l vs:=by induction l with|nil=>intro vs r _;exact r|cons d l i=>intro vs r h;induction r using aT.casesOn with|mk a b=>exact db h λf g=>.cons (v4 a f) (i b g)
theorem sh{B as st h}(H:Hs W B as st h){ds:List D}:∀{ds':List D}{vs:List No},RvL W B as ds vs->ol st ds=Nk ds'->RvL W (pD B as st h) [] ds' vs:=by induction ds with|nil=>intro ds' vs r e;(refine sI e λi=>?_;subst i);exact r|cons d l g=>intro ds' vs r e;induction r using aT.casesOn with|mk a b=>exact obI e λx y c f q=>q▸.cons (nY H a c) (g b f)
theorem yk{st:am}{ds:List D}:∀{ds':List D},ds.all D.plain=Nm->ol st ds=Nk ds'->ds'=ds:=by induction ds with|nil=>intro ds' _ e;exact(NE e).symm|cons d r g=>intro ds' h e;exact obI e λx y a f q=>db h λb c=>by refine rL q (rG (g c f) ?_);unfold tQ at a;rw[if_pos b]at a;(refine sI a λi=>?_;subst i);rfl
theorem AY{ds:List D}:ds.all D.plain=Nm->D.ax ds=Nm:=by induction ds with|nil=>exact λ_=>rfl|cons d r c=>exact λh=>db h λa b=>NH.mpr ⟨a,c b⟩
theorem Hs.bare{B as st h}(H:Hs W B as st h):Hs W B [] [] h:=⟨H.aK,H.base,H.b0,rfl,(λi c p b _=>nS b),(λa q=>iM q),PX⟩
theorem BN{B as st}{s:Np}{X:List NF}{e d aa}{f:Np}(S:ai W X B as st s e d aa f)(h:∀a∈X,s.heap.get? a=Nq){a:NF}{vs:Array No}{q:Nat}(i:s.heap.get? a=Nq)(g:ar W e d aa f.heap a)(o:f.heap.get? a=Nk (jd vs q))(ag:Bool){l:List D}(j:l.length<=cap)(r:RvL W e d l vs.toList):aQ W B as st s (mk ag l aa).1 (mk ag l aa).2 (.ref a) f:=by induction ag using Nw with|true=>exact⟨e,d++[(a,a)],S.adopt h (p:=(a,a)) (c:=.ae l) (λb t=>jE (G:=λb=>s.heap.get? b=Nq/\ar W e d aa f.heap b) t ⟨i,g⟩) (OO _ _) ⟨vs,q,o,j,r.mono W (nR _)⟩,.ag (lV S.hs (a,a))⟩|false=>exact⟨_,d,S.dn h i g o,.ae (js _ _ _) j (r.mono W (jO g.base))⟩
section
variable{O:aN}{n:Nat}{A:Ob}{B:gU}{as:gH}{st:am}{s:Np}
theorem CallPost.imp{P Q:No->Np->Prop}(h:∀v s',P v s'->Q v s'){r:Tm}{s':Np}(q:CallPost P r s'):CallPost Q r s':=by rcases r with e|(v|_|_|_)<;>first|exact h _ _ q|exact q.elim
theorem lX{P Q:No->Np->Prop}{c:Code}(h:∀v s',P v s'->Q v s')(x:P0 (NT W.prog W.w) A c (CallPost P) s):P0 (NT W.prog W.w) A c (CallPost Q) s:=SV x λ_ _ q=>q.imp h
theorem rH{B:gU}{l:List NF}{a:NF}(h:a∉l):sM B l a=B a:=if_neg h
theorem ug(E:aB W O n)(R:aF A n)(H:Hs W B as st s.heap){ag:Bool}{f:Nat}{ds:List D}{q:D×am}{vs:List No}(j:rD O ag f ds st=Nk q)(r:RvL W B as ds vs):P0 (NT W.prog W.w) A (.call (.ref (W.fa f)) ⟨vs,[]⟩) (CallPost (aQ W B as st s q.1 q.2)) s:=by
 refine ml j λd L j=>ml j λp I j=>mQ j λu j=>?_;obtain⟨z,g⟩:=p;refine on (G:=λq=>P0 (NT W.prog W.w) A (.call (.ref (W.fa f)) ⟨vs,[]⟩) (CallPost (aQ W B as st s q.1 q.2)) s) j ?_;have b:∀a,s.heap.get? a=Nq->a∉iU as st:=λa e q=>by(refine((H.off a q).2.2).elim λo Q=>?_);rw[e]at Q;exact nS Q
 have c:∀a o,pD B as st s.heap a=Nk o->a∉iU as st->B a=Nk o:=λa o e q=>(if_neg q).symm.trans e;induction g using Nw with
 |true=>refine lX (λv X P=>?_) (E.F f d z Nm I A _ s vs R (rP H) (sh H r L));induction P using bP.casesOn with|mk N x _ J=>cases J rfl with|mk a ws nn l Y Z h1 h2 C h4 h5 U h7=>subst Y;subst Z;exact BN (ai.back H (λa o=>ly H) c x) (λa h=>iM h) C ⟨b a C,(rH (b a C)).trans h5,h4,λo e q=>by(refine sI (U.symm.trans e) λM=>?_;subst M);exact absurd q.1 (by show ¬No.type "list"=No.type "code";decide)⟩ U ag h1 (pQ h7 h2)
 |false=>
 by_cases K:ds.all D.plain=Nm;have:=yk K L;subst this;refine lX (λv X P=>?_) (E.F f d z Nl I A B s vs R H.bare (RvL.bare (λ_ _ e=>e) r (AY K)));induction P using bP.casesOn with|mk N x t _=>
  refine⟨_,as,ai.back H (λa o e=>e) (λa o e _=>e) x,(t rfl).mono W ⟨λa o e=>(rH λz=>?_).trans e,λi p e=>nS (QY.symm.trans e)⟩⟩;rcases x.cv a o e with y|y|y
  rw[(H.off a z).1]at y;exact nS y;exact b a y z;exact iM y
 refine lX (λv X P=>?_) (E.F f d z Nl I A _ s vs R (rP H) (sh H r L));induction P using bP.casesOn with|mk N x t _=>
  refine⟨_,as,ai.back H (λa o=>ly H) c x,?_⟩;have V:=t rfl;have u:z.flat=Nm:=by rw[(Bool.eq_false_iff.mpr K)]at u;exact u
  induction z using D.casesOn with
  |tup l=>induction V using aA.casesOn with|mk S g2 g3=>refine Rv.tup ((rH λz=>?_).trans S) g2 (pQ g3 u);(refine((H.off _ z).2.2).elim λo e=>?_);(refine sI ((x.keep _ o e (λq=>absurd W.cX (by refine rL q ?_;exact Pa.mpr (H.off _ z).2.1)) (λq=>iM q) (λq=>iM q)).symm.trans (x.hs.base _ _ S).1) λM=>?_;subst M);exact sZ H _ z _ e rfl
  |_=>exact v4 V u
theorem oA{f:No}{M:UR}{Er:No->Np->Prop}{Q:Args->Np->Prop}:∀{a:List (Bool×Sem No)},a.any (·.1)=Nl->NL M A (spliced a) (λc b=>Q ⟨c,[]⟩ b) Er s->NL M A (evalArgs f Nm a []) Q Er s|[],_,h=>by unfold evalArgs;show NL M A (spliced []>>=_) Q Er s;refine Nn (NR h (λc b d=>?_) λ_ _ x=>x);refine N7 ?_;exact Nn (Nt (Nn (Nt (Nt d))))|(Nl,x)::rest,_,h=>Qu h|(Nm,x)::rest,ht,_=>by simp at ht
theorem lB:∀{xs:List Expr},(∀x∈xs,∀y p,x≠.Starred y p)->∀(pos:Pos)(env:Env),(RO pos (PL xs env)).any (·.1)=Nl|[],_,_,_=>rfl|x::r,h,pos,env=>by have q:=lB (λy a=>h y (.tail _ a)) pos env;refine rG (jw (h x (.head _)) _ _) ?_;unfold RO at q⊢;simpa using q
end
structure FnAt(W:Wd)(f:Nat):Prop where
 at_:∃o fd,W.K.lookup (W.fa f)=Nk o/\o.data=.func fd
section
variable{T:Tab}{O:aN}{n:Nat}{k:gS}{A:Ob}{env:Env}{m:Loc}{B:gU}{as:gH}{st:am}{s:Np}{Er:No->Np->Prop}
theorem vH{f:Nat}{first:List No}{xs:List Expr}{pos c:Pos}{Q:No->Np->Prop}(hf:FnAt W f)(hs:∀x∈xs,∀y p,x≠.Starred y p){es:Es}(g:ay W T O n k es xs)(R:aF A n)(F:Frame W env m B as st s.heap)(r:∀y,env.kindOf y=k y)(H:Hs W B as st s.heap){ds:List D}{st':am}(q:evs T O es m st=Nk (ds,st'))(h:∀b a vs s',ai W [] B as st s b a st' s'->Hs W b a st' s'.heap->RvL W b a ds vs->P0 (NT W.prog W.w) A (.call (.ref (W.fa f)) ⟨first++vs,[]⟩) (CallPost Q) s'):NL (NT W.prog W.w) A (RD pos (.ref (W.fa f)) first (RO c (PL xs env)) []) Q Er s:=by(refine hf.at_.elim λo u=>u.elim λi v=>v.elim λj l=>?_);refine Calls.callWith_function (o:=o) (fd:=i) (oA (lB hs _ _) ?_);refine NR (mP g A env m B as st s ds st' Er R F r H q) (λvs s'⟨b,a,d,t⟩=>?_) λ_ _ e=>e;exact⟨⟨d.hs.aK.1 _ _ j,l⟩,Dc (h b a vs s' d d.hs t)⟩
theorem iY{es:Es}{xs:List Expr}(h:ay W T O n k es xs):∀x∈xs,∀y p,x≠.Starred y p:=by induction h with|nil=>exact λx a=>iM a|cons _ h _ b=>intro x a;cases a with|head=>exact h|tail _ a=>exact b x a
theorem Ec(L:aW W T)(t:aB W O n){ag:Bool}{f:Nat}{es:Es}{xs:List Expr}{p pos:Pos}(hf:FnAt W f)(u:W.mg (bv f)=Nk (.ref (W.fa f)))(hd:(bv f==("__debug__":Str))=Nl)(h:k (bv f)=Nk .globalImplicit)(c:ay W T O n k es xs):af W T O n k (.call ag f es) (.Call (.Name (bv f) p) xs [] pos):=by refine .aE (λA env m B as st s q Er R F l H g=>jm g λv i r g=>?_);refine RC (mN L F H ((l _).trans h) hd u ?_);exact vH hf (iY c) c R F l H r λj e w o b a d=>lX (λ_ _=>nu b) (ug t R a g d)
theorem Bz(L:aW W T)(u:aB W O n){f:Nat}{es:Es}{xs:List Expr}{p pos:Pos}(hf:FnAt W f)(v:W.mg (bv f)=Nk (.ref (W.fa f)))(hd:(bv f==("__debug__":Str))=Nl)(l:k (bv f)=Nk .globalImplicit)(g:ay W T O n k es xs):af W T O n k (.aC f es) (.Call (.Name (bv f) p) xs [] pos):=by refine .aE (λA env m B as st s q Er R F o H j=>jm j λr b t j=>?_);refine RC (mN L F H ((o _).trans l) hd v ?_);exact vH hf (iY g) g R F o H t λc a w i e d h=>lX (λ_ _=>nu e) (u.S f r b q.1 q.2 j A c a i w R d h)
end
structure cB(W:Wd)(c f g:Nat):Prop where
 ga:Qy W.K (.ref (W.ca c)) "__getattribute__"=Nk (Nk (.builtin "object.__getattribute__"))
 gk:Qy W.K (.ref (W.ca c)) "__getattr__"=Nk Nq
 fn:Qy W.K (.ref (W.ca c)) (bv f)=Nk (Nk (.ref (W.fa g)))
 ty:typeIn W.K (.ref (W.fa g))=Nk (.type "function")
 at_:FnAt W g
structure du(W:Wd)(c g:Nat):Prop where
 makes:makesIn W.K (W.ca c)=Nm
 init:Qy W.K (.ref (W.ca c)) "__init__"=Nk (Nk (.ref (W.fa g)))
 ty:typeIn W.K (.ref (W.fa g))=Nk (.type "function")
 keep:keepIn W.K (.ref (W.ca c))=Nm
 at_:FnAt W g
 name:W.mg (bv c)=Nk (.ref (W.ca c))
theorem BD{o:Obj}{a:List (Key×No)}(b:o.IsDictOf (kk W.prog W.w) a){f:Nat}(h:TU a (.s f)=Nq):shadowIn (Nk o) (bv f)=Nk Nl:=by
 refine hid λF v=>?_;(refine b.elim λg x=>x.elim λG y=>y.elim λ_ z=>z.elim λl C=>C.elim λc D=>D.elim λu _=>?_;try clear b);refine v ?_;have q:=u.find (.s f);rw[h]at q;have i:g.toList.find? (·.key.isStr (bv f))=Nq:=by
  have:(λe:OI=>e.key.isStr (bv f))=λe=>(kk W.prog W.w).is (.s f) e.key:=by funext e;cases e.key<;>rfl
  refine rG this ?_;exact(TD.mp q)
 have j:g.toList.any (·.refKey)=Nl:=by rw[Sr];intro e p;(refine(c e (by simpa using p)).elim λk E=>E.elim λb _=>?_);rcases iQ b with⟨n,t,_,d⟩|⟨n,t,_,d⟩<;>simp[Ud,d]
 have r:VU (bv f) o=Nk Nq:=by unfold VU;refine rG l ?_;dsimp only;refine rG i (rG j ?_);rfl
 show(VU (bv f) o).map (·.isSome)=_;refine rG r ?_;rfl
section
variable{T:Tab}{O:aN}{n:Nat}{k:gS}{A:Ob}{env:Env}{m:Loc}{B:gU}{as:gH}{st:am}{s:Np}{Er:No->Np->Prop}
theorem IF{xs:List Expr}(hs:∀x∈xs,∀y p,x≠.Starred y p)(c:xs.length<28)(pos:Pos)(env:Env):methodCallForm (xs.length+([]:List Va).length) (RO pos (PL xs env)) (backToKw pos (keywordEach [] env))=Nm:=by
 have q:=lB hs pos env;unfold methodCallForm;have e:(RO pos (PL xs env)).all (λx=> !x.1)=Nm:=by rw[Sr]at q;rw[ND];intro x b;simpa using(q x b)
 refine rG e ?_;have a:backToKw pos (keywordEach [] env)=[]:=rfl;refine rG a ?_;simp;lia
theorem sO{g:Expr}{name:Str}{p q:Pos}{xs:List Expr}{Q:No->Np->Prop}(t:iP g=Nm)(b:(p.endLine==q.line)=Nm)(hs:∀x∈xs,∀y p,x≠.Starred y p)(r:xs.length<28)(h:NL (NT W.prog W.w) A (Oi g env) (λi a=>∃f first,(∀u d,d (f,first) a->NL (NT W.prog W.w) A (getMethod i name u) d Er a)/\NL (NT W.prog W.w) A (RD q f first (RO q (PL xs env)) []) Q Er a) Er s):NL (NT W.prog W.w) A (Oi (.Call (.Attribute g name p) xs [] q) env) Q Er s:=by
 refine rG (arm_eval_Call _ _ _ _ _ _ _) (rG (m9 t _ _ _) ?_);refine Nn (NR h (λi a o=>w22 o λf first j l=>Nn (OB ?_)) λ_ _ e=>e);have c:methodCallPos Nm g env p q=OW q:=by unfold methodCallPos;simp[b]
 unfold methodCall;refine rG (IF hs r q env) ?_;refine Nn (N7 ?_);unfold calleeOf;refine rG (if_pos rfl) ?_;refine j _ _ ?_;exact Nn (Sd c l)
theorem un(H:Hs W B as st s.heap){x:D}{v:No}{c f g:Nat}{fs:List (Nat×D)}(t:Rv W B as x v)(hx:jB st x=Nk (.obj c fs))(a:cB W c f g)(b:(gL fs f).isNone=Nm){r:Sem Bool}{Q:No×List No->Np->Prop}(h:Q (.ref (W.fa g),[v]) s):NL (NT W.prog W.w) A (getMethod v (bv f) r) Q Er s:=by cases u1 H t hx with|mk e i j l o p q=>have d:=RvK.at (.s f) q.toK;rw[Ac,QN.mp b]at d;exact method_fn H.aK.1 (yB e i j l o) a.ga a.gk a.fn a.ty (BD p d) h
theorem DV(L:∀c f g,T.aw c f=Nk g->cB W c f g)(S:aB W O n){ag:Bool}{o:E}{f:Nat}{es:Es}{g:Expr}{xs:List Expr}{p q:Pos}(X:iP g=Nm)(i:(p.endLine==q.line)=Nm)(V:xs.length<28)(Y:af W T O n k o g)(h:ay W T O n k es xs):af W T O n k (.aw ag o f es) (.Call (.Attribute g (bv f) p) xs [] q):=by refine .aE (λA env m B as st s q Er R F J H a=>?_);refine jm a λx z P a=>Mk a λc fs hx a=>ml a λI U a=>mQ a λy a=>jm a λds C Q a=>?_;have M:=L c f I U;refine sO X i (iY h) V (Y.val.use R F J H P λD v u K r j b e=>⟨.ref (W.fa I),[u],λpl Q' Z=>un b e hx M y Z,?_⟩);exact vH M.at_ (iY h) h R j J b Q λG w vs N d l t=>lX (λ_ _=>nu (r.trans d)) (ug S R l a (.cons (e.mono W d.ext) t))
theorem Bw(L:∀c f g,T.aw c f=Nk g->cB W c f g)(V:aB W O n){o:E}{f:Nat}{es:Es}{g:Expr}{xs:List Expr}{p q:Pos}(Z:iP g=Nm)(j:(p.endLine==q.line)=Nm)(Y:xs.length<28)(ho:af W T O n k o g)(i:ay W T O n k es xs):af W T O n k (.ba o f es) (.Call (.Attribute g (bv f) p) xs [] q):=by refine .aE (λA env m B as st s q Er R F K H a=>?_);refine jm a λx I Q a=>Mk a λc fs hx a=>ml a λD X a=>mQ a λG a=>jm a λP l U a=>?_;have M:=L c f D X;refine sO Z j (iY i) Y (ho.val.use R F K H Q λJ C z N v t b e=>⟨.ref (W.fa D),[z],λpl Q' hq=>un b e hx M G hq,?_⟩);exact vH M.at_ (iY i) i R t K b U λr h vs y d u w=>lX (λ_ _=>nu (v.trans d)) (V.S D (x::P) l q.1 q.2 a A r h y _ R u (.cons (e.mono W d.ext) w))
theorem Go{A:Ob}{n:Nat}{C:NF}{vs:List No}(R:aF A (n+20)):aF (A.under (.builtin "type.__call__" ⟨.ref C::vs,[]⟩)) n:=by
 refine⟨R.handled,?_,?_⟩;have:=R.depth;show 10*(A.depth+1)+n<=9000;lia;have:=R.units;have w:(Code.builtin "type.__call__" ⟨.ref C::vs,[]⟩).cUnits<=20:=by show(Code.builtin "type.__call__" ⟨[],[]⟩).cUnits<=20;decide
 show A.units+_+n<=9000;lia
theorem GB(L:aW W T)(Li:∀c g,T.init c=Nk g->du W c g){n':Nat}(hO:aB W O n')(hn':n'+20<=n){c:Nat}{es:Es}{xs:List Expr}{p pos:Pos}(hd:(bv c==("__debug__":Str))=Nl)(hk':k (bv c)=Nk .globalImplicit)(hes:ay W T O n k es xs):af W T O n k (.new c es) (.Call (.Name (bv c) p) xs [] pos):=by
 refine .aE (λA env m B as st s q Er R F hk H he=>?_);refine jm he λds aa h1 he=>ml he λg hg he=>Nd he λah h2 he=>on (G:=ng W A env _ B as st s Er) he ?_;have I:=Li c g hg;refine RC (mN L F H ((hk _).trans hk') hd I.name ?_);refine callWith_of (P:=λh=>W.K.In h) (by refine rG (lB (iY hes) _ _) ?_;rfl) (λh X=>keeps_K I.keep h X) (oA (lB (iY hes) _ _) ?_);refine NR (mP hes A env m B as st s ds aa Er R F hk H h1) (λvs aO⟨bh,aP,bM,dN⟩=>⟨bM.hs.aK.1,?_⟩) λ_ _ e=>e;have H₁:=bM.hs;refine Dc ?_;obtain⟨h,gn,dr,t,os⟩:=aO;refine make_core (makes_of H₁.aK.1 I.makes) (looks_findIn H₁.aK.1 I.init) (λself=>bind_fn H₁.aK.1 self I.ty) (.inl rfl) ?_;have gx:((h.push Wj).push (V7 (W.ca c) h.objs.size)).get? (h.objs.size+1)=Nk (V7 (W.ca c) h.objs.size):=by have:=NP (h.push Wj) (o:=V7 (W.ca c) h.objs.size) rfl;rwa [VL]at this
 have low:W.n1<=h.objs.size:=H₁.low;have S2:=ai.cell (X:=[]) (s:=⟨h,gn,dr,t,os⟩) (s':=⟨(h.push Wj).push (V7 (W.ca c) h.objs.size),gn,dr,t,os⟩) (p:=(h.objs.size+1,h.objs.size)) (c:=.obj c []) H₁ rfl (λb o e=>NS _ (NS _ e)) (λa ha=>by
   rcases Nz.mp ha with rfl|ha
   exact⟨im (OZ _),NN low (OZ _)⟩;obtain rfl:=NC.mp ha;exact⟨gT _,low⟩) (by show[_,_].Nodup;simp) ⟨_,_,[],gx,rfl,rfl,rfl,NS _ (NP _ rfl),sK,.nil⟩
 refine SV (hO.S g (.ag aa.length::ds) (aa++[.obj c []]) .none ah h2 (A.under (.builtin "type.__call__" ⟨.ref (W.ca c)::vs,[]⟩)) bh _ _ (.ref (h.objs.size+1)::vs) (Go (R.less hn')) S2.hs (.cons (.ag (p:=(h.objs.size+1,h.objs.size)) (lV H₁ _)) (dN.mono W S2.ext))) λr s' q=>?_;rcases r with e|(v|_|_|_)<;>first|exact q.elim|skip
 induction q using aQ.casesOn with|mk eA dE dT eN=>exact⟨eN,eA,dE,(bM.trans S2).trans dT,.ag (p:=(h.objs.size+1,h.objs.size)) (dT.ext.cells _ _ (lV H₁ _))⟩
end
section
variable{T:Tab}{O:aN}{n:Nat}{k:gS}{A:Ob}{env:Env}{m:Loc}{B:gU}{as:gH}{st:am}{s:Np}{Er:No->Np->Prop}
theorem Frame.eF(F:Frame W env m B as st s.heap):∀a∈dl env,ar W B as st s.heap a:=by
 intro a d;have q:=F.off a d;refine⟨q.1,q.2.1,q.2.2,λo e c=>?_⟩;(refine c.elim λ_ h=>h.elim λH p=>?_;try clear c);rcases Nz.mp d with rfl|d
 (refine F.ns.elim λG l=>l.elim λu w=>w.elim λE y=>y.elim λD z=>z.elim λf C=>C.elim λb _=>?_);rw[f]at e;(refine sI e λg=>?_;subst g);rw[p]at b;cases b;refine w12 (Nx.mp d) λh t l=>?_;obtain⟨x,r⟩:=h;subst l;(refine(F.cells x r t).elim λv i=>i.elim λu j=>j.elim λf b=>?_);rw[f]at e;(refine sI e λg=>?_;subst g);rw[p]at b;cases b
theorem MG{x y:Nat}(h:x≠y):N0 x y=Nl:=by refine rL (OH _) (rG PZ ?_);exact h
theorem lU(x:Nat)(d:D)(r:Loc)(y:Nat):Loc.get ((x,d)::r) y=if y=x then Nk d else Loc.get r y:=by show(if N0 y x=Nm then Nk d else Loc.get r y)=_;by_cases h:y=x;refine rG h (rG (QI _) ?_);exact(if_pos rfl).trans (if_pos rfl).symm;refine rG (MG h) (rG (if_neg h) ?_);exact if_neg Od
theorem sx(m:Loc)(x y:Nat)(d:D):(m.set x d).get y=if y=x then Nk d else m.get y:=by
 induction m with
 |nil=>exact lU x d [] y|cons p r b=>
 obtain⟨z,e⟩:=p;have q:Loc.set ((z,e)::r) x d=if N0 x z=Nm then(z,d)::r else(z,e)::Loc.set r x d:=rfl
 refine rG q (rG (lU _ _ _ _) ?_);by_cases a:x=z;subst a;refine rG (QI _) (rG (if_pos rfl) (rG (lU _ _ _ _) ?_));by_cases h:y=x;exact rG (if_pos h) (rG (if_pos h) rfl);exact rG (if_neg h) (rG (if_neg h) (rG (if_neg h) rfl));refine rG (MG a) (rG (if_neg Od) (rG (lU _ _ _ _) (rG b ?_)));by_cases h:y=z;exact rG (if_pos h) (rG (if_neg (λe=>a (e.symm.trans h))) (rG (if_pos h) rfl));exact rG (if_neg h) (rG (if_neg h) rfl)
def StoredX(W:Wd)(X:List NF)(env:Env)(B:gU)(as:gH)(st:am)(s:Np)(m':Loc)(s':Np):Prop:=ai W X B as st s B as st s'/\Frame W env m' B as st s'.heap
theorem lC{a:NF}{l:List NF}(h:a∈l):∀b∈[a],b∈l:=λ_ c=>jE (G:=(· ∈l)) c h
theorem StoredX.up{X Y:List NF}{m':Loc}{s':Np}(h:StoredX W X env B as st s m' s')(b:∀a∈X,a∈Y):StoredX W Y env B as st s m' s':=⟨h.1.weaken b,h.2⟩
theorem Frame.apart(F:Frame W env m B as st s.heap){y:Str}{c:NF}(h:(y,c)∈env.cells):c≠env.locals:=λe=>(NZ.mp F.nodup).1 (e▸Nx.mpr ⟨_,h,rfl⟩)
theorem se{x:Nat}{d:D}{v:No}(F:Frame W env m B as st s.heap)(H:Hs W B as st s.heap)(r:Rv W B as d v)(hx:env.kindOf (bv x)=Nk .local):NL (NT W.prog W.w) A (storeName env (bv x) v) (λ_ s'=>StoredX W [env.locals] env B as st s (m.set x d) s') Er s:=by
 (refine F.ns.elim λmv l=>?_);refine wpAny_storeName_local hx l (λh' f p=>?_) (by rw[F.kind];rfl);refine⟨ai.other H rfl (λa j=>F.eF a (lC (.head _) a j)) (λb o e hb=>by rw[p.2 b (λq=>hb (q▸.head _))];exact e),⟨F.kind,F.glob,F.blt,⟨_,f⟩,λy c h=>?_,λy e g=>?_,λa j=>F.off a j,F.nodup,F.cl,F.en⟩⟩;(refine(F.cells y c h).elim λw I=>I.elim λo J=>J.elim λho hd=>?_);exact i22 w o (by rw[p.2 c (F.apart h)];exact ho) hd
 ·rw[sx]at g;by_cases t:y=x;subst t;rw[if_pos rfl]at g;(refine sI g λE=>?_;subst E);exact i12 v (.ab hx _ f (if_pos rfl)) r
  ·rw[if_neg t]at g;(refine(F.vals y e g).elim λw K=>K.elim λN G=>?_);refine i12 w ?_ G;rcases N with⟨z,u,i,C⟩|⟨z,c,i,o,C,n4⟩
   ·refine .ab z _ f ?_;have e2:mv (bv y)=u (bv y):=by refine hid λG9 k9=>?_;(refine l.elim λo1 L=>L.elim λa4 M=>M.elim λa0 P=>P.elim λa1 Q=>Q.elim λb1 R=>R.elim λc1 d1=>?_;try clear l);(refine i.elim λo2 S=>S.elim λa5 U=>U.elim λa3 V=>V.elim λZ X=>X.elim λb2 Y=>Y.elim λc2 d2=>?_;try clear i);refine k9 ?_;rw[a1]at Z;(refine sI Z λE=>?_;subst E);rw[b1]at b2;cases b2;rw[<-d1,<-d2]
    exact(if_neg (λq=>t (lx q))).trans (e2.trans C)
   exact .fb z c i ⟨o,(p.2 c (F.apart (mem_of_lookup i))).trans C,n4⟩
theorem wS{cells:List (Str×NF)}(h:(cells.map (·.2)).Nodup){x y:Str}{c:NF}(hx:cells.lookup x=Nk c)(hy:cells.lookup y=Nk c):x=y:=by
 (refine(UL (mem_of_lookup hx)).elim λi g=>g.elim λa b=>?_);(refine(UL (mem_of_lookup hy)).elim λj l=>l.elim λf d=>?_);have e:i=j:=by refine(Vg (i:=i) (j:=j) (by refine rG (Nu _) ?_;exact a) h).mp ?_;refine rG (Oc) (rG (Oc) (rG (NQ a) (rG (NQ f) (rG b (rG d ?_)))));rfl
 subst e;exact congrArg VM (b.symm.trans d)
theorem sb{x:Nat}{d:D}{v:No}(F:Frame W env m B as st s.heap)(H:Hs W B as st s.heap)(r:Rv W B as d v)(hx:env.kindOf (bv x)=Nk .local\/env.kindOf (bv x)=Nk .cell):NL (NT W.prog W.w) A (storeName env (bv x) v) (λ_ s'=>StoredX W (dl env) env B as st s (m.set x d) s') Er s:=by
 (refine hx.elim (λhx=>?_) λhx=>?_);exact NR (se F H r hx) (λ_ _ q=>q.up (lC (.head _))) λ_ _ e=>e;(refine(Om.mp (F.cl _ hx)).elim λc g=>?_);(refine(F.cells _ c (mem_of_lookup g)).elim λa1 hi=>?_);refine wpAny_storeName_cell F.kind hx g hi λh' l t=>?_;have i:c∈dl env:=.tail _ (Nx.mpr ⟨_,mem_of_lookup g,rfl⟩);have p:env.locals≠c:=O9 (F.apart (mem_of_lookup g));refine StoredX.up (X:=[c]) ⟨ai.other H rfl (λa E=>F.eF a (lC i a E)) (λb o e hb=>by refine rG (t.2 b (λq=>hb (q▸.head _))) ?_;exact e),⟨F.kind,F.glob,F.blt,?_,λy f h=>?_,λy e j=>?_,λa E=>F.off a E,F.nodup,F.cl,F.en⟩⟩ (lC i);(refine F.ns.elim λmv R=>R.elim λo S=>S.elim λC U=>U.elim λz V=>V.elim λI q=>?_);exact i42 mv o C z (by refine rG (t.2 _ p) ?_;exact I) q;by_cases q:f=c;subst q;exact⟨_,l⟩;(refine(F.cells y f h).elim λw Y=>Y.elim λo Z=>Z.elim λI hd=>?_);exact i22 w o (by refine rG (t.2 f q) ?_;exact I) hd;rw[sx]at j;by_cases J:y=x;subst J;rw[if_pos rfl]at j;(refine sI j λq0=>?_;subst q0);exact i12 v (.fb (.inl hx) c g l) r;rw[if_neg J]at j;(refine(F.vals y e j).elim λw a0=>a0.elim λN Q=>?_);refine i12 w ?_ Q;rcases N with⟨L,K,⟨o,C,z,u,M⟩,P⟩|⟨L,f,u,o,M,P⟩
 exact .ab L K ⟨o,C,z,(t.2 _ p).trans u,M⟩ P;have G:f≠c:=λq=>J (lx (wS (NZ.mp F.nodup).2 (q▸u) g));exact .fb L f u ⟨o,(t.2 f G).trans M,P⟩
end
end Mine
end
section
namespace Mine
open PySem PySem.W PySem.Calls PyProof.Rows Builtin Builtin.ObjectAttr
variable{W:Wd}
theorem ER(f:Nat)(v:No):v.isStr (bv f)=(kk W.prog W.w).is (.s f) v:=by induction v using Qn<;>rfl
theorem Au{f:Nat}{t:Nat}{v:No}{hsh:Int}{es:List OI}{a:List (Key×No)}(h:Pairs (kk W.prog W.w) es a)(c:(a.map (·.1)).Nodup):Pairs (kk W.prog W.w) (VT (bv f) hsh (.str (bv f) t) v es) (RN a (.s f) v):=by induction h with|nil=>exact .cons (decide_eq_true rfl) rfl .nil|@cons e k es m b d g i=>obtain⟨j,l⟩:=k;refine rG (oG c) ?_;unfold VT;refine rG (ER (W:=W) _ _) (rG (KeyKind.is_eq_decide (knd:=kk W.prog W.w) b (.s f)) ?_);by_cases h:Key.s f=j;refine rG (decide_eq_true h) (rG (if_pos rfl) (rG (if_pos h) ?_));exact .cons b rfl g;refine rG (decide_eq_false h) (rG (if_neg Od) (rG (if_neg h) ?_));exact .cons b d (i (NZ.mp c).2)
theorem BL{f:Nat}{t:Nat}{v:No}{hsh:Int}(c:hsh=(kk W.prog W.w).hash (.s f)){es:List OI}(h:∀e∈es,∃k,(kk W.prog W.w).is k e.key=Nm/\e.hash=(kk W.prog W.w).hash k):∀e∈VT (bv f) hsh (.str (bv f) t) v es,∃k,(kk W.prog W.w).is k e.key=Nm/\e.hash=(kk W.prog W.w).hash k:=by
 induction es with
 |nil=>intro e b;obtain rfl:=NC.mp b;exact⟨.s f,decide_eq_true rfl,c⟩
 |cons a r d=>
 intro e b;unfold VT at b;split at b;cases b with|head=>exact h a (.head _)|tail _ b=>exact h e (.tail _ b)
 cases b with|head=>exact h _ (.head _)|tail _ b=>exact d (λe b=>h e (.tail _ b)) e b
theorem yn(name:Str)(hsh:Int)(a v:No)(es:List OI):(VT name hsh a v es).length<=es.length+1:=by induction es with|nil=>exact N4 _|cons e r b=>unfold VT;split;exact OZ _;exact Pk b
theorem C3{o:Obj}{es:Array OI}{a:Nat}(h:o.ExactDict)(hd:o.data=.dict es a):o=VV es.toList a:=by obtain⟨c,d,i,j⟩:=o;(refine h.elim λb g=>g.elim λe f=>?_;try clear h);simp only at b e f hd;subst b;subst e;subst f;subst hd;rfl
section
variable{A:Ob}{B:gU}{as:gH}{st:am}{s:Np}{Er:No->Np->Prop}
theorem u0{x C dx:NF}{k:Obj}{es:List OI}{g:Nat}{name:Str}{v:No}{Q:Unit->Np->Prop}(X:W.K.In s.heap)(I:InstAt s.heap x k C (Nk (VV es g)))(d:k.dict=Nk dx)(hs:Qy W.K (.ref C) "__setattr__"=Nk (Nk (.builtin "object.__setattr__")))(hp:Wh W.K C=Nm)(r:takerIn W.K C name=Nk Nq)(q:Wi W.K C=Nm)(i:(getL name es).isSome=Nm)(hz:es.length<900)(h:Q () {s with heap:=s.heap.update dx (RS name (OD W.w.params name) (.str name (s.toks+1)) v),toks:=s.toks+1+1}):NL (NT W.prog W.w) A (setAttr (.ref x) name v) Q Er s:=by
 refine set_plain X I hs (osa_open (s:={s with toks:=s.toks+1}) X I hp r λb=>?_);refine hid λH u=>?_;(refine(any_some q).elim λJ G=>G.elim λp j=>?_);have D:s.heap.get? dx=Nk (VV es g):=by have:=I.dict;rw[d]at this;exact this
 obtain⟨t,f,L,-⟩:=I;obtain⟨M,E,y,F⟩:=k;refine u ?_;dsimp only at f d;subst f d;have e:=putName_dict name (OD W.w.params name) (.str name (s.toks+1)) v es g;have n:(s.heap.update dx (RS name (OD W.w.params name) (.str name (s.toks+1)) v)).get? dx=Nk (VV (VT name (OD W.w.params name) (.str name (s.toks+1)) v es) (putN name es g)):=by refine rL e ?_;exact Qq _ D (by refine rG e ?_;rfl)
 refine Nn (Nt (Nn (Nn (wpAny_loadPart t (Nn (Looks.here (s:={s with toks:=s.toks+1}) (looks_clsIn X p) ?_))))));refine rG j ?_;refine Nt (a:=Nk dx) (Nn (Nt (Nn ?_)));unfold nsSet;refine Nn (Nn (wpAny_askSetting (Nt (Nn (wpAny_mkText (Nn (wpAny_loadPart D ?_)))))));dsimp only;have c:(!es.toArray.any (·.key.isStr name)&&es.toArray.any (·.refKey))=Nl:=by refine rL SE (rL SE ?_);unfold getL at i;split at i;rename_i o l;refine rG (Rd.mpr ⟨o,Tr l,List.find?_some l⟩) ?_;rfl;split at i;exact fT i;rename_i z;rw[OH]at z;simp only at z⊢;exact rG z (rG (Tk _) rfl)
 refine rG (aRefKeyMayBeTheName_at _ _) (rG c ?_);refine wpAny_updatePart D ?_;have m:=yn name (OD W.w.params name) (.str name (s.toks+1)) v es;refine Nn (wpAny_lookBehind n (pastItsLine_dict (by refine rG Vd (rG sizeLine_eq ?_);lia)) ?_);exact Nt h
end
end Mine
end
section
namespace Mine
open PySem PySem.W PySem.Calls PyProof.Rows
variable{W:Wd}
section
variable{prog:Rl}{w:Pi}{A:Ob}{E:No->Np->Prop}
theorem wL{h t:NF}{a:Array No}(l:t≠h):∀(n i:Nat)(s:Np)(Q:List No->Np->Prop),s.heap.IsListIter h t i->s.heap.IsList t a->i+n<=a.size->(∀q,q.IsListIter h t (i+n)->OT h s.heap q->Q ((a.toList.drop i).take n) {s with heap:=q})->NL (NT prog w) A (draw (.ref h) n) Q E s
 |0,i,s,Q,e,_,_,u=>by show NL _ _ (OW []) Q E s;exact Nt (by simpa using u s.heap e (OT.refl ..))|n+1,i,s,Q,e,v,z,u=>by
  have j:i<a.size:=by lia
  show NL _ _ (Sg (.ref h)>>=_) Q E s;refine Nn (U3 e v (x:=a[i]) (by simp[j]) λy c b=>?_);refine Nn (N7 (wL l n (i+1) _ _ c (v.extBut b.extBut l) (by lia) λp d g=>Nt ?_));have:=u p (by refine rG (show i+(n+1)=i+1+n by lia) ?_;exact d) (b.trans g);rw[(by simp[QW,j]:a.toList.drop i=a[i]::a.toList.drop (i+1)),List.take_succ_cons]at this;exact this
theorem yd{s:Np}{t:NF}{a:Array No}{Q:List No->Np->Prop}(x:A.handled=Nq)(h:s.heap.IsList t a)(v:∀p,QX s.heap.objs.size s.heap p->Q a.toList {s with heap:=p}):NL (NT prog w) A (Tt (.ref t) a.size Nq) Q E s:=by
 have j:t≠s.heap.objs.size:=by(refine h.elim λo z=>z.elim λy _=>?_;try clear h);exact Pu (Pr y)
 unfold Tt;refine Nn ?_;unfold notIterableAtAll;refine Nn (TI h.typeIs slot_list_iter.lookup ?_);refine Nt ?_;simp only[OE,if_false];refine Nn (N7 (V1 h ?_));refine Nn (N7 (wL j a.size 0 _ _ ⟨_,NP _ rfl,rfl,rfl⟩ (h.push _) (by lia) λu d c=>?_));have i:List.take a.size (List.drop 0 a.toList)=a.toList:=by refine rG VO ?_;exact Ro (by simp)
 refine rG i ?_;refine rG (if_neg (by simp)) ?_;refine Nn (N7 (Vh x d ((h.push _).extBut c.extBut j) (by simp) λl g=>?_));simp only[Option.isSome_none,OE,if_false];refine Nt (v l λb o q e=>g b o q (c.extBut b o q (NS _ e)))
end
section
variable{T:Tab}{O:aN}{n:Nat}{k:gS}{A:Ob}{env:Env}{m:Loc}{B:gU}{as:gH}{st:am}{s:Np}{Er:No->Np->Prop}
def vL(k:gS)(x:Nat)(e:Expr):Prop:=∃p,e=.Name (bv x) p/\(k (bv x)=Nk .local\/k (bv x)=Nk .cell)
abbrev Dn(W:Wd)(env:Env):=StoredX W (dl env) env
theorem oM{x:Nat}{e:Expr}{d:D}{v:No}(hx:vL k x e)(F:Frame W env m B as st s.heap)(a:∀y,env.kindOf y=k y)(H:Hs W B as st s.heap)(r:Rv W B as d v):NL (NT W.prog W.w) A (O5 e env v) (λ_ b=>Dn W env B as st s (m.set x d) b) Er s:=by obtain⟨p,rfl,hx⟩:=hx;show NL _ _ (do TV p;T9 env (bv x) v) _ _ _;exact Nn (OB (T5 (sb F H r (by refine rG (a _) ?_;exact hx))))
inductive aZ(k:gS):List Nat->List Expr->Prop|nil:aZ k [] []|cons {x xs e es}:vL k x e->aZ k xs es->aZ k (x::xs) (e::es)
theorem aZ.length{xs:List Nat}{es:List Expr}(h:aZ k xs es):es.length=xs.length:=by induction h with|nil=>rfl|cons _ _ a=>exact congrArg Pd a
theorem Ai{xs:List Nat}{es:List Expr}(h:aZ k xs es)(env:Env):(Q8 es env).map (·.2)=es.map (λe=>O5 e env)/\(Q8 es env).findIdx? (·.1)=Nq/\(Q8 es env).length=es.length:=by induction h with|nil=>exact⟨rfl,rfl,rfl⟩|cons b _ a=>(refine b.elim λp c=>c.elim λd _=>?_;try clear b;subst d);refine rG ((λ_ _ _=>rfl:∀y q rest,Q8 (.Name y q::rest) env=(Nl,O5 (.Name y q) env)::Q8 rest env) _ _ _) ?_;exact⟨congrArg (_:: ·) a.1,by refine rG (List.findIdx?_cons) (rG a.2.1 ?_);rfl,congrArg Pd a.2.2⟩
noncomputable abbrev BE(xs:List Nat)(ds:List D)(m:Loc):Loc:=(xs.zip ds).foldl (λm p=>m.set p.1 p.2) m
def OneOk(W:Wd)(k:gS)(A:Ob)(env:Env)(B:gU)(as:gH)(st:am)(Er:No->Np->Prop)(X:List NF)(G:Nat->Prop):Prop:=∀{x e d v}{m:Loc}{s:Np},G x->vL k x e->Frame W env m B as st s.heap->Hs W B as st s.heap->Rv W B as d v->NL (NT W.prog W.w) A (O5 e env v) (λ_ a=>StoredX W X env B as st s (m.set x d) a) Er s
theorem OneOk.all(a:∀y,env.kindOf y=k y):OneOk W k A env B as st Er (dl env) (λ_=>True):=λ_ b F H r=>oM b F a H r
theorem wf{X:List NF}{G:Nat->Prop}(c:OneOk W k A env B as st Er X G){xs:List Nat}{es:List Expr}(h:aZ k xs es):(∀x∈xs,G x)->∀{ds:List D}{vs:List No}{m:Loc}{s:Np},RvL W B as ds vs->ds.length=xs.length->Frame W env m B as st s.heap->Hs W B as st s.heap->NL (NT W.prog W.w) A (assignInOrder (es.map (λe=>O5 e env)) vs) (λ_ u=>StoredX W X env B as st s (BE xs ds m) u) Er s:=by
 induction h with
 |nil=>intro _ ds vs m s r a F H;induction ds using NA with|nil=>subst r;exact Nt ⟨ai.refl H,F⟩|cons=>exact nomatch a
 |cons b _ p=>intro g ds vs m s r a F H;induction ds using NA with|nil=>exact nomatch a|cons d ds=>induction r using aT.casesOn with|mk r t=>refine Nn (N7 (NR (c (g _ (.head _)) b F H r) (λ_ j q=>?_) λ_ _ e=>e));exact NR (p (λx b=>g x (.tail _ b)) t (Qb a) q.2 q.1.hs) (λ_ l i=>⟨q.1.trans i.1,i.2⟩) λ_ _ e=>e
theorem zL{h a:NV}(x:QX h.objs.size h a):KeepAll h a:=λb o e=>x b o (Pu (Pr e)) e
theorem re(p:A.handled=Nq)(H:Hs W B as st s.heap){d b:D}{v:No}{l:List D}(r:Rv W B as d v)(t:jB st d=Nk b)(hs:Dq b=Nk l){Q:List No->Np->Prop}(h:∀vs s',ai W [] B as st s B as st s'->RvL W B as l vs->Q vs s'):NL (NT W.prog W.w) A (Tt v l.length Nq) Q Er s:=by
 have j:=u1 H r t;induction b using D.casesOn with
 |ae u=>(refine sI hs λi=>?_;subst i);induction j using aA.casesOn with|mk c q a=>refine rL (io a) ?_;exact yd p ⟨_,c,rfl,_,rfl⟩ λe g=>h _ _ (ai.aD (s':={s with heap:=e}) H rfl (zL g)) a
 |tup u=>(refine sI hs λi=>?_;subst i);induction j using aA.casesOn with|mk c q a=>refine rL (io a) ?_;exact wpAny_unpackItems_tuple p ⟨_,c,rfl,_,rfl⟩ λe g=>h _ _ (ai.aD (s':={s with heap:=e}) H rfl (zL g)) a
 |_=>exact nS hs
inductive aJ(k:gS):Bool->List Nat->Expr->Prop|one {x e}:vL k x e->aJ k Nm [x] e|many {xs es kd p}:aZ k xs es->aJ k Nl xs (.Tuple es kd p)
theorem B6{xs:List Nat}{d:D}{m m':Loc}{G:Loc->Prop}(hb:iz xs Nl d m=Nk m')(k:∀l,Dq d=Nk l->l.length=xs.length->G (BE xs l m)):G m':=ml hb λl a hb=>mQ hb λb hb=>on (G:=G) hb (k l a b)
theorem om{X:List NF}{G:Nat->Prop}(one:OneOk W k A env B as st Er X G)(hh:A.handled=Nq){single:Bool}{xs:List Nat}{e:Expr}{d d':D}{v:No}{m':Loc}(ht:aJ k single xs e)(hG:∀x∈xs,G x)(F:Frame W env m B as st s.heap)(H:Hs W B as st s.heap)(r:Rv W B as d v)(hl:d'=d\/(single=Nl/\jB st d=Nk d'))(hb:iz xs single d' m=Nk m'):NL (NT W.prog W.w) A (O5 e env v) (λ_ s'=>StoredX W X env B as st s m' s') Er s:=by
 induction ht using aJ.casesOn with
 |one hx=>
  (refine sI hb λq0=>?_;subst q0);rcases hl with rfl|⟨h,_⟩
  exact one (hG _ (.head _)) hx F H r;exact tF h
 |@many _ es kd p hx=>
 refine B6 (G:=λm'=>NL _ A _ (λ_ s'=>StoredX W X env B as st s m' s') Er s) hb λl hs hlen=>?_;have hlook:jB st d=Nk d':=by
  rcases hl with rfl|⟨_,h⟩
  induction d' using D.casesOn<;>first|rfl|exact nS hs
  exact h
 (refine(Ai hx env).elim λt1 z6=>z6.elim λt2 t3=>?_);show NL _ _ (do TV p;unpack v (Q8 es env)) _ _ _;refine Nn (OB ?_);unfold unpack;refine rG t1 (rG t2 (rG t3 (rG hx.length (rL hlen ?_))));refine Nn (N7 (re hh H r hlook hs λvs aO bM dN=>?_));exact NR (wf one hx hG dN hlen (F.step bM λ_ _ h=>iM h) bM.hs) (λ_ az q=>⟨(bM.weaken λa h=>iM h).trans q.1,q.2⟩) λ_ _ e=>e
theorem o6(b:A.handled=Nq){single:Bool}{xs:List Nat}{e:Expr}{d a:D}{v:No}{m':Loc}(h:aJ k single xs e)(F:Frame W env m B as st s.heap)(c:∀y,env.kindOf y=k y)(H:Hs W B as st s.heap)(r:Rv W B as d v)(g:a=d\/(single=Nl/\jB st d=Nk a))(hb:iz xs single a m=Nk m'):NL (NT W.prog W.w) A (O5 e env v) (λ_ i=>Dn W env B as st s m' i) Er s:=om (OneOk.all c) b h (λ_ _=>trivial) F H r g hb
inductive dw(W:Wd)(B:gU)(as:gH):Fl->Flow->Prop|next:dw W B as .next .next|brk:dw W B as .brk .brk|cont:dw W B as .cont .cont|ret {d v}:Rv W B as d v->dw W B as (.ret d) (.ret v)
abbrev Out:=Fl×Loc×am
inductive bg(W:Wd)(env:Env)(B:gU)(as:gH)(st:am)(s:Np)(q:Out)(f:Flow)(s':Np):Prop|mk (B' as'):ai W (dl env) B as st s B' as' q.2.2 s'->Frame W env q.2.1 B' as' q.2.2 s'.heap->dw W B' as' q.1 f->bg W env B as st s q f s'
def w6(W:Wd)(A:Ob)(env:Env)(x:Sem Flow)(B:gU)(as:gH)(st:am)(s:Np)(Er:No->Np->Prop)(q:Out):Prop:=NL (NT W.prog W.w) A x (bg W env B as st s q) Er s
def Ga(W:Wd)(n:Nat)(k:gS)(e:Loc->am->Option Out)(x:Env->Sem Flow):Prop:=∀(A:Ob)(env:Env)(m:Loc)(B:gU)(as:gH)(st:am)(s:Np)(q:Out)(Er:No->Np->Prop),aF A n->Frame W env m B as st s.heap->(∀y,env.kindOf y=k y)->Hs W B as st s.heap->e m st=Nk q->w6 W A env (x env) B as st s Er q
abbrev iB(W:Wd)(T:Tab)(O:aN)(n:Nat)(k:gS)(e:S)(x:OS):Prop:=Ga W n k (ex T O e) (exec x)
abbrev lO(W:Wd)(T:Tab)(O:aN)(n:Nat)(k:gS)(e:Ss)(xs:List OS):Prop:=Ga W n k (exs T O e) (execs xs)
theorem bg.after{b a aa}{c:Np}(S:ai W (dl env) B as st s b a aa c){q f s'}(h:bg W env b a aa c q f s'):bg W env B as st s q f s':=by induction h using bg.casesOn with|mk e d i g r=>exact⟨e,d,S.trans i,g,r⟩
theorem ai.aY{c b aa}{d:Np}(S:ai W [] B as st s c b aa d):ai W (dl env) B as st s c b aa d:=S.weaken λa h=>iM h
section
variable{G:Prop}{o:Ot}{f:Loc->am->Ot}{r:Out}
theorem Mx(h:xk o f=Nk r)(k:∀m st,o=Nk (.next,m,st)->f m st=Nk r->G)(b:o=Nk r->r.1≠.next->G):G:=by induction o using N3 with|none=>exact nS h|some p=>obtain⟨a,m,st⟩:=p;induction a using Fl.casesOn with|next=>exact k m st rfl h|_=>cases h;exact b rfl (λe=>nomatch e)
theorem MN(h:fk o f=Nk r)(k:∀m st,(o=Nk (.next,m,st)\/o=Nk (.cont,m,st))->f m st=Nk r->G)(c:∀m st,o=Nk (.brk,m,st)->r=(.next,m,st)->G)(a:∀d m st,o=Nk (.ret d,m,st)->r=(.ret d,m,st)->G):G:=by induction o using N3 with|none=>exact nS h|some p=>obtain⟨b,m,st⟩:=p;induction b using Fl.casesOn with|next=>exact k m st (.inl rfl) h|cont=>exact k m st (.inr rfl) h|brk=>exact c m st rfl (NE h).symm|ret d=>exact a d m st rfl (NE h).symm
end
theorem DN:lO W T O n k .nil []:=λA env m B as st s q Er R F b H a=>on (G:=w6 W A env _ B as st s Er) a (TJ ⟨B,as,ai.refl H,F,.next⟩)
theorem Bt{e:S}{r:Ss}{x:OS}{xs:List OS}(h:iB W T O n k e x)(C:lO W T O n k r xs):lO W T O n k (.cons e r) (x::xs):=by
 intro A env m B as st s q Er R F v H u;refine wpAny_execs_cons (Mx u (λl j t u=>NR (h A env m B as st s _ Er R F v H t) (λf i p=>?_) λ_ _ e=>e) λt y=>NR (h A env m B as st s _ Er R F v H t) (λf i p=>?_) λ_ _ e=>e);induction p using bg.casesOn with|mk d b a g c=>cases c;exact NR (C A env l d b j i q Er R g v a.hs u) (λf z q=>q.after a) λ_ _ e=>e
 induction f using PySem.Flow.casesOn with
 |next=>induction p using bg.casesOn with|mk d b a g c=>obtain⟨I,J,D⟩:=q;cases c;exact absurd rfl y
 |_=>exact p
theorem DQ{pos:Pos}:iB W T O n k .brk (.Break pos):=λA env m B as st s q Er R F b H a=>on (G:=w6 W A env _ B as st s Er) a (wpAny_Break ⟨B,as,ai.refl H,F,.brk⟩)
theorem Bs{pos:Pos}:iB W T O n k .cont (.Continue pos):=λA env m B as st s q Er R F b H a=>on (G:=w6 W A env _ B as st s Er) a (wpAny_Continue ⟨B,as,ai.refl H,F,.cont⟩)
theorem DM{e:E}{x:Expr}{pos:Pos}(h:af W T O n k e x):iB W T O n k (.ret e) (.Return (Nk x) pos):=λA env m B as st s q Er R F y H j=>jm j λd l v j=>on (G:=w6 W A env _ B as st s Er) j (wpAny_Return_some (h.val.use R F y H v λb a u t g c p i=>⟨b,a,g.aY,c,.ret i⟩))
theorem Bq{pos:Pos}:iB W T O n k (.ret .none) (.Return Nq pos):=λA env m B as st s q Er R F b H a=>on (G:=w6 W A env _ B as st s Er) a (wpAny_Return_none ⟨B,as,ai.refl H,F,.ret .none⟩)
theorem DO{t:E}{a b:Ss}{x:Expr}{xs z:List OS}{pos:Pos}(I:af W T O n k t x)(D:lO W T O n k a xs)(hb:lO W T O n k b z):iB W T O n k (.ite t a b) (.If x xs z pos):=λA env m B as st s q Er R F y H v=>Ft v λc g C v=>wpAny_If (I.eh.use R F y H C λh d p l i j=>by induction c using Nw with|true=>exact NR (D A env m h d g p q Er R i y j v) (λf u q=>q.after l.aY) λ_ _ e=>e|false=>exact NR (hb A env m h d g p q Er R i y j v) (λf u q=>q.after l.aY) λ_ _ e=>e)
theorem za{x:Expr}(h:sJ x=Nm)(t:Option Expr)(l:Nat)(env:Env):QZ x t l env=OW Nl:=by induction x using Pb<;>first|rfl|exact fT h
theorem Br{e:E}{x:Expr}{pos:Pos}(C:sJ x=Nm)(h:af W T O n k e x):iB W T O n k (.expr e) (.Expr x pos):=by
 intro A env m B as st s q Er R F z H i;refine jm i λd j v i=>on (G:=w6 W A env _ B as st s Er) i ?_;unfold w6;refine rG (arm_exec_Expr _ _ _) ?_;have y:interactive env=Nl:=by unfold interactive;refine rG F.kind ?_;rfl
 refine rG y (rG (za C _ _ _) ?_);refine Nn (OB ?_);simp only[OE,if_false,QA];exact Nn (h.val.use R F z H v λb a u t g c l p=>wpAny_dropValue ⟨b,a,g.aY,c,.next⟩)
end
section
variable{T:Tab}{O:aN}{n:Nat}{k:gS}{A:Ob}{env:Env}{m:Loc}{B:gU}{as:gH}{st:am}{s:Np}{Er:No->Np->Prop}
inductive eU(W:Wd)(T:Tab)(O:aN)(env:Env)(B:gU)(as:gH)(st:am)(s:Np)(t:E)(b:Ss)(q:Out)(j:Nat)(aO:Np):Prop|mk (bh aP aa m₁):ai W (dl env) B as st s bh aP aa aO->Frame W env m₁ bh aP aa aO.heap->gX (ev T O t) (exs T O b) j m₁ aa=Nk q->eU W T O env B as st s t b q j aO
theorem Ao{t:E}{b:Ss}{x:Expr}{xs:List OS}{pos:Pos}(ht:af W T O n k t x)(hb:lO W T O n k b xs):iB W T O n k (.bF t b) (.While x xs [] pos):=by
 intro A env m B as st s q Er R F U H he;refine wpAny_While (codeAny_whileLoop (eU W T O env B as st s t b q) (λj Y p=>?_) MM ⟨B,as,st,m,ai.refl H,F,he⟩);induction p using eU.casesOn with|mk X V P D L Q a=>
 induction j using NY with
 |zero=>exact nS a|succ j=>
 refine Ft (o:=ev T O t D P) a λc w Z a=>ht.eh.use R Q U L.hs Z λz h J S C G=>?_;have K:=L.trans (S.aY (env:=env));induction c using Nw with
 |false=>(refine sI a λq0=>?_;subst q0);exact TJ ⟨z,h,K,C,.next⟩|true=>
 refine MN a (λI y M a=>?_) (λI y M e=>?_) (λd I y M e=>?_)
 ·(refine M.elim (λM=>?_) λM=>?_);all_goals refine NR (hb A env D z h w J _ _ R C U G M) (λf N p=>?_) λ_ _ e=>e;induction p using bg.casesOn with|mk i g u l v=>cases v;exact⟨j,P3 _,i,g,y,I,K.trans u,l,a⟩
 subst e;refine NR (hb A env D z h w J _ _ R C U G M) (λf N p=>?_) λ_ _ e=>e;induction p using bg.casesOn with|mk i g u l v=>cases v;exact⟨i,g,K.trans u,l,.next⟩
 subst e;refine NR (hb A env D z h w J _ _ R C U G M) (λf N p=>?_) λ_ _ e=>e;induction p using bg.casesOn with|mk i g u l v=>cases v with|ret r=>exact⟨i,g,K.trans u,l,.ret r⟩
inductive ft(W:Wd)(env:Env)(B:gU)(as:gH)(st:am)(s:Np)(q:Loc×am)(s':Np):Prop|mk (B' as'):ai W (dl env) B as st s B' as' q.2 s'->Frame W env q.1 B' as' q.2 s'.heap->ft W env B as st s q s'
def F9(W:Wd)(A:Ob)(env:Env)(x:Expr)(v:No)(B:gU)(as:gH)(st:am)(s:Np)(Er:No->Np->Prop)(q:Loc×am):Prop:=NL (NT W.prog W.w) A (O5 x env v) (λ_ a=>ft W env B as st s q a) Er s
def nX(W:Wd)(T:Tab)(O:aN)(n:Nat)(k:gS)(t:Tg)(x:Expr):Prop:=∀(A:Ob)(env:Env)(m:Loc)(B:gU)(as:gH)(st:am)(s:Np)(d:D)(v:No)(q:Loc×am)(Er:No->Np->Prop),aF A n->Frame W env m B as st s.heap->(∀y,env.kindOf y=k y)->Hs W B as st s.heap->Rv W B as d v->assign T O t d m st=Nk q->F9 W A env x v B as st s Er q
theorem Bj{x:Nat}{e:Expr}(h:vL k x e):nX W T O n k (.name x) e:=λA env m B as st s d v q Er R F b H r a=>on (G:=F9 W A env _ v B as st s Er) a (NR (oM h F b H r) (λ_ c q=>⟨B,as,q.1,q.2⟩) λ_ _ e=>e)
theorem DJ{xs:List Nat}{e:Expr}(h:aJ k Nl xs e):nX W T O n k (.names xs) e:=λA env m B as st s d v q Er R F f H r a=>ml a λi g a=>pH (G:=F9 W A env _ v B as st s Er) a λb c=>NR (o6 R.handled h F f H r (.inr ⟨rfl,g⟩) c) (λ_ j q=>⟨B,as,q.1,q.2⟩) λ_ _ e=>e
theorem tZ{tx:Expr}(h:∀y p,tx≠.Starred y p)(env:Env):(Q8 [tx] env).map (·.2)=[O5 tx env]:=by induction tx using Pb<;>first|rfl|exact absurd rfl (h _ _)
theorem wU{t:Tg}{e:E}{tx w:Expr}{pos:Pos}(Q:nX W T O n k t tx)(P:af W T O n k e w)(c:∀y p,tx≠.Starred y p){q:Out}(C:QZ w (Nk tx) pos.line env=OW Nl)(z:PV [tx] w env=OW Nq)(R:aF A n)(F:Frame W env m B as st s.heap)(I:∀y,env.kindOf y=k y)(H:Hs W B as st s.heap)(hx:ex T O (.assign t e) m st=Nk q):w6 W A env (exec (.Assign [tx] w pos) env) B as st s Er q:=by refine jm hx λd f M hx=>jm hx λJ D N hx=>on (G:=w6 W A env _ B as st s Er) hx ?_;unfold w6;refine rG (Wq _ _ _ _) ?_;refine Nn (OB ?_);have L:swapsWithSole [tx] w pos.line env=OW Nl:=C;refine rG L (rG (QA _ _) ?_);simp only[OE,if_false];refine Nn (P.val.use R F I H M λg a x v o i l u=>?_);refine rG z (rG (QA _ _) (rG (tZ c _) ?_));refine Nn (NR (Q A env m g a f v d x _ Er R i I l u N) (λ_ K p=>?_) λ_ _ e=>e);induction p using ft.casesOn with|mk h b r j=>exact Nt ⟨h,b,o.aY.trans r,j,.next⟩
theorem yi{t:Tg}{e:E}{tx b:Expr}{pos:Pos}(h:nX W T O n k t tx)(g:af W T O n k e b)(d:∀env:Env,(∀y,env.kindOf y=k y)->QZ b (Nk tx) pos.line env=OW Nl)(a:∀y p,tx≠.Starred y p)(c:∀env:Env,PV [tx] b env=OW Nq):iB W T O n k (.assign t e) (.Assign [tx] b pos):=λA env m B as st s q Er R F f H i=>wU h g a (d env f) (c env) R F f H i
theorem RvF.store{B:gU}{as:gH}{f:Nat}{d:D}{v:No}(r:Rv W B as d v){l:List (Nat×D)}:∀{vs:List (Key×No)},RvF W B as l vs->(vs.map (·.1)).Nodup->RvF W B as (jv l f d) (RN vs (.s f) v):=by induction l with|nil=>intro vs h _;subst h;exact .cons r .nil|cons p l g=>intro vs h c;induction h using br.casesOn with|mk a b=>refine rG (oG c) ?_;show RvF W B as (if f=p.1 then(p.1,d)::l else p::jv l f d) _;by_cases h:f=p.1;refine rG (if_pos h) (rG (if_pos (congrArg Key.s h)) ?_);exact .cons r b;refine rG (if_neg h) (rG (if_neg (λe=>h (Key.s.inj e))) ?_);exact .cons a (g b (NZ.mp c).2)
theorem M9{c:Option ao}{f:Nat->List (Nat×D)->Option (Loc×am)}{r:Loc×am}{G:Prop}(h:cO c f=Nk r)(k:∀a b,c=Nk (.obj a b)->f a b=Nk r->G):G:=by induction c using N3 with|none=>exact nS h|some d=>induction d using ao.casesOn<;>first|exact k _ _ rfl h|exact nS h
theorem CK{f:Nat}{es:List OI}(h:∀e∈es,∃k,(kk W.prog W.w).is k e.key=Nm/\e.hash=(kk W.prog W.w).hash k):(getL (bv f) es).isSome=Nm:=by
 have b:es.any (·.refKey)=Nl:=by rw[Sr];intro e c;(refine(h e c).elim λk g=>g.elim λd _=>?_);rcases iQ d with⟨n,t,_,a⟩|⟨n,t,_,a⟩<;>(unfold Ud;refine rG a ?_;exact Od)
 unfold getL;split;rfl;refine rG b ?_;rfl
theorem Gm(L:aW W T){o:E}{f:Nat}{l:Expr}{p:Pos}(ho:af W T O n k o l):nX W T O n k (.attr o f) (.Attribute l (bv f) p):=by
 intro A env m B as st s d v q Er R F hk H r t;refine F5 t λi y h1 t=>M9 t λc fs hi t=>mQ t λhc t=>on (G:=F9 W A env _ v B as st s Er) t ?_;have a:=L.attr c f hc.1;refine Nn (N7 (ho.val.use R F hk H h1 λu j a0 g z I x K=>Nn (OB (Nn (N7 ?_)))));refine hid λG9 k9=>?_;induction K using bR.casesOn with|@mk D hp=>
 cases x.cell _ _ _ hi hp with|mk ox od Q M S U q4 V q6 q7=>
 (refine q6.elim λJ z2=>z2.elim λZ z3=>z3.elim λx1 z4=>z4.elim λx2 z5=>z5.elim λx3 z6=>z6.elim λx4 X=>?_;try clear q6);have C:=C3 x1 x2;subst C;refine k9 ?_;refine u0 x.aK.1 (yB M S U q4 V) U a.sa a.over (by unfold takerIn;refine rG a.none ?_;rfl) a.dict (CK (W:=W) λe t=>x3 e (RI.mp t)) (by refine rG (x4.length.trans q7.toK.length.symm|>.trans (Nu _)) ?_;exact ON hc.2 (by decide)) ?_;have P:(g.heap.update D.2 (RS (bv f) (OD W.w.params (bv f)) (.str (bv f) (g.toks+1)) v)).get? D.2=Nk (VV (VT (bv f) (OD W.w.params (bv f)) (.str (bv f) (g.toks+1)) v J.toList) (putN (bv f) J.toList Z)):=by have e:=putName_dict (bv f) (OD W.w.params (bv f)) (.str (bv f) (g.toks+1)) v J.toList Z;refine rL e ?_;exact Qq _ V (by refine rG e ?_;rfl)
 have N:D.2≠D.1:=λe=>by rw[<-e,V]at M;(refine sI M λq0=>?_;subst q0);exact nomatch S
 have Y:ai W [] u j y g u j (y.set i (.obj c (jv fs f d))) {g with heap:=g.heap.update D.2 (RS (bv f) (OD W.w.params (bv f)) (.str (bv f) (g.toks+1)) v),toks:=g.toks+1+1}:=ai.turn (s':={g with heap:=g.heap.update D.2 (RS (bv f) (OD W.w.params (bv f)) (.str (bv f) (g.toks+1)) v),toks:=g.toks+1+1}) x rfl hi hp (λ_=>rfl) (λb o e hb=>(PI _ _ (λq=>hb (by refine rL q ?_;exact .tail _ (.head _)))).trans e) ⟨ox,_,RN Q (.s f) v,(PI _ _ N).trans M,S,U,q4,P,⟨(VT (bv f) (OD W.w.params (bv f)) (.str (bv f) (g.toks+1)) v J.toList).toArray,_,⟨rfl,rfl,rfl⟩,rfl,λe t=>BL (W:=W) (hsh:=OD W.w.params (bv f)) rfl (es:=J.toList) (λe t=>x3 e (RI.mp t)) e (List.mem_toArray.mp t),Au x4 X,rg X⟩,RvF.store (r.mono W z.ext) q7 X⟩;exact wpAny_release' ⟨u,j,z.aY.trans Y.aY,I.step Y λ_ _ h=>iM h⟩
end
section
variable{prog:Rl}{w:Pi}{A:Ob}{E:No->Np->Prop}{s:Np}
theorem y6{M:UR}{A:Ob}{a:Type}{c:Prop}[Decidable c]{x y:Sem a}{Q:a->Np->Prop}{E:No->Np->Prop}{s:Np}(h:¬c)(k:NL M A y Q E s):NL M A (if c then x else y) Q E s:=by refine rG (if_neg h) ?_;exact k
theorem Bc{M:UR}{A:Ob}{a:Type}{c:Prop}[Decidable c]{x y:Sem a}{Q:a->Np->Prop}{E:No->Np->Prop}{s:Np}(h:c)(k:NL M A x Q E s):NL M A (if c then x else y) Q E s:=by refine rG (if_pos h) ?_;exact k
theorem JH{M:UR}{A:Ob}{a:Type}{x y:Sem a}{Q:a->Np->Prop}{E:No->Np->Prop}{s:Np}(h:x=y)(k:NL M A y Q E s):NL M A x Q E s:=h▸k
theorem pd{l:NF}{a:Array No}{g:Nat}{k:Int}{t:Tok}{v:No}{Q:Unit->Np->Prop}(d:s.heap.get? l=Nk (jd a g))(e:0<=k)(b:k<2^63)(i:k<a.size)(f:Q () {s with heap:=s.heap.update l (Ou (·.setIfInBounds k.toNat v))}):NL (NT prog w) A (U4 (.ref l) (.int k t) v) Q E s:=by
 have c:s.TypeIs (.ref l) "list":=⟨_,d,rfl⟩;unfold U4;try with_reducible refine N7 ?_
 first|refine Nn (Nt ?_)|skip
 refine Nn (SR c (by decide) ?_);refine Nn (PK (name:=Qk "__setitem__") c Rk (P9 Rk c VR ?_ (V6 _ _ _)));show NL _ _ (Qp (.int k t)>>=_) _ _ s;refine Nn (wpAny_listSubscript_int (fitsIndex_of e b) ?_);clear b;(refine(OR e).elim λj h=>?_;subst h);show NL _ _ ((seqItemAt l j>>=λr=>OW (r.map (j,·)))>>=_) _ _ s;refine Nn (Nn (wpAny_seqItemAt d rfl (Nt ?_)));refine rG (QT (by lia)) ?_;show NL _ _ (setSeqItemAt l j v>>=_) _ _ s;refine Nn (wpAny_setSeqItemAt d rfl ?_);first|exact Nn (Nt (Nt ⟨.none,rfl,Nt f⟩))|exact Nt ⟨.none,rfl,Nt f⟩
theorem listItems_at{M:UR}{a:NF}{xs:Array No}{n:Nat}{Q:Array No->Np->Prop}(b:s.heap.get? a=Nk (jd xs n))(h:Q xs s):NL M A (SG (.ref a)) Q E s:=by unfold SG;exact Nn (wpAny_seqItems b rfl (Nt h))
theorem pc{l b i:NF}{a d:Array No}{J I:Nat}{p q:Nat}{v y:No}{Q:Unit->Np->Prop}(t:s.heap.get? l=Nk (jd a J))(hb:s.heap.get? b=Nk (jd d I))(r:l≠b)(hs:s.heap.IsSliceOf i v y .none)(L:VX v (Nk (p:Int)))(M:VX y (Nk (q:Int)))(h:p<=q)(F:q<=a.size)(hz:a.size<=cap)(G:a.size+d.size<=cap)(C:Q () {s with heap:=s.heap.update l (Ou λz=>z.extract 0 p++d++z.extract q z.size)}):NL (NT prog w) A (U4 (.ref l) (.ref i) (.ref b)) Q E s:=by
 have D:cap<=PT:=by decide
 have j:s.TypeIs (.ref l) "list":=⟨_,t,rfl⟩;refine hid λR H=>?_;(refine(id hs).elim λK N=>N.elim λc P=>P.elim λo e=>?_);refine H ?_;have g:s.TypeIs (.ref i) "slice":=⟨K,c,o⟩;unfold U4;try with_reducible refine N7 ?_
 first|refine Nn (Nt ?_)|skip
 refine Nn (SR j (by decide) ?_);refine Nn (PK (name:=Qk "__setitem__") j Rk (P9 Rk j VR ?_ (V6 _ _ _)));show NL _ _ (Qp (.ref i)>>=_) _ _ s;refine Nn ?_;unfold Qp;refine Nn (TI g slice_no_index ?_);refine Bc rfl (Nt ?_);show NL _ _ (typeOf (.ref i)>>=_) _ _ s;refine Nn (U0 g ?_);refine y6 (by decide) ?_;refine rG (listSliceParts_eq _) ?_;refine Nn (Nn (Ri c e (x:=.none) rfl (Nn (T3 .none ?_))));refine y6 (show ¬((rawPart Nq==PY 0)=Nm)from Od) (Nn (Ri c e (x:=v) rfl (Nn (T3 L (Nn (Ri c e (x:=y) rfl (Nn (T3 M (Nt ?_)))))))));have f:So (.ref l) (.ref b)=Nl:=by unfold So;rw[beq_eq_false_iff_ne];exact r
 refine y6 (by refine rG f ?_;exact Od) (Nn ?_);unfold Oq.List.listAllItems;refine Nn (U0 (⟨_,hb,rfl⟩) ?_);refine Bc (by simp) ?_;first|refine listItems_at hb ?_|refine Nn (listItems_at hb (Nt ?_))
 refine Nn (listItems_at t ?_);refine Nn (Sd (sliceIndices_raw (Nk (p:Int)) (Nk (q:Int)) Nq a.size (by simp)) ?_);refine rG (sliceBounds_plain _ _ _) ?_;simp only[Option.elim,VS,S8 F,S8 (NN h F)];refine Bc (by decide) (Nn (SI ?_));have u:Pm (a.size+d.size)=Nl:=by unfold Pm;rw[decide_eq_false_iff_not];lia
 refine y6 (by refine rG u ?_;exact Od) ?_;refine rG (by rw[Int.max_eq_right (QK.mpr h)];rfl:(max (p:Int) (q:Int)).toNat=q) (rG (rfl:((p:Int)).toNat=p) ?_);refine Nn (listUpdate_at t rfl ?_ (by lia) ?_);refine Nn (wpAny_letGo ?_);first|exact Nn (Nt (Nt ⟨.none,rfl,Nt C⟩))|exact Nt ⟨.none,rfl,Nt C⟩
 simp only[Array.size_append,Array.size_extract];lia
end
section
variable{T:Tab}{O:aN}{n:Nat}{k:gS}{A:Ob}{env:Env}{m:Loc}{B:gU}{as:gH}{st:am}{s:Np}{Er:No->Np->Prop}
theorem uO(l r:Expr)(p:Pos)(env:Env)(v:No):∃c:No->No->List No,O5 (.Subscript l r p) env v=(do let a<-U6 [v] (Oi l env);let b<-U6 [v,a] (Oi r env);TV p;U6 [v,a,b] (U4 a b v);release (c a b) []):=⟨_,rfl⟩
theorem Fy{y:D}{j:Int}{G:D->Prop}(h:oW y=Nk (.v (.i j)))(k:G (.int j)):G y:=by
 induction y using D.casesOn with
 |int i=>cases h;exact k
 |tup l=>exact omI h λ_ _ e=>nomatch e|_=>exact nomatch h
inductive ey(W:Wd)(i:Nat)(y d:D)(st:am)(r:am):Prop|ap (l kk):st[i]? =Nk (.ap l)->oW y=Nk (.v kk)->l.length<cap->r=st.set i (.ap (jv l kk d))->ey W i y d st r|ak (l kk):st[i]? =Nk (.ak l)->oW y=Nk (.t kk)->l.length<cap->r=st.set i (.ak (jv l kk d))->ey W i y d st r|ae (l j):st[i]? =Nk (.ae l)->y=.int j->0<=j/\j<l.length->r=st.set i (.ae (l.set j.toNat d))->ey W i y d st r
theorem JY{i:Nat}{y d:D}{st r:am}(h:Eh i y d st=Nk r):ey W i y d st r:=by
 unfold Eh at h;cases e:st[i]? with
 |none=>rw[e]at h;exact nS h|some c=>
 cases e':oW y with
 |none=>rw[e,e']at h;induction c using ao.casesOn<;>exact nS h
 |some a=>
 rw[e,e']at h;induction c using ao.casesOn with
 |ap l=>induction a using cJ.casesOn with|v b=>exact mQ h λf h=>.ap l b e e' f (NE h).symm|t b=>exact nS h
 |ak l=>induction a using cJ.casesOn with|t b=>exact mQ h λf h=>.ak l b e e' f (NE h).symm|v b=>exact nS h
 |ae l=>induction a using cJ.casesOn with|t b=>exact nS h|v b=>induction b using Key.casesOn with|i j=>exact mQ h λf h=>.ae l j e (Fy (G:=λy=>y=.int j) e' rfl) f (NE h).symm|s j=>exact nS h
 |obj c l=>exact nS h
theorem y9{f a d}{g:Np}(S:ai W [] f a d g B as st s)(F:Frame W env m B as st s.heap){j:Nat}{r:NF×NF}(hp:as[j]? =Nk r){c c':ao}(u:NV)(t:Nat)(hc:st[j]? =Nk c)(hf:∀p,foot c' p=foot c p)(v:foot c r=[r.1])(l:∀b o,s.heap.get? b=Nk o->b≠r.1->u.get? b=Nk o)(i:CellAt W B as u r c')(vs:List No):NL (NT W.prog W.w) A (release vs []) (λ_ z=>ft W env f a d g (m,st.set j c') z) Er {s with heap:=u,toks:=t}:=by have x:=ai.turn (X:=[]) (s:=s) (s':={s with heap:=u,toks:=t}) S.hs rfl hc hp hf (λb o e y=>l b o e (λq=>y (by refine rG v ?_;exact NC.mpr q))) i;exact wpAny_release' ⟨B,as,(S.trans x).aY,F.step x λ_ _ h=>iM h⟩
theorem Gl{o i:E}{l r:Expr}{p:Pos}(ho:af W T O n k o l)(hi:af W T O n k i r):nX W T O n k (.aj o i) (.Subscript l r p):=by
 intro A env m B as st s d v q Er R F hk H rv Z;refine F5 Z λj a7 h1 Z=>jm Z λy a8 h2 Z=>pH (G:=F9 W A env _ v B as st s Er) Z λa9 hs=>?_;unfold F9;refine(uO _ _ _ _ _).elim λrl e=>JH e ?_;refine Nn (N7 (ho.val.use R F hk H h1 λb7 a3 b9 b8 Y V X a2=>Nn (N7 (hi.val.use R V hk X h2 λJ a4 c0 M K t h z=>Nn (OB (Nn (N7 ?_)))))));have C:=Y.trans K;have g:=rv.mono W C.ext;induction a2 using bR.casesOn with|@mk pp hp=>
 have c:=K.ext.cells _ _ hp;have hb:∀a o,J a=Nk o->M.heap.get? a=Nk o:=λa o e=>(h.base a o e).1;cases JY (W:=W) hs with
 |ap Q kx L x f e=>
  subst e;cases h.cell _ _ _ L c with|mk oo a6 S q2 I U=>
  refine wpAny_setItem_pairs (np z x) (lN S I) (λh' hm hs=>?_) (by refine rL U.length ?_;exact ld (OM f));(refine(Ru.mp hm).elim λo' z4=>z4.elim λP D=>?_);have N:(a6.map (·.1)).Nodup:=by(refine I.elim λ_ z5=>z5.elim λ_ z6=>z6.elim λ_ z7=>z7.elim λ_ z8=>z8.elim λ_ z9=>z9.elim λ_ hn=>?_;try clear I);exact hn
  exact y9 C t c (c':=.ap (jv Q kx d)) h' _ L (λ_=>rfl) rfl (λb o e u=>(hs.2 b u).trans e) ⟨o',_,P,NN (na kx d Q) f,D,RvK.store g U N⟩ _
 |ak Q kx L x f e=>
  subst e;cases h.cell _ _ _ L c with|mk oo xs S q2 I U=>
  have tk:=nl z x;have N:(xs.map (·.1)).Nodup:=by induction I using aU.casesOn;assumption
  induction tk using bc.casesOn with|@mk a a5 nn a0 D a1=>
  refine wpAny_setItem_heap (Qj (N6 (Oe (by decide) _) R.eY)) ((bc.mk a0 D a1:bc W J _ _).is hb) (k8 hb S I U) (λh' hm hs=>?_) (by refine rL U.length ?_;exact ld (OM f));refine hid λG9 k9=>?_;(refine hm.elim λo' b0=>b0.elim λes b1=>b1.elim λep b2=>b2.elim λP b3=>b3.elim λx1 b4=>b4.elim λx2 b5=>b5.elim λx3 b6=>b6.elim λx4 x5=>?_;try clear hm);refine k9 ?_;exact y9 C t c (c':=.ak (jv Q kx d)) h' _ L (λ_=>rfl) rfl (λb o e u=>(hs.2 b u).trans e) ⟨o',_,P,NN (na kx d Q) f,⟨es,ep,x1,x2,x3,x5⟩,RvT.store a0 D a1 g U N⟩ _
 |ae Q jj L x f e=>
 subst e;subst x;cases h.cell _ _ _ L c with|mk vs nn S q2 I=>
 induction z using aG.casesOn;have c1:=io I;refine pd S f.1 (by unfold cap at q2;lia) (by lia) ?_;exact y9 C t c (c':=.ae (Q.set jj.toNat d)) _ M.toks L (λ_=>rfl) rfl (λb o e u=>(PI _ _ (O9 u)).trans e) ⟨_,_,(Vb S (·.setIfInBounds jj.toNat v)),(by refine rG OX ?_;exact q2),(by refine rG Array.toList_setIfInBounds ?_;exact I.set _ g)⟩ _
theorem DI{o a b:E}{l x y:Expr}{pp p:Pos}(ho:af W T O n k o l)(ha:af W T O n k a x)(hb:af W T O n k b y):nX W T O n k (.slice o a b) (.Subscript l (.Slice (Nk x) (Nk y) Nq pp) p):=by
 intro A env m B as st s d v q Er R F hk H rv he;refine F5 he λj aa h1 he=>Fr he λip ah h2 he=>Fr he λiq au h3 he=>K5 he λll hc he=>C5 (G:=λd=>Rv W B as d v->_) he (λrr he rv=>mQ he λhcond he=>on (G:=F9 W A env _ v B as st s Er) he ?_) rv;(refine hcond.elim λc1 z17=>z17.elim λc2 z18=>z18.elim λc3 c4=>?_;try clear hcond);unfold F9;refine(uO _ _ _ _ _).elim λrl e=>JH e ?_;refine Nn (N7 (ho.val.use R F hk H h1 λbh aP et aO bM fW H₁ dN=>Nn (N7 (Sf ?_))));simp only[Rr,Rs];refine ha.val.use R fW hk H₁ h2 λgG gq gw az dU fV fS fG=>hb.val.use R fV hk fS h3 λeA dE gv dg dT fU fR eN=>Nt (Nn (OB (Nn (N7 ?_))));induction fG using aG.casesOn with|mk fE=>
 induction eN using aG.casesOn with|mk fD=>
 have S13:=(bM.trans dU).trans dT;have ff:=rv.mono W S13.ext;induction dN using bR.casesOn with|@mk qq hp=>
 have dP:=(dU.ext.trans dT.ext).cells _ _ hp;have P4:ai W [] eA dE au dg eA dE au {dg with heap:=dg.heap.push {cls:=.type "slice",data:=.fields #[.int ip fE,.int iq fD,.none]}}:=ai.push fR _ dg.toks;have S4:=S13.trans P4;cases S4.hs.cell _ _ _ hc dP with|mk vs nn q1 q2 q3=>
 induction ff using aA.casesOn with|@mk b ws nw w1 w2 w3=>
  have eD:qq.1≠b:=λe=>by have:=(S4.hs.off qq.1 (S4.hs.aR hc dP (ph _ _))).1;rw[e,w1]at this;exact sN this
  have e1:=io q3;(refine(OR c1).elim λa' z19=>?_;subst z19);(refine(OR (Uk c1 c2)).elim λb' z20=>?_;subst z20);have c3':b'<=vs.size:=by refine rG e1 ?_;exact QK.mp c3
  refine pc (p:=a') (q:=b') q1 ((S4.hs.base _ _ w1).1) eD (Ra ..) (.int _ _) (.int _ _) (QK.mp c2) c3' (by refine rG e1 ?_;exact q2) (by refine rG e1 (rG (io w3) ?_);exact c4) ?_;refine y9 S4 (fU.step P4 (λ_ _ h=>iM h)) (c':=.ae (ll.take a'++rr++ll.drop b')) dP _ dg.toks hc (λ_=>rfl) rfl (λb o e hb'=>(PI _ _ (O9 hb')).trans e) ⟨_,_,(Vb q1 (λxs=>xs.extract 0 a'++ws++xs.extract b' xs.size)),?_,?_⟩ _;show(ll.take a'++rr++ll.drop b').length<=cap;simp only[NG,Rc,Pz];have:=QK.mp c2;have:=QK.mp c3;lia;simp only[Px,Array.toList_extract,List.extract_eq_take_drop,VO,Nat.sub_zero];refine RvL.append ?_ (RvL.append w3 (q3.take _));refine rG (Ro (by rw[Pz,Oo];exact N4 _)) ?_;exact q3.drop _
end
section
variable{T:Tab}{O:aN}{n:Nat}{k:gS}{A:Ob}{env:Env}{m:Loc}{B:gU}{as:gH}{st:am}{s:Np}{Er:No->Np->Prop}
theorem we(env:Env)(a:Nat){xs:List Nat}{ts:List Expr}{f:Expr->Option Str}(h:aZ k xs ts)(hf:∀c pos,f (.Name c pos)=if env.kindOf c==Nk .local&&pos.line==a then Nk c else Nq):∀{l:List Str},ts.filterMap f=l->l.length=ts.length->l=xs.map bv/\∀x∈xs,env.kindOf (bv x)=Nk .local:=by
 induction h with
 |nil=>intro l e _;subst e;exact⟨rfl,λx b=>iM b⟩|@cons x xs _ ts b _ o=>
 intro l e d;(refine b.elim λp r=>r.elim λt _=>?_;try clear b;subst t);by_cases q:(env.kindOf (bv x)==Nk .local&&p.line==a)=Nm;rw[P7 (show f (.Name (bv x) p)=Nk (bv x)from(hf _ _).trans (if_pos q))]at e;subst e;(refine(o rfl (Qb d)).elim λg i=>?_);rw[NI,beq_iff_eq]at q;exact⟨congrArg (_:: ·) g,λy j=>(Nz.mp j).elim (λe=>e▸q.1) (i y)⟩;rw[P8 (show f (.Name (bv x) p)=Nq from(hf _ _).trans (if_neg q))]at e;have:l.length<=ts.length:=by refine rL e ?_;exact TG _ _
 exact absurd (d▸this) (Nat.not_succ_le_self _)
theorem pu{a:Type _}{c:Prop}[Decidable c]{x y:a}{G:a->Prop}(h:c->G x)(b:¬c->G y):G (if c then x else y):=by by_cases q:c;refine rG (if_pos q) ?_;exact h q;refine rG (if_neg q) ?_;exact b q
theorem uV{xs:List Nat}{ts:List Expr}{kd:Nat}{p:Pos}{b:Expr}(i:aZ k xs ts)(h:vU (.Tuple ts kd p) b=Nm)(env:Env):PV [.Tuple ts kd p] b env=OW Nq\/(PV [.Tuple ts kd p] b env=OW (Nk (xs.map bv))/\∀x∈xs,env.kindOf (bv x)=Nk .local):=by induction b using Pb with|Tuple c j o=>let G:Sem (Option (List Str))->Prop:=λz=>z=OW Nq\/(z=OW (Nk (xs.map bv))/\∀x∈xs,env.kindOf (bv x)=Nk .local);refine pu (G:=G) (λ_=>.inl rfl) λa=>pu (G:=G) (λ_=>.inl rfl) λ_=>pu (G:=G) (λ_=>.inl rfl) λg=>pu (G:=G) (λ_=>.inl rfl) λ_=>pu (G:=G) (λf=>?_) λ_=>.inr ?_;exfalso;have h:(!(ts.length==c.length&&c.all (T8 8)))=Nm:=h;rw[f,PN,OV,beq_eq_false_iff_ne]at h;exact h (bne_eq_false_iff_eq.mp (N9.mp (N9.mp (eq_false_of_ne_true a)).1).2).symm;(refine(we env _ i (λ_ _=>rfl) rfl (bne_eq_false_iff_eq.mp (N9.mp (eq_false_of_ne_true g)).1)).elim λd e=>?_);exact⟨congrArg (λl=>(OW (Nk l):Sem (Option (List Str)))) d,e⟩|_=>exact .inl rfl
theorem Gc{e f:Type}{xs:List e}:∀{l:List f},xs.length=l.length->xs.reverse.zip l.reverse=(xs.zip l).reverse:=by induction xs with|nil=>intro l _;rfl|cons a xs d=>intro l h;induction l using NA with|nil=>exact nomatch h|cons b l=>have c:=Qb h;refine rG OU (rG OU (rG (VF (by rw[Pc,Pc];exact c)) (rG (d c) ?_)));exact(OU ..).symm
noncomputable abbrev J4(l:List (Nat×D))(m:Loc):Loc:=l.foldl (λm p=>m.set p.1 p.2) m
theorem uf(y:Nat)(l:List (Nat×D)):∀m:Loc,(J4 l m).get y=((l.reverse.lookup y).or (m.get y)):=by induction l with|nil=>intro m;rfl|cons p r a=>intro m;obtain⟨x,d⟩:=p;refine(a (m.set x d)).trans ?_;refine rG OU (rG List.lookup_append (rG Option.or_assoc ?_));refine congrArg _ ?_;refine rG (sx _ _ _ _) (rG Os ?_);by_cases h:y=x;refine rG (if_pos h) (rG (beq_iff_eq.mpr h) ?_);rfl;refine rG (if_neg h) (rG (beq_eq_false_iff_ne.mpr h) ?_);rfl
theorem wl{l l':List (Nat×D)}(h:l.Perm l'):(l.map (·.1)).Nodup->∀y,l.lookup y=l'.lookup y:=by
 induction h with
 |nil=>intro _ _;rfl|cons x _ o=>intro f y;obtain⟨a,b⟩:=x;rw[Os,Os,o (NZ.mp f).2 y]
 |swap x y _=>intro f z;obtain⟨a,b⟩:=x;obtain⟨c,d⟩:=y;rw[Os,Os,Os,Os];by_cases g:z=c;subst g;rw[beq_eq_false_iff_ne.mpr (λe:z=a=>(NZ.mp f).1 (e▸.head _))];rw[beq_eq_false_iff_ne.mpr g]
 |trans g _ i j=>intro f y;rw[i f y,j ((g.map _).nodup_iff.mp f) y]
theorem Frame.same{m':Loc}{h:NV}(F:Frame W env m B as st h)(e:∀y,m'.get y=m.get y):Frame W env m' B as st h:={F with vals:=λx d a=>F.vals x d (by refine rL (e _) ?_;exact a)}
theorem AA(o:∀y,env.kindOf y=k y){xs:List Nat}:(∀x∈xs,env.kindOf (bv x)=Nk .local)->∀{ds:List D}{vs:List No}{m:Loc}{s:Np},RvL W B as ds vs->ds.length=xs.length->Frame W env m B as st s.heap->Hs W B as st s.heap->NL (NT W.prog W.w) A (assignInOrder (xs.map (λx=>T9 env (bv x))) vs) (λ_ l=>Dn W env B as st s (BE xs ds m) l) Er s:=by
 induction xs with
 |nil=>intro _ ds vs m s r a F H;induction ds using NA with|nil=>subst r;exact Nt ⟨ai.refl H,F⟩|cons=>exact nomatch a
 |cons x xs i=>intro b ds vs m s r a F H;induction ds using NA with|nil=>exact nomatch a|cons d ds=>induction r using aT.casesOn with|mk r j=>refine Nn (N7 (T5 (NR (sb F H r (.inl (b x (.head _)))) (λ_ f q=>?_) λ_ _ e=>e)));exact NR (i (λy h=>b y (.tail _ h)) j (Qb a) q.2 q.1.hs) (λ_ g c=>⟨q.1.trans c.1,c.2⟩) λ_ _ e=>e
theorem Bm{a:Expr}{ts:List Expr}{kd:Nat}{p:Pos}{l:Nat}{env:Env}:QZ a (Nk (.Tuple ts kd p)) l env=OW Nl:=by induction a using Pb<;>rfl
theorem Ap{xs:List Nat}{e:E}{ts:List Expr}{kd:Nat}{p pos:Pos}{N:Expr}(X:aZ k xs ts)(Q:xs.Nodup)(U:vU (.Tuple ts kd p) N=Nm)(he:af W T O n k e N):iB W T O n k (.assign (.names xs) e) (.Assign [.Tuple ts kd p] N pos):=by
 intro A env m B as st s q Er R F P H z;refine jm z λd f h1 z=>jm z λr V M z=>on (G:=w6 W A env _ B as st s Er) z ?_;unfold w6;rw[Wq];refine Nn (OB ?_);have e1:swapsWithSole [.Tuple ts kd p] N pos.line env=OW Nl:=Bm (ts:=ts) (kd:=kd) (p:=p) (l:=pos.line) (env:=env);rw[e1,QA];simp only[OE,if_false];refine Nn (he.val.use R F P H h1 λg c v u o i j t=>?_);rcases uV X U env with S|⟨J,I⟩
 rw[S,QA];refine Nn (NR (DJ (aJ.many (kd:=kd) (p:=p) X) A env m g c f u d v _ Er R i P j t M) (λ_ L p=>?_) λ_ _ e=>e);induction p using ft.casesOn with|mk C w a D=>exact Nt ⟨C,w,o.aY.trans a,D,.next⟩
 rw[J,QA];refine ml M λd' hl M=>omI M λY hb e=>?_;cases e;refine B6 (G:=λr=>NL _ A _ (bg W env B as st s (.next,r,f)) Er u) hb λl hs b=>?_;refine Nn (SI ?_);show NL _ _ (Tt v (xs.map bv).length Nq>>=_) _ _ _;rw[Nu,<-b];refine Nn (re R.handled j t hl hs λvs L a K=>?_);have e2:((xs.map bv).reverse.map λn=>T9 env n)=xs.reverse.map (λx=>T9 env (bv x)):=by rw[<-Qs,Pe];rfl
 rw[e2];refine Nn (NR (AA P (λx z=>I x (SH.mp z)) K.reverse (by rw[Pc,Pc];exact b) (i.step a λ_ _ h=>iM h) a.hs) (λ_ Z p=>Nt ⟨g,c,(o.trans a).aY.trans p.1,p.2.same λy=>?_,.next⟩) λ_ _ e=>e);refine(uf y _ _).trans (We ?_ (uf y _ _).symm);rw[Gc b.symm,Uw];have hn:((xs.zip l).map (·.1)).Nodup:=by rw[List.map_fst_zip (Pf b.symm)];exact Q
 rw[wl (Ve (xs.zip l)) (by rw[Qs];exact(Ve _).nodup_iff.mpr hn) y]
end
abbrev jk(W:Wd)(X:List NF)(B:gU)(as:gH)(st:am)(h:NV):Prop:=∀x∈X,ar W B as st h x
abbrev ItP:=Nat->gU->gH->NV->Prop
structure Iter(W:Wd)(A:Ob)(target:Expr)(it:No)(X:List NF)(l:List D)(P:ItP)(P':No->ItP):Prop where
 next:∀{i d B as st s Er}{Q:Option No->Np->Prop},l[i]? =Nk d->P i B as s.heap->Hs W B as st s.heap->jk W X B as st s.heap->
  (∀B' v s',ai W X B as st s B' as st s'->jk W X B' as st s'.heap->Rv W B' as d v->P' v (i+1) B' as s'.heap->Q (Nk v) s')->NL (NT W.prog W.w) A (Sg it) Q Er s
 stop:∀{i B as st s Er}{Q:Option No->Np->Prop},l[i]? =Nq->P i B as s.heap->Hs W B as st s.heap->jk W X B as st s.heap->
  (∀s',ai W X B as st s B as st s'->Q Nq s')->NL (NT W.prog W.w) A (Sg it) Q Er s
 go:∀{i d v B as st s Er}{Q:Unit->Np->Prop},l[i]? =Nk d->Rv W B as d v->P' v (i+1) B as s.heap->Hs W B as st s.heap->jk W X B as st s.heap->
  (∀s',ai W X B as st s B as st s'->jk W X B as st s'.heap->P (i+1) B as s'.heap->Q () s')->NL (NT W.prog W.w) A (TL target it v) Q Er s
 keep:∀{i B as st s B' as' st' s' Y},P i B as s.heap->jk W X B as st s.heap->ai W Y B as st s B' as' st' s'->(∀x∈X,x∉Y)->P i B' as' s'.heap/\jk W X B' as' st' s'.heap
 self:∀{i B as s Er}{Q:No->Np->Prop},P i B as s.heap->Q it s->NL (NT W.prog W.w) A (VQ it) Q Er s
section
variable{T:Tab}{O:aN}{n:Nat}{k:gS}{A:Ob}{env:Env}{m:Loc}{B:gU}{as:gH}{st:am}{s:Np}{Er:No->Np->Prop}
inductive dW(W:Wd)(X:List NF)(env:Env)(B:gU)(as:gH)(st:am)(s:Np)(q:Out)(f:Flow)(s':Np):Prop|mk (B' as'):ai W X B as st s B' as' q.2.2 s'->Frame W env q.2.1 B' as' q.2.2 s'.heap->dw W B' as' q.1 f->dW W X env B as st s q f s'
inductive eV(W:Wd)(X X':List NF)(P:ItP)(xs:List Nat)(single:Bool)(b:Loc->am->Ot)(l:List D)(env:Env)(B:gU)(as:gH)(st:am)(s:Np)(q:Out)(j:Nat)(aO:Np):Prop|mk (i bh aP aa m₁):j+i=l.length->ai W X' B as st s bh aP aa aO->Frame W env m₁ bh aP aa aO.heap->P i bh aP aO.heap->jk W X bh aP aa aO.heap->forLoop xs single b (l.drop i) m₁ aa=Nk q->eV W X X' P xs single b l env B as st s q j aO
theorem E5{single:Bool}{xs:List Nat}{e:Expr}{b:Ss}{body:List OS}{it:No}{X:List NF}{l:List D}{P:ItP}{P':No->ItP}{H C E}{L:Np}{q:Out}{R:Tm->Np->Prop}(I:Iter W A e it X l P P')(Rm:aF A n)(ht:aJ k single xs e)(hb:lO W T O n k b body)(hk:∀y,env.kindOf y=k y)(hX:∀x∈X,x∉dl env)(c1:ai W (dl env++X) H C E L B as st s)(b4:Frame W env m B as st s.heap)(b6:P 0 B as s.heap)(a7:jk W X B as st s.heap)(he:forLoop xs single (exs T O b) l m st=Nk q)(hR:∀f s',dW W (dl env++X) env H C E L q f s'->R (.ok f) s'):P0 (NT W.prog W.w) A (.forLoop e it body [] env) R s:=by
 refine codeAny_forLoop_any (eV W X (dl env++X) P xs single (exs T O b) l env H C E L q) (λj c8 p=>?_) l.length ⟨0,B,as,st,m,rfl,c1,b4,b6,a7,he⟩;induction p using eV.casesOn with|mk i b2 N V c3 hj J Z a0 Y t=>
 have wX:∀{B as st}{s:Np}{B' M st'}{s':Np},ai W X B as st s B' M st' s'->ai W (dl env++X) B as st s B' M st' s':=λx=>x.weaken λa h=>Ui _ h;have wF:∀{B as st}{s:Np}{B' M st'}{s':Np},ai W (dl env) B as st s B' M st' s'->ai W (dl env++X) B as st s B' M st' s':=λx=>x.weaken λa h=>Uy _ h;have a5:∀a∈dl env,a∉X:=λa ha hx=>hX a hx ha;induction j using NY with
 |succ j=>
  have c2:i<l.length:=hj▸ON (P3 i) (by refine rG (Ug _ _) ?_;exact Pk (S9 _ _));have hd:l[i]? =Nk l[i]:=NQ c2;rw[QW c2]at t;refine ml (o:=iz xs single l[i] c3) t λa2 c6 t=>?_;refine I.next hd a0 J.hs Y λb3 v c5 z a8 a3 b7=>I.go hd a3 b7 z.hs a8 λc9 K a9 b8=>?_
  refine NR (o6 Rm.handled ht ((Z.step z a5).step K a5) hk K.hs (a3.mono W K.ext) (.inl rfl) c6) (λ_ a4 p=>?_) λ_ _ e=>e;(refine(I.keep b8 a9 p.1 hX).elim λb9 b0=>?_);have a6:∀{q':Out}{Q:Flow->Np->Prop}{G:No->Np->Prop},exs T O b a2 V=Nk q'->(∀g c f u,ai W (dl env++X) H C E L g c q'.2.2 u->Frame W env q'.2.1 g c q'.2.2 u.heap->P (i+1) g c u.heap->jk W X g c q'.2.2 u.heap->dw W g c q'.1 f->Q f u)->NL (NT W.prog W.w) A (execs body env) Q G a4:=λhx kk=>NR (hb A env a2 b3 N V a4 _ _ Rm p.2 hk p.1.hs hx) (λf u h=>by induction h using bg.casesOn with|mk g c a1 b5 c4=>(refine(I.keep b9 b0 a1 hX).elim λc0 b1=>?_);exact kk g c f u ((((J.trans (wX z)).trans (wX K)).trans (wF p.1)).trans (wF a1)) b5 c0 b1 c4) λ_ _ e=>e;have c7:j+(i+1)=l.length:=by refine rL hj (rG (Ug _ _) ?_);rfl
  refine MN t (λU F h2 t=>?_) (λU F h2 e=>?_) (λd U F h2 e=>?_)
  ·(refine h2.elim (λh2=>?_) λh2=>?_);all_goals exact a6 h2 λg c f u S F' P' A' r=>by cases r;exact⟨j,P3 _,i+1,g,c,F,U,c7,S,F',P',A',t⟩
  subst e;exact a6 h2 λg c f u S F' P' A' r=>by cases r;exact hR _ _ ⟨g,c,S,F',.next⟩
  subst e;exact a6 h2 λg c f u S F' P' A' r=>by cases r with|ret r=>exact hR _ _ ⟨g,c,S,F',.ret r⟩
 |zero=>have hi:l.length<=i:=Pf (hj.symm.trans (Oz i));rw[Rq hi]at t;(refine sI t λq0=>?_;subst q0);exact I.stop (Uj hi) a0 J.hs Y λc5 z=>TJ (hR _ _ ⟨b2,N,J.trans (wX z),Z.step z a5,.next⟩)
end
section
variable{A:Ob}{B:gU}{as:gH}{st:am}{s:Np}{Er:No->Np->Prop}
noncomputable def wd:List String:=["enumerate","zip","dict_itemiterator","dict_reverseitemiterator","odict_iterator","itertools.zip_longest","itertools.pairwise"]
noncomputable def L6(I a:NF):Sem Unit:=do let o<-load I;match o.cls,o.data with|.type n,.fields b=>if wd.contains n&&b[0]? ==Nk (PY a)then rule "for.unpacks-the-owned-tuple";updateField I 0 .none|_,_=>OW ()
theorem FS{I:NF}{o:Obj}{nm:String}{Q:Unit->Np->Prop}(f:s.heap.get? I=Nk o)(hc:o.cls=.type nm)(e:wd.contains nm=Nl)(h:Q () s)(a:NF):NL (NT W.prog W.w) A (L6 I a) Q Er s:=by refine Nn (wpAny_load f ?_);obtain⟨c,d,b,i⟩:=o;subst hc;induction b using PySem.Data.casesOn with|fields g=>show NL _ _ (if(wd.contains nm&&g[0]? ==Nk (PY a))=Nm then _ else _) _ _ _;refine rG (if_neg (by rw[e];exact Od)) ?_;exact Nt h|_=>exact Nt h
theorem E1{b:Expr}{I:NF}{v:No}{o:Obj}{nm:String}{Q:Unit->Np->Prop}(d:s.heap.get? I=Nk o)(hc:o.cls=.type nm)(c:wd.contains nm=Nl)(h:Q () s):NL (NT W.prog W.w) A (TL b (.ref I) v) Q Er s:=by
 induction b using Pb with
 |Tuple=>induction v using Qn with|ref a=>exact FS d hc c h a|_=>exact Nt h
 |List=>induction v using Qn with|ref a=>exact FS d hc c h a|_=>exact Nt h
 |_=>exact Nt h
theorem j2{I:NF}{h:NV}(x:ar W B as st h I):jk W [I] B as st h:=λ_ a=>jE (G:=ar W B as st h) a x
theorem lf{h a:NV}{I:NF}{o:Obj}(x:ar W B as st h I)(b:a.get? I=Nk o)(hc:o.cls≠.type "code"):ar W B as st a I:=⟨x.foot,x.base,x.bB,λd e=>by rw[b]at e;(refine sI e λc=>?_;subst c);exact λq=>hc q.1⟩
theorem iN{o:Obj}{nm:String}(h:o.cls=.type nm)(a:nm≠"code"):o.cls≠.type "code":=λe=>by rw[h]at e;injection e with e;exact a e
structure One(W:Wd)(A:Ob)(I:NF)(l:List D)(nm:String)(P:ItP):Prop where
 good:wd.contains nm=Nl/\nm≠"code"
 cls:∀{i B as h},P i B as h->∃o,h.get? I=Nk o/\o.cls=.type nm
 move:∀{i B as h B' as' h' o},P i B as h->bS B as B' as'->h.get? I=Nk o->h'.get? I=Nk o->P i B' as' h'
 next:∀{i d B as st s Er}{Q:Option No->Np->Prop},l[i]? =Nk d->P i B as s.heap->Hs W B as st s.heap->(∀v h' t,Rv W B as d v->P (i+1) B as h'->OT I s.heap h'->Q (Nk v) {s with heap:=h',toks:=t})->NL (NT W.prog W.w) A (Sg (.ref I)) Q Er s
 stop:∀{i B as st s Er}{Q:Option No->Np->Prop},l[i]? =Nq->P i B as s.heap->Hs W B as st s.heap->(∀h',QX I s.heap h'->Q Nq {s with heap:=h'})->NL (NT W.prog W.w) A (Sg (.ref I)) Q Er s
 self:∀{i B as s Er}{Q:No->Np->Prop},P i B as s.heap->Q (.ref I) s->NL (NT W.prog W.w) A (VQ (.ref I)) Q Er s
theorem One.iter{I:NF}{l:List D}{nm:String}{P:ItP}(o:One W A I l nm P)(a:Expr):Iter W A a (.ref I) [I] l P (λ_=>P) where
 next hd p H hA q:=o.next hd p H λv i t r h g=>by(refine(o.cls h).elim λx j=>j.elim λc f=>?_);exact q _ v _ (ai.other H rfl hA λb o e d=>by refine rG (g.2 b (λz=>d (z▸.head _))) ?_;exact e) (j2 (lf (hA I (.head _)) c (iN f o.good.2))) r h
 stop hd p H hA q:=o.stop hd p H λi g=>q _ (ai.other H rfl hA λb o e d=>g b o (λz=>d (z▸.head _)) e)
 go _ _ p H hA q:=by(refine(o.cls p).elim λx k=>k.elim λc f=>?_);exact E1 c f o.good.1 (q _ (ai.refl H) hA p)
 keep p hA S hY:=by(refine(o.cls p).elim λx m=>m.elim λc _=>?_);have z:=(hA I (.head _)).step S c (hY I (.head _));exact⟨o.move p S.ext c z.2,j2 z.1⟩
 self p q:=o.self p q
inductive cp(W:Wd)(I:NF)(l:List D)(i:Nat)(B:gU)(as:gH)(h:NV):Prop|mk {a vs nn o}:B a=Nk (jd vs nn)->RvL W B as l vs.toList->h.get? I=Nk o->o.cls=.type "list_iterator"->o.data=.fields #[.ref a,PY i]->cp W I l i B as h
theorem Cq(i:A.handled=Nq)(I:NF)(l:List D):One W A I l "list_iterator" (cp W I l) where
 good:=by decide
 cls p:=by induction p using cp.casesOn with|mk _ _ a b=>exact⟨_,a,b⟩
 move p x e e':=by induction p using cp.casesOn with|mk d f a b c=>(refine sI (e.symm.trans a) λm=>?_;subst m);exact .mk (x.base _ _ d) (f.mono W x) e' b c
 next hd p H q:=by induction p using cp.casesOn with|mk d f a b c=>(refine(f.get hd).elim λv o=>o.elim λk n=>?_);exact U3 ⟨_,a,b,c⟩ ⟨_,(H.base _ _ d).1,rfl,_,rfl⟩ (Oa.symm.trans k) λh g j=>by(refine g.elim λ_ r=>r.elim λa t=>t.elim λb c=>?_;try clear g);exact q v h _ n (.mk d f a b c) j
 stop hd p H q:=by induction p using cp.casesOn with|mk d f a b c=>exact Vh i ⟨_,a,b,c⟩ ⟨_,(H.base _ _ d).1,rfl,_,rfl⟩ (QL.mpr (by refine rG (io f) ?_;exact P5.mp hd)) q
 self p q:=by induction p using cp.casesOn with|mk d f a b c=>exact wpAny_pyIter_listiter ⟨_,a,b,c⟩ q
inductive dc(W:Wd)(I:NF)(l:List D)(i:Nat)(B:gU)(as:gH)(h:NV):Prop|mk {a vs nn o}:B a=Nk (uT vs nn)->RvL W B as l vs.toList->h.get? I=Nk o->o.cls=.type "tuple_iterator"->o.data=.fields #[.ref a,PY i]->dc W I l i B as h
theorem EO(k:A.handled=Nq)(I:NF)(l:List D):One W A I l "tuple_iterator" (dc W I l) where
 good:=by decide
 cls p:=by induction p using dc.casesOn with|mk _ _ a b=>exact⟨_,a,b⟩
 move p x e e':=by induction p using dc.casesOn with|mk d f a b c=>(refine sI (e.symm.trans a) λo=>?_;subst o);exact .mk (x.base _ _ d) (f.mono W x) e' b c
 next hd p H q:=by induction p using dc.casesOn with|mk d f a b c=>(refine(f.get hd).elim λv t=>t.elim λn r=>?_);exact wpAny_pyNext_tuple_item ⟨_,a,b,c⟩ ⟨_,(H.base _ _ d).1,rfl,_,rfl⟩ (Oa.symm.trans n) λj g m=>by(refine g.elim λ_ h=>h.elim λa i=>i.elim λb c=>?_;try clear g);exact q v j _ r (.mk d f a b c) m
 stop hd p H q:=by induction p using dc.casesOn with|mk d f a b c=>exact wpAny_pyNext_tuple_end k ⟨_,a,b,c⟩ ⟨_,(H.base _ _ d).1,rfl,_,rfl⟩ (QL.mpr (by rw[io f];exact P5.mp hd)) q
 self p q:=by induction p using dc.casesOn with|mk d f a b c=>exact wpAny_pyIter_tupleiter ⟨_,a,b,c⟩ q
inductive bO(I:NF)(a:Int)(n:Nat)(i:Nat)(B:gU)(as:gH)(h:NV):Prop|mk {b c:Int}:b=a+i->c+i=n->IsRangeIter h I b c 1->bO I a n i B as h
theorem ud(n:Nat):∀(a:Int)(i:Nat),(j3 a n)[i]? =if i<n then Nk (.int (a+i))else Nq:=by induction n with|zero=>intro a i;exact(if_neg (Rz i)).symm|succ n b=>intro a i;induction i using NY with|zero=>refine rG (if_pos (Nat.succ_pos n)) ?_;exact congrArg (λx=>Nk (D.int x)) (Ul a).symm|succ i=>refine(b (a+1) i).trans ?_;refine rG (TT _ _ _) (rG (Int.add_comm 1 _) ?_);by_cases h:i<n;refine rG (if_pos h) (rG (if_pos (Nat.succ_lt_succ h)) ?_);rfl;exact rG (if_neg h) (rG (if_neg (λe=>h (Nat.lt_of_succ_lt_succ e))) rfl)
theorem AE(r:A.handled=Nq)(I:NF)(a:Int)(n:Nat):One W A I (j3 a n) "range_iterator" (bO I a n) where
 good:=by decide
 cls p:=by induction p using bO.casesOn with|mk _ _ a=>exact⟨_,a,rfl⟩
 move p x e e':=by induction p using bO.casesOn with|mk h k a=>(refine sI (e.symm.trans a) λm=>?_;subst m);exact .mk h k e'
 next:=@λi d B as st s Er Q f p H q=>by rw[ud]at f;induction p using bO.casesOn with|@mk b c h k j=>by_cases g:i<n;rw[if_pos g]at f;(refine sI f λm=>?_;subst m);refine wpAny_pyNext_range_item j (by lia) λo l t=>?_;subst h;exact q _ o _ (.int _ _) (.mk (TT a i 1) (by lia) l) t;rw[if_neg g]at f;exact nS f
 stop:=@λi B as st s Er Q f p H q=>by rw[ud]at f;induction p using bO.casesOn with|@mk b c h k j=>by_cases g:i<n;rw[if_pos g]at f;exact sN f;exact wpAny_pyNext_range_end r j (by lia) q
 self p q:=by induction p using bO.casesOn with|mk h k j=>exact wpAny_pyIter_rangeiter j q
theorem ai.fm{X:List NF}(H:Hs W B as st s.heap){a:NF}{o:Obj}(f:ar W B as st s.heap a)(n:s.heap.get? a=Nk o)(m:a∈X):ai W X B as st s (ti B a o) as st s:=by
 have g:bS B as (ti B a o) as:=jO f.base;have j:∀b d,ti B a o b=Nk d->(b=a/\d=o)\/B b=Nk d:=λb d e=>by by_cases q:b=a;subst q;exact .inl ⟨rfl,(NE ((js B b o).symm.trans e)).symm⟩;exact .inr ((if_neg q).symm.trans e)
 refine⟨rfl,λb o e _=>⟨o,e⟩,λ_ _ e _ _ _=>e,g,λb d e=>?_,λb h=>.inl h,⟨H.aK,λb d e=>?_,λb d e=>g.base _ _ (H.b0 b d e),H.len,λi c p k l=>(H.cell i c p k l).mono g,λb h=>⟨?_,(H.off b h).2⟩,H.nodup⟩⟩;rcases j b d e with⟨rfl,_⟩|z
 exact .inr (.inr m);exact .inl z;rcases j b d e with⟨rfl,rfl⟩|z
 exact⟨n,f.dD⟩;exact H.base b d z;exact(if_neg (λ(z:b=a)=>f.foot (z▸h))).trans (H.off b h).1
theorem ar.ext{a b:NF}{o:Obj}{h:NV}(x:ar W B as st h a)(c:a≠b):ar W (ti B b o) as st h a:=⟨x.foot,(if_neg c).trans x.base,x.bB,x.code⟩
inductive cD(W:Wd)(e I:NF)(l:List D)(i:Nat)(B:gU)(as:gH)(h:NV):Prop|mk {a vs nn old o}:B a=Nk (jd vs nn)->RvL W B as l vs.toList->h.get? I=Nk o->o.cls=.type "list_iterator"->o.data=.fields #[.ref a,PY i]->IsEnum h e I i old->e≠I->cD W e I l i B as h
inductive cU(W:Wd)(e I:NF)(l:List D)(u:No)(i:Nat)(B:gU)(as:gH)(h:NV):Prop|mk {a vs nn v t o}:B a=Nk (jd vs nn)->RvL W B as l vs.toList->h.get? I=Nk o->o.cls=.type "list_iterator"->o.data=.fields #[.ref a,PY i]->IsEnumOut h e I i v t->e≠I->u=.ref t->cU W e I l u i B as h
theorem wH(l:List D):∀(k:Int)(i:Nat),(wI k l)[i]? =(l[i]?).map λd=>.tup [.int (k+i),d]:=by induction l with|nil=>intro k i;rfl|cons d r a=>intro k i;induction i using NY with|zero=>exact congrArg (λx=>Nk (D.tup [.int x,d])) (Ul k).symm|succ i=>refine(a (k+1) i).trans ?_;refine rG (TT _ _ _) (rG (Int.add_comm 1 _) ?_);rfl
theorem pT{a b x:NF}{G:NF->Prop}(h:x∈[a,b])(k:G a)(c:G b):G x:=by
 rcases Nz.mp h with rfl|h
 exact k;exact jE h c
theorem vc{a b x:NF}(h:x∉[a,b]):x≠a/\x≠b:=⟨λe=>h (e▸.head _),λe=>h (e▸.tail _ (.head _))⟩
theorem Cr(hh:A.handled=Nq){elts:List Expr}{kd:Nat}{pos:Pos}(e I:NF)(l:List D):Iter W A (.Tuple elts kd pos) (.ref e) [e,I] (wI 0 l) (cD W e I l) (cU W e I l) where
 next:=@λi d B as st s Er Q hd p H hA q=>by
  rw[wH]at hd;refine omI hd λd' hd' hq=>?_;refine hid λG9 k9=>?_;subst hq;induction p using cD.casesOn with|mk h1 h2 a b c h4 h5=>
  (refine(h2.get hd').elim λv z12=>z12.elim λhv rv=>?_);refine k9 ?_;refine wpAny_pyNext_enum_item h4 ⟨_,a,b,c⟩ ⟨_,(H.base _ _ h1).1,rfl,_,rfl⟩ (x:=v) (Oa.symm.trans hv) h5 λh' ho' hit ht hs2 kp=>?_;have S1:ai W [e,I] B as st s B as st {s with heap:=h',toks:=s.toks+1}:=ai.other H rfl hA λb o eb hb=>kp b o (vc hb).1 (vc hb).2 eb;have S2:ai W [s.heap.objs.size,e,I] B as st {s with heap:=h',toks:=s.toks+1} _ as st {s with heap:=h',toks:=s.toks+1}:=ai.fm (s:={s with heap:=h',toks:=s.toks+1}) S1.hs (⟨λz=>(by(refine((H.off _ z).2.2).elim λo eo=>?_);rw[gT]at eo;exact nS eo),H.av (gT _),H.low,λo eo=>(by rw[ht]at eo;(refine sI eo λq0=>?_;subst q0);exact λz=>iN (nm:="tuple") rfl (by decide) z.1)⟩) ht (.head _);have S12:=((S1.weaken λz hz=>Ux _ hz).trans S2).drop (Y:=[e,I]) λz hz=>by
   rcases Nz.mp hz with rfl|hz
   exact .inr (gT _);exact .inl hz
  refine hid λG9 k9=>?_;(refine hit.elim λoI z13=>z13.elim λhoI z14=>z14.elim λhcI hdI=>?_;try clear hit);refine k9 ?_;refine q _ _ _ S12 (λz hz=>pT (G:=ar W _ as st h') hz ?_ ?_) (.tup (n:=0) (vs:=#[.int i s.toks,v]) (js _ _ _) (show 2<=cap by decide) (by refine rG (Int.zero_add _) ?_;exact .cons (.int _ _) (.cons (rv.mono W S2.ext) .nil))) (.mk (S2.ext.base _ _ h1) (h2.mono W S2.ext) hoI hcI hdI ho' h5 rfl);exact(lf (hA e (.head _)) ho' (iN (nm:="enumerate") rfl (by decide))).ext (Pu (Pr h4));exact(lf (hA I (.tail _ (.head _))) hoI (iN hcI (by decide))).ext (Pu (Pr a))
 stop:=@λi B as st s Er Q hd p H hA q=>by
  rw[wH]at hd;refine hid λG9 k9=>?_;induction p using cD.casesOn with|mk h1 h2 a b c h4 h5=>
  refine k9 ?_;exact wpAny_pyNext_enum_end hh h4 ⟨_,a,b,c⟩ ⟨_,(H.base _ _ h1).1,rfl,_,rfl⟩ (QL.mpr (by refine rG (io h2) ?_;exact P5.mp (TD.mp hd))) λh' hs=>q _ (ai.other (s':={s with heap:=h'}) H rfl hA λb o eb hb=>hs b o (vc hb).2 eb)
 go:=@λi d v B as st s Er Q hd rv p H hA q=>by
  induction p using cU.casesOn with|mk h1 h2 a b c h4 h5 h6=>
  subst h6;refine wpAny_letOwnedTupleGo_enum h4 λh' he hs=>?_;have hoI':=(hs.2 I (O9 h5)).trans a;have S:ai W [e,I] B as st s B as st {s with heap:=h'}:=ai.other H rfl hA λb o eb hb=>by refine rG (hs.2 b (vc hb).1) ?_;exact eb
  exact q _ S (λz hz=>pT (G:=ar W _ as st h') hz (lf (hA _ (.head _)) he (iN (nm:="enumerate") rfl (by decide))) (lf (hA _ (.tail _ (.head _))) hoI' (iN b (by decide)))) (.mk h1 h2 hoI' b c he h5)
 keep p hA S hY:=by
  induction p using cD.casesOn with|mk h1 h2 a b c h4 h5=>
  have q:=(hA I (.tail _ (.head _))).step S a (hY I (.tail _ (.head _)));have q':=(hA e (.head _)).step S h4 (hY e (.head _));exact⟨.mk (S.ext.base _ _ h1) (h2.mono W S.ext) q.2 b c q'.2 h5,λx hx=>pT (G:=ar W _ _ _ _) hx q'.1 q.1⟩
 self p q:=by induction p using cD.casesOn with|mk h1 h2 a b c h4 h5=>exact V2 h4 q
end
section
variable{prog:Rl}{w:Pi}{A:Ob}{E:No->Np->Prop}{s:Np}
theorem zi{d:NF}{o:Obj}{es:Array OI}{e:Nat}{Q:No->Np->Prop}(hd:(d==Q7)=Nl)(c:s.heap.get? d=Nk o)(hc:o.cls=.type "dict")(a:o.data=.dict es e)(f:Q (.ref s.heap.objs.size) {s with heap:=s.heap.push {cls:=.type "dict_keyiterator",data:=.fields #[.ref d,.int 0 0,.int es.size 0,.int e 0]}}):NL (NT prog w) A (VQ (.ref d)) Q E s:=by have b:s.TypeIs (.ref d) "dict":=⟨o,c,hc⟩;refine wpAny_pyIter_slot b Tn (P9 Tn b PySem.F.entry_dict_iter ?_ (PySem.F.args_dict_iter_1 _));unfold Oq.«dict.__iter__» Oq.Dict.dictSlotNone;refine Nn (Nn (Vi b ?_));show NL _ _ (OW (RJ d)) _ _ s;refine Nt ?_;show NL _ _ (SL d>>=_) _ _ s;unfold SL;refine rG (if_neg (by rw[hd];exact Od)) ?_;refine Nn (Nt (Nn (Rj c a (Nn (TK c a ?_)))));refine Nn (O1 (Nt ⟨_,rfl,"dict_keyiterator",_,⟨_,NP _ rfl,rfl⟩,OL.lookup,?_⟩));simpa[PY]using f
theorem En{c d:NF}{i g:Nat}{o:Obj}{es:Array OI}{Q:Option No->Np->Prop}(a:s.heap.IsKeyIter c d i es.size g)(f:s.heap.get? d=Nk o)(e:o.data=.dict es g)(k:i<es.size)(m:∀j,j.IsKeyIter c d (i+1) es.size g->OT c s.heap j->Q (Nk es[i].key) {s with heap:=j}):NL (NT prog w) A (Sg (.ref c)) Q E s:=by
 (refine(id a).elim λr p=>p.elim λl q=>q.elim λn h=>?_);unfold Sg;refine Nn (UE (PK (name:=Qk "__next__") a.typeIs OL (P9 OL a.typeIs RK ?_ (RE _))));refine Nn (Nt (Nn (Nn ?_)));first|refine Nn (PO a.typeIs (Nt ?_))|refine Nn (Qd a.typeIs (Nt ?_))
 refine Nn (wpAny_fieldsOf l h ?_);refine rG (by decide:Rn "dict_keyiterator"=Nl) ?_;show NL _ _ (S5 (.ref d)>>=_) _ _ s;refine Nn (Nt (Nn (Rj f e ?_)));refine rG (if_neg (by simp)) ?_;refine Nn (Nt (Nn (TK f e ?_)));refine rG (if_neg (by simp)) ?_;refine Nt ?_;simp only[show ¬((i:Int)<0)from by lia,if_false,OK,QT k];refine Nn ?_;first|refine Nn (PO a.typeIs (Nt ?_))|refine Nn (Qd a.typeIs (Nt ?_))
 refine Nn (Vj a.typeIs ?_);show NL _ _ (setField (.ref c) 1 (PY ((i:Int)+1))>>=_) _ _ s;refine Nn (wpAny_setField l h (by simp) ?_);have b:(s.heap.update c (V9 (·.setIfInBounds 1 (PY ((i:Int)+1))))).IsKeyIter c d (i+1) es.size g:=⟨_,Qq _ l (Obj.isFreed_of_fields (U9 h _)),(Obj.cls_mapFields ..).trans n,by refine rG (U9 h _) ?_;simp[PY]⟩;refine Nn (N7 ?_);refine Nn (Vj (s:={s with heap:=s.heap.update c (V9 (·.setIfInBounds 1 (PY ((i:Int)+1))))}) b.typeIs ?_);show NL _ _ (OW es[i].key) _ _ _;exact Nt (Nt ⟨_,rfl,Nt (m _ b (Pn ..))⟩)
theorem G1{h d:NF}{i k:Nat}{o:Obj}{es:Array OI}{Q:Option No->Np->Prop}(r:A.handled=Nq)(c:s.heap.IsKeyIter h d i es.size k)(f:s.heap.get? d=Nk o)(e:o.data=.dict es k)(j:es.size<=i)(q:∀l,QX h s.heap l->Q Nq {s with heap:=l}):NL (NT prog w) A (Sg (.ref h)) Q E s:=by
 (refine(id c).elim λx t=>t.elim λp u=>u.elim λv n=>?_);unfold Sg;refine Nn (UE (PK (name:=Qk "__next__") c.typeIs OL (P9 OL c.typeIs RK ?_ (RE _))));refine Nn (Nt (Nn (Nn ?_)));first|refine Nn (PO c.typeIs (Nt ?_))|refine Nn (Qd c.typeIs (Nt ?_))
 refine Nn (wpAny_fieldsOf p n ?_);have g:Rn "dict_keyiterator"=Nl:=by decide
 refine rG g ?_;show NL _ _ (S5 (.ref d)>>=_) _ _ s;refine Nn (Nt (Nn (Rj f e ?_)));refine rG (if_neg (by simp)) ?_;refine Nn (Nt (Nn (TK f e ?_)));refine rG (if_neg (by simp)) ?_;refine Nt ?_;simp only[show ¬((i:Int)<0)from by lia,if_false,OK,Array.getElem?_eq_none j];refine Nn ?_;first|refine Nn (PO c.typeIs (Nt ?_))|refine Nn (Qd c.typeIs (Nt ?_))
 show NL _ _ (setField (.ref h) 0 .none>>=_) _ _ s;refine Nn (wpAny_setField p n (by simp) ?_);show NL _ _ (newExc (.type "StopIteration") []>>=_) _ _ _;refine Nn ?_;simp only[newExc,newTuple];refine Nn (O1 ?_ (by size_fits));refine Nn (m:=firstArgMember _ _) (Sd (a:=No.none) (by first|rfl|(simp only[firstArgMember];rfl)) ?_);refine O1 ?_ (by size_fits);show NL _ _ (handled>>=_) _ _ _;refine Nn (wpAny_handled ?_);refine rG (show A.in1.handled=Nq from r) ?_;refine Nn (Nt (wpAny_throw ?_));refine Nn (wpAny_isInstance (T:="StopIteration") (b:=Nm) ⟨_,NP _ rfl,rfl⟩ isSubtype_stop ?_);exact Nt (q _ (((Pn ..).extBut.push _).push _))
end
section
variable{A:Ob}
def Lo(W:Wd)(B:gU)(as:gH)(l:List D)(es:Array OI):Prop:=es.size=l.length/\∀(i:Nat)(d:D),l[i]? =Nk d->∀e:OI,es[i]? =Nk e->Rv W B as d e.key
inductive bZ(W:Wd)(I:NF)(l:List D)(i:Nat)(B:gU)(as:gH)(h:NV):Prop|mk {a o es ep x}:B a=Nk o->o.data=.dict es ep->Lo W B as l es->h.get? I=Nk x->x.cls=.type "dict_keyiterator"->x.data=.fields #[.ref a,PY i,PY es.size,PY ep]->bZ W I l i B as h
theorem wp(r:A.handled=Nq)(I:NF)(l:List D):One W A I l "dict_keyiterator" (bZ W I l) where
 good:=by decide
 cls p:=by induction p using bZ.casesOn with|mk _ _ _ a b=>exact⟨_,a,b⟩
 move p x e e':=by induction p using bZ.casesOn with|mk g h f a b c=>(refine sI (e.symm.trans a) λu=>?_;subst u);exact .mk (x.base _ _ g) h ⟨f.1,λi d j e o=>(f.2 i d j e o).mono W x⟩ e' b c
 next j p H q:=by induction p using bZ.casesOn with|mk g h f a b c=>have m:_<_:=f.1.symm▸(Nv.mp j).1;exact En ⟨_,a,b,c⟩ (H.base _ _ g).1 h m λn k t=>by(refine k.elim λ_ v=>v.elim λa y=>y.elim λb c=>?_;try clear k);exact q _ n _ (f.2 _ _ j _ (QT m)) (.mk g h f a b c) t
 stop j p H q:=by induction p using bZ.casesOn with|mk g h f a b c=>exact G1 r ⟨_,a,b,c⟩ (H.base _ _ g).1 h (f.1.symm▸P5.mp j) q
 self p q:=by induction p using bZ.casesOn with|mk g h f a b c=>exact wpAny_pyIter_keyiter ⟨_,a,b,c⟩ q
end
section
variable{T:Tab}{O:aN}{n:Nat}{k:gS}{A:Ob}{env:Env}{m:Loc}{B:gU}{as:gH}{st:am}{s:Np}{Er:No->Np->Prop}
inductive dp(W:Wd)(T:Tab)(O:aN)(n:Nat)(k:gS):It->E->E->Expr->Prop|plain {a i}:af W T O n k a i->(∀x y z,i≠.Set x y z)->dp W T O n k .plain a .none i|aL {a l p pos}:af W T O n k a l->(∀y p,l≠.Starred y p)->k "range"=Nk .globalImplicit->dp W T O n k .aL a .none (.Call (.Name "range" p) [l] [] pos)|aV {a b l r p pos}:af W T O n k a l->af W T O n k b r->(∀y p,l≠.Starred y p)->(∀y p,r≠.Starred y p)->k "range"=Nk .globalImplicit->dp W T O n k .aV a b (.Call (.Name "range" p) [l,r] [] pos)|bI {a l p pos}:af W T O n k a l->(∀y p,l≠.Starred y p)->k "enumerate"=Nk .globalImplicit->dp W T O n k .bI a .none (.Call (.Name "enumerate" p) [l] [] pos)
def MT(c:It)(a:Expr):Prop:=c=.bI->∃b d p,a=.Tuple b d p
inductive Made(W:Wd)(it:It)(B:gU)(as:gH)(st:am)(s:Np)(l:List D)(st':am)(itv:No)(s':Np):Prop|mk {B' as' X P P'}:ai W [] B as st s B' as' st' s'->(∀x∈X,s.heap.get? x=Nq/\∃o,s'.heap.get? x=Nk o)->jk W X B' as' st' s'.heap->P 0 B' as' s'.heap->(∀(A':Ob)(target:Expr),A'.handled=Nq->MT it target->Iter W A' target itv X l P P')->Made W it B as st s l st' itv s'
theorem nB{r:It}{l:List D}{e c aa}{a:Np}(b:ai W [] B as st s e c aa a)(o:Obj){nm:String}(hc:o.cls=.type nm)(hf:o.isFreed=Nl){P:ItP}{t:Nat}(i:P 0 e c (a.heap.push o))(g:∀f:Ob,f.handled=Nq->One W f a.heap.objs.size l nm P)(p:nm≠"code"):Made W r B as st s l aa (.ref a.heap.objs.size) {a with heap:=a.heap.push o,toks:=t}:=⟨b.trans (ai.push b.hs o t),λx q=>jE (G:=λx=>s.heap.get? x=Nq/\∃u,(a.heap.push o).get? x=Nk u) q ⟨(b.dead (gT _)).elim id (λh=>iM h),o,NP _ hf⟩,j2 (ar.dh b.hs o (iN hc p) hf),i,λf d j _=>(g f j).iter d⟩
theorem Ku{B:gU}{as:gH}{k:Key}{v:No}(h:Cp k v=Nm):Rv W B as k.toD v:=by
 rcases iQ h with⟨n,t,rfl,rfl⟩|⟨n,t,rfl,rfl⟩
 exact .int _ _;exact .str _ _
theorem Ek{B:gU}{as:gH}{f w}{es:List OI}{c:List (Key×No)}(h:Pairs (kk f w) es c):∀{l:List (Key×D)},RvK W B as l c->∀(i:Nat)(d:D),(l.map λp=>p.1.toD)[i]? =Nk d->∀e:OI,es[i]? =Nk e->Rv W B as d e.key:=by
 induction h with
 |nil=>intro l r i d _ e g;exact nS g|cons q u v t=>
 intro l r i d j e g;induction l using NA with
 |nil=>exact nS j|cons p l=>
 cases r with|mk a b=>
 induction i using NY with|zero=>(refine sI j λo=>?_;subst o);(refine sI g λo=>?_;subst o);exact Ku q|succ i=>exact t b i d j e g
theorem EP{B:gU}{as:gH}{k:List Int}{vs:List No}(h:QF (PH W.prog W.w) k vs):RvL W B as (k.map .int) vs:=by induction h with|nil=>exact .nil|cons h r a=>(refine(UP h).elim λt b=>?_;subst b);exact .cons (.int _ _) a
theorem Ej{B:gU}{as:gH}{l:List (List Int×D)}:∀{xs:List (List Int×NF×No)},RvT W B as l xs->∀(i:Nat)(d:D),(l.map λp=>D.tup (p.1.map .int))[i]? =Nk d->∀e:OI,(xs.map (T6 (PU (PH W.prog W.w))))[i]? =Nk e->Rv W B as d e.key:=by
 induction l with
 |nil=>intro xs r i d c;exact nS c|cons p l q=>
 intro xs r i d c e g;induction r using cu.casesOn with|mk h j o a b=>
 induction i using NY with|zero=>(refine sI c λf=>?_;subst f);(refine sI g λf=>?_;subst f);exact .tup h (by refine rG (Nu _) ?_;exact j) (EP o)|succ i=>exact q b i d c e g
def Nj(W:Wd)(A:Ob)(env:Env)(b:Expr)(s:Np)(Er:No->Np->Prop)(Q:No->Np->Prop):Prop:=NL (NT W.prog W.w) A (Oi b env) (λc a=>NL (NT W.prog W.w) A (VQ c) Q Er a) Er s
theorem AF{M:It}{x:D}{v:No}{aa:am}{g:gU}{c:gH}{h:Np}{l:List D}(a:ai W [] B as st s g c aa h)(b:Rv W g c x v)(t:yy x=Nk l){Q:No->Np->Prop}(q:∀u s',Made W M B as st s l aa u s'->Q u s'):NL (NT W.prog W.w) A (VQ v) Q Er h:=by
 induction x using D.casesOn with
 |ae F=>cases t;induction b using aA.casesOn with|mk f p j=>exact V1 ⟨_,(a.hs.base _ _ f).1,rfl,_,rfl⟩ (q _ _ (nB (P:=cp W _ l) a _ rfl rfl (.mk f j (NP _ rfl) rfl rfl) (λz o=>Cq o _ _) (by decide)))
 |tup F=>cases t;induction b using aA.casesOn with|mk f p j=>exact wpAny_pyIter_tuple ⟨_,(a.hs.base _ _ f).1,rfl,_,rfl⟩ (q _ _ (nB (P:=dc W _ l) a _ rfl rfl (.mk f j (NP _ rfl) rfl rfl) (λz o=>EO o _ _) (by decide)))
 |ap F=>(refine sI t λG=>?_;subst G);induction b using bT.casesOn with|mk f p j r=>refine hid λY N=>?_;(refine(id j).elim λL R=>R.elim λK S=>S.elim λH U=>U.elim λy V=>V.elim λI X=>X.elim λJ Z=>?_);refine N ?_;exact zi (kg p.1) (a.hs.base _ _ f).1 H.1 y (q _ _ (nB (P:=bZ W _ _) a _ rfl rfl (.mk f y ⟨(Oo.symm.trans (J.length.trans r.length.symm)).trans (Nu _).symm,λi d C e E=>Ek J r i d C e (Oa.trans E)⟩ (NP _ rfl) rfl rfl) (λz o=>wp o _ _) (by decide)))
 |ak F=>
  (refine sI t λG=>?_;subst G);induction b using cb.casesOn with|mk f p j r=>
   cases id j with|mk L K H y I J=>
   exact zi (kg p.1) (a.hs.base _ _ f).1 H.1 y (q _ _ (nB (P:=bZ W _ _) a _ rfl rfl (.mk f y ⟨(Oo.symm.trans ((congrArg PG I).trans ((Nu _).trans r.length.symm))).trans (Nu _).symm,λi d C e E=>Ej r i d C e (by refine rL I ?_;exact Oa.trans E)⟩ (NP _ rfl) rfl rfl) (λz o=>wp o _ _) (by decide)))
 |_=>exact nS t
theorem ML{b:Bool}{x:List D}{l:List D}{G:Prop}(h:(if b=Nm then Nk x else Nq)=Nk l)(k:b=Nm->x=l->G):G:=by induction b using Nw with|true=>exact k rfl (NE h)|false=>exact nS h
theorem uq{h:It}{aa:am}{e:gU}{d:gH}{c:Np}(f:ai W [] B as st s e d aa c){a b:Int}{t:Nat}:Made W h B as st s (j3 a (b-a).toNat) aa (.ref c.heap.objs.size) {c with heap:=c.heap.push {cls:=.type "range_iterator",data:=.fields #[PY a,PY (Oq.Range.rangeSize a b 1),PY 1]},toks:=t}:=by refine nB (nm:="range_iterator") (P:=bO _ a (b-a).toNat) f _ rfl rfl ?_ (λi g=>AE g _ _ _) (by decide);refine .mk (Ul a).symm ?_ (NP _ rfl);refine rG (rangeSize_one _ _) ?_;split<;>omega
theorem wo(L:aW W T){it:It}{a b:E}{ix:Expr}(hI:dp W T O n k it a b ix)(R:aF A n)(F:Frame W env m B as st s.heap)(K:∀y,env.kindOf y=k y)(H:Hs W B as st s.heap){x y:D}{aa ah:am}{l:List D}(h1:ev T O a m st=Nk (x,aa))(h2:ev T O b m aa=Nk (y,ah))(M:ki it x y ah=Nk l){Q:No->Np->Prop}(q:∀Z s',Made W it B as st s l ah Z s'->Q Z s'):Nj W A env ix s Er Q:=by
 induction hI using dp.casesOn with
 |plain N S=>refine hid λG9 k9=>?_;(refine spI h2 λC q1=>?_;subst C;subst q1);refine k9 ?_;exact N.val.use R F K H h1 λj g I c f r d i=>AF f i M q|aL N S w=>
  (refine spI h2 λC q1=>?_;subst C;subst q1);induction x using D.casesOn with
  |int nn=>
   refine ML M λJ e=>?_;subst e;rw[NI,decide_eq_true_eq]at J;have hf:=nM J.2;have b1:nn.toNat<2^32:=N6 J.1 (by decide);refine jM (v:=.type "range") L F H ((K _).trans w) (by decide) ?_;refine rG (nb S _ _) ?_;refine Qt (N.val.use R F K H h1 λj g I c f r d i=>?_);induction i using aG.casesOn with|mk t=>
   refine call_range_1 (VP (NP _ rfl) (small_one (by decide) (by decide) (by lia) hf.2) (q _ _ ?_));refine rG (by exact rG (Int.sub_zero _) rfl:nn.toNat=(nn-0).toNat) ?_;exact uq (f.trans (ai.push d _ _))
  |_=>exact nS M
 |aV N hb S a6 w=>
  induction x using D.casesOn with
  |int ia=>induction y using D.casesOn with
   |int ib=>
    refine ML M λJ e=>?_;subst e;rw[NI,NI,decide_eq_true_eq]at J;have a4:=nM J.1.2;have a5:=nM J.2;refine jM (v:=.type "range") L F H ((K _).trans w) (by decide) ?_;refine rG (vP S a6 _ _) ?_;refine PyProof.Rows.callWith_type rfl (Qu (Pj (N.val.use R F K H h1 λj g I c f r d i=>Pj (hb.val.use R r K d h2 λa9 a3 b3 b2 V b0 U a1=>QU ?_))));induction i using aG.casesOn with|mk t=>
    induction a1 using aG.casesOn with|mk u=>
    show NL _ _ (Wg (.type "range") [.int ia t,.int ib u]) _ _ _;exact call_range_2 (VP (NP _ rfl) (small_one (by lia) a4.2 (by lia) a5.2) (q _ _ (uq ((f.trans V).trans (ai.push U _ _)))))
   |_=>exact nS M
  |_=>exact nS M
 |bI N S w=>
 (refine spI h2 λC q1=>?_;subst C;subst q1);induction x using D.casesOn with
 |ae le=>
  refine hid λG9 k9=>?_;(refine sI M λC=>?_;subst C);refine k9 ?_;refine jM (v:=.type "enumerate") L F H ((K _).trans w) (by decide) ?_;refine rG (nb S _ _) ?_;refine Qt (N.val.use R F K H h1 λj g I c f r d i=>?_);induction i using aA.casesOn with|mk g1 g2 g3=>
   refine call_enumerate_1 (d.base _ _ g1).1 λh' he X b4 kp=>V2 he (q _ _ ?_);have d1:c.heap.get? (c.heap.objs.size+1)=Nq:=im (OZ _);have d0:c.heap.get? c.heap.objs.size=Nq:=gT _;refine hid λG9 k9=>?_;(refine X.elim λoi z7=>z7.elim λho z8=>z8.elim λJ hd=>?_;try clear X);refine k9 ?_;have a0:∀z,c.heap.get? z=Nq->z∉iU g _:=λz Y q=>by(refine((d.off z q).2.2).elim λo e=>?_);rw[Y]at e;exact nS e
   refine .mk (P:=cD W (c.heap.objs.size+1) c.heap.objs.size le) (P':=cU W (c.heap.objs.size+1) c.heap.objs.size le) (f.trans (ai.aD (s':={c with heap:=h'}) d rfl kp)) (λz Y=>pT (G:=λx=>s.heap.get? x=Nq/\∃o',h'.get? x=Nk o') Y ⟨(f.dead d1).elim id (λh=>iM h),_,he⟩ ⟨(f.dead d0).elim id (λh=>iM h),_,ho⟩) (λz Y=>pT (G:=ar W j g _ h') Y ?_ ?_) (.mk g1 g3 ho J hd he (VD _)) λA' a2 hh ht=>?_;exact⟨a0 _ d1,d.av d1,NN d.low (OZ _),λo e=>(by rw[he]at e;(refine sI e λC=>?_;subst C);exact λz=>iN (nm:="enumerate") rfl (by decide) z.1)⟩;exact⟨a0 _ d0,d.av d0,d.low,λo e=>(by rw[ho]at e;(refine sI e λC=>?_;subst C);exact λz=>iN J (by decide) z.1)⟩;(refine(ht rfl).elim λes z9=>z9.elim λkd a7=>a7.elim λp a8=>?_;subst a8);exact Cr hh _ _ _
 |_=>exact nS M
theorem wC{a:Expr}(h:∀x y z,a≠.Set x y z)(env:Env)(x:No):V4 a env x=OW x:=by revert h;apply @Expr.casesOn (λa=>(∀x y z,a≠.Set x y z)->V4 a env x=OW x) a<;>intros<;>first|rfl|(rename_i h;exact absurd rfl (h _ _ _))
theorem uv{e:It}{a b:E}{c:Expr}(d:dp W T O n k e a b c):∀x y z,c≠.Set x y z:=by induction d using dp.casesOn with|plain _ h=>exact h|_=>exact λ_ _ _=>Expr.noConfusion
theorem DP(L:aW W T){xs:List Nat}{single:Bool}{z:It}{a b:E}{body:Ss}{tx N:Expr}{l:List OS}{pos:Pos}(ht:aJ k single xs tx)(hg:MT z tx)(K:dp W T O n k z a b N)(hb:lO W T O n k body l):iB W T O n k (.bu xs single z a b body) (.For tx N l [] pos):=λA env m B as st s q Er R F M H g=>
 jm g λx D V g=>jm g λy G Y g=>ml g λC hi g=>by
  refine wpAny_For (wo L K R F M H V Y hi λa0 Q md=>?_) (wC (uv K) env);induction md using Made.casesOn with|@mk I u X P P' c J U Z v=>
  have w:∀x∈X,x∉dl env:=λx hx q=>by(refine(F.live x q).elim λo e=>?_);rw[(J x hx).1]at e;exact nS e
  refine E5 (v A tx R.handled hg) R ht hb M w (c.weaken λa h=>iM h) (F.step c λ_ _ h=>iM h) Z U g λf S p=>?_;induction p using dW.casesOn with|mk i d r j t=>
  exact⟨i,d,r.drop λa ha=>(NW.mp ha).imp id λh=>(J a h).1,j,t⟩
end
section
variable{prog:Rl}{w:Pi}{K:Type}[DecidableEq K](knd:HeapKind prog w K)(d a:NF)
theorem sy{A:Ob}{E:No->Np->Prop}{s:Np}{xs:List (K×NF×No)}{k:K}{dflt:No}{Q:No->Np->Prop}(hu:knd.room A)(hkey:knd.is s.heap k a)(hm:s.heap.DictOfH knd d xs)(h1:∀p,RW xs k=Nk p->Q p.2 {s with toks:=s.toks+knd.draws k})(h2:RW xs k=Nq->∀h',h'.DictOfH knd d (SS xs k a dflt)->OT d s.heap h'->Q dflt {s with heap:=h',toks:=s.toks+knd.draws k})(hsz:xs.length<=PT):NL (NT prog w) A (T7 d (.ref a) dflt) Q E s:=by
 refine hid λG9 k9=>?_;(refine hm.elim λo z1=>z1.elim λes z2=>z2.elim λep z3=>z3.elim λho z4=>z4.elim λhc z5=>z5.elim λhd z6=>z6.elim λhe z7=>z7.elim λhis hn=>?_;try clear hm);refine k9 ?_;unfold T7;refine N7 (Nn (knd.pyHash hu hkey ?_));refine Nn (wpAny_dictFind_heap (s:={s with toks:=s.toks+knd.draws k}) hu hkey ho hd he his hn ?_ ?_);intro hno;have e0:=atKey_none_of_get hno;refine Nn (SI (Nn (wpAny_updateDictKeys (hz:=by have e:=size_of_entries he;lia) (s:={s with toks:=s.toks+knd.draws k}) ho hd (Nt (h2 e0 _ ⟨_,_,ep+1,Qq _ ho (Obj.isFreed_of_dict (UG hd _)),hc.mapDictKeys _,UG hd _,?_,?_,?_⟩ (Pn ..))))));refine rG (Vz e0 _ _) ?_;simp[he,T6];refine rG (Vz e0 _ _) ?_;intro x hx;rcases NW.mp hx with hx|hx
 exact knd.keeps (his x hx) ho hd (Pn ..);simp only[NC]at hx;subst hx;exact knd.keeps hkey ho hd (Pn ..);rw[Vz e0,Pq,Oj];refine⟨hn,by simp,?_⟩;intro x hx y hy;simp only[Ny,Rp,NC]at hy;subst hy;exact λe=>(not_mem_keys_of_get hno) (e▸hx);intro j p hj;refine Nn (Rj (s:={s with toks:=s.toks+knd.draws k}) ho hd ?_);have hej:es[j]? =Nk (T6 knd (k,p)):=by refine rL (Oa) (rG he (rG (Oc) (rG hj ?_)));rfl
 refine rG hej ?_;exact Nn (SI (Nt (h1 p (atKey_of_get hn hj))))
theorem nz(hd:(d==Q7)=Nl)(b:No):MeetsIn prog w (Oq.«dict.setdefault» ⟨[.ref d,.ref a,b],[]⟩) (λA R s=>knd.room A.in1/\∃k c,knd.is s.heap k a/\s.heap.DictOfH knd d c/\c.length<=PT/\(∀p,RW c k=Nk p->R (.ok (.ret p.2)) {s with toks:=s.toks+knd.draws k})/\(RW c k=Nq->∀e,e.DictOfH knd d (SS c k a b)->OT d s.heap e->R (.ok (.ret b)) {s with heap:=e,toks:=s.toks+knd.draws k})):=.of_wp λA R s g=>g.elim λt g=>w25 g λk c f j u l o=>by unfold Oq.«dict.setdefault»;refine Nn ?_;unfold Oq.Dict.keyAndDefault;refine Nn (Vi j.typeIs ?_);show NL _ _ (OW (d,RJ a,Nk b)) _ _ s;refine Nt ?_;show NL _ _ (if(d==Q7)=Nm then _ else(T7 d (.ref a) b>>=_)) _ _ s;refine rG (if_neg (by rw[hd];exact Od)) ?_;exact Nn (sy knd d a t f j (λp r=>Nt ⟨p.2,rfl,l p r⟩) (λq e h i=>Nt ⟨b,rfl,o q e h i⟩) u)
end
section
variable{T:Tab}{O:aN}{n:Nat}{k:gS}{A:Ob}{env:Env}{m:Loc}{B:gU}{as:gH}{st:am}{s:Np}{Er:No->Np->Prop}
theorem EU{st:am}{i:Nat}{G:Prop}(h:uw st i=Nm)(k:∀l,st[i]? =Nk (.ak l)->G):G:=by unfold uw at h;cases e:st[i]? with|none=>rw[e]at h;exact fT h|some c=>induction c using ao.casesOn<;>first|exact k _ e|(rw[e]at h;cases h)
theorem Mf{c:Option ao}{f:List (List Int×D)->Option (D×am)}{r:D×am}{G:Prop}(h:dcT c f=Nk r)(k:∀l,c=Nk (.ak l)->f l=Nk r->G):G:=by induction c using N3 with|none=>exact nS h|some d=>induction d using ao.casesOn<;>first|exact k _ rfl h|exact nS h
theorem Fv{b:List Int}{d:D}{l:List (List Int×D)}(h:gL l b=Nq):jv l b d=l++[(b,d)]:=by induction l with|nil=>rfl|cons z r c=>have h:(if b=z.1 then Nk z.2 else gL r b)=Nq:=h;show(if b=z.1 then(z.1,d)::r else z::jv r b d)=_;by_cases q:b=z.1;rw[if_pos q]at h;exact sN h;rw[if_neg q]at h⊢;rw[c h];rfl
inductive bN(i:Nat)(y:D)(st:am)(q:D×am):Prop|old (kx l d):oW y=Nk (.t kx)->st[i]? =Nk (.ak l)->gL l kx=Nk d->q=(d,st++[ao.ae []])->bN i y st q|new (kx l):oW y=Nk (.t kx)->st[i]? =Nk (.ak l)->gL l kx=Nq->l.length<cap->q=(D.ag st.length,(st++[ao.ae []]).set i (ao.ak (jv l kx (D.ag st.length))))->bN i y st q
theorem JV{i:Nat}{y:D}{st:am}{q:D×am}(h:v3 i y st=Nk q):bN i y st q:=by unfold v3 at h;cases e:oW y with|none=>rw[e]at h;exact nS h|some a=>rw[e]at h;induction a using cJ.casesOn with|v k=>exact nS h|t b=>refine Mf h λl c h=>?_;cases e2:gL l b with|some d=>rw[e2]at h;exact .old b l d e c e2 (NE h).symm|none=>rw[e2]at h;exact mQ h λf h=>.new b l e c e2 f ((NE h).symm.trans (by exact rG (Fv e2) rfl))
theorem bN.at{i:Nat}{y:D}{st:am}{q:D×am}(h:bN i y st q):∃c l,oW y=Nk (.t c)/\st[i]? =Nk (.ak l):=by induction h using bN.casesOn with|old c l d a b=>exact⟨c,l,a,b⟩|new c l a b=>exact⟨c,l,a,b⟩
theorem DS{o a:E}{g l:Expr}{p p' q:Pos}(hn:iP g=Nm)(Q:(p.endLine==q.line)=Nm)(hs:∀y p,l≠.Starred y p)(ho:af W T O n k o g)(ha:af W T O n k a l):af W T O n k (.bW o a) (.Call (.Attribute g "setdefault" p) [l,.List [] p'] [] q):=by
 refine .aE (λA env m B as st s q Er R F hk H N=>F5 N λi b9 h1 N=>mQ N λb3 N=>jm N λy h h2 N=>?_);have sd:=JV N;refine UO (m9 hn _ _ _) Q (vP hs (λ_ _=>Expr.noConfusion) _ _) (ho.val.use R F hk H h1 λc8 a9 d2 d1 a2 a0 x a7=>EU b3 λd0 S=>?_);induction a7 using bR.casesOn with|@mk pp hp=>
 cases x.cell _ _ _ S hp with|mk a6 c0 g1 _ g3 _=>
 have b2:a6.ExactDict:=by induction g3 using aU.casesOn;assumption
 refine oT Sv PySem.F.type_dict_setdefault g1 b2 ?_;refine Wn Sv PySem.F.entry_dict_setdefault (ha.val.use R a0 hk x h2 λj J d3 f C c9 t a8=>?_);refine wpAny_List (Wm ⟨NX _,?_⟩);have v:=ai.cell (X:=[]) (s:=f) (s':={f with heap:=f.heap.push (jd #[] 0)}) (p:=(f.heap.objs.size,f.heap.objs.size)) (c:=.ae []) t rfl (KeepAll.push _ _) (λb hb=>jE (G:=λb=>f.heap.get? b=Nq/\W.n1<=b) hb ⟨gT _,t.low⟩) (OO _ _) ⟨#[],0,NP _ rfl,NX _,.nil⟩;(refine sd.at.elim λkx z8=>z8.elim λll z9=>z9.elim λu Z=>?_);have P:(h++[ao.ae []])[i]? =Nk (.ak ll):=(NK (Nv.mp Z).1).trans Z;have U:=v.ext.cells _ _ (C.ext.cells _ _ hp);have tk:=nl (a8.mono W v.ext) u;induction tk using bc.casesOn with|@mk ka b8 nn a3 a5 a4=>
 cases v.hs.cell _ _ _ P U with|mk oo xs q1 q2 q3 q4=>
 have hb:∀a o,j a=Nk o->(f.heap.push (jd #[] 0)).get? a=Nk o:=λa o e=>(v.hs.base a o e).1;have dd:=k8 hb q1 q3 q4;have D:=RvT.at kx q4;have a1:=(a2.trans C).trans v;have hz:xs.length<=cap:=by refine rL q4.length ?_;exact q2
 refine⟨dd.typeIs (s:={f with heap:=f.heap.push (jd #[] 0)}),PySem.F.args_dict_setdefault_3 _ _ _,_,nz (PU (PH W.prog W.w)) pp.1 ka (kg ((v.hs.off pp.1 (v.hs.aR P U (ph _ _))).2.1)) _,Qj (N6 (Oe (by decide) _) R.eY),kx,xs,bc.is (k:=kx) hb (.mk a3 a5 a4),dd,ld hz,λp hp=>?_,λb5 h' hm b7=>?_⟩;rw[hp]at D;induction sd using bN.casesOn with
  |old V l' d L M Y e4=>cases u.symm.trans L;cases Z.symm.trans M;subst e4;rw[Y]at D;exact⟨j,_,a1.trans (ai.tok v.hs _),(let⟨_,z,r⟩:=D.some;by(refine sI z λq0=>?_;subst q0);exact r)⟩
  |new V l' L M Y=>cases u.symm.trans L;cases Z.symm.trans M;rw[Y]at D;exact fT (D.isSome)
 ·rw[b5]at D;induction sd using bN.casesOn with
  |old V l' d L M Y e4=>cases u.symm.trans L;cases Z.symm.trans M;rw[Y]at D;exact tF (D.isSome)
  |new V l' L M Y b1 e4=>
  cases u.symm.trans L;cases Z.symm.trans M;subst e4;refine hid λG9 k9=>?_;(refine hm.elim λo' c1=>c1.elim λes c2=>c2.elim λep c3=>c3.elim λb6 c4=>c4.elim λx1 c5=>c5.elim λx2 c6=>c6.elim λx3 c7=>c7.elim λx4 x5=>?_;try clear hm);refine k9 ?_;have b4:(xs.map (·.1)).Nodup:=by induction q3 using aU.casesOn;assumption
  have I:Rv W j (J++[(f.heap.objs.size,f.heap.objs.size)]) (.ag h.length) (.ref f.heap.objs.size):=.ag (p:=(f.heap.objs.size,f.heap.objs.size)) (lV t _);have T4:=ai.turn (X:=[]) (s:={f with heap:=f.heap.push (jd #[] 0)}) (s':={f with heap:=h',toks:=f.toks+(PU (PH W.prog W.w)).draws kx}) (c':=.ak (jv ll kx (.ag h.length))) v.hs rfl P U (λ_=>rfl) (λb o e b0=>(b7.2 b (λz=>b0 (z▸.head _))).trans e) ⟨o',_,b6,NN (na kx _ ll) b1,⟨es,ep,x1,x2,x3,x5⟩,RvT.store a3 a5 a4 I q4 b4⟩;exact⟨j,_,a1.trans T4,I⟩
end
noncomputable def vl(sc:Scope):gS:=λy=>sc.names.lookup y
structure dZ(W:Wd)(f:Nat)(fn:Fn)(o:Obj)(fd:Uc)(body:List OS):Prop where
 at_:W.K.lookup (W.fa f)=Nk o
 data:o.data=.func fd
 body:fd.body=.stmts body
 gF:fd.closure=[]
 glob:fd.globals=OC
 blt:fd.builtins=PP
 kind:fd.scope.kind=.function
 co:fd.scope.isCoroutine=Nl
 gen:fd.scope.isGenerator=Nl
 nd:((PW 0 fd.scope.names []).map (·.1)).Nodup
 cells:∀x,fd.scope.names.lookup x=Nk .cell->x∈(PW 0 fd.scope.names []).map (·.1)
 params:∀x∈fn.params,fd.scope.names.lookup (bv x)=Nk .local\/fd.scope.names.lookup (bv x)=Nk .cell
 gz:fn.params.Nodup
 en:fd.scope.names.lookup ("run":Str)=Nk .local->fd.scope.names.lookup ("form_sorted":Str)=Nq->fd.code=.ref W.lc/\fd.qualname++".<locals>."=W.lq
 code:∀h,W.be h->h.CodeRec fd.code fd.qualname
 lim:∀h,W.be h->h.NoLimit
 binds:∀(B:gU)(as:gH)(st:am)(s:Np)ds vs m,Hs W B as st s.heap->kH fn ds=Nk m->RvL W B as ds vs->∃ds' ws,m=fn.params.zip ds'/\ds'.length=fn.params.length/\RvL W B as ds' ws/\Wa s fd ⟨vs,[]⟩ ((fn.params.map bv).zip ws)
theorem jf{b:Type}{x:Str}{l:List (Str×b)}(h:x∈l.map (·.1)):(l.lookup x).isSome=Nm:=by induction l with|nil=>exact iM h|cons p r a=>refine rG Os ?_;cases e:x==p.1 with|true=>rfl|false=>cases h with|head=>rw[beq_self_eq_true]at e;exact tF e|tail _ h=>exact a h
noncomputable abbrev upd(m:Str->Option No)(x:Str)(v:No):Str->Option No:=λz=>if z=x then Nk v else m z
theorem y0{kindOf:Str->Option N8}{y:Str}{l:List (Str×No)}:∀{m:Str->Option No},y∉l.map (·.1)->bindL kindOf l m y=m y:=by induction l with|nil=>intro m _;rfl|cons p r a=>intro m h;obtain⟨x,v⟩:=p;rw[bindL,a (λq=>h (.tail _ q))];by_cases q:kindOf x=Nk .local;refine rG (if_pos q) ?_;exact if_neg λ(e:y=x)=>h (by refine rG e ?_;exact .head _);exact rG (if_neg q) rfl
theorem y1{kindOf:Str->Option N8}{y:Str}{l:List (Str×No)}:∀{m:Str->Option No},y∉l.map (·.1)->V5 kindOf l m y=m y:=by induction l with|nil=>intro m _;rfl|cons p r a=>intro m h;obtain⟨x,v⟩:=p;rw[V5,a (λq=>h (.tail _ q))];by_cases q:kindOf x=Nk .local;exact rG (if_pos q) rfl;refine rG (if_neg q) ?_;exact if_neg λ(e:y=x)=>h (by refine rG e ?_;exact .head _)
inductive dy(W:Wd)(B:gU)(as:gH)(kindOf:Str->Option N8)(xs:List Nat)(l:List (Str×No))(m cm:Str->Option No)(x:Nat)(d:D):Prop|mk (v):Rv W B as d v->x∈xs->(kindOf (bv x)=Nk .local->bindL kindOf l m (bv x)=Nk v)->(kindOf (bv x)≠Nk .local->V5 kindOf l cm (bv x)=Nk v)->dy W B as kindOf xs l m cm x d
theorem Fq{B:gU}{as:gH}{kindOf:Str->Option N8}{xs:List Nat}:∀{ds:List D}{g:List No}{m cm:Str->Option No},xs.Nodup->RvL W B as ds g->ds.length=xs.length->∀x d,Loc.get (xs.zip ds) x=Nk d->dy W B as kindOf xs ((xs.map bv).zip g) m cm x d:=by
 induction xs with
 |nil=>intro ds g m cm _ _ _ x d h;exact nS h|cons y j F=>
 intro ds g m cm i r n x d h;induction ds using NA with
 |nil=>exact nomatch n|cons o ds=>
 induction r using aT.casesOn with|@mk w g r H=>
 have i:=NZ.mp i;have c:bv y∉((j.map bv).zip g).map (·.1):=λA=>by(refine(Nx.mp A).elim λp I=>I.elim λC k=>?_);have:=(VG (a:=p.1) (b:=p.2) C).1;rw[k]at this;(refine(Nx.mp this).elim λz J=>J.elim λE l=>?_);exact i.1 (by refine rL (lx l) ?_;exact E)
 have h:=(lU y o (j.zip ds) x).symm.trans h;show dy W B as kindOf (y::j) ((bv y,w)::(j.map bv).zip g) m cm x d;by_cases e:x=y;subst e;rw[if_pos rfl]at h;(refine sI h λG=>?_;subst G);refine⟨w,r,.head _,λf=>?_,λf=>?_⟩;rw[bindL,y0 c,if_pos f];exact if_pos rfl;rw[V5,y1 c,if_neg f];exact if_pos rfl;rw[if_neg e]at h;cases F (m:=if kindOf (bv y)=Nk .local then upd m (bv y) w else m) (cm:=if kindOf (bv y)=Nk .local then cm else upd cm (bv y) w) i.2 H (Qb n) x d h with|mk v q s t u=>
 exact⟨v,q,.tail _ s,λf=>by rw[bindL];exact t f,λf=>by rw[V5];exact u f⟩
section
variable{T:Tab}{O:aN}{n:Nat}{A:Ob}{B:gU}{as:gH}{st:am}{s:Np}
theorem GQ{f:Nat}{fn:Fn}{o:Obj}{fd:Uc}{body:List OS}(Df:dZ W f fn o fd body)(hS:lO W T O n (vl fd.scope) fn.body body)(R:aF A (n+10))(H:Hs W B as st s.heap){ds:List D}{vs:List No}(r:RvL W B as ds vs){q:D×am}(he:run T O (Nk fn) ds st=Nk q):P0 (NT W.prog W.w) A (.call (.ref (W.fa f)) ⟨vs,[]⟩) (CallPost (aQ W B as st s q.1 q.2)) s:=by
 refine ml he λfn' e he=>?_;(refine sI e λq0=>?_;subst q0);refine ml he λm hm he=>ml he λot he hq=>pH (G:=λq:D×am=>P0 (NT W.prog W.w) A (.call (.ref (W.fa f)) ⟨vs,[]⟩) (CallPost (aQ W B as st s q.1 q.2)) s) hq λd hr=>?_;(refine(Df.binds B as st s ds vs m H hm r).elim λds' z1=>z1.elim λws z2=>z2.elim λz3 z4=>z4.elim λhlen z5=>z5.elim λrw' hb=>?_;subst z3);have hroom:A.depth<recursionLimit:=by have:=R.depth;show A.depth<1000;lia
 have names:∀x∈(fn.params.map bv).zip ws,∃y∈fn.params,x.1=bv y:=λx hx=>by(refine(Nx.mp ((VG (a:=x.1) (b:=x.2) hx).1)).elim λy z6=>z6.elim λhy hy'=>?_);exact⟨y,hy,hy'.symm⟩
 have cn:∀k,(PW k fd.scope.names []).map (·.1)=(PW 0 fd.scope.names []).map (·.1):=λk=>cellsFrom_names fd.scope.names k 0 [] [] rfl;refine codeAny_call_function hroom (H.aK.1 _ _ Df.at_) Df.data Df.co Df.gen Df.body (Df.code _ H.aK) (hb _ _ _ _ ?_);refine rG Df.gF ?_;refine wpAny_newFunctionEnv_cells Df.kind (λx hx=>?_) λenv henv s' x=>?_
 ·(refine(names x hx).elim λy z7=>z7.elim λhy e=>?_);refine rG e ?_;exact(Df.params y hy).imp id λh=>⟨h,jf (by refine rG (cn _) ?_;exact Df.cells _ h)⟩
 ·subst henv;(refine x.done.elim λh1 z8=>z8.elim λtk z9=>z9.elim λz10 keep=>?_;subst z10);refine⟨Df.lim _ (Wd.be.aD H.aK keep (by(refine H.bH.elim λo q=>?_);exact rG q (rG (keep _ _ q) rfl))),codeAny_func ?_⟩;have S1:ai W [] B as st s B as st {s with heap:=h1,toks:=tk}:=ai.aD (s':={s with heap:=h1,toks:=tk}) H rfl keep;have hdead:∀a,s.heap.objs.size<=a->s.heap.get? a=Nq:=λa ha=>im ha;have Sh:∀a,s.heap.objs.size<=a->a∉iU as st/\B a=Nq/\W.n1<=a:=λa ha=>⟨λq=>(by(refine((H.off a q).2.2).elim λo e=>?_);rw[hdead a ha]at e;exact nS e),H.av (hdead a ha),NN H.low ha⟩;have cm:∀{y c},(y,c)∈PW (s.heap.objs.size+1) fd.scope.names []->(PW (s.heap.objs.size+1) fd.scope.names []).lookup y=Nk c:=λhm=>lookup_of_mem_nodup (by refine rG (cn _) ?_;exact Df.nd) hm;have F:Frame W (U5 fd.scope s.heap.objs.size fd.globals (PW (s.heap.objs.size+1) fd.scope.names []) (fd.qualname++".<locals>.") (Nk (W.fa f)) fd.code Nq fd.builtins) (fn.params.zip ds') B as st h1:=by
   refine⟨Df.kind,Df.glob,Df.blt,⟨_,x.toInCall.ns⟩,λy c hm=>⟨_,x.cell y c (cm hm)⟩,λy e hy=>?_,λa ha=>?_,?_,λy hy=>jf (l:=PW (s.heap.objs.size+1) fd.scope.names []) (by refine rG (cn _) ?_;exact Df.cells _ hy),Df.en⟩
   ·cases Fq (kindOf:=λz=>fd.scope.names.lookup z) (m:=λ_=>Nq) (cm:=λ_=>Nq) Df.gz rw' hlen y e hy with|mk v k1 k2 k3 k4=>
    rcases Df.params y k2 with h|h
    ·exact⟨v,.ab h _ x.toInCall.ns (k3 h),k1⟩
    ·(refine(Om.mp (jf (l:=PW (s.heap.objs.size+1) fd.scope.names []) (x:=bv y) (by refine rG (cn _) ?_;exact Df.cells _ h))).elim λc hc=>?_);have hcell:=x.cell _ c hc;have e5:V5 (U5 fd.scope s.heap.objs.size fd.globals (PW (s.heap.objs.size+1) fd.scope.names []) (fd.qualname++".<locals>.") (Nk (W.fa f)) fd.code Nq fd.builtins).kindOf ((fn.params.map bv).zip ws) (λ_=>Nq) (bv y)=Nk v:=k4 (by refine rG h ?_;exact λz=>nomatch z);rw[e5]at hcell;exact⟨v,.fb (.inl h) c hc hcell,k1⟩
   ·rcases Nz.mp ha with rfl|ha
    ·exact Sh _ (N4 _)
    ·refine w12 (Nx.mp ha) λz1 hm z2=>?_;obtain⟨y,c⟩:=z1;subst z2;exact Sh _ (OM (x.above y c hm))
   ·refine NZ.mpr ⟨λhm=>?_,PS.mpr x.apart⟩;refine hid λG9 k9=>?_;refine w12 (Nx.mp hm) λz3 hm e=>?_;obtain⟨y,c⟩:=z3;refine k9 ?_;exact absurd (x.above y c hm) (by refine rG (show c=_ from e) ?_;exact Wb _)
  obtain⟨fl,m',st'⟩:=ot;refine NR (hS _ _ _ B as st {s with heap:=h1,toks:=tk} _ _ R.deeper F (λy=>rfl) S1.hs he) (λfl' s'' p=>?_) λ_ _ e=>e;induction p using bg.casesOn with|mk B' as' S' F' r'=>
  have S2:ai W [] B as st s B' as' st' s'':=(((S1.weaken (Y:=dl _) λa h=>iM h)).trans S').drop λa ha=>.inr (by
   rcases Nz.mp ha with rfl|ha
   ·exact hdead _ (N4 _)
   ·refine w12 (Nx.mp ha) λz4 hm z5=>?_;obtain⟨y,c⟩:=z4;subst z5;exact hdead _ (OM (x.above y c hm)))
  cases r' with|next=>(refine sI hr λq0=>?_;subst q0);exact⟨B',as',S2,.none⟩|ret rv=>(refine sI hr λq0=>?_;subst q0);exact⟨B',as',S2,rv⟩|brk=>exact nS hr|cont=>exact nS hr
end
theorem ai.forget{B:gU}{s s':Np}{c:gU}{b:gH}{st':am}(S:ai W [] B [] [] s c b st' s'):ai W [] B [] [] s (pD c b st' s'.heap) [] [] s':=by
 refine⟨S.rest,S.live,S.keep,⟨λa o e=>ly S.hs (S.ext.base a o e),λi p e=>nS (QY.symm.trans e)⟩,λa o e=>?_,(λa h=>iM h),rP S.hs⟩;by_cases q:a∈iU b st';rcases S.cz a q with h|h|h
 exact iM h;exact .inr (.inl h);exact iM h;exact S.cv a o ((if_neg q).symm.trans e)
theorem um{B:gU}{l:List NF}{a:NF}{o:Obj}(h:sM B l a=Nk o):B a=Nk o:=by by_cases q:a∈l;exact nS ((if_pos q).symm.trans h);exact(if_neg q).symm.trans h
theorem ai.without{B:gU}{s s':Np}{f:gU}(S:ai W [] B [] [] s f [] [] s'){a:NF}(k:B a=Nq)(g:W.b0 a=Nq):ai W [] B [] [] s (sM f [a]) [] [] s':=by have d:∀b o,f b=Nk o->b≠a->sM f [a] b=Nk o:=λb o e l=>(rH λq=>l (NC.mp q)).trans e;exact⟨S.rest,S.live,S.keep,⟨λb o e=>d b o (S.ext.base b o e) λq=>(by rw[q,k]at e;exact nS e),λi p e=>nS (QY.symm.trans e)⟩,λb o e=>S.cv b o (um e),(λb h=>iM h),⟨S.hs.aK,λb o e=>S.hs.base b o (um e),λb o e=>d b o (S.hs.b0 b o e) λq=>(by rw[q,g]at e;exact nS e),rfl,(λi c p j _=>nS j),(λb q=>iM q),PX⟩⟩
theorem Et{B:gU}{s s':Np}{st':am}{d r:D}{b:Bool}{v:No}(P:aQ W B [] [] s d st' v s')(A:oy d st'=Nk (r,b)):bP W B s r b v s':=by
 induction P using aQ.casesOn with|mk q n S u=>
 refine omI A λL F e=>?_;cases e;have t:=nY S.hs u F;have m:=S.forget;cases hf:CN d r with
 |false=>exact⟨_,m,λ_=>t,λh=>(fT h)⟩|true=>
 induction d using D.casesOn with
 |ag i=>induction r using D.casesOn with
  |ae l=>
   (refine(yX S.hs u).elim λp G=>G.elim λc H=>H.elim λE I=>I.elim λz J=>J.elim λK C=>?_;subst K);have f:=S.hs.aR z E (ph c p);have j:=S.hs.off p.1 f;have g:s.heap.get? p.1=Nq:=by
    rcases S.cz _ f with h|h|h
    exact iM h;exact h;exact iM h
   have k:∀{a:gU},(∀o,a p.1=Nk o->q p.1=Nk o)->a p.1=Nq:=λ{a}h=>by cases e:a p.1 with|none=>rfl|some o=>have:=h _ e;rw[j.1]at this;exact nS this
   cases t with|mk w x y=>exact⟨sM (pD q n st' s'.heap) [p.1],m.without (k (S.ext.base _)) (k (S.hs.b0 _)),λh=>(tF h),λ_=>⟨p.1,_,_,l,rfl,rfl,x,hf,g,j.2.1,if_pos (.head _),(m.hs.base _ _ w).1,pQ y hf⟩⟩
  |_=>exact fT hf
 |_=>exact fT hf
theorem EA{T:Tab}{P:Nat->Option Fn}{c n:Nat}(h:∀f fn,P f=Nk fn->∃o i a,dZ W f fn o i a/\lO W T (ops T P c) n (vl i.scope) fn.body a):aB W (ops T P (c+1)) (n+10):=by
 have g:∀{f ds st q},run T (ops T P c) (P f) ds st=Nk q->∀{A B as}{s:Np}{vs},aF A (n+10)->Hs W B as st s.heap->RvL W B as ds vs->P0 (NT W.prog W.w) A (.call (.ref (W.fa f)) ⟨vs,[]⟩) (CallPost (aQ W B as st s q.1 q.2)) s:=λ{f ds st q}b{A B as s vs}R H r=>by cases e:P f with|none=>rw[e]at b;exact nS b|some fn=>rw[e]at b;refine hid λC t=>?_;(refine(h f fn e).elim λo x=>x.elim λi y=>y.elim λa z=>z.elim λl p=>?_);refine t ?_;exact GQ l p R H r b
 exact⟨λf ds st d k b A B as s vs R H r=>g b R H r,λf ds r j b A B s vs R H u=>jm b λd k m b=>lX (λv D P=>Et P b) (g m R H u)⟩
theorem Ez{T:Tab}{P:Nat->Option Fn}{n:Nat}:aB W (ops T P 0) n:=⟨λf c g d e b=>(nS b),λf c r a b=>(nS b)⟩
noncomputable def uA(cells:List (Str×NF))(p:Str×N8):Option (Str×NF):=if p.2==.free then(cells.lookup p.1).map (p.1,·)else Nq
theorem vt{cells:List (Str×NF)}{p:Str×N8}{q:Str×NF}{G:Prop}(h:uA cells p=Nk q)(k:p=(q.1,.free)->cells.lookup q.1=Nk q.2->G):G:=by obtain⟨y,j⟩:=p;induction j using PySem.NameKind.casesOn with|free=>exact omI h λa b e=>by subst e;exact k rfl b|_=>exact nS h
theorem sY{cells:List (Str×NF)}{x:Str}{c:NF}(h:cells.lookup x=Nk c):uA cells (x,.free)=Nk (x,c):=by show(if(PE==PE)=Nm then(cells.lookup x).map (x,·)else Nq)=_;refine rG (if_pos (by decide)) (rG h ?_);rfl
noncomputable def kv(names:List (Str×N8))(cells:List (Str×NF)):List (Str×NF):=(names.filterMap (uA cells)).reverse
theorem Da{env:Env}{names:List (Str×N8)}:∀(f:List (Str×NF)),(∀p∈names,p.2=.free->(env.cells.lookup p.1).isSome=Nm)->(forIn names f (λ(p:Str×N8)(i:List (Str×NF))=>match p with|(c,d)=>if d==.free then(do let a<-cellOf env c;OW (Q6 ((c,a)::i)))else OW (Q6 i)):Sem (List (Str×NF)))=OW ((names.filterMap (uA env.cells)).reverse++f):=by
 induction names with
 |nil=>intro f _;rfl|cons p r q=>
 intro f h;obtain⟨c,d⟩:=p;have o:∀p∈r,p.2=.free->(env.cells.lookup p.1).isSome=Nm:=λp t=>h p (.tail _ t);rw[List.forIn_cons];by_cases l:d=.free;subst l;(refine(Om.mp (h _ (.head _) rfl)).elim λa g=>?_);have g:env.cells.lookup c=Nk a:=g;have e:cellOf env c=OW a:=by unfold cellOf;rw[g]
 simp only[beq_self_eq_true,if_true,e,QA];rw[q _ o,P7 (b:=(c,a)) (sY g),OU,OJ];rfl;have j:(d==PE)=Nl:=beq_eq_false_iff_ne.mpr l;simp only[j,OE,if_false,QA];rw[q _ o,P8 (by unfold uA;exact if_neg (by rw[j];exact Od))]
theorem vD{scope:Scope}{env:Env}(h:∀p∈scope.names,p.2=.free->(env.cells.lookup p.1).isSome=Nm):closureFor scope env=OW (kv scope.names env.cells):=by have:=Da (env:=env) (names:=scope.names) [] h;rw[OY]at this;show(forIn scope.names [] _>>=λr=>OW r)=_;unfold kv;refine rL this ?_;exact bind_pure _
theorem pj{names:List (Str×N8)}{cells:List (Str×NF)}{x:Str}{c:NF}:(x,c)∈kv names cells↔(x,PE)∈names/\cells.lookup x=Nk c:=by unfold kv;rw[SH,QO];refine⟨λ⟨p,a,d⟩=>vt d λe h=>⟨e▸a,h⟩,λ⟨a,b⟩=>⟨(x,.free),a,sY b⟩⟩
theorem zY{names:List (Str×N8)}{cells:List (Str×NF)}(h:(names.map (·.1)).Nodup):((kv names cells).map (·.1)).Nodup:=by unfold kv;refine rG Qs ?_;refine List.pairwise_reverse.mpr ((show List.Nodup _ from ?_).imp λh e=>h e.symm);induction names with|nil=>exact PX|cons p r b=>have h:=NZ.mp h;cases e:uA cells p with|none=>refine rG (P8 e) ?_;exact b h.2|some q=>refine rG (P7 e) ?_;refine NZ.mpr ⟨λi=>?_,b h.2⟩;(refine(Nx.mp i).elim λt l=>l.elim λa c=>?_);(refine(QO.mp a).elim λz o=>o.elim λj g=>?_);exact vt e λd _=>vt g λf _=>h.1 (Nx.mpr ⟨z,j,by refine rG d (rG f ?_);exact c⟩)
theorem Fi{names:List (Str×N8)}{cells:List (Str×NF)}(h:(names.map (·.1)).Nodup)(hc:(cells.map (·.2)).Nodup):((kv names cells).map (·.2)).Nodup:=by have d:=zY (cells:=cells) h;unfold List.Nodup at d⊢;rw[PS]at d⊢;exact VZ.imp_of_mem (λ{a b}f g c e=>c (wS hc (pj.mp f).2 (e▸(pj.mp g).2))) d
noncomputable def inK(k:gS)(x:Str)(j:N8):N8:=if j==.free&&k x==Nk .cell then .cell else j
theorem ro{k:gS}{x:Str}{names:List (Str×N8)}:(names.map λ(n,j)=>if j==PE&&k n==Nk .cell then(n,QM)else(n,j)).lookup x=(names.lookup x).map (inK k x):=by
 induction names with
 |nil=>rfl|cons p r a=>
 obtain⟨n,j⟩:=p;have e:(if j==PE&&k n==Nk .cell then(n,QM)else(n,j))=(n,inK k n j):=by unfold inK;cases (j==PE&&k n==Nk .cell)<;>rfl
 refine rG Ny ?_;show Uz x ((if j==PE&&k n==Nk .cell then(n,QM)else(n,j))::_)=_;refine rG e (rG Os (rG Os (rG a ?_)));cases hx:x==n with
 |true=>obtain rfl:=beq_iff_eq.mp hx;rfl
 |false=>rfl
theorem ur{b:Type}{x:Str}{v:b}{l:List (Str×b)}(a:(l.map (·.1)).Nodup)(h:(x,v)∈l):l.lookup x=Nk v:=by
 induction l with
 |nil=>exact iM h|cons p r c=>
 have a:=NZ.mp a;refine rG Os ?_;rcases Nz.mp h with e|h
 subst e;exact rG (beq_self_eq_true _) rfl;refine rG (beq_eq_false_iff_ne.mpr λe:x=p.1=>a.1 (Nx.mpr ⟨(x,v),h,e⟩)) ?_;exact c a.2 h
structure cc(k:gS)(sc:Scope)(xs fv:List Nat):Prop where
 kind:sc.kind=.function
 fg:sc.names.lookup ("run":Str)≠Nk .local
 names:∀x j,(x,j)∈sc.names->j=.local\/j=.globalImplicit\/(j=.free/\k x=Nk .cell)
 xs:∀x∈xs,sc.names.lookup (bv x)=Nk .local
 fv:∀x∈fv,sc.names.lookup (bv x)=Nk .free
 nd:(sc.names.map (·.1)).Nodup
theorem zU{k:gS}{sc:Scope}{xs fv:List Nat}{single:Bool}{it:It}(h:FZ k sc xs fv single it=Nm):cc k sc xs fv/\(it=.bI->single=Nl):=db h λh _=>db h λh h6=>db h λh h5=>db h λh h4=>db h λh h3=>db h λh h2=>db h λh0 h1=>
 ⟨⟨beq_iff_eq.mp h1,bne_iff_ne.mp h0,λx j hm=>by
  have q:=ND.mp h3 _ hm;rcases QB.mp q with q|q
  exact(QB.mp q).imp beq_iff_eq.mp λq=>.inl (beq_iff_eq.mp q);exact db q λq1 q2=>.inr (.inr ⟨beq_iff_eq.mp q1,beq_iff_eq.mp q2⟩),λx hx=>beq_iff_eq.mp (ND.mp h4 x hx),λx hx=>beq_iff_eq.mp (ND.mp h5 x hx),of_decide_eq_true h6⟩,
  λe=>by subst e;cases single with|false=>rfl|true=>exact fT h2⟩
section
variable{T:Tab}{O:aN}{n:Nat}{k:gS}{A:Ob}{env:Env}{m:Loc}{B:gU}{as:gH}{st:am}{s:Np}{Er:No->Np->Prop}
theorem uy{sc:Scope}{cl:List (Str×NF)}{C:NF}(a:∀y,env.kindOf y=k y)(hf:env.scope.kind=.function)(y:Str):(Si sc cl C env).kindOf y=gZ k sc y:=by show((sc.names.map λ(n,k)=>if(k==.free&&env.scope.kind==.function&&env.kindOf n==Nk .cell)then(n,.cell)else(n,k)):List (Str×N8)).lookup y=(sc.names.map λ(n,j)=>if j==.free&&k n==Nk .cell then(n,QM)else(n,j)).lookup y;refine congrArg (λl=>Uz y l) (R0 λp _=>?_);obtain⟨n,j⟩:=p;simp only[hf,a,beq_self_eq_true,PN]
theorem EB{fv:List Nat}{x:Nat}{d:D}{m:Loc}:(m.only fv).get x=Nk d->m.get x=Nk d/\x∈fv:=by induction m with|nil=>exact λh=>nS h|cons p r c=>intro h;obtain⟨y,e⟩:=p;have h:Loc.get (UA (λp=>fv.any (N0 p.1)) ((y,e)::r)) x=Nk d:=h;refine rG (lU _ _ _ _) ?_;cases hf:fv.any (N0 y)with|true=>rw[List.filter_cons_of_pos (p:=λp:Nat×D=>fv.any (N0 p.1)) (a:=(y,e)) hf,lU]at h;by_cases b:x=y;rw[if_pos b]at h⊢;(refine(Rd.mp hf).elim λz g=>g.elim λf e=>?_);exact⟨h,by refine rG b (rG (O3 e) ?_);exact f⟩;rw[if_neg b]at h⊢;exact c h|false=>rw[List.filter_cons_of_neg (p:=λp:Nat×D=>fv.any (N0 p.1)) (a:=(y,e)) (λz=>Od (hf.symm.trans z))]at h;have c:=c h;refine⟨?_,c.2⟩;rw[if_neg];exact c.1;intro b;subst b;exact Od (hf.symm.trans (Rd.mpr ⟨x,c.2,QI x⟩))
theorem yE{sc:Scope}{xs fv:List Nat}{C:NF}(Ct:cc k sc xs fv)(F:Frame W env m B as st s.heap)(hk:∀y,env.kindOf y=k y)(hns:∃mv,s.heap.Ns C mv)(hA:ar W B as st s.heap C)(hC:C∉dl env):Frame W (Si sc (kv sc.names env.cells) C env) (m.only fv) B as st s.heap:=by
 have ik:∀y,(Si sc (kv sc.names env.cells) C env).kindOf y=(sc.names.lookup y).map (inK k y):=λy=>(uy hk F.kind y).trans ro;have hin:∀x c,(x,c)∈kv sc.names env.cells->(x,c)∈env.cells:=λx c h=>mem_of_lookup (pj.mp h).2;have up:∀{x c},(x,c)∈kv sc.names env.cells->c∈dl env:=λh=>.tail _ (Nx.mpr ⟨_,hin _ _ h,rfl⟩);refine⟨Ct.kind,F.glob,F.blt,hns,λx c h=>F.cells x c (hin x c h),λx d hd=>?_,λa ha=>?_,?_,λx hx=>?_,λhr _=>?_⟩;(refine(EB hd).elim λhg hfv=>?_);(refine(F.vals x d hg).elim λv z4=>z4.elim λN r=>?_);have hl:=Ct.fv x hfv;have hm:=mem_of_lookup hl;have hcell:k (bv x)=Nk .cell:=by
  rcases Ct.names _ _ hm with q|q|q
  cases q;cases q;exact q.2
 have ikx:(Si sc (kv sc.names env.cells) C env).kindOf (bv x)=Nk .cell:=by refine rG (ik _) (rG hl ?_);unfold inK;refine rG hcell ?_;rfl
 refine i12 v ?_ r;rcases N with⟨h1,_⟩|⟨_,c,hc,hi⟩
 rw[hk,hcell]at h1;cases h1;exact .fb (.inl ikx) c (ur (zY Ct.nd) (pj.mpr ⟨hm,hc⟩)) hi;rcases Nz.mp ha with rfl|ha
 exact i03 hA.foot hA.base hA.bB;refine w12 (Nx.mp ha) λz1 hm z2=>?_;obtain⟨x,c⟩:=z1;subst z2;exact F.off _ (up hm);refine NZ.mpr ⟨λhm=>?_,Fi Ct.nd (NZ.mp F.nodup).2⟩;refine w12 (Nx.mp hm) λz3 hm e=>?_;obtain⟨x,c⟩:=z3;exact hC ((show c=C from e)▸up hm);rw[ik]at hx;refine omI hx λj hj e=>?_;rcases Ct.names _ _ (mem_of_lookup hj)with q|q|⟨rfl,q⟩
 subst q;exact nomatch e
 subst q;exact nomatch e
 (refine(Om.mp (F.cl x ((hk x).trans q))).elim λc hc=>?_);exact jf (Nx.mpr ⟨_,pj.mpr ⟨mem_of_lookup hj,hc⟩,rfl⟩);rw[ik]at hr;refine omI hr λj hj e=>?_;rcases Ct.names _ _ (mem_of_lookup hj)with q|q|⟨rfl,q⟩
 subst q;exact absurd hj Ct.fg;subst q;exact nomatch e
 unfold inK at e;rw[q]at e;exact nomatch e
theorem OneOk.ab{xs:List Nat}(f:∀y,env.kindOf y=k y):OneOk W k A env B as st Er [env.locals] (λx=>k (bv x)=Nk .local):=λ{x e d v m s}g c F H r=>by(refine c.elim λp a=>a.elim λb _=>?_;try clear c;subst b);show NL _ _ (do TV p;T9 env (bv x) v) _ _ _;exact Nn (OB (T5 (se F H r ((f _).trans g))))
end
section
variable{T:Tab}{O:aN}{n:Nat}{k:gS}{A:Ob}{env:Env}{m:Loc}{B:gU}{as:gH}{st:am}{s:Np}{Er:No->Np->Prop}
abbrev NB(W:Wd)(A:Ob)(env:Env)(R:Tm->Np->Prop):No->Np->Prop:=notedBy (NT W.prog W.w) A env λe a=>R (.error e) a
theorem wR{t a j:Expr}{y:List Expr}{scope:Scope}{pos:Pos}{G q:No}{R:Tm->Np->Prop}(I:Nat->Np->Prop)(F:∀n s,I n s->NL (NT W.prog W.w) A (Sg G) (λr d=>match r with
 |none=>R (.ok .next) d|some v=>NL (NT W.prog W.w) A (TL a G v) (λ_ e=>NL (NT W.prog W.w) A (O5 a env v) (λ_ l=>
 NL (NT W.prog W.w) A (forIn y Nm λc r=>if r=Nm then do let E<-isTrue c env (Oi c env);OW (Q6 E)else OW (Q6 r)) (λE f=>
  if E=Nm then NL (NT W.prog W.w) A (Oi t env) (λx o=>NL (NT W.prog W.w) A (Wg (.builtin "list.append") [q,x]) (λ_ p=>∃m,m<n/\I m p) (NB W A env R) o) (NB W A env R) f
  else ∃m,m<n/\I m f) (NB W A env R) l) (NB W A env R) e) (NB W A env R) d) (NB W A env R) s) (n:Nat)(h:I n s):P0 (NT W.prog W.w) A (.compLoop (.ListComp t [⟨a,j,y,0⟩] scope pos) 0 G q env) R s:=by refine codeAny_loop rfl I (λn s H=>?_) n h;show NL _ A ((compTurn (.ListComp t [⟨a,j,y,0⟩] scope pos) 0 G q env).onRaise (λx=>do noteFrame x env;theTreesLotGoes x)) _ _ s;refine wpAny_noted ?_;refine rG (compTurn_list _ _ _ _ _ _ _ _ _) ?_;refine Nn (OB (Nn (NR (F n s H) (λr d g=>?_) λ_ _ b=>b)));induction r using N3 with|none=>exact Nt g|some v=>refine Nn (NR g (λ_ e u=>Nn (NR u (λ_ l z=>Nn (NR z (λE f i=>?_) λ_ _ b=>b)) λ_ _ b=>b)) λ_ _ b=>b);induction E using Nw with|false=>exact Nt ⟨rfl,i⟩|true=>exact Nn (Nn (NR i (λx o C=>Nn (NR C (λ_ p D=>Nt (Nt ⟨rfl,D⟩)) λ_ _ b=>b)) λ_ _ b=>b))
noncomputable def rf(T:Tab)(O:aN)(b:E)(xs fv:List Nat)(single a:Bool)(e:E)(m:Loc):D->am->Option (Option D×am):=λd st=>(iz xs single d (m.only fv)).bind λf=>cond a (bb (ev T O e f st) λc st=>cond c (bp (ev T O b f st) λr st=>Nk (Nk r,st)) (Nk (Nq,st))) (bp (ev T O b f st) λr st=>Nk (Nk r,st))
inductive bU(W:Wd)(T:Tab)(O:aN)(n:Nat)(k:gS):Bool->E->List Expr->Prop|no {c}:bU W T O n k Nl c []|yes {c x}:af W T O n k c x->bU W T O n k Nm c [x]
structure Hand(W:Wd)(env:Env)(m:Loc)(C L:NF)(its:Array No)(rs:List D)(B:gU)(as:gH)(st:am)(h:NV):Prop where
 frame:Frame W env m B as st h
 ns:∃mv,h.Ns C mv
 bL:ar W B as st h C
 cg:ar W B as st h L
 get:∃nn,h.get? L=Nk (jd its nn)
 rv:RvL W B as rs its.toList
theorem uj{h:NV}{C:NF}{f}(x:h.Ns C f):∀o,h.get? C=Nk o->¬je o:=λo e c=>by obtain⟨_,p,b⟩:=c;refine w33 x λl j i d a _=>?_;rw[d]at e;(refine sI e λg=>?_;subst g);rw[b]at a;cases a
theorem mK{a b:NF}(h:a≠b):a∉[b]:=λq=>h (NC.mp q)
theorem Hand.step{C L:NF}{d:Array No}{f:List D}{X:List NF}{e c st'}{s':Np}(h:Hand W env m C L d f B as st s.heap)(S:ai W X B as st s e c st' s')(j:C∉X)(l:L∉X)(p:∀a∈dl env,a∉X):Hand W env m C L d f e c st' s'.heap:=by refine w42 (h.ns) λu o i g t q=>?_;obtain⟨v,r⟩:=h.get;have a:=h.bL.step S t j;have b:=h.cg.step S r l;exact⟨h.frame.step S p,⟨u,o,i,g,a.2,q⟩,a.1,b.1,⟨v,b.2⟩,h.rv.mono W S.ext⟩
theorem Hand.dM{C L:NF}{b:Array No}{d:List D}{c a st'}{s':Np}(h:Hand W env m C L b d B as st s.heap)(S:ai W [] B as st s c a st' s'):Hand W env m C L b d c a st' s'.heap:=h.step S (λh=>iM h) (λh=>iM h) λ_ _ h=>iM h
theorem Hand.gD{C L:NF}{c:Array No}{g:List D}{s':Np}(h:Hand W env m C L c g B as st s.heap)(S:ai W [C] B as st s B as st s')(d:C≠L)(i:C∉dl env)(f:∃o,s'.heap.Ns C o):Hand W env m C L c g B as st s'.heap:=by obtain⟨p,l⟩:=h.get;have b:=h.cg.step S l (mK (O9 d));exact⟨h.frame.step S λa j q=>i (NC.mp q▸j),f,⟨h.bL.foot,h.bL.base,h.bL.bB,let⟨_,e⟩:=f;uj e⟩,b.1,⟨p,b.2⟩,h.rv⟩
theorem Hand.push{C L:NF}{b:Array No}{i:List D}(h:Hand W env m C L b i B as st s.heap)(d:C≠L)(p:L∉dl env){r:D}{w:No}{c:NV}{g:Nat}(f:c.get? L=Nk (jd (b.push w) g))(S:ai W [L] B as st s B as st {s with heap:=c})(y:Rv W B as r w):Hand W env m C L (b.push w) (i++[r]) B as st c:=by refine hid λz v=>?_;refine w42 (h.ns) λx o l j u q=>?_;refine v ?_;have e:=h.bL.step S u (mK d);exact⟨h.frame.step S λa t q=>p (NC.mp q▸t),⟨x,o,l,j,e.2,q⟩,e.1,lf h.cg f (iN (nm:="list") rfl (by decide)),⟨g,f⟩,by refine rG Sm ?_;exact RvL.append (.cons y .nil) h.rv⟩
inductive eW(W:Wd)(T:Tab)(O:aN)(e:E)(xs fv:List Nat)(single hasIf:Bool)(cnd:E)(env:Env)(m:Loc)(C L:NF)(X:List NF)(P:ItP)(l:List D)(B:gU)(as:gH)(st:am)(s:Np)(q:List D×am)(j:Nat)(aO:Np):Prop|mk (i bh aP aa rs its rs'):j+i=l.length->ai W (C::L::X) B as st s bh aP aa aO->Hand W env m C L its rs bh aP aa aO.heap->rs.length<=i->P i bh aP aO.heap->jk W X bh aP aa aO.heap->compLoop (rf T O e xs fv single hasIf cnd m) (l.drop i) aa=Nk (rs',q.2)->rs++rs'=q.1->eW W T O e xs fv single hasIf cnd env m C L X P l B as st s q j aO
theorem C7{single t:Bool}{xs fv:List Nat}{e:E}{b4:E}{d7 M g2:Expr}{g1:List Expr}{sc:Scope}{pos:Pos}{it:No}{X:List NF}{l:List D}{P:ItP}{P':No->ItP}{C L:NF}{a8 U Y}{b6:Np}{q:List D×am}{R:Tm->Np->Prop}(I:Iter W A M it X l P P')(Rm:aF A n)(Ct:cc k sc xs fv)(ht:aJ (gZ k sc) single xs M)(f9:af W T O n (gZ k sc) e d7)(d9:bU W T O n (gZ k sc) t b4 g1)(hk:∀y,env.kindOf y=k y)(f8:C≠L)(b7:C∉X)(b8:L∉X)(hC:C∉dl env)(hD:L∉dl env)(hX:∀x∈X,x∉dl env)(d1:ai W (C::L::X) a8 U Y b6 B as st s)(H₀:Hand W env m C L #[] [] B as st s.heap)(c8:P 0 B as s.heap)(c2:jk W X B as st s.heap)(d3:l.length<=cap)(he:compLoop (rf T O e xs fv single t b4 m) l st=Nk q)(hR:∀a6 s' B' S,ai W (C::L::X) a8 U Y b6 B' S q.2 s'->Hand W env m C L a6 q.1 B' S q.2 s'.heap->q.1.length<=cap->R (.ok .next) s'):P0 (NT W.prog W.w) A (.compLoop (.ListComp d7 [⟨M,g2,g1,0⟩] sc pos) 0 it (.ref L) (Si sc (kv sc.names env.cells) C env)) R s:=by
 obtain⟨J,hJ⟩:∃J,J=eW W T O e xs fv single t b4 env m C L X P l a8 U Y b6 q:=⟨_,rfl⟩;obtain⟨e2,b9⟩:∃e2,e2=Si sc (kv sc.names env.cells) C env:=⟨_,rfl⟩;obtain⟨tf,c1⟩:∃tf,tf=rf T O e xs fv single t b4 m:=⟨_,rfl⟩;have c7:J l.length s:=hJ▸⟨0,B,as,st,[],#[],q.1,rfl,d1,H₀,N4 _,c8,c2,he,rfl⟩;clear d1 H₀ c8 c2 he;refine rL b9 ?_;refine wR J (λj h4 p=>?_) l.length c7;clear c7;rw[hJ]at p;induction p using eW.casesOn with|mk i f1 G z rs a6 g3 hj a1 c5 c0 c9 c3 d hq=>
 rw[<-c1]at d;have wX:∀{B as st}{s:Np}{B' S st'}{s':Np},ai W X B as st s B' S st' s'->ai W (C::L::X) B as st s B' S st' s':=λx=>x.weaken λa h=>.tail _ (.tail _ h);have w0:∀{B as st}{s:Np}{B' S st'}{s':Np},ai W [] B as st s B' S st' s'->ai W (C::L::X) B as st s B' S st' s':=λx=>x.weaken λa h=>iM h;have d8:∀a∈dl env,a∉X:=λa ha hx=>hX a hx ha;have e5:∀x∈X,x∉([]:List NF):=λ_ _ h=>iM h;induction j using NY with
 |zero=>have hi:l.length<=i:=Pf (hj.symm.trans (Oz i));rw[Rq hi]at d;refine hid λG9 k9=>?_;(refine spI d λq0 q1=>?_;subst q0;subst q1);rw[OY]at hq;subst hq;refine k9 ?_;exact I.stop (Uj hi) c9 a1.hs c3 λd5 F=>hR a6 d5 f1 G (a1.trans (wX F)) (c5.step F b7 b8 d8) (NN c0 (by refine rL (Oz i) (rG hj ?_);exact d3))|succ j=>
 have e0:j+(i+1)=l.length:=by refine rL hj (rG (Ug _ _) ?_);rfl
 have e1:i<l.length:=by refine rL e0 ?_;exact S9 _ _
 have hd:l[i]? =Nk l[i]:=NQ e1;rw[QW e1]at d;refine I.next hd c9 a1.hs c3 λa9 v d5 F e7 d4 f3=>I.go hd d4 f3 F.hs e7 λg5 a2 e8 f4=>?_
 have N:=(c5.step F b7 b8 d8).step a2 b7 b8 d8;have f2:=b9▸yE Ct N.frame hk N.ns N.bL hC;have ik:=b9▸uy (sc:=sc) (cl:=kv sc.names env.cells) (C:=C) hk N.frame.kind;refine jm (o:=tf l[i] z) d λh3 K u d=>ml (c1▸u:rf T O e xs fv single t b4 m l[i] z=_) λm' hb u=>?_;have g7:∀x∈xs,gZ k sc (bv x)=Nk .local:=λx hx=>by unfold gZ;refine rG ro (rG (Ct.xs x hx) ?_);rfl
 refine NR (om (OneOk.ab (xs:=xs) ik) Rm.handled ht g7 f2 a2.hs (d4.mono W a2.ext) (.inl rfl) hb) (λ_ d6 p=>?_) λ_ _ e=>e;have hl:e2.locals=C:=b9▸rfl;have Q:ai W [C] a9 G z g5 a9 G z d6:=hl▸p.1;have b1:=p.2;have c6:=N.gD Q f8 hC (hl▸b1.ns);obtain⟨d0,c4⟩:=I.keep f4 e8 Q λx hx=>mK λe=>b7 (e▸hx);have f7:=((a1.trans (wX F)).trans (wX a2)).trans (Q.weaken (lC (.head _)));have d2:∀{Z H K}{a4:Np}{r:D}{f:am}{l':List D},ai W [] a9 G z d6 Z H K a4->ev T O e m' K=Nk (r,f)->compLoop tf (l.drop (i+1)) f=Nk (l',q.2)->g3=r::l'->NL (NT W.prog W.w) A (Oi d7 e2) (λx a5=>NL (NT W.prog W.w) A (Wg (.builtin "list.append") [.ref L,x]) (λ_ g6=>∃j',j'<j+1/\J j' g6) (NB W A e2 R) a5) (NB W A e2 R) a4:=λ{Z H K a4 r f l'}g h6 b5 hr=>by
  obtain⟨b2,a7⟩:=I.keep d0 c4 g e5;refine f9.val.use Rm (b1.step g λ_ _ h=>iM h) ik g.hs h6 λb0 V w a5 a3 h2 _ g4=>?_;have a0:=(c6.dM g).dM a3;obtain⟨f5,e9⟩:=I.keep b2 a7 a3 e5;obtain⟨nn,hg⟩:=a0.get;have g8:a6.size<=PT:=by refine rG (io a0.rv) ?_;exact ld (NN c0 (NN (OM e1) d3))
  refine wpAny_list_append_plain (hsz:=g8) ⟨nn,hg⟩ λg0 hl e4=>?_;obtain⟨h5,e3⟩:=hl;have b3:ai W [L] b0 V f a5 b0 V f {a5 with heap:=g0}:=ai.other a3.hs rfl (j2 a0.cg) λb o e hb=>by refine rG (e4.2 b (λq=>hb (q▸.head _))) ?_;exact e
  obtain⟨f6,f0⟩:=I.keep f5 e9 b3 λx hx=>mK λe=>b8 (e▸hx);exact⟨j,P3 j,hJ▸⟨i+1,b0,V,f,rs++[r],a6.push w,l',e0,f7.trans ((w0 g).trans ((w0 a3).trans (b3.weaken (lC (.tail _ (.head _)))))),a0.push f8 hD e3 b3 g4,by refine rG NG ?_;exact Pk c0,f6,f0,c1▸b5,by refine rG (OJ _ _ _) (rL hq (rG hr ?_));rfl⟩⟩
 induction d9 using bU.casesOn with|no=>refine wpAny_tests_nil ?_;refine rG (if_pos rfl) ?_;refine jm u λr f h6 u=>?_;(refine spI u λq0 q1=>?_;subst q0;subst q1);exact jm d λl' e6 b5 d=>by(refine spI d λq0 q1=>?_;subst q0;subst q1);exact d2 (ai.refl Q.hs) h6 b5 rfl|yes hc=>refine wpAny_tests_one (Ft u λc h0 g9 u=>hc.eh.use Rm b1 ik Q.hs g9 λZ H a4 g h1 _=>?_);induction c using Nw with|true=>refine rG (if_pos rfl) ?_;refine jm u λr f h6 u=>?_;(refine spI u λq0 q1=>?_;subst q0;subst q1);exact jm d λl' e6 b5 d=>by refine hid λG9 k9=>?_;(refine spI d λq0 q1=>?_;subst q0;subst q1);refine k9 ?_;exact d2 g h6 b5 rfl|false=>refine rG (if_neg Od) ?_;(refine spI u λq0 q1=>?_;subst q0;subst q1);obtain⟨b2,a7⟩:=I.keep d0 c4 g e5;exact⟨j,P3 j,hJ▸⟨i+1,Z,H,_,rs,a6,g3,e0,f7.trans (w0 g),c6.dM g,Ql c0,b2,a7,c1▸d,hq⟩⟩
end
section
variable{T:Tab}{O:aN}{n:Nat}{k:gS}{A:Ob}{env:Env}{m:Loc}{B:gU}{as:gH}{st:am}{s:Np}{Er:No->Np->Prop}
inductive Handed(W:Wd)(B:gU)(as:gH)(st:am)(s:Np)(L:NF)(aO:Np)(bh:gU)(aP:gH)(aa:am)(q:D×am):Prop|mk (B' as'):ai W [] B as st s B' as' q.2 aO->Rv W B' as' q.1 (.ref L)->(∀a,a≠L->ar W bh aP aa aO.heap a->ar W B' as' q.2 aO.heap a)->Handed W B as st s L aO bh aP aa q
theorem sW{Y:List NF}{L:NF}{i:Array No}{r:Nat}{l:List D}{f d aa}{g:Np}(S:ai W Y B as st s f d aa g)(u:∀a∈Y,s.heap.get? a=Nq)(t:s.heap.get? L=Nq)(o:ar W f d aa g.heap L)(v:g.heap.get? L=Nk (jd i r))(x:RvL W f d l i.toList)(w:l.length<=cap)(ag:Bool):Handed W B as st s L g f d aa (mk ag l aa):=by
 induction ag using Nw with
 |true=>
  refine⟨f,d++[(L,L)],ai.adopt S u (p:=(L,L)) (c:=.ae l) (λa j=>jE (G:=λa=>s.heap.get? a=Nq/\ar W f d aa g.heap a) j ⟨t,o⟩) (OO _ _) ⟨i,r,v,w,x.mono W (nR _)⟩,.ag (lV S.hs (L,L)),λa j h=>⟨λq=>?_,h.base,h.bB,h.code⟩⟩;rcases NW.mp ((nI (as:=d) (st:=aa) (L,L) (.ae l) S.hs.len)▸q)with z|z
  exact h.foot z;exact mK j z
 |false=>exact⟨ti f L (jd i r),d,ai.dn S u t o v,.ae (js _ _ _) w (x.mono W (jO o.base)),λa j h=>h.ext j⟩
theorem ai.one{X:List NF}{C:NF}{c:NV}{t:Nat}(H:Hs W B as st s.heap)(a:ar W B as st s.heap C)(hs:OT C s.heap c):ai W [C] B as st s B as st {s with heap:=c,toks:=t}:=ai.other H rfl (j2 a) λb o e d=>by refine rG (hs.2 b (λq=>d (q▸.head _))) ?_;exact e
theorem cc.freed{sc:Scope}{xs fv:List Nat}(c:cc k sc xs fv){p:Str×N8}(hp:p∈sc.names)(hf:p.2=.free):k p.1=Nk .cell:=by
 obtain⟨x,j⟩:=p;subst hf;rcases c.names _ _ hp with q|q|q
 cases q;cases q;exact q.2
theorem cc.eO{sc:Scope}{xs fv:List Nat}(c:cc k sc xs fv){p:Str×N8}(hp:p∈sc.names)(hf:p.2=.cell):False:=by
 obtain⟨x,j⟩:=p;subst hf;rcases c.names _ _ hp with q|q|q
 cases q;cases q;cases q.1
abbrev HRR(W:Wd)(env:Env)(m:Loc)(B:gU)(as:gH)(st:am)(s:Np)(q:List D×am)(RR:No->NF->Tm->Np->Prop):Prop:=∀C L Y d s' f c,ai W (C::L::Y) B as st s f c q.2 s'->(∀a∈C::L::Y,s.heap.get? a=Nq)->C≠L->Hand W env m C L d q.1 f c q.2 s'.heap->q.1.length<=cap->RR (.ref L) C (.ok .next) s'
theorem AR{single hasIf:Bool}{xs fv:List Nat}{e:E}{cnd:E}{elt target Tq:Expr}{ifs:List Expr}{sc:Scope}{pos:Pos}{it:It}{itv:No}{l:List D}{az:Np}{ah:am}{q:List D×am}{RR:No->NF->Tm->Np->Prop}(Md:Made W it B as st s l ah itv az)(F:Frame W env m B as st s.heap)(Rm:aF A n)(Ct:cc k sc xs fv)(hit:it=.bI->single=Nl)(ht:aJ (gZ k sc) single xs target)(helt:af W T O n (gZ k sc) e elt)(hcond:bU W T O n (gZ k sc) hasIf cnd ifs)(hk:∀y,env.kindOf y=k y)(hlen:l.length<=cap)(he:compLoop (rf T O e xs fv single hasIf cnd m) l ah=Nk q)(hRR:HRR W env m B as st s q RR):NL (NT W.prog W.w) A (newList []) (λacc dg=>NL (NT W.prog W.w) A (newFunctionEnv sc env.globals (kv sc.names env.cells) [] env.qual Nq .none (Nk env)) (λcenv fF=>P0 (NT W.prog W.w) A (.compStart (.ListComp elt [⟨target,Tq,ifs,0⟩] sc pos) 0 itv acc {cenv with scope:=relabel sc env}) (RR acc cenv.locals) fF) Er dg) Er az:=by
 induction Md using Made.casesOn with|@mk bh aP X P P' bM dX aX hP hIt=>
 refine O1 (Vx (λx hx e=>(Ct.eO hx e).elim) (λy hy=>iM hy) (λcY cP cN=>?_) Ct.kind);dsimp only at cP cN⊢;generalize hH2:az.heap.push {cls:=.type "list",dict:=Nq,data:=.seq ([]:List No).toArray}=H2 at cP cN⊢;have hC:H2.objs.size=az.heap.objs.size+1:=by exact rL hH2 (rG (VL _ _) rfl)
 have hCL:H2.objs.size≠az.heap.objs.size:=by refine rG hC ?_;exact VD _
 have kp:KeepAll az.heap cY:=λb o q=>cN.extBut b o (by refine rG hC ?_;exact Pu (Vq (Pr q))) (NS _ (hH2▸NS _ q));have dL:az.heap.get? az.heap.objs.size=Nq:=gT _;have dC:az.heap.get? H2.objs.size=Nq:=im (by refine rG hC ?_;exact OZ _);have hacc:cY.get? az.heap.objs.size=Nk (jd #[] 0):=cN.extBut _ _ (O9 hCL) (NS _ (hH2▸NP _ rfl));have dU:ai W [] bh aP ah az bh aP ah {az with heap:=cY,toks:=az.toks+([]:List (Str×No)).length}:=ai.aD (s':={az with heap:=cY,toks:=az.toks+([]:List (Str×No)).length}) bM.hs rfl kp;have S12:=bM.trans dU;have notX:∀a,az.heap.get? a=Nq->a∉X:=λa ha q=>by(refine(dX a q).elim λ_ z1=>z1.elim λo e=>?_);rw[ha]at e;exact nS e
 have dead:∀a,az.heap.get? a=Nq->s.heap.get? a=Nq:=λa ha=>(bM.dead ha).elim id λh=>iM h;have notF:∀a,s.heap.get? a=Nq->a∉dl env:=λa ha q=>by(refine(F.live a q).elim λo e=>?_);rw[ha]at e;exact nS e
 have Sh:∀a,az.heap.get? a=Nq->W.n1<=a->(∀o,cY.get? a=Nk o->¬je o)->ar W bh aP ah cY a:=λa ha hn hc=>⟨λq=>(by(refine((bM.hs.off a q).2.2).elim λo e=>?_);rw[ha]at e;exact nS e),bM.hs.av ha,hn,hc⟩;have HC:Hand W env m H2.objs.size az.heap.objs.size #[] [] bh aP ah cY:=⟨F.step S12 (λ_ _ h=>iM h),⟨_,cP⟩,Sh _ dC (NN bM.hs.low (by refine rG hC ?_;exact OZ _)) (uj cP),Sh _ dL bM.hs.low (λo e c=>by rw[hacc]at e;(refine sI e λq0=>?_;subst q0);exact iN (nm:="list") rfl (by decide) c.1),⟨0,hacc⟩,.nil⟩;have I:=hIt A target Rm.handled (λe=>by have:=hit e;subst this;cases ht with|many h=>exact i31 _ _ _ rfl);(refine(I.keep hP aX dU λ_ _ h=>iM h).elim λfx fX=>?_);have loop:P0 (NT W.prog W.w) A (.compLoop (.ListComp elt [⟨target,Tq,ifs,0⟩] sc pos) 0 itv (.ref az.heap.objs.size) (Si sc (kv sc.names env.cells) H2.objs.size env)) (RR (.ref az.heap.objs.size) H2.objs.size) {az with heap:=cY,toks:=az.toks+([]:List (Str×No)).length}:=by
  refine C7 I Rm Ct ht helt hcond hk hCL (notX _ dC) (notX _ dL) (notF _ (dead _ dC)) (notF _ (dead _ dL)) (λx hx=>notF _ (dX x hx).1) (S12.weaken λa h=>iM h) HC fx fX hlen he λits s' B' as' S' H' ho=>hRR _ _ X its s' B' as' S' (λa ha=>?_) hCL H' ho;rcases Nz.mp ha with rfl|ha
  exact dead _ dC;rcases Nz.mp ha with rfl|ha
  exact dead _ dL;exact(dX a ha).1
 exact codeAny_compStart_list loop (I.self fx loop)
structure ed(W:Wd)(T:Tab)(O:aN)(n:Nat)(k:gS)(e:E)(xs fv:List Nat)(single:Bool)(it:It)(a b:E)(hasIf:Bool)(cnd:E)(elt target Tq:Expr)(ifs:List Expr)(sc:Scope):Prop where
 hI:dp W T O n k it a b Tq
 hC:cc k sc xs fv
 hE:it=.bI->single=Nl
 hT:aJ (gZ k sc) single xs target
 hX:af W T O n (gZ k sc) e elt
 hF:bU W T O n (gZ k sc) hasIf cnd ifs
section
variable{ag:Bool}{e:E}{xs fv:List Nat}{single hasIf:Bool}{it:It}{a b cnd:E}{elt target Tq:Expr}{ifs:List Expr}{sc:Scope}{pos:Pos}
theorem FY{q:D×am}{G:D×am->Prop}(c:ev T O (.comp ag e xs fv single it a b hasIf cnd) m st=Nk q)(k:∀x aa y ah l d au,ev T O a m st=Nk (x,aa)->ev T O b m aa=Nk (y,ah)->ki it x y ah=Nk l->l.length<=cap->compLoop (rf T O e xs fv single hasIf cnd m) l ah=Nk (d,au)->G (mk ag d au)):G q:=jm c λx aa f c=>jm c λy ah g c=>ml c λl i c=>mQ c λh c=>jm c λd au j c=>on (G:=G) c (k x aa y ah l d au f g i h j)
theorem C8(o:aW W T)(C:ed W T O n k e xs fv single it a b hasIf cnd elt target Tq ifs sc)(R:aF A n)(F:Frame W env m B as st s.heap)(f:∀y,env.kindOf y=k y)(H:Hs W B as st s.heap){x y:D}{aa ah au:am}{l i:List D}(r:ev T O a m st=Nk (x,aa))(t:ev T O b m aa=Nk (y,ah))(g:ki it x y ah=Nk l)(hc:l.length<=cap)(hx:compLoop (rf T O e xs fv single hasIf cnd m) l ah=Nk (i,au)){z:Pos}{use:Option (No->Sem Unit)}{Q:No->Np->Prop}(d:HRR W env m B as st s (i,au) (compPost (NT W.prog W.w) A Er use Q)):NL (NT W.prog W.w) A (comprehension (.ListComp elt [⟨target,Tq,ifs,0⟩] sc pos) sc env z (newList []) Nl (Oi Tq env) use) Q Er s:=by refine wpAny_comprehension_free (use:=use) (cl:=kv sc.names env.cells) rfl (wC (uv C.hI) env) (vD λp h u=>F.cl _ ((f _).trans (C.hC.freed h u))) C.hC.kind (λp h g=>ur C.hC.nd (by refine rL g ?_;exact h)) ?_;exact wo o C.hI R F f H r t g λv j q=>AR (RR:=λc C=>compPost (NT W.prog W.w) A Er use Q c C) q F R C.hC C.hE C.hT C.hX C.hF f hc hx d
theorem zd(D:aW W T)(C:ed W T O n k e xs fv single it a b hasIf cnd elt target Tq ifs sc):af W T O n k (.comp ag e xs fv single it a b hasIf cnd) (.ListComp elt [⟨target,Tq,ifs,0⟩] sc pos):=by refine .aE λA env m B as st s q Er R F Q H N=>FY (G:=ng W A env _ B as st s Er) N λx p y r l rs u J K S M Z=>?_;unfold ng;refine rG (eval_ListComp _ _ _ _) ?_;refine C8 D C R F Q H J K S M Z λC L Y a0 s' B' I v c i d U=>?_;(refine d.ns.elim λmv j=>?_);refine i12 mv j (λh' V=>?_);(refine d.get.elim λnn P=>?_);have w:=ai.one (X:=[]) (t:=s'.toks) v.hs d.bL V;have z:=d.cg.step w P (mK (O9 i));cases sW (v.trans (w.weaken (lC (.head _)))) c (c _ (.tail _ (.head _))) z.1 z.2 d.rv U ag with|mk g f h o _=>exact⟨g,f,h,o⟩
theorem Bu(Lw:aW W T){tx:Expr}{i:Pos}{z:Nat}(hz:vL k z tx)(C:ed W T O n k e xs fv single it a b hasIf cnd elt target Tq ifs sc):iB W T O n k (.assign (.name z) (.comp ag e xs fv single it a b hasIf cnd)) (.Assign [tx] (.ListComp elt [⟨target,Tq,ifs,0⟩] sc pos) i):=by
 intro A env m B as st s q Er R F V H M;(refine(id hz).elim λpz z2=>z2.elim λz3 a7=>?_;subst z3);have w:∃c:Bool,QZ (.ListComp elt [⟨target,Tq,ifs,0⟩] sc pos) (Nk (.Name (bv z) pz)) i.line env=OW c:=⟨_,rfl⟩;(refine w.elim λc J=>?_;try clear w);induction c using Nw with
 |true=>
  refine jm M λd a3 h0 M=>on (G:=w6 W A env _ B as st s Er) M ?_;refine FY (G:=λq:D×am=>w6 W A env (exec (.Assign [.Name (bv z) pz] (.ListComp elt [⟨target,Tq,ifs,0⟩] sc pos) i) env) B as st s Er (.next,m.set z q.1,q.2)) h0 λx a4 y a5 l rs j h1 h2 hl hc hx=>?_;unfold w6;refine rG (exec_Assign_Name_used _ _ _ _ J) ?_;refine Nn (OB (Nn ?_));refine Nn (NR (C8 (Q:=λ_ s'=>bg W env B as st s (.next,m.set z (mk ag rs j).1,(mk ag rs j).2) .next s') Lw C R F V H h1 h2 hl hc hx λC L Y a8 s' B' a6 S' f S u ho=>?_) (λ_ s' q=>Nt (Nt q)) λ_ _ e=>e);refine hid λG9 k9=>?_;(refine u.get.elim λnn hg=>?_);(refine u.ns.elim λmv z4=>z4.elim λo z5=>z5.elim λes z6=>z6.elim λep z7=>z7.elim λa1 z8=>z8.elim λZ a0=>?_);cases sW S' f (f _ (.tail _ (.head _))) u.cg hg u.rv ho ag with|mk N v r a2 P=>
  refine k9 ?_;have I:C∉dl env:=λq=>by(refine(F.live C q).elim λo e=>?_);rw[f C (.head _)]at e;exact nS e
  show NL _ A (O5 (.Name (bv z) pz) env (.ref L)) _ _ _;refine NR (oM hz (F.step r λ_ _ h=>iM h) V r.hs a2) (λ_ K p=>?_) λ_ _ e=>e;have g:=(P C S u.bL).step p.1 a1 I;refine i12 mv ⟨o,es,ep,g.2,Z,a0⟩ (λh' hs=>?_);have SC:=ai.one (X:=[]) (t:=K.toks) p.1.hs g.1 hs;exact⟨N,v,(((r.weaken (Y:=C::dl env) λa h=>iM h).trans (p.1.weaken λa h=>.tail _ h)).trans (SC.weaken (lC (.head _)))).drop λa U=>(Nz.mp U).elim (λe=>.inr (e▸f _ (.head _))) .inl,p.2.step SC λa U q=>I (NC.mp q▸U),.next⟩
 |false=>exact wU (Bj hz) (zd (T:=T) (O:=O) (pos:=pos) (ag:=ag) Lw C) (λ_ _ h=>nomatch h) J rfl R F V H M
end
end
open Classical in
theorem Gs{ps:List (Int×D)}{r q:D×am}{G:D×am->Prop}(h:Bp ps r=Nk q)(k:sg ps->G r):G q:=by unfold Bp at h;exact mQ h λa h=>on (G:=G) h (k a)
noncomputable def EN(p:Uf):Int:=numOf p.1
section
variable{prog:Rl}{w:Pi}{A:Ob}{E:No->Np->Prop}{s:Np}{aS:Array Uf}
theorem uR{st:Qz}{a:Nat}{Q:Option Nat->Qz->Prop}(g:IntKeys aS)(m:a<=aS.size)(f:1<=a)(k:SBase aS st)(hs:S6 (RH st) a)(h:Q (Nk a) st):wpS (NT prog w) A E s (countRun' 0 a) Q st:=by
 refine rG (countRun0_eq _) ?_;refine RG (wpS_ascLoop g m (N4 1) f k (λi j b l=>hs i j b (ON l f)) λn o c p d=>?_);have e:n=a:=d.elim id λq=>by by_cases z:n=a;exact z;exact absurd (hs (n-1) n (Sl _ _) (Nat.lt_of_le_of_ne c z)) (Int.not_le.mpr q)
 subst e;dsimp only;refine rG (if_pos (beq_self_eq_true n)) ?_;exact Ue h
theorem Be{M:UR}{a:Type}{c:Prop}[Decidable c]{x y:StateT Qz Sem a}{Q:a->Qz->Prop}{st:Qz}(h:¬c)(k:wpS M A E s y Q st):wpS M A E s (if c then x else y) Q st:=by refine rG (if_neg h) ?_;exact k
theorem Bd{M:UR}{a:Type}{c:Prop}[Decidable c]{x y:StateT Qz Sem a}{Q:a->Qz->Prop}{st:Qz}(h:c)(k:wpS M A E s x Q st):wpS M A E s (if c then x else y) Q st:=by refine rG (if_pos h) ?_;exact k
theorem uQ{st:Qz}{Q:Unit->Qz->Prop}(i:IntKeys aS)(b:SBase aS st)(hs:S6 (RH st) aS.size)(g:2<=aS.size)(j:aS.size<64)(h:∀st',RH st'=RH st->VC st'=Nq->Q () st'):wpS (NT prog w) A E s sortRuns' Q st:=by
 rw[sortRuns'_eq];refine RG (wpS_get ?_);dsimp only;have e:minRun' aS.size aS.size 0=aS.size:=by(refine(show ∃f,aS.size=f+1 from⟨aS.size-1,by lia⟩).elim λf n=>?_);rw[n,minRun'_succ,if_pos (by lia)]
 simp only[b.size,e];refine RG (wpS_mono (wpS_forRange (I:=λx c st'=>(x=0/\c=(Nq,0)/\st'=st)\/(1<=x/\c=(Nq,aS.size)/\SDone aS st'/\RH st'=RH st)) (Q:=λc st'=>c=(Nq,aS.size)/\SDone aS st'/\RH st'=RH st) ?step ?fin (.inl ⟨rfl,rfl,rfl⟩)) ?post);case fin=>
  intro c st' p;rcases p with⟨q,_⟩|⟨_,l⟩
  lia;exact l
 case step=>
  intro x c st' _ q p;rcases p with⟨rfl,rfl,rfl⟩|⟨r,rfl,d⟩
  ·refine Be (Nat.not_le.mpr (ON Nat.zero_lt_two g)) (RG (uR i (N4 _) (Vr g) b hs (Be (Wb _) (RG (wpS_get ?_)))));have k:(pendingOf st').back? =Nq:=by rw[b.pend];rfl
   rw[k];exact RG (wpS_modify (Ue (.inr ⟨N4 1,congrArg (PR Nq) (Oz _),b.done hs,rfl⟩)))
  exact Bd (N4 _) (Ue ⟨rfl,d⟩)
 case post=>
  intro c st' p;(refine p.elim λt u=>u.elim λd m=>?_;try clear p;subst t);dsimp only;refine RG (wpS_mono (wpS_forRange (I:=λ_ c a=>a=st'/\c=(Nq,())) (Q:=λc a=>a=st'/\c=(Nq,())) ?_ (λ_ _ o=>o) ⟨rfl,rfl⟩) ?_)
  ·intro x c a _ _ p;(refine p.elim λv y=>?_;try clear p;subst v;subst y);exact RG (wpS_get (Bd (by rw[d.2.2.1];exact N4 1) (Ue ⟨rfl,rfl⟩)))
  ·intro c a p;(refine p.elim λz C=>?_;try clear p;subst z;subst C);exact Ue (h _ m d.2.1)
structure cw(aS xs:Array Uf):Prop where
 perm:xs.Perm aS
 sorted:S6 xs aS.size
 same:S6 aS aS.size->xs=aS
theorem yc{st:Qz}{Q:Unit->Qz->Prop}(c:IntKeys aS)(g:SBase aS st)(i:RH st=aS)(d:2<=aS.size)(a:aS.size<64)(h:∀st',cw aS (RH st')->VC st'=Nq->Q () st'):wpS (NT prog w) A E s sortRuns' Q st:=by by_cases b:S6 aS aS.size;exact uQ c g (by refine rG i ?_;exact b) d a λst' e f=>h st' (by refine rG e (rG i ?_);exact⟨Sc _,b,λ_=>rfl⟩) f;exact wpS_sortRuns c g d a λst' p f z=>h st' ⟨p,z,λq=>absurd q b⟩ f
end
abbrev Jh(l:List Int):Prop:=l.Pairwise (· <= ·)
theorem LJ{xs:Array Uf}{i:Nat}(h:i<(xs.toList.map EN).length):K xs i=(xs.toList.map EN)[i]:=by unfold K;refine rL (Oa) (rG (NQ (Nat.lt_of_lt_of_eq h (Nu _))) (rG (List.getElem_map _) ?_));rfl
theorem zD(xs:Array Uf):(xs.toList.map EN).length=xs.size:=by exact rG (Nu _) (rG Oo rfl)
theorem vY{xs:Array Uf}:S6 xs xs.size↔Jh (xs.toList.map EN):=⟨λh=>QV.mpr λi j hi hj hij=>by refine rL (LJ hi) (rL (LJ hj) ?_);exact h i j (OM hij) (zD xs▸hj),λh i j hij hj=>by
  rcases Nat.eq_or_lt_of_le hij with e|hlt
  refine rG e ?_;exact UM _;have hj:j<(xs.toList.map EN).length:=(zD xs).symm▸hj;refine rG (LJ (Nat.lt_trans hlt hj)) (rG (LJ hj) ?_);exact QV.mp h i j _ _ hlt⟩
section
variable{W:Wd}{B:gU}{as:gH}
theorem wy(x:Int×D)(l:List (Int×D)):(wZ x l).Perm (x::l):=by
 induction l with
 |nil=>exact .refl _|cons y r a=>
 show(if x.1<y.1 then x::y::r else y::wZ x r).Perm _;split;exact .refl _
 ·exact(a.cons y).trans (.swap x y r)
theorem yC(x:Int×D){l:List (Int×D)}(h:l.Pairwise λa b=>a.1<=b.1):(wZ x l).Pairwise λa b=>a.1<=b.1:=by induction l with|nil=>exact OO _ _|cons y r f=>have d:=O4.mp h;show(if x.1<y.1 then x::y::r else y::wZ x r).Pairwise _;split;rename_i q;exact O4.mpr ⟨λz c=>(Nz.mp c).elim (λe=>e▸Int.le_of_lt q) λc=>Uk (Int.le_of_lt q) (d.1 z c),h⟩;rename_i q;exact O4.mpr ⟨λz c=>(Nz.mp ((wy x r).mem_iff.mp c)).elim (λe=>e▸Int.not_lt.mp q) (d.1 z),f d.2⟩
theorem CA(x:Int×D){l:List (Int×D)}(h:∀y∈l,y.1<=x.1):wZ x l=l++[x]:=by induction l with|nil=>rfl|cons y r b=>show(if x.1<y.1 then x::y::r else y::wZ x r)=_;refine rG (if_neg (Int.not_lt.mpr (h y (.head _)))) (rG (b λz a=>h z (.tail _ a)) ?_);rfl
structure eG(l acc r:List (Int×D)):Prop where
 perm:r.Perm (acc++l)
 sorted:(acc.Pairwise λa b=>a.1<=b.1)->r.Pairwise λa b=>a.1<=b.1
 same:((acc++l).Pairwise λa b=>a.1<=b.1)->r=acc++l
theorem L7(l:List (Int×D)):∀a,eG l a (l.foldl (λa x=>wZ x a) a):=by
 induction l with
 |nil=>intro a;exact⟨by refine rG (OY _) ?_;exact .refl _,id,λ_=>(OY a).symm⟩|cons x r d=>
 intro a;have q:=d (wZ x a);exact⟨q.perm.trans (((wy x a).append_right r).trans List.perm_middle.symm),λh=>q.sorted (yC x h),λh=>by
  have b:a++x::r=wZ x a++r:=by refine rG (CA x λy c=>(List.pairwise_append.mp h).2.2 y c x (.head _)) (rG (OJ _ _ _) ?_);rfl
  rw[b]at h⊢;exact q.same h⟩
theorem t7(l:List (Int×D)):eG l [] (vZ l):=L7 l []
inductive dS(W:Wd)(B:gU)(as:gH)(ps:List (Int×D))(x:Uf):Prop|mk (p):p∈ps->EN x=p.1->Rv W B as p.2 x.2->dS W B as ps x
theorem Dx{ps:List (Int×D)}:∀{c vs:List No},TY c (ps.map (·.1))->RvL W B as (ps.map (·.2)) vs->(c.zip vs).map EN=ps.map (·.1)/\(c.zip vs).map (·.2)=vs/\∀x∈c.zip vs,dS W B as ps x:=by
 induction ps with
 |nil=>intro c vs f g;cases f;subst g;exact⟨rfl,rfl,λx d=>iM d⟩
 |cons p r m=>
 intro c vs f g;cases f with|cons _ t k=>
 induction g using aT.casesOn with|mk a b=>
 (refine(m k b).elim λh n=>n.elim λi j=>?_);exact⟨congrArg (p.1:: ·) h,congrArg (_:: ·) i,λx d=>by cases d with|head=>exact⟨p,.head _,rfl,a⟩|tail _ d=>cases j x d with|mk q l e r=>exact⟨q,.tail _ l,e,r⟩⟩
theorem G7{ps L:List (Int×D)}(a:∀p∈ps,∀q∈ps,p.1=q.1->p=q):∀{X:List Uf},X.map EN=L.map (·.1)->(∀p∈L,p∈ps)->(∀x∈X,dS W B as ps x)->RvL W B as (L.map (·.2)) (X.map (·.2)):=by
 induction L with
 |nil=>intro X e _ _;induction X using NA with|nil=>exact .nil|cons=>exact nomatch e
 |cons p L j=>intro X e b c;induction X using NA with|nil=>exact nomatch e|cons x X=>(refine(Vw.inj e).elim λd f=>?_);refine .cons ?_ (j f (λp g=>b p (.tail _ g)) λx i=>c x (.tail _ i));cases c x (.head _)with|mk q h e r=>exact a q h p (b p (.head _)) (e.symm.trans d)▸r
theorem Am{ps:List (Int×D)}{vs c:Array No}{xs:Array Uf}(g:RvL W B as (ps.map (·.2)) vs.toList)(m:TY c.toList (ps.map (·.1)))(d:sg ps)(hs:cw (c.zip vs) xs):RvL W B as ((vZ ps).map (·.2)) (xs.map (·.2)).toList:=by(refine(Dx m g).elim λf q=>q.elim λi j=>?_);rw[<-Array.toList_zip]at f i j;have e:=t7 ps;refine rG Array.toList_map ?_;(refine d.elim (λd=>?_) λd=>?_);refine rG (hs.same (vY.mpr (by rw[f];exact PS.mpr d))) (rG (e.same d) (rG i ?_));exact g;have h:=Array.perm_iff_toList_perm.mp hs.perm;refine G7 d (QJ (λa b _ _ k l=>Ta k l) (vY.mp (by refine rG hs.perm.size_eq ?_;exact hs.sorted)) (PS.mpr (e.sorted .nil)) ((h.map EN).trans (f▸(e.perm.map _).symm))) (λp n=>e.perm.mem_iff.mp n) λx o=>j x (h.mem_iff.mp o)
theorem BV{d:D}{x:Int×D}{G:D->Int×D->Prop}(h:BW d=Nk x)(k:∀i b,G (.tup [.int i,b]) (i,.tup [.int i,b])):G d x:=IU (G:=λd=>G d x) h λl h=>by
  induction l using NA with|nil=>exact nS h|cons a l=>
  induction l using NA with|nil=>exact nS h|cons b l=>
  induction l using NA with|nil=>exact zT (G:=λa=>G (.tup [a,b]) x) h λi h=>NE h▸k i b|cons _ _=>exact nS h
inductive cx(l:List D)(ps:List (Int×D)):Prop|mk:ps.map (·.2)=l->(∀p∈ps,∃b,p.2=.tup [.int p.1,b])->cx l ps
theorem rk{l:List D}:∀{ps:List (Int×D)},mJ l=Nk ps->cx l ps:=by
 induction l with
 |nil=>intro ps h;(refine sI h λk=>?_;subst k);exact⟨rfl,λp a=>iM a⟩|cons d r j=>
 intro ps h;refine ml h λx f h=>ml h λy g h=>on (G:=cx (d::r)) h ?_;cases j g with|mk c e=>
 exact BV (G:=λd x=>cx (d::r) (x::y)) f λi b=>⟨congrArg (_:: ·) c,λp a=>by cases a with|head=>exact⟨b,rfl⟩|tail _ a=>exact e p a⟩
end
section
variable{T:Tab}{A:Ob}{env:Env}{m:Loc}{B:gU}{as:gH}{st:am}{s:Np}{Er:No->Np->Prop}
theorem ai.grow{X:List NF}(H:Hs W B as st s.heap){f:NV}{t:Nat}(hx:QX W.tb s.heap f)(n:∃o,f.get? W.tb=Nk o)(r:W.cy f):ai W X B as st s B as st {s with heap:=f,toks:=t}:=by
 have d:∀b o,s.heap.get? b=Nk o->∃u,f.get? b=Nk u:=λb o e=>by by_cases q:b=W.tb;subst q;exact n;exact⟨o,hx b o q e⟩
 have j:∀a∈iU as st,a≠W.tb:=λa k q=>absurd W.cX (by refine rL q ?_;exact Pa.mpr (H.off a k).2.1);exact⟨rfl,λb o e _=>d b o e,λb o e g _ _=>hx b o g e,bS.refl _ _,λa o e=>.inl e,λa h=>.inl h,⟨⟨λa o e=>hx a o (W.eQ a o e).2 (H.aK.1 a o e),r⟩,λa o e=>⟨hx a o (H.base a o e).2 (H.base a o e).1,(H.base a o e).2⟩,H.b0,H.len,λi c p g l=>(H.cell i c p g l).keep λa k o e=>hx a o (j a (H.aR g l k)) e,λa h=>⟨(H.off a h).1,(H.off a h).2.1,let⟨o,e⟩:=(H.off a h).2.2;d a o e⟩,H.nodup⟩⟩
theorem EJ(L:aW W T){params:Sp}{body:Expr}{sc:Scope}{G:Pos}{Q:No->Np->Prop}(F:Frame W env m B as st s.heap)(H:Hs W B as st s.heap)(z:env.kindOf "run"=Nk .local)(V:env.kindOf "form_sorted"=Nq)(h1:G.line=92)(h2:G.col=53)(p:defaultsOf params env=([],[]))(d:∀x∈sc.names,x.2≠.free)(h:∀q c' e pm s',ai W [] B as st s B as st s'->s'.heap.get? q=Nk (SX "<lambda>" (W.lq++"<lambda>") params body sc [] pm c' e)->s.heap.get? q=Nq->W.n1<=q->s'.heap.CodeRec (.ref c') (W.lq++"<lambda>")->(∃o,s'.heap.get? c'=Nk o/\je o)->Q (.ref q) s'):NL (NT W.prog W.w) A (Oi (.Lambda params body sc G) env) Q Er s:=by
 (refine(F.en z V).elim λc k=>?_);refine kla_eval p ?_;refine rG k ?_;refine hid λG9 k9=>?_;(refine(L.en _ H.aK).elim λps z1=>z1.elim λC z2=>z2.elim λJ z3=>z3.elim λht g=>?_);refine k9 ?_;have hg:=L.fy _ H.aK;have l:∀(a:NV)(t:Nat)(o:Obj),o.isFreed=Nl->ai W [] B as st s B as st {s with heap:=a,toks:=t}->s.heap.objs.size<=a.objs.size->ai W [] B as st s B as st {s with heap:=a.push o,toks:=t}/\(a.push o).get? a.objs.size=Nk o/\s.heap.get? a.objs.size=Nq/\W.n1<=a.objs.size:=λa t o ho S f=>⟨S.trans (ai.push (s:={s with heap:=a,toks:=t}) S.hs o t),NP _ ho,im f,NN H.low f⟩;rcases g G h1 h2 with y|⟨c',hf,b,⟨oc,a4,a5⟩⟩
 (refine(L.fN _ H.aK).elim λbm z4=>z4.elim λob z5=>z5.elim λR z6=>z6.elim λu z7=>z7.elim λ_ z8=>z8.elim λv z9=>z9.elim λU a6=>a6.elim λn a7=>a7.elim λj i=>?_);refine rG (makeFunction_eq _ _ _ _ _ _ _ _ _ _ _) ?_;simp only[List.zip_nil_right,Sb,Vt,if_true,QA];unfold makeTail;refine rG (Wp d) (rG F.glob ?_);refine Nn (Nt ?_);simp only[Vt,if_true];refine Nn (Nt ?_);refine Nn (wpAny_functionCodeX c (C.code J ht) (C.tab J) y λc' a I K Y a0 _ b D⟨P',_,_,E⟩=>?_);have r:=hg.extBut K L.gb;refine Nn (wpAny_builtinsFor r R u (K _ _ v U) n j i ?_);refine Nn (wpAny_nsGet r ?_);refine Nn (Nt (O1 ?_ (by size_fits)));refine hid λG9 k9=>?_;(refine E.1.elim λo a8=>a8.elim λvs a9=>a9.elim λa1 b0=>b0.elim λa2 b5=>b5.elim λa3 _=>?_);(refine(l a I (SX "<lambda>" (W.lq++"<lambda>") params body sc [] ((W.mg "__name__").getD .none) c' .none) rfl (ai.grow (X:=[]) H (t:=I) K ⟨_,D.2⟩ (L.grow _ _ ps c' G h1 h2 H.aK J y K D.2 b ⟨o,a1,a2,vs,a3⟩)) (OM (N6 Y a0))).elim λM b6=>b6.elim λN b7=>b7.elim λO P=>?_);refine k9 ?_;exact h _ c' .none ((W.mg "__name__").getD .none) _ M N O P (b.push _) ⟨o,NS _ a1,a2,vs,a3⟩;refine kla_makeFunctionHit (mg:=W.mg) (clos:=[]) (Wp d) F.glob hg c C J ht hf (L.fN _ H.aK) λe a I Z f=>?_;(refine(l a I (SX "<lambda>" (W.lq++"<lambda>") params body sc [] ((W.mg "__name__").getD .none) c' e) rfl (ai.aD (s':={s with heap:=a,toks:=I}) H rfl Z) f).elim λM b8=>b8.elim λN b9=>b9.elim λO P=>?_);exact h _ c' e _ _ M N O P ((b.keeps Z).push _) ⟨oc,NS _ (Z _ _ a4),a5⟩
noncomputable abbrev sG:gS:=λy=>([("pair",Pv)]:List (Str×N8)).lookup y
theorem J9(y:Str):sG y=if y="pair" then Nk .local else Nq:=by show([("pair",Pv)]:List (Str×N8)).lookup y=_;refine rG Os (rG List.lookup_nil ?_);by_cases h:y="pair";exact rG (if_pos h) (rG (beq_iff_eq.mpr h) rfl);exact rG (if_neg h) (rG (beq_eq_false_iff_ne.mpr h) rfl)
theorem Ex{y:Str}{j:N8}(h:j≠.local):sG y≠Nk j:=λe=>by rw[J9]at e;by_cases q:y="pair";rw[if_pos q]at e;(refine sI e λa=>?_;subst a);exact h rfl;rw[if_neg q]at e;exact nS e
theorem vb:bv 59="pair":=by decide+kernel
theorem EK(L:aW W T){pp K M N:Pos}{kd:Nat}{sc:Scope}{q:NF}{f:Str}{pm p:No}{c':NF}{Q:No->Np->Prop}{v:No}{a:Int}{b:D}(R:aF A 10)(H:Hs W B as st s.heap)(ho:s.heap.get? q=Nk (SX "<lambda>" f ⟨[],[⟨"pair",Nq,pp⟩],Nq,[],[],Nq,[]⟩ (.Subscript (.Name "pair" K) (.Constant (.int 0) kd M) N) sc [] pm c' p))(E:s.heap.CodeRec (.ref c') f)(Y:sc.kind=.function)(hg:sc.isGenerator=Nl)(hc:sc.isCoroutine=Nl)(U:sc.names=[(("pair":Str),Pv)])(r:Rv W B as (.tup [.int a,b]) v)(h:∀t s' O k,ai W [] B as st s O k st s'->Q (.int a t) s'):NL (NT W.prog W.w) A (Wg (.ref q) [v]) Q Er s:=by
 refine wpAny_call ?_;have l:A.depth<recursionLimit:=by have:=R.depth;show A.depth<1000;lia
 refine kla_callFunE l ho rfl hc hg rfl E ?_;rw[show QE (kla_fn "<lambda>" f ⟨[],[⟨"pair",Nq,pp⟩],Nq,[],[],Nq,[]⟩ (.Subscript (.Name "pair" K) (.Constant (.int 0) kd M) N) sc [] pm (.ref c') p) ⟨[v],[]⟩=(OW [(("pair":Str),v)]:Sem (List (Str×No)))from rfl];refine Nt (Vx (λx n=>?_) (λx n=>?_) (λg C I=>⟨?_,?_⟩) Y);rw[U]at n;exact jE (G:=λx:Str×N8=>x.2≠.cell) n (λe=>nomatch e);refine jE (G:=λx:Str×No=>sc.names.lookup x.1=Nk .local) n ?_;rw[U];rfl;have J:KeepAll s.heap g:=λb o e=>I.extBut b o (Pu (Pr e)) (NS _ e);exact L.lim _ (Wd.be.aD H.aK J (by(refine H.bH.elim λo q=>?_);rw[q,J _ _ q]));have J:KeepAll s.heap g:=λb o e=>I.extBut b o (Pu (Pr e)) (NS _ e);refine kla_codeExpr ?_;show NL _ (A.deeper (U5 sc s.heap.objs.size OC [] (f++".<locals>.") (Nk q) (.ref c') Nq PP)) (Oi (.Subscript (.Name "pair" K) (.Constant (.int 0) kd M) N) (U5 sc s.heap.objs.size OC [] (f++".<locals>.") (Nk q) (.ref c') Nq PP)) _ _ {s with heap:=g,toks:=s.toks+1};have X:ai W [] B as st s B as st {s with heap:=g,toks:=s.toks+1}:=ai.aD (s':={s with heap:=g,toks:=s.toks+1}) H rfl J;have j:s.heap.get? s.heap.objs.size=Nq:=gT _;have i:∀y,(U5 sc s.heap.objs.size OC [] (f++".<locals>.") (Nk q) (.ref c') Nq PP).kindOf y=sG y:=λy=>by show sc.names.lookup y=_;rw[U]
 have F:Frame W (U5 sc s.heap.objs.size OC [] (f++".<locals>.") (Nk q) (.ref c') Nq PP) [(59,.tup [.int a,b])] B as st g:=by refine⟨Y,rfl,rfl,⟨_,C⟩,λx c hm=>(iM hm),λx d u=>?_,λz hz=>?_,NZ.mpr ⟨λh=>(iM h),PX⟩,λx n=>?_,λZ _=>?_⟩;rw[lU]at u;by_cases P:x=59;rw[if_pos P]at u;subst P;(refine sI u λq0=>?_;subst q0);exact⟨v,.ab (by rw[i,vb];rfl) _ C (by rw[vb];rfl),r⟩;rw[if_neg P]at u;exact nS u;refine jE (G:=λz=>z∉iU as st/\B z=Nq/\W.n1<=z) hz ⟨λq=>?_,H.av j,H.low⟩;(refine((H.off _ q).2.2).elim λo e=>?_);exact nS (j.symm.trans e);rw[i]at n;exact absurd n (Ex (by decide));rw[i,J9,if_neg (by decide)]at Z;exact nS Z
 have hv:af W T ⟨λ_ _=>Nq,λ_ _ _=>Nq⟩ 0 sG (.aj (.ab 59) (.int 0)) (.Subscript (.Name "pair" K) (.Constant (.int 0) kd M) N):=by refine zc (.aE (BA ?_)) (.aE (BB rfl));show(ou 59 "pair"&&(sG "pair"==Nk .local||sG "pair"==Nk .cell||sG "pair"==Nk .free))=Nm;unfold ou;rw[vb];decide
 exact hv.val.use R.deeper F i X.hs (d:=.int a) (st':=st) rfl λO k w s' S F' H' V=>by induction V using aG.casesOn with|mk t=>exact h t s' O k (X.trans S)
end
section
variable{T:Tab}{O:aN}{n:Nat}{k:gS}{A:Ob}{env:Env}{m:Loc}{B:gU}{as:gH}{st:am}{s:Np}{Er:No->Np->Prop}
structure KH(W:Wd)(q:NF)(oq:Obj)(c:NF)(qual:Str)(a kS:NF)(its keys:Array No)(n e:Nat)(B:gU)(as:gH)(st:am)(h:NV):Prop where
 gu:ar W B as st h q
 fc:h.get? q=Nk oq
 fP:ar W B as st h a
 fO:h.get? a=Nk (jd its n)
 fB:ar W B as st h kS
 atK:h.get? kS=Nk (jd keys e)
 code:h.CodeRec (.ref c) qual
 eE:∃o,h.get? c=Nk o/\je o
theorem tr(L:aW W T){X:List NF}{u i st'}{s':Np}(S:ai W X B as st s u i st' s')(H:Hs W B as st s.heap){c:NF}{b:Str}(j:s.heap.CodeRec (.ref c) b)(l:∃o,s.heap.get? c=Nk o/\je o)(w:∀a∈X,∀o,s.heap.get? a=Nk o->¬je o):s'.heap.CodeRec (.ref c) b/\∃o,s'.heap.get? c=Nk o/\je o:=by
 refine hid λK x=>?_;(refine l.elim λo z=>z.elim λd h=>?_;try clear l);have p:s'.heap.get? c=Nk o:=by refine S.keep c o d (λq=>?_) (λq=>H.dB c q o d h.1) (λq=>w c q o d h);(refine(L.en _ H.aK).elim λP C=>C.elim λ_ D=>D.elim λv _=>?_);rw[q,v]at d;(refine sI d λf=>?_;subst f);exact nomatch h.1
 (refine j.elim λM E=>E.elim λN F=>F.elim λy G=>G.elim λt I=>I.elim λe J=>J.elim λg r=>?_;try clear j);(refine eI (Rw e) λf=>?_;subst f);refine x ?_;rw[d]at g;(refine sI g λf=>?_;subst f);exact⟨⟨c,o,y,t,rfl,p,r⟩,o,p,h⟩
theorem nC{vs:Array No}{n:Nat}:¬je (jd vs n):=λc=>iN (nm:="list") rfl (by decide) c.1
theorem KH.step(L:aW W T){X:List NF}{q:NF}{p:Obj}{c:NF}{d:Str}{a j:NF}{g b:Array No}{n e:Nat}{l f st'}{s':Np}(h:KH W q p c d a j g b n e B as st s.heap)(S:ai W X B as st s l f st' s')(H:Hs W B as st s.heap)(i:∀x∈X,x≠q/\x≠a/\x≠j)(hc:∀a∈X,∀o,s.heap.get? a=Nk o->¬je o):KH W q p c d a j g b n e l f st' s'.heap:=by have r:=h.gu.step S h.fc λz=>(i _ z).1 rfl;have t:=h.fP.step S h.fO λz=>(i _ z).2.1 rfl;have u:=h.fB.step S h.atK λz=>(i _ z).2.2 rfl;have v:=tr L S H h.code h.eE hc;exact⟨r.1,r.2,t.1,t.2,u.1,u.2,v.1,v.2⟩
theorem ai.dR{B:gU}{a:NF}{f:Array No->Array No}(H:Hs W B as st s.heap)(c:ar W B as st s.heap a):ai W [a] B as st s B as st {s with heap:=s.heap.update a (Ou f)}:=ai.other H rfl (j2 c) λb o e d=>by refine rG ((Pn s.heap a (Ou f)).2 b (λq=>d (q▸.head _))) ?_;exact e
inductive ez(W:Wd)(oq:Obj)(q c:NF)(qual:Str)(a kS:NF)(e1:Nat)(ps:List (Int×D))(B:gU)(as:gH)(st:am)(s:Np)(i:Nat)(s':Np):Prop|mk (B' as' kA e):ai W [a,kS] B as st s B' as' st s'->KH W q oq c qual a kS #[] kA e1 e B' as' st s'.heap->TY kA.toList ((ps.map (·.1)).take i)->ez W oq q c qual a kS e1 ps B as st s i s'
theorem yg(L:aW W T){pp q1 q2 q3:Pos}{kd:Nat}{sc:Scope}{q:NF}{K:Str}{pm b7:No}{c':NF}{Q:No->Np->Prop}{l:NF}{vs:Array No}{nn:Nat}{P:List D}{ps:List (Int×D)}(R:aF A 30)(H:Hs W B as st s.heap)(hl:s.heap.get? l=Nk (jd vs nn))(hr:RvL W B as P vs.toList)(hp:mJ P=Nk ps)(a8:sg ps)(b9:P.length<64)(d5:ar W B as st s.heap q)(a0:s.heap.get? q=Nk (SX "<lambda>" K ⟨[],[⟨"pair",Nq,pp⟩],Nq,[],[],Nq,[]⟩ (.Subscript (.Name "pair" q1) (.Constant (.int 0) kd q2) q3) sc [] pm c' b7))(d2:s.heap.CodeRec (.ref c') K)(d6:∃o,s.heap.get? c'=Nk o/\je o)(hk:sc.kind=.function)(hg:sc.isGenerator=Nl)(hc:sc.isCoroutine=Nl)(hn:sc.names=[(("pair":Str),Pv)])(h:∀a X B' b5 s' a5 n,ai W [a,X] B as st s B' b5 st s'->s.heap.get? a=Nq->s.heap.get? X=Nq->ar W B' b5 st s'.heap a->s'.heap.get? a=Nk (jd a5 n)->RvL W B' b5 ((vZ ps).map (·.2)) a5.toList->Q (.ref a) s'):NL (NT W.prog W.w) A (Wg (.builtin "sorted") [.ref l] [(Qk "key",.ref q)]) Q Er s:=by
 cases rk hp with|mk a7 c5=>
 subst a7;have I:vs.size=ps.length:=(io hr).trans (Nu _);rw[Nu]at b9;have C:∀{n:Nat},n<=ps.length->n<=PT:=λh=>NN h (NN (OM b9) (by decide));have c6:vs.toList.length<=PT:=C (Pf (Oo.trans I));refine call_function_entry_kw kind_sorted plain_sorted entry_sorted (ksk_s1 _ _) ?_;unfold Oq.«sorted»;refine Nn (m:=checkCount "sorted" 1 1 _) (Nt ?_);refine Nn (collect_list (l:=l) (vs:=vs.toList) ⟨_,hl,rfl,nn,by simp⟩ ?_ c6);refine Nn (wpAny_newList ?_ c6);have a9:((s.heap.push (O6 "list" #[] 0)).update s.heap.objs.size (Ou (· ++vs.toList.toArray))).objs.size=s.heap.objs.size+1:=by rw[Vl,VY]
 have N:(((s.heap.push (O6 "list" #[] 0)).update s.heap.objs.size (Ou (· ++vs.toList.toArray))).push (O6 "list" vs.toList.toArray 0)).get? (s.heap.objs.size+1)=Nk (O6 "list" vs.toList.toArray 0):=by rw[<-a9];exact NP _ rfl
 have b3:KeepAll s.heap (((s.heap.push (O6 "list" #[] 0)).update s.heap.objs.size (Ou (· ++vs.toList.toArray))).push (O6 "list" vs.toList.toArray 0)):=λb o q=>by have c4:b<s.heap.objs.size:=Pr q;rw[Vc _ _ _ (by rw[a9];exact Pu (Vq c4)),UH _ _ _ _ (Pu c4),Vc _ _ _ (Pu c4)];exact q
 have b1:(((s.heap.push (O6 "list" #[] 0)).update s.heap.objs.size (Ou (· ++vs.toList.toArray))).push (O6 "list" vs.toList.toArray 0)).objs.size=s.heap.objs.size+2:=by rw[VY,a9]
 show NL _ _ _ _ _ {s with heap:=((s.heap.push (O6 "list" #[] 0)).update s.heap.objs.size (Ou (· ++vs.toList.toArray))).push (O6 "list" vs.toList.toArray 0)};rw[a9];generalize hH:(((s.heap.push (O6 "list" #[] 0)).update s.heap.objs.size (Ou (· ++vs.toList.toArray))).push (O6 "list" vs.toList.toArray 0))=H2 at N b3 b1;clear hH;generalize ha:s.heap.objs.size+1=a at N;have dA:s.heap.get? a=Nq:=im (by rw[<-ha];exact OZ _);have nA:W.n1<=a:=by rw[<-ha];exact NN H.low (OZ _)
 refine Nn (N7 (wpAny_call_entry_kw slot_list_sort ⟨_,N,rfl⟩ entry_list_sort ?body (ksk_l1 _ _)));case body=>
 show NL (NT W.prog W.w) A.in1.in1 (Oq.«list.sort» ⟨[.ref a],[(Qk "key",.ref q)]⟩) _ _ _;rw[ksk_t1];unfold ksk_tree;rw[Un]at N;refine Nn (Sk (s:={s with heap:=H2}) N rfl ?_);refine Nn (PJ (s:={s with heap:=H2}) N rfl ?_ (C (Pf I)) (NX _));(refine(show ∃e1,(H2.update a (Ou λ_=>(#[]:Array No))).get? a=Nk (O6 "list" #[] e1)from⟨_,TN N λ_=>#[]⟩).elim λe1 d1=>?_);refine Nn (Sq d1 rfl ?_);refine Nn (wpAny_newTuple ?_ c6);refine Nn (wpAny_newList ?_ (NX _));refine N7 ?_;have b2:((H2.update a (Ou λ_=>(#[]:Array No))).push (O6 "tuple" vs.toList.toArray 0)).objs.size=s.heap.objs.size+3:=by rw[VY,Vl,b1]
 have a4:KeepAll s.heap (((H2.update a (Ou λ_=>(#[]:Array No))).push (O6 "tuple" vs.toList.toArray 0)).push (O6 "list" #[] 0)):=λb o q=>by refine NS _ (NS _ ?_);rw[UH _ _ _ _ (λz=>by rw[z,dA]at q;exact nS q)];exact b3 b o q
 have Z:(((H2.update a (Ou λ_=>(#[]:Array No))).push (O6 "tuple" vs.toList.toArray 0)).push (O6 "list" #[] 0)).get? a=Nk (O6 "list" #[] e1):=NS _ (NS _ d1);have U:(((H2.update a (Ou λ_=>(#[]:Array No))).push (O6 "tuple" vs.toList.toArray 0)).push (O6 "list" #[] 0)).get? (s.heap.objs.size+3)=Nk (O6 "list" #[] 0):=by rw[<-b2];exact NP _ rfl
 show NL _ _ (ksk_rest a (.ref q) Nl vs e1 (.ref ((H2.update a (Ou λ_=>(#[]:Array No))).push (O6 "tuple" vs.toList.toArray 0)).objs.size)) _ _ {s with heap:=((H2.update a (Ou λ_=>(#[]:Array No))).push (O6 "tuple" vs.toList.toArray 0)).push (O6 "list" #[] 0)};rw[b2];generalize ((H2.update a (Ou λ_=>(#[]:Array No))).push (O6 "tuple" vs.toList.toArray 0)).push (O6 "list" #[] 0)=H4 at a4 Z U;have c0:s.heap.objs.size+3≠a:=by rw[<-ha];exact λe=>nomatch Nat.add_left_cancel e
 generalize d0:s.heap.objs.size+3=X at U c0;have dK:s.heap.get? X=Nq:=im (by rw[<-d0];exact Pl _ _);have nK:W.n1<=X:=by rw[<-d0];exact NN H.low (Pl _ _)
 have S4:ai W [] B as st s B as st {s with heap:=H4}:=ai.aD (s':={s with heap:=H4}) H rfl a4;have a5:∀b,s.heap.get? b=Nq->b∉iU as st:=λb hb q=>by(refine((H.off b q).2.2).elim λo e=>?_);rw[hb]at e;exact nS e
 have e2:q≠a:=λz=>by rw[z,dA]at a0;exact nS a0
 have d7:q≠X:=λz=>by rw[z,dK]at a0;exact nS a0
 have K4:KH W q (SX "<lambda>" K ⟨[],[⟨"pair",Nq,pp⟩],Nq,[],[],Nq,[]⟩ (.Subscript (.Name "pair" q1) (.Constant (.int 0) kd q2) q3) sc [] pm c' b7) c' K a X #[] #[] e1 0 B as st H4:=by have z1:=d5.step S4 a0 (λh=>iM h);have z4:=tr L S4 H d2 d6 (λ_ h=>iM h);exact⟨z1.1,z1.2,⟨a5 _ dA,H.av dA,nA,λo e=>(by rw[Z]at e;(refine sI e λq0=>?_;subst q0);exact nC)⟩,Z,⟨a5 _ dK,H.av dK,nK,λo e=>(by rw[U]at e;(refine sI e λq0=>?_;subst q0);exact nC)⟩,U,z4.1,z4.2⟩
 unfold ksk_rest;refine Nn (SI ?_);rw[<-Array.forIn_toList];refine Nn (ksk_fold (ez W (SX "<lambda>" K ⟨[],[⟨"pair",Nq,pp⟩],Nq,[],[],Nq,[]⟩ (.Subscript (.Name "pair" q1) (.Constant (.int 0) kd q2) q3) sc [] pm c' b7) q c' K a X e1 ps B as st s) vs.toList 0 {s with heap:=H4} ⟨B,as,#[],0,S4.weaken (λa h=>iM h),K4,.nil⟩ ?step ?done);case step=>
  intro j x s' hx p;induction p using ez.casesOn with|mk Y M V e E y c=>
  rw[Oz]at c;have hj:j<ps.length:=by rw[<-I,<-Oo];exact(Nv.mp hx).1
  (refine(c5 ps[j] (PA hj)).elim λb hb=>?_);have rx:Rv W Y M (.tup [.int ps[j].1,b]) x:=by(refine(hr.get (i:=j) (d:=ps[j].2) (by rw[Oc,NQ hj];rfl)).elim λv z9=>z9.elim λhv rv=>?_);rw[hx]at hv;(refine sI hv λq0=>?_;subst q0);rw[<-hb];exact rv.mono W E.ext
  have hz:V.size<=j:=by rw[<-Oo,c.length,Rc];exact S7 _ _
  have d4:V.size+1<=ps.length:=NN (Pk hz) hj;refine Nn (UE (EK L R.in1.in1 E.hs y.fc y.code hk hg hc hn rx λt b4 c7 b6 F=>?_));have g:=y.step L F E.hs (λ_ h=>iM h) (λ_ h=>iM h);(refine(show ∃c2,(b4.heap.update X (Ou (·.push (.int ps[j].1 t)))).get? X=Nk (O6 "list" (V.push (.int ps[j].1 t)) c2)from⟨_,TN g.atK (·.push (.int ps[j].1 t))⟩).elim λc2 c8=>?_);refine Nn (PJ g.atK rfl ?_ (C (Vr d4)) (Ql (C (NN (Pf (Array.size_push ..)) d4))));have J:=ai.dR (f:=(·.push (.int ps[j].1 t))) F.hs g.fB;have w1:=g.gu.step J g.fc (mK d7);have w2:=g.fP.step J g.fO (mK (O9 c0));have w4:=tr L J F.hs g.code g.eE (λz hz=>jE (G:=λz=>∀o,b4.heap.get? z=Nk o->¬je o) hz λo ho=>by rw[g.atK]at ho;(refine sI ho λq0=>?_;subst q0);exact nC);refine Nt ⟨rfl,c7,b6,V.push (.int ps[j].1 t),c2,(E.trans (F.weaken λa h=>iM h)).trans (J.weaken (lC (.tail _ (.head _)))),⟨w1.1,w1.2,w2.1,w2.2,lf g.fB c8 (iN (nm:="list") rfl (by decide)),c8,w4.1,w4.2⟩,?_⟩;rw[Sm,Oz,List.take_add_one,Oc,NQ hj];exact ksk_snoc c
 case done=>
  intro s' p;induction p using ez.casesOn with|mk Y M V e E y c=>
  rw[Oz,(Oo.trans I),Ro (Pf (Nu _))]at c;have c1:V.size=ps.length:=Oo.symm.trans (c.length.trans (Nu _));refine Nn (Sk y.atK rfl ?_);have a3:(V.zip vs).size=ps.length:=by rw[Array.size_zip,c1,I,Nat.min_self]
  have tail:∀S:Qz,cw (V.zip vs) (RH S)->VC S=Nq->NL (NT W.prog W.w) A.in1.in1 (ksk_tail a Nl e1 (.ref X) S) (λb8 s'=>∃v,b8=.done (.ret v)/\NL (NT W.prog W.w) A.in1 (ret (.ref a)) (λb8 s'=>∃v,b8=.done (.ret v)/\Q v s') Er s') Er s':=by intro S g1 g4;unfold ksk_tail;refine Nn (PJ y.atK rfl ?_ (C (Pf c1)) (NX _));have F:=ai.dR (f:=λ_=>#[]) E.hs y.fB;have w2:=y.fP.step F y.fO (mK (O9 c0));refine Nn (wpAny_letGo ?_);refine Nn (Sq w2.2 rfl ?_);have d3:=Am (hr.mono W E.ext) c a8 g1;have a8:((RH S).map (·.2)).size<=PT+1:=Ql (C (Pf ((Array.size_map ..).trans (g1.perm.size_eq.trans a3))));refine Nn (PJ w2.2 rfl ?_ (NX _) a8);have J:=ai.dR (f:=λ_=>(RH S).map (·.2)) F.hs w2.1;generalize (RH S).map (·.2)=b0 at a8 J d3⊢;(refine(show ∃c3,((s'.heap.update X (Ou λ_=>(#[]:Array No))).update a (Ou λ_=>b0)).get? a=Nk (O6 "list" b0 c3)from⟨_,TN (w2.2) λ_=>b0⟩).elim λc3 c9=>?_);rw[g4];simp only[bne_self_eq_false,OE,if_false];refine Nt ⟨_,rfl,Nt ⟨_,rfl,?_⟩⟩;exact h a X Y M _ b0 c3 ((E.trans (F.weaken (lC (.tail _ (.head _))))).trans (J.weaken (lC (.head _)))) dA dK (lf w2.1 c9 (iN (nm:="list") rfl (by decide))) c9 d3
  unfold ksk_end;try dsimp only
  simp only[OE,if_false];by_cases h2:vs.size<2;rw[if_pos h2,if_pos h2];refine Nn (Nt ?_);rw[StateT.run_pure];refine Nn (Nt ?_);refine tail (Qz.mk' general' (V.zip vs) #[] 7 Nq) ⟨Sc _,λi j e0 hj=>?_,λ_=>rfl⟩ rfl;have hj:j<2:=Nat.lt_trans hj (by rw[a3,<-I];exact h2);have e:i=j:=by rw[a3,<-I]at*;lia
  rw[e];exact UM _
  ·rw[if_neg h2,if_neg h2];have h2:2<=ps.length:=by rw[<-I];exact Pa.mp h2
   rw[ksk_kind c (by rw[c1];exact h2)];refine Nn (Nt ?_);have ik:IntKeys (V.zip vs):=by have:=ksk_intKeys (vs:=vs.toList) c;rwa [Un]at this
   refine Nn (NR (yc (aS:=V.zip vs) (st:=Qz.mk' oneType' (V.zip vs) #[] 7 Nq) (Q:=λ_ a6=>cw (V.zip vs) (RH a6)/\VC a6=Nq) ik ⟨Sc _,rfl,rfl,rfl⟩ rfl (by rw[a3];exact h2) (by rw[a3];exact b9) λa6 a1 a2=>⟨a1,a2⟩) (λr e3 p=>?_) λ_ _ e=>e);obtain⟨u,a6⟩:=r;(refine p.elim λd8 d9=>d9.elim λg1 g2=>?_;try clear p;subst d8);exact tail a6 g1 g2
theorem yj(L:aW W T){ag:Bool}{a:E}{l:Expr}{pp q1 q2 q3 kp p lp pos:Pos}{kd:Nat}{sc:Scope}(hs:∀y p,l≠.Starred y p)(a2:k "sorted"=Nk .globalImplicit)(ha:af W T O n k a l)(M:40<=n)(hk:sc.kind=.function)(hg:sc.isGenerator=Nl)(hc:sc.isCoroutine=Nl)(hn:sc.names=[(("pair":Str),Pv)])(h1:lp.line=92)(h2:lp.col=53)(P:k "run"=Nk .local)(a1:k "form_sorted"=Nq):af W T O n k (.sortedK ag a) (.Call (.Name "sorted" p) [l] [⟨Nk "key",.Lambda ⟨[],[⟨"pair",Nq,pp⟩],Nq,[],[],Nq,[]⟩ (.Subscript (.Name "pair" q1) (.Constant (.int 0) kd q2) q3) sc lp,kp⟩] pos):=by
 refine .aE (λA env m B as st s q Er R F b H g=>?_);refine jm g λx r Z g=>Mi g λll hx g=>mQ g λJ g=>ml g λps hi g=>Gs (G:=ng W A env _ B as st s Er) g λa3=>?_;refine wpAny_Call_Name_kw (ny (v:=.builtin "sorted") L F H ((b _).trans a2) (by decide) ?_);have Q:PL [l] env=[(Nl,Oi l env)]:=by refine rG (jw hs _ _) ?_;rfl
 refine callWith_kw ?_ (by refine rG Q ?_;rfl) (by refine rG Q ?_;rfl);refine rG (show RO pos (PL [l] env)=[(Nl,Oi l env)]from nb hs pos env) ?_;refine Pj (ha.val.use R F b H Z λt i a8 a6 C w d S=>QU ?_);refine kws_cons (EJ L w d ((b _).trans P) ((b _).trans a1) h1 h2 rfl (λy hy=>by rw[hn]at hy;exact jE (G:=λy:Str×N8=>y.2≠.free) hy λe=>nomatch e) λq c' a9 pm h f hq dq nq N a0=>kws_nil ?_);cases u1 f.hs S hx with|mk g1 g2 g3=>
  have X:ar W t i r h.heap q:=⟨λz=>(by(refine((d.off q z).2.2).elim λo e=>?_);rw[dq]at e;exact nS e),d.av dq,nq,λo e c=>(by rw[hq]at e;(refine sI e λq0=>?_;subst q0);exact iN (nm:="function") rfl (by decide) c.1)⟩;refine yg L (R.less (NN (by decide) M)) f.hs g1 g3 hi a3 J X hq N a0 hk hg hc hn λa' kS a4 Y a7 b0 a5 D dA dK V hA rA=>?_;have K:((vZ ps).map (·.2)).length<=cap:=by
   cases rk hi with|mk e2 _=>
   refine rG (Nu _) (rG ((t7 ps).perm.length_eq) (rG (NO _) (rL (Nu _) (rG e2 ?_))));exact NN (OM J) (by decide)
  cases sW D (λz hz=>pT (G:=λz=>h.heap.get? z=Nq) hz dA dK) dA V hA rA K ag with|mk u j I U _=>exact⟨u,j,(C.trans f).trans I,U⟩
end
structure cR(W:Wd)(T:Tab)(O:aN)(n:Nat):Prop where
 bw:aW W T
 aw:∀c f g,T.aw c f=Nk g->cB W c f g
 init:∀c g,T.init c=Nk g->du W c g
 ops:aB W O n
 low:∃n',aB W O n'/\n'+20<=n
 fn:∀f,EE f=Nm->(FnAt W f/\W.mg (bv f)=Nk (.ref (W.fa f)))\/∀ds,O.F f ds=Nq/\∀st,O.S f ds st=Nq
 gd:40<=n
theorem Il(k:gS)(e:E)(x:Expr)(p:Pos):mE k e (.Starred x p)=Nl:=by apply @E.casesOn (λe=>mE k e (.Starred x p)=Nl) e<;>intros<;>rfl
theorem FN(k:gS)(e:E)(a:List Expr)(b:Nat)(p:Pos):mE k e (.Set a b p)=Nl:=by apply @E.casesOn (λe=>mE k e (.Set a b p)=Nl) e<;>intros<;>rfl
theorem iE{k:gS}{e:E}{x:Expr}(h:mE k e x=Nm):∀y p,x≠.Starred y p:=λy p q=>by rw[q,Il]at h;exact fT h
theorem Ic{k:gS}{e:E}{x:Expr}(h:mE k e x=Nm):∀a b p,x≠.Set a b p:=λa b p q=>by rw[q,FN]at h;exact fT h
theorem IA{k:gS}{e:E}{x:Expr}(a:UW)(h:mE k e x=Nm):Qe a x=Nl:=by revert h;apply @Expr.casesOn (λx=>mE k e x=Nm->Qe a x=Nl) x<;>intros<;>first|rfl|(rename_i h;rw[FN]at h;exact fT h)
section
variable{k:gS}{G:Expr->Prop}{x:Expr}
theorem CH{n:Nat}(h:Ce k n x=Nm)(kk:∀p,k (bv n)=Nk .globalImplicit->(bv n==("__debug__":Str))=Nl->EE n=Nm->G (.Name (bv n) p)):G x:=oD h λs p h=>db h λh c=>db h λb a=>jo (G:=λs=>(k s==Nk .globalImplicit)=Nm->G (.Name s p)) b (λd _ a=>kk p (beq_iff_eq.mp a) d c) a
theorem Fp{n:Str}(h:Kh k n x=Nm)(kk:∀p,k n=Nk .globalImplicit->G (.Name n p)):G x:=oD h λs p h=>db h λa b=>by have e:=of_decide_eq_true a;subst e;exact kk p (beq_iff_eq.mp b)
theorem JD{f}(h:xF x f=Nm)(kk:∀g l q,f g l=Nm->G (.Call g l [] q)):G x:=w9 h λg l a q h=>db h λb c=>zC (G:=λa=>G (.Call g l a q)) b (kk g l q c)
theorem ya{n:Str}{f}(h:xB1 k n x f=Nm)(kk:∀p q l,k n=Nk .globalImplicit->f l=Nm->G (.Call (.Name n p) [l] [] q)):G x:=JD h λg l q h=>db h λb c=>Fp (G:=λg=>G (.Call g l [] q)) b λp d=>wm (G:=λl=>G (.Call (.Name n p) l [] q)) c λa h=>kk p q a d h
theorem Gh{n:Str}{f}(h:xB2 k n x f=Nm)(kk:∀p q a b,k n=Nk .globalImplicit->f a b=Nm->G (.Call (.Name n p) [a,b] [] q)):G x:=JD h λg l q h=>db h λc d=>Fp (G:=λg=>G (.Call g l [] q)) c λp e=>LE (G:=λl=>G (.Call (.Name n p) l [] q)) d λa b h=>kk p q a b e h
theorem JA{f}(h:xM x f=Nm)(kk:∀g s l p q,iP g=Nm->(p.endLine==q.line)=Nm->f g s l=Nm->G (.Call (.Attribute g s p) l [] q)):G x:=w9 h λm l a q h=>db h λb h=>zC (G:=λa=>G (.Call m l a q)) b (yb (G:=λm=>G (.Call m l [] q)) h λg s p h=>db h λh e=>db h λc d=>kk g s l p q c d e)
theorem LN{n:Str}{f}(h:xM0 n x f=Nm)(kk:∀g p q,iP g=Nm->(p.endLine==q.line)=Nm->f g=Nm->G (.Call (.Attribute g n p) [] [] q)):G x:=JA h λg s l p q i d h=>db h λh c=>db h λa b=>by have e:=of_decide_eq_true a;subst e;exact zC (G:=λl=>G (.Call (.Attribute g s p) l [] q)) b (kk g p q i d c)
theorem DC{n:Str}{f}(h:xM1 n x f=Nm)(kk:∀g a p q,iP g=Nm->(p.endLine==q.line)=Nm->f g a=Nm->G (.Call (.Attribute g n p) [a] [] q)):G x:=JA h λg s l p q i d h=>db h λb c=>by have e:=of_decide_eq_true b;subst e;exact wm (G:=λl=>G (.Call (.Attribute g s p) l [] q)) c λa h=>kk g a p q i d h
theorem JB{n:Str}{f}(h:xM2 n x f=Nm)(kk:∀g a b p q,iP g=Nm->(p.endLine==q.line)=Nm->f g a b=Nm->G (.Call (.Attribute g n p) [a,b] [] q)):G x:=JA h λg s l p q j i h=>db h λc d=>by have e:=of_decide_eq_true c;subst e;exact LE (G:=λl=>G (.Call (.Attribute g s p) l [] q)) d λa b h=>kk g a b p q j i h
end
section
variable{T:Tab}{O:aN}{n:Nat}{k:gS}
theorem uZ{ag:Bool}{f:Nat}{es:Es}{g:Expr}{l:List Expr}{q:Pos}(h:∀ds,O.F f ds=Nq/\∀st,O.S f ds st=Nq):af W T O n k (.call ag f es) (.Call g l [] q):=.aE λA d m B i st s q e R F o H a=>jm a λds b j a=>ml a λc _ a=>by rw[(h _).1]at a;exact nS a
theorem tP{f:Nat}{es:Es}{g:Expr}{l:List Expr}{q:Pos}(h:∀ds,O.F f ds=Nq/\∀st,O.S f ds st=Nq):af W T O n k (.aC f es) (.Call g l [] q):=.aE λA c m B e st s q d R F j H a=>jm a λds b i a=>by rw[(h _).2]at a;exact nS a
theorem vd{x:Nat}{e:Expr}(h:zA k x e=Nm):vL k x e:=oD h λs p h=>db h λh1 h2=>jo (G:=λs=>(k s==Nk .local||k s==Nk .cell)=Nm->vL k x (.Name s p)) h1 (λ_ _ h2=>⟨p,rfl,(QB.mp h2).imp beq_iff_eq.mp beq_iff_eq.mp⟩) h2
theorem B7{xs:List Nat}:∀{es:List Expr},yt k xs es=Nm->aZ k xs es:=by
 induction xs with
 |nil=>intro es h;induction es using NA with|nil=>exact .nil|cons=>exact fT h
 |cons x xs c=>intro es h;induction es using NA with|nil=>exact fT h|cons e es=>exact db h λa b=>.cons (vd a) (c b)
theorem Gj{xs:List Nat}{e:Expr}{G:Expr->Prop}(h:sQ k Nl xs e=Nm)(kk:∀es kd p,aZ k xs es->G (.Tuple es kd p)):G e:=FG h λes kd p h=>kk es kd p (B7 h)
theorem pN{single:Bool}{xs:List Nat}{e:Expr}(h:sQ k single xs e=Nm):aJ k single xs e:=by induction single using Nw with|true=>exact wm (G:=λxs=>aJ k Nm xs e) h λx h=>.one (vd h)|false=>exact Gj (G:=aJ k Nl xs) h λa b p h=>.many h
theorem Id{b:E}(q:ma b=Nm):b=.none:=wq (G:=λb=>b=.none) q rfl
theorem FQ{g:It}{a b:E}{i:Expr}(f:∀x,mE k a x=Nm->af W T O n k a x)(hb:∀x,mE k b x=Nm->af W T O n k b x)(h:mIt k g a b i=Nm):dp W T O n k g a b i:=by induction g using It.casesOn with|plain=>exact db h λd c=>by refine rG (Id d) ?_;exact .plain (f _ c) (Ic c)|aL=>exact ya (G:=dp W T O n k .aL a b) h λp q l e h=>db h λd c=>by refine rG (Id d) ?_;exact .aL (f _ c) (iE c) e|aV=>exact Gh (G:=dp W T O n k .aV a b) h λp q l r e h=>db h λd c=>.aV (f _ d) (hb _ c) (iE d) (iE c) e|bI=>exact ya (G:=dp W T O n k .bI a b) h λp q l e h=>db h λd c=>by refine rG (Id d) ?_;exact .bI (f _ c) (iE c) e
theorem Kr{a:Sp}{G:Sp->Prop}(h:MJ a=Nm)(kk:∀c,G ⟨[],[⟨"pair",Nq,c⟩],Nq,[],[],Nq,[]⟩):G a:=by obtain⟨p,a,v,o,d,w,f⟩:=a;refine db h λg h=>db h λb h=>db h λj h=>db h λl h=>db h λm h=>db h λq r=>?_;refine zC (G:=λp=>G ⟨p,a,v,o,d,w,f⟩) g (wm (G:=λa=>G ⟨[],a,v,o,d,w,f⟩) b λx b=>B2 (J:=λv=>G ⟨[],[x],v,o,d,w,f⟩) j (zC (G:=λo=>G ⟨[],[x],Nq,o,d,w,f⟩) l (zC (G:=λd=>G ⟨[],[x],Nq,[],d,w,f⟩) m (B2 (J:=λw=>G ⟨[],[x],Nq,[],[],w,f⟩) q (zC (G:=λf=>G ⟨[],[x],Nq,[],[],Nq,f⟩) r ?_)))));obtain⟨s,i,c⟩:=x;refine db b λg b=>?_;have e:=of_decide_eq_true g;subst e;exact B2 (J:=λi=>G ⟨[],[⟨"pair",i,c⟩],Nq,[],[],Nq,[]⟩) b (kk c)
theorem Kq{b:Expr}{G:Expr->Prop}(h:MI b=Nm)(kk:∀d kd f a,G (.Subscript (.Name "pair" d) (.Constant (.int 0) kd f) a)):G b:=rd h λl r a h=>db h λg i=>oD (G:=λl=>G (.Subscript l r a)) g λs d g=>by have e:=of_decide_eq_true g;subst e;exact jN (G:=λr=>G (.Subscript (.Name "pair" d) r a)) i λc kd f h=>zZ (G:=λc=>G (.Subscript (.Name "pair" d) (.Constant c kd f) a)) h (kk d kd f a)
structure fQ(k:gS)(sc:Scope)(lp:Pos):Prop where
 hk:sc.kind=.function
 hg:sc.isGenerator=Nl
 hc:sc.isCoroutine=Nl
 hn:sc.names=[(("pair":Str),Pv)]
 h1:lp.line=92
 h2:lp.col=53
 hr:k "run"=Nk .local
 hf:k "form_sorted"=Nq
theorem Im{x:Va}{G:Va->Prop}(h:Kp k x=Nm)(kk:∀i j kd l m sc d c,fQ k sc d->G ⟨Nk "key",.Lambda ⟨[],[⟨"pair",Nq,i⟩],Nq,[],[],Nq,[]⟩ (.Subscript (.Name "pair" j) (.Constant (.int 0) kd l) m) sc d,c⟩):G x:=by obtain⟨f,v,c⟩:=x;induction f using N3 with|none=>exact fT h|some f=>refine db h λg h=>?_;have e:=of_decide_eq_true g;subst e;exact JC (G:=λv=>G ⟨Nk "key",v,c⟩) h λa b sc d h=>db h λh r=>db h λg q=>Kr (G:=λa=>G ⟨Nk "key",.Lambda a b sc d,c⟩) g λi=>Kq (G:=λb=>G ⟨Nk "key",.Lambda _ b sc d,c⟩) q λj kd l m=>kk i j kd l m sc d c (db r λh t=>db h λh z=>db h λh p=>db h λh o=>db h λh y=>db h λh s=>db h λw u=>⟨beq_iff_eq.mp w,OV _▸u,OV _▸s,of_decide_eq_true y,beq_iff_eq.mp o,beq_iff_eq.mp p,beq_iff_eq.mp z,beq_iff_eq.mp t⟩)
mutual
theorem sE(X:cR W T O n):∀(e:E)(k:gS)(x:Expr),mE k e x=Nm->af W T O n k e x|.ab y=>λk x h=>oD (G:=λx=>mE k (.ab y) x=Nm->af W T O n k (.ab y) x) h (λs p _ h=>.aE (BA h)) h|.glob y=>λk x h=>DZ X.bw h|.none=>λk x h=>jN (G:=λx=>mE k .none x=Nm->af W T O n k .none x) h (λc q p _ h=>.aE (DU h)) h|.bool b=>λk x h=>jN (G:=λx=>mE k (.bool b) x=Nm->af W T O n k (.bool b) x) h (λc q p _ h=>.aE (Ed h)) h|.int b=>λk x h=>jN (G:=λx=>mE k (.int b) x=Nm->af W T O n k (.int b) x) h (λc q p _ h=>.aE (BB h)) h|.str b=>λk x h=>jN (G:=λx=>mE k (.str b) x=Nm->af W T O n k (.str b) x) h (λc q p _ h=>.aE (Gw h)) h|.neg b=>λk x h=>Dz (G:=λx=>mE k (.neg b) x=Nm->af W T O n k (.neg b) x) h (λo y p m h=>db m λj _=>Cv (G:=λo=>mE k (.neg b) (.UnaryOp o y p)=Nm->af W T O n k (.neg b) (.UnaryOp o y p)) j (λh=>.aE (GC h)) h) h|.bin o a b=>λk x h=>JG (G:=af W T O n k (.bin o a b)) h λl Z r p h=>db h λm h=>db h λj B=>by have e:=of_decide_eq_true m;subst e;exact .aE (GK (sE X a k l j).val (sE X b k r B).val)|.cmp o a b=>λk x h=>y5 (G:=af W T O n k (.cmp o a b)) h λl C K p h=>wm (G:=λC=>af W T O n k (.cmp o a b) (.Compare l C K p)) h λZ h=>wm (G:=λK=>af W T O n k (.cmp o a b) (.Compare l [Z] K p)) h λr h=>db h λm h=>db h λj B=>by have e:=of_decide_eq_true m;subst e;exact GJ (sE X a k l j) (sE X b k r B)|.bQ R S a b c=>λk x h=>y5 (G:=af W T O n k (.bQ R S a b c)) h λl C K p h=>LE (G:=λC=>af W T O n k (.bQ R S a b c) (.Compare l C K p)) h λZ a4 h=>LE (G:=λK=>af W T O n k (.bQ R S a b c) (.Compare l [Z,a4] K p)) h λr r' h=>db h λm h=>db h λa2 h=>db h λj h=>db h λB h4=>by have e:=of_decide_eq_true m;subst e;have e:=of_decide_eq_true a2;subst e;exact Eb (sE X a k l j) (sE X b k r B) (sE X c k r' h4)|.bq Q a=>λk x h=>y5 (G:=af W T O n k (.bq Q a)) h λl C K p h=>wm (G:=λC=>af W T O n k (.bq Q a) (.Compare l C K p)) h λZ h=>wm (G:=λK=>af W T O n k (.bq Q a) (.Compare l [Z] K p)) h λr h=>db h λm h=>db h λj B=>by have e:=of_decide_eq_true m;subst e;exact jN (G:=λr=>af W T O n k (.bq Q a) (.Compare l [LG Q] [r] p)) j λc kd q h=>Dd (G:=λc=>af W T O n k (.bq Q a) (.Compare l [LG Q] [.Constant c kd q] p)) h (GG (sE X a k l B))|.bz Q a b=>λk x h=>y5 (G:=af W T O n k (.bz Q a b)) h λl C K p h=>wm (G:=λC=>af W T O n k (.bz Q a b) (.Compare l C K p)) h λZ h=>wm (G:=λK=>af W T O n k (.bz Q a b) (.Compare l [Z] K p)) h λr h=>db h λm h=>db h λj B=>by have e:=of_decide_eq_true m;subst e;exact GI (IA _ B) (sE X a k l j) (sE X b k r B)|.and N=>λk x h=>Bb (G:=af W T O n k (.and N)) h λo l p h=>db h λm h=>db h λj B=>by have e:=of_decide_eq_true m;subst e;exact GL j (sL X N k l B)|.or N=>λk x h=>Bb (G:=af W T O n k (.or N)) h λo l p h=>db h λm h=>db h λj B=>by have e:=of_decide_eq_true m;subst e;exact JO j (sL X N k l B)|.not a=>λk x h=>Dz (G:=af W T O n k (.not a)) h λo y p h=>db h λm j=>Kw (G:=λo=>af W T O n k (.not a) (.UnaryOp o y p)) m (GA (sE X a k y j))|.ite t a b=>λk x h=>LO (G:=af W T O n k (.ite t a b)) h λy l r p h=>db h λm h=>db h λj B=>GF (sE X t k y m) (sE X a k l j) (sE X b k r B)|.attr o f=>λk x h=>yb (G:=af W T O n k (.attr o f)) h λl s p h=>db h λm h=>db h λj B=>jo (G:=λs=>af W T O n k (.attr o f) (.Attribute l s p)) j λ_ _=>Ee X.bw m (sE X o k l B)|.aj a b=>λk x h=>rd (G:=af W T O n k (.aj a b)) h λl r p h=>db h λm j=>zc (sE X a k l m) (sE X b k r j)|.slice d o a b=>λk x h=>rd (G:=af W T O n k (.slice d o a b)) h λl r p h=>db h λm h=>oX (G:=λr=>af W T O n k (.slice d o a b) (.Subscript l r p)) h λu v w q h=>db h λU h=>B2 (J:=λw=>af W T O n k (.slice d o a b) (.Subscript l (.Slice u v w q) p)) U (G8 (J:=λu=>af W T O n k (.slice d o a b) (.Subscript l (.Slice u v Nq q) p)) h λu h=>G8 (J:=λv=>af W T O n k (.slice d o a b) (.Subscript l (.Slice (Nk u) v Nq q) p)) h λv h=>db h λj B=>By (sE X o k l m) (sE X a k u j) (sE X b k v B))|.bG d o b=>λk x h=>rd (G:=af W T O n k (.bG d o b)) h λl r p h=>db h λm h=>oX (G:=λr=>af W T O n k (.bG d o b) (.Subscript l r p)) h λu v w q h=>db h λU h=>db h λP h=>B2 (J:=λu=>af W T O n k (.bG d o b) (.Subscript l (.Slice u v w q) p)) U (B2 (J:=λw=>af W T O n k (.bG d o b) (.Subscript l (.Slice Nq v w q) p)) P (G8 (J:=λv=>af W T O n k (.bG d o b) (.Subscript l (.Slice Nq v Nq q) p)) h λv j=>DR (sE X o k l m) (sE X b k v j)))|.aM d o a=>λk x h=>rd (G:=af W T O n k (.aM d o a)) h λl r p h=>db h λm h=>oX (G:=λr=>af W T O n k (.aM d o a) (.Subscript l r p)) h λu v w q h=>db h λU h=>db h λP h=>B2 (J:=λv=>af W T O n k (.aM d o a) (.Subscript l (.Slice u v w q) p)) U (B2 (J:=λw=>af W T O n k (.aM d o a) (.Subscript l (.Slice u Nq w q) p)) P (G8 (J:=λu=>af W T O n k (.aM d o a) (.Subscript l (.Slice u Nq Nq q) p)) h λu j=>D8 (sE X o k l m) (sE X a k u j)))|.rev d o=>λk x h=>rd (G:=af W T O n k (.rev d o)) h λl r p h=>db h λm h=>oX (G:=λr=>af W T O n k (.rev d o) (.Subscript l r p)) h λu v w q h=>db h λU h=>db h λP h=>B2 (J:=λu=>af W T O n k (.rev d o) (.Subscript l (.Slice u v w q) p)) U (B2 (J:=λv=>af W T O n k (.rev d o) (.Subscript l (.Slice Nq v w q) p)) P (G8 (J:=λw=>af W T O n k (.rev d o) (.Subscript l (.Slice Nq Nq w q) p)) h λw h=>Dz (G:=λw=>af W T O n k (.rev d o) (.Subscript l (.Slice Nq Nq (Nk w) q) p)) h λu y q2 h=>db h λj B=>Cv (G:=λu=>af W T O n k (.rev d o) (.Subscript l (.Slice Nq Nq (Nk (.UnaryOp u y q2)) q) p)) j (jN (G:=λy=>af W T O n k (.rev d o) (.Subscript l (.Slice Nq Nq (Nk (.UnaryOp .USub y q2)) q) p)) B λc kd q1 h=>zZ (G:=λc=>af W T O n k (.rev d o) (.Subscript l (.Slice Nq Nq (Nk (.UnaryOp .USub (.Constant c kd q1) q2)) q) p)) h (Gy (sE X o k l m)))))|.tup N=>λk x h=>FG (G:=af W T O n k (.tup N)) h λl kd p h=>Gv (sL X N k l h)|.ae d N=>λk x h=>A7 (G:=af W T O n k (.ae d N)) h λl p h=>GD (sL X N k l h)|.dict d a1=>λk x h=>A8 (G:=af W T O n k (.dict d a1)) h λY vs p h=>db h λm j=>Ea (of_decide_eq_true m) (sKV X a1 k Y vs j)|.bJ=>λk x h=>A8 (G:=af W T O n k .bJ) h λY vs p h=>db h λm j=>zC (G:=λY=>af W T O n k .bJ (.Dict Y vs p)) m (zC (G:=λvs=>af W T O n k .bJ (.Dict [] vs p)) j BC)|.call d f A=>λk x h=>JD (G:=af W T O n k (.call d f A)) h λg l q h=>db h λm h=>db h λ_ j=>CH (G:=λg=>af W T O n k (.call d f A) (.Call g l [] q)) m λp D hd V=>(X.fn f V).elim (λz=>Ec X.bw X.ops z.1 z.2 hd D (sL X A k l j)) uZ|.aC f A=>λk x h=>JD (G:=af W T O n k (.aC f A)) h λg l q h=>db h λm h=>db h λ_ j=>CH (G:=λg=>af W T O n k (.aC f A) (.Call g l [] q)) m λp D hd V=>(X.fn f V).elim (λz=>Bz X.bw X.ops z.1 z.2 hd D (sL X A k l j)) tP|.new c A=>λk x h=>JD (G:=af W T O n k (.new c A)) h λg l q h=>db h λm h=>db h λ_ j=>CH (G:=λg=>af W T O n k (.new c A) (.Call g l [] q)) m λp D hd V=>X.low.elim λn' z=>GB X.bw X.init z.1 z.2 hd D (sL X A k l j)|.aw d o f A=>λk x h=>JA (G:=af W T O n k (.aw d o f A)) h λg s l p q H F h=>db h λm h=>db h λj h=>db h λB h4=>jo (G:=λs=>af W T O n k (.aw d o f A) (.Call (.Attribute g s p) l [] q)) m λ_ _=>DV X.aw X.ops H F (of_decide_eq_true j) (sE X o k g B) (sL X A k l h4)|.ba o f A=>λk x h=>JA (G:=af W T O n k (.ba o f A)) h λg s l p q H F h=>db h λm h=>db h λj h=>db h λB h4=>jo (G:=λs=>af W T O n k (.ba o f A) (.Call (.Attribute g s p) l [] q)) m λ_ _=>Bw X.aw X.ops H F (of_decide_eq_true j) (sE X o k g B) (sL X A k l h4)|.len a=>λk x h=>ya (G:=af W T O n k (.len a)) h λp q l D h=>GE X.bw (iE h) D (sE X a k l h)|.list d a=>λk x h=>ya (G:=af W T O n k (.list d a)) h λp q l D h=>DY X.bw (iE h) D (sE X a k l h)|.tuple a=>λk x h=>ya (G:=af W T O n k (.tuple a)) h λp q l D h=>Bv X.bw (iE h) D (sE X a k l h)|.sorted d a=>λk x h=>ya (G:=af W T O n k (.sorted d a)) h λp q l D h=>Aq X.bw (iE h) D (sE X a k l h)|.sortedK d a=>λk x h=>w9 (G:=af W T O n k (.sortedK d a)) h λg l Y q h=>db h λm h=>db h λj B=>Fp (G:=λg=>af W T O n k (.sortedK d a) (.Call g l Y q)) m λp D=>wm (G:=λY=>af W T O n k (.sortedK d a) (.Call (.Name "sorted" p) l Y q)) j λkw j=>wm (G:=λl=>af W T O n k (.sortedK d a) (.Call (.Name "sorted" p) l [kw] q)) B λl B=>Im (G:=λkw=>af W T O n k (.sortedK d a) (.Call (.Name "sorted" p) [l] [kw] q)) j λpp q1 kd q2 q3 sc lp kp z=>yj X.bw (iE B) D (sE X a k l B) X.gd z.hk z.hg z.hc z.hn z.h1 z.h2 z.hr z.hf|.cM a=>λk x h=>ya (G:=af W T O n k (.cM a)) h λp q l D h=>DX X.bw (iE h) D (sE X a k l h)|.max2 a b=>λk x h=>Gh (G:=af W T O n k (.max2 a b)) h λp q l r D h=>db h λm j=>DW X.bw (iE m) (iE j) D (sE X a k l m) (sE X b k r j)|.dH a=>λk x h=>Gh (G:=af W T O n k (.dH a)) h λp q l r D h=>db h λm j=>Fp (G:=λr=>af W T O n k (.dH a) (.Call (.Name "isinstance" p) [l,r] [] q)) m λp' a3=>GH X.bw (iE j) D a3 (sE X a k l j)|.cQ o a=>λk x h=>DC (G:=af W T O n k (.cQ o a)) h λg l p q H F h=>db h λm j=>D4 H F (iE j) (sE X o k g m) (sE X a k l j)|.aH o a b=>λk x h=>JB (G:=af W T O n k (.aH o a b)) h λg l r p q H F h=>db h λm h=>db h λj B=>D0 H F (iE j) (iE B) (sE X o k g m) (sE X a k l j) (sE X b k r B)|.bW o a=>λk x h=>JB (G:=af W T O n k (.bW o a)) h λg l r p q H F h=>db h λm h=>db h λj B=>A7 (G:=λr=>af W T O n k (.bW o a) (.Call (.Attribute g "setdefault" p) [l,r] [] q)) m λr p' m=>zC (G:=λr=>af W T O n k (.bW o a) (.Call (.Attribute g "setdefault" p) [l,.List r p'] [] q)) m (DS H F (iE B) (sE X o k g j) (sE X a k l B))|.append o a=>λk x h=>DC (G:=af W T O n k (.append o a)) h λg l p q H F h=>db h λm j=>As H F (iE j) (sE X o k g m) (sE X a k l j)|.extend o a=>λk x h=>DC (G:=af W T O n k (.extend o a)) h λg l p q H F h=>db h λm j=>Ar H F (iE j) (sE X o k g m) (sE X a k l j)|.pop o=>λk x h=>LN (G:=af W T O n k (.pop o)) h λg p q H F h=>Gz H F (sE X o k g h)|.cW o a=>λk x h=>DC (G:=af W T O n k (.cW o a)) h λg l p q H F h=>db h λm j=>DT H F (iE j) (sE X o k g m) (sE X a k l j)|.comp d a0 xs fv L it a b I M=>λk x h=>A9 (G:=af W T O n k (.comp d a0 xs fv L it a b I M)) h λy gs sc p h=>wm (G:=λgs=>af W T O n k (.comp d a0 xs fv L it a b I M) (.ListComp y gs sc p)) h λg h=>db h λU h=>db h λj h=>db h λB h=>db h λm h=>db h λh4 h5=>by obtain⟨t,i,a5,ia⟩:=g;have e:ia=0:=beq_iff_eq.mp U;subst e;have ct:=zU j;refine zd X.bw ⟨FQ (sE X a k) (sE X b k) m,ct.1,ct.2,pN B,sE X a0 _ y h4,?_⟩;induction I using Nw with|true=>exact wm (G:=bU W T O n (gZ k sc) Nm M) h5 λc h=>.yes (sE X M _ c h)|false=>exact zC (G:=bU W T O n (gZ k sc) Nl M) h5 .no
termination_by structural e=>e
theorem sL(X:cR W T O n):∀(es:Es)(k:gS)(xs:List Expr),mL k es xs=Nm->ay W T O n k es xs
 |.nil=>λk xs h=>by induction xs using NA with|nil=>exact .nil|cons=>exact fT h
 |.cons e r=>λk xs h=>by induction xs using NA with|nil=>exact fT h|cons x l=>exact db h λa b=>.cons (sE X e k x a) (iE a) (sL X r k l b)
termination_by structural es=>es
theorem sKV(X:cR W T O n):∀(d:dF)(k:gS)(c:List (Option Expr))(vs:List Expr),mKV k d c vs=Nm->bD W T O n k d c vs
 |.nil=>λk c vs h=>by
  induction c using NA with
  |nil=>induction vs using NA with|nil=>exact .nil|cons=>exact fT h
  |cons=>exact fT h
 |.cons a b r=>λk c vs h=>by induction c using NA with|nil=>exact fT h|cons o c=>induction o using N3 with|none=>exact fT h|some x=>induction vs using NA with|nil=>exact fT h|cons y vs=>exact db h λe h=>db h λf g=>.cons (sE X a k x e) (sE X b k y f) (sKV X r k c vs g)
termination_by structural kvs=>kvs
end
theorem FP(X:cR W T O n){c:It}{a b:E}{i:Expr}(h:mIt k c a b i=Nm):dp W T O n k c a b i:=FQ (sE X a k) (sE X b k) h
end
section
variable{T:Tab}{O:aN}{n:Nat}{k:gS}
theorem C6(X:cR W T O n){z:Nat}{tx:Expr}(hz:vL k z tx){l:Pos}{ag:Bool}{j:E}{xs fv:List Nat}{single:Bool}{m:It}{a b:E}{d:Bool}{f:E}{o:Expr}(h:mE k (.comp ag j xs fv single m a b d f) o=Nm):iB W T O n k (.assign (.name z) (.comp ag j xs fv single m a b d f)) (.Assign [tx] o l):=A9 (G:=λo=>iB W T O n k (.assign (.name z) (.comp ag j xs fv single m a b d f)) (.Assign [tx] o l)) h λy s q p h=>wm (G:=λs=>iB W T O n k (.assign (.name z) (.comp ag j xs fv single m a b d f)) (.Assign [tx] (.ListComp y s q p) l)) h λg h=>db h λv h=>db h λx h=>db h λA h=>db h λw h=>db h λB u=>by obtain⟨t,i,D,C⟩:=g;have e:C=0:=beq_iff_eq.mp v;subst e;have r:=zU x;refine Bu X.bw hz ⟨FP X w,r.1,r.2,pN A,sE X j _ y B,?_⟩;induction d using Nw with|true=>exact wm (G:=bU W T O n (gZ k q) Nm f) u λc h=>.yes (sE X f _ c h)|false=>exact zC (G:=bU W T O n (gZ k q) Nl f) u .no
noncomputable def ov(e:E):Bool:=match e with|.comp .. =>Nm|_=>Nl
theorem IW{e:E}{G:E->Prop}(h:ov e=Nm)(kk:∀a b c d f g h i j l,G (.comp a b c d f g h i j l)):G e:=by revert h;apply @E.casesOn (λe=>ov e=Nm->G e) e<;>intros<;>first|exact kk _ _ _ _ _ _ _ _ _ _|(rename_i h;exact fT h)
theorem B5{e:E}{a b c p}(h:mE k e (.ListComp a b c p)=Nm):ov e=Nm:=by revert h;apply @E.casesOn (λe=>mE k e (.ListComp a b c p)=Nm->ov e=Nm) e<;>intros<;>first|rfl|(rename_i h;exact fT h)
theorem B4{e:E}{a b c p}(h:mE k e (.SetComp a b c p)=Nm):ov e=Nm:=by revert h;apply @E.casesOn (λe=>mE k e (.SetComp a b c p)=Nm->ov e=Nm) e<;>intros<;>first|rfl|(rename_i h;exact fT h)
theorem B3{e:E}{a b c d p}(h:mE k e (.DictComp a b c d p)=Nm):ov e=Nm:=by revert h;apply @E.casesOn (λe=>mE k e (.DictComp a b c d p)=Nm->ov e=Nm) e<;>intros<;>first|rfl|(rename_i h;exact fT h)
theorem ED{e:E}{a:Expr}(h:mE k e a=Nm):ov e=Nm\/sJ a=Nm:=by revert h;apply @Expr.casesOn (λa=>mE k e a=Nm->ov e=Nm\/sJ a=Nm) a<;>intros<;>first|exact .inr rfl|(rename_i h;first|exact .inl (B5 h)|exact .inl (B4 h)|exact .inl (B3 h))
theorem Ak{x:Str}{p:Pos}{a:Expr}(env:Env):PV [.Name x p] a env=OW Nq:=rfl
theorem Al{x:Str}{l:Expr}{p:Pos}{a:Expr}(env:Env):PV [.Attribute l x p] a env=OW Nq:=rfl
theorem vX{l r:Expr}{p:Pos}{a:Expr}(env:Env):PV [.Subscript l r p] a env=OW Nq:=rfl
theorem u6{t:Tg}{e:E}{tx a:Expr}{pos:Pos}(S:af W T O n k e a)(d:nX W T O n k t tx)(hs:∀l env,QZ a (Nk tx) l env=OW Nl)(b:∀y p,tx≠.Starred y p)(c:∀env,PV [tx] a env=OW Nq):iB W T O n k (.assign t e) (.Assign [tx] a pos):=yi d S (λenv _=>hs _ env) b c
theorem tV{xs:List Nat}(h:(xs.map bv).Nodup):xs.Nodup:=(PS.mp h).imp λa e=>a (by exact rG e rfl)
theorem yr{a l:Expr}{s:Str}{p:Pos}(n:Nat)(env:Env):QZ a (Nk (.Attribute l s p)) n env=OW Nl:=by induction a using Pb<;>rfl
theorem uk{a l r:Expr}{p:Pos}(n:Nat)(env:Env):QZ a (Nk (.Subscript l r p)) n env=OW Nl:=by induction a using Pb<;>rfl
theorem Ei(X:cR W T O n){t:Tg}{e:E}{tx vx:Expr}{pos:Pos}(ht:mTg k t tx=Nm)(he:mE k e vx=Nm)(hsw:vU tx vx=Nm):iB W T O n k (.assign t e) (.Assign [tx] vx pos):=by
 have S:=sE X e k vx he;induction t using Tg.casesOn with
 |name x=>
  have hz:=vd ht;rcases ED he with hc|hc
  exact IW (G:=λe=>mE k e vx=Nm->iB W T O n k (.assign (.name x) e) (.Assign [tx] vx pos)) hc (λ_ _ _ _ _ _ _ _ _ _=>C6 X hz) he;(refine(id hz).elim λp z3=>z3.elim λz4 _=>?_;subst z4);exact u6 S (Bj hz) (λ_ env=>za hc _ _ _) (λ_ _=>Expr.noConfusion) Ak
 |names xs=>exact db ht λh1 h2=>Gj (G:=λtx=>vU tx vx=Nm->iB W T O n k (.assign (.names xs) e) (.Assign [tx] vx pos)) h1 (λes kd p hn hsw=>Ap hn (tV (of_decide_eq_true h2)) hsw S) hsw|attr o f=>exact yb (G:=λtx=>iB W T O n k (.assign (.attr o f) e) (.Assign [tx] vx pos)) ht λl s p h=>db h λh1 h=>db h λh2 h3=>jo (G:=λs=>iB W T O n k (.assign (.attr o f) e) (.Assign [.Attribute l s p] vx pos)) h2 λ_ _=>u6 S (Gm X.bw (sE X o k l h3)) yr (λ_ _=>Expr.noConfusion) Al|aj o i=>exact rd (G:=λtx=>iB W T O n k (.assign (.aj o i) e) (.Assign [tx] vx pos)) ht λl r p h=>db h λh1 h2=>u6 S (Gl (sE X o k l h1) (sE X i k r h2)) uk (λ_ _=>Expr.noConfusion) vX|slice o a b=>exact rd (G:=λtx=>iB W T O n k (.assign (.slice o a b) e) (.Assign [tx] vx pos)) ht λl r p h=>db h λh1 h=>oX (G:=λr=>iB W T O n k (.assign (.slice o a b) e) (.Assign [.Subscript l r p] vx pos)) h λu v w q h=>db h λh0 h=>B2 (J:=λw=>iB W T O n k (.assign (.slice o a b) e) (.Assign [.Subscript l (.Slice u v w q) p] vx pos)) h0<|(G8 (J:=λu=>iB W T O n k (.assign (.slice o a b) e) (.Assign [.Subscript l (.Slice u v Nq q) p] vx pos)) h λu h=>G8 (J:=λv=>iB W T O n k (.assign (.slice o a b) e) (.Assign [.Subscript l (.Slice (Nk u) v Nq q) p] vx pos)) h λv h=>db h λh2 h3=>u6 S (DI (sE X o k l h1) (sE X a k u h2) (sE X b k v h3)) uk (λ_ _=>Expr.noConfusion) vX)
mutual
theorem sS(X:cR W T O n):∀(s:S)(x:OS),mS k s x=Nm->iB W T O n k s x
 |.assign t e=>λx h=>Jt (G:=iB W T O n k (.assign t e)) h λw P p h=>db h λd h=>db h λf i=>Ei X d f i|.expr e=>λx h=>Gd (G:=iB W T O n k (.expr e)) h λv p h=>db h λd f=>Br f (sE X e k v d)|.ret e=>λx h=>Jq (G:=iB W T O n k (.ret e)) h λv p h=>by induction v using N3 with|some v=>exact DM (sE X e k v h)|none=>exact wq (G:=λe=>iB W T O n k (.ret e) (.Return Nq p)) h Bq
 |.ite t a b=>λx h=>LL (G:=iB W T O n k (.ite t a b)) h λy l r p h=>db h λd h=>db h λf i=>DO (sE X t k y d) (sSs X a l f) (sSs X b r i)|.bF t b=>λx h=>Dy (G:=iB W T O n k (.bF t b)) h λy l p h=>db h λd f=>Ao (sE X t k y d) (sSs X b l f)|.bu I c E a b g=>λx h=>Jr (G:=iB W T O n k (.bu I c E a b g)) h λw M l p h=>db h λd h=>db h λ_ h=>db h λf h=>db h λi C=>by refine DP X.bw (pN d) (λo=>?_) (FP X i) (sSs X g l C);subst o;induction c using Nw with|true=>exact fT f|false=>exact Gj (G:=λw=>∃j u p,w=.Tuple j u p) d λj u p _=>⟨j,u,p,rfl⟩
 |.brk=>λx h=>Mg (G:=iB W T O n k .brk) h λp=>DQ|.cont=>λx h=>KT (G:=iB W T O n k .cont) h λp=>Bs|.stuck=>λx h A z m B K N s q J R F L H D=>nS D
termination_by structural s=>s
theorem sSs(X:cR W T O n):∀(s:Ss)(x:List OS),mSs k s x=Nm->lO W T O n k s x
 |.nil=>λx h=>by induction x using NA with|nil=>exact DN|cons=>exact fT h
 |.cons s r=>λx h=>by induction x using NA with|nil=>exact fT h|cons x l=>exact db h λa b=>Bt (sS X s x a) (sSs X r l b)
termination_by structural s=>s
end
end
end Mine
end
section
namespace Mine.HD
open PySem PySem.W PyProof.Rows PySem.Calls
set_option genSizeOf false in
set_option genInjectivity false in
set_option genCtorIdx false in
structure Row where
 f:Nat
 a:Nat
 x:OS
 q:OA
 df:No
 dv:List No
 pm:OA
 tk:Nat
 cd:Nat
noncomputable def Row.fd(o:Row):Uc:=HD.fd o.x o.q 3 o.df N N (s o.pm o.tk) (r o.cd) 0
noncomputable def Row.obj(o:Row):Obj:={cls:=t "function",data:=.func o.fd}
noncomputable def Ip:VA->Bool|.stmts _=>Nm|_=>Nl
noncomputable def Gp:VA->List OS|.stmts l=>l|_=>[]
theorem Io{b:VA}(h:Ip b=Nm):b=.stmts (Gp b):=by revert h;apply @VA.casesOn (λb=>Ip b=Nm->b=.stmts (Gp b)) b<;>intros<;>first|rfl|(rename_i h;exact fT h)
noncomputable def Row.body(o:Row):List OS:=Gp o.fd.body
noncomputable def BI:List Row:=[⟨5,61,st 5,"place_by_half",N,[],"unicore.base",194,60⟩,⟨9,68,st 15,"is_hangul_syllable",N,[],"unicore.hangul",254,67⟩,⟨12,75,st 16,"hangul_numbers",N,[],"unicore.hangul",254,74⟩,⟨19,82,st 17,"hangul_parts",N,[],"unicore.hangul",254,81⟩,⟨23,89,st 18,"hangul_pair",N,[],"unicore.hangul",254,88⟩,⟨31,96,st 20,"form_mapping",N,[],"unicore.forms",308,95⟩,⟨37,103,st 21,"form_expanded",N,[],"unicore.forms",308,102⟩,⟨43,110,st 22,"ordered",N,[],"unicore.forms",308,109⟩,⟨38,115,st 23,"form_sorted",N,[],"unicore.forms",308,114⟩,⟨50,130,st 25,"primary_composites",N,[],"unicore.forms",308,129⟩,⟨49,137,st 26,"form_is_primary",N,[],"unicore.forms",308,136⟩,⟨55,151,cj 27 0,"Composer.__init__",N,[],"unicore.forms",308,150⟩,⟨56,158,cj 27 1,"Composer.pair",N,[],"unicore.forms",308,157⟩,⟨64,195,st 30,"nfd",N,[],"unicore.forms",308,194⟩,⟨68,202,st 31,"nfc",N,[],"unicore.forms",308,201⟩,⟨66,209,st 32,"nfkc",N,[],"unicore.forms",308,208⟩,⟨69,216,st 34,"range_are_like",N,[],"unicore.ranges",486,215⟩,⟨73,230,cj 35 0,"RangeMap.__init__",N,[],"unicore.ranges",486,229⟩,⟨74,237,cj 35 1,"RangeMap.get",N,[],"unicore.ranges",486,236⟩,⟨78,244,cj 35 2,"RangeMap.put",N,[],"unicore.ranges",486,243⟩,⟨81,249,cj 35 3,"RangeMap.ranges",N,[],"unicore.ranges",486,248⟩,⟨79,270,st 36,"range_rows",N,[],"unicore.ranges",486,269⟩,⟨88,277,st 38,"fold_of",N,[],"unicore.folding",576,276⟩,⟨95,284,st 39,"fold_statuses",N,[],"unicore.folding",576,283⟩,⟨96,291,st 40,"fold_by",N,[],"unicore.folding",576,290⟩,⟨99,306,st 42,"nfkc_casefold",N,[],"unicore.folding",576,305⟩,⟨100,313,st 43,"caseless_identifier",N,[],"unicore.folding",576,312⟩,⟨101,320,st 44,"matches_identifier",N,[],"unicore.folding",576,319⟩,⟨103,327,st 45,"changes_when_folded",N,[],"unicore.folding",576,326⟩,⟨104,334,st 46,"changes_when_nfkc_casefolded",N,[],"unicore.folding",576,333⟩,⟨109,341,st 47,"fold_toggled",N,[],"unicore.folding",576,340⟩,⟨120,369,cj 49 1,"FoldIndex.put",N,[],"unicore.folding",576,368⟩,⟨121,376,cj 49 2,"FoldIndex.alike",N,[],"unicore.folding",576,375⟩,⟨169,424,st 52,"data_defaults",N,[],"unicore.data",782,423⟩,⟨174,438,cj 53 0,"Data.__init__",N,[],"unicore.data",782,437⟩,⟨175,445,cj 53 1,"Data.put",N,[],"unicore.data",782,444⟩,⟨176,452,cj 53 2,"Data.get",N,[],"unicore.data",782,451⟩,⟨178,459,cj 53 3,"Data.map_of",N,[],"unicore.data",782,458⟩,⟨184,479,st 57,"_law_draw",N,[],"law_nt0054_01",851,478⟩,⟨194,486,st 58,"_law_book",N,[],"law_nt0054_01",851,485⟩,⟨197,493,st 59,"_law_data",N,[],"law_nt0054_01",851,492⟩,⟨199,500,st 60,"_law_apart",N,[],"law_nt0054_01",851,499⟩,⟨202,505,st 61,"_law_pair",N,[],"law_nt0054_01",851,504⟩,⟨203,512,st 62,"_law_together",N,[],"law_nt0054_01",851,511⟩,⟨205,517,st 63,"_law_folded",N,[],"law_nt0054_01",851,516⟩,⟨211,522,st 64,"_law_mapping",N,[],"law_nt0054_01",851,521⟩,⟨212,529,st 65,"_law_mapped",N,[],"law_nt0054_01",851,528⟩,⟨213,534,st 66,"_law_turned",N,[],"law_nt0054_01",851,533⟩,⟨215,539,st 67,"_law_alike",N,[],"law_nt0054_01",851,538⟩,⟨217,544,st 68,"_law_other",N,[],"law_nt0054_01",851,543⟩,⟨220,551,st 69,"_law_texts_right",N,[],"law_nt0054_01",851,550⟩,⟨222,556,st 70,"_law_pattern_right",N,[],"law_nt0054_01",851,555⟩,⟨226,561,st 71,"law",N,[],"law_nt0054_01",851,560⟩]
noncomputable def tU:List Row:=[⟨44,123,st 24,"decomposed",(r 116),[F],"unicore.forms",308,122⟩,⟨62,180,st 28,"composed",(r 173),[N],"unicore.forms",308,179⟩,⟨97,299,st 41,"fold_full",(r 292),[F],"unicore.folding",576,298⟩,⟨112,347,st 48,"fold_identifier_mapping",(r 342),[(i 8 675)],"unicore.folding",576,346⟩,⟨118,362,cj 49 0,"FoldIndex.__init__",(r 355),[F],"unicore.folding",576,361⟩,⟨125,417,st 50,"fold_pattern",(r 412),[F],"unicore.folding",576,416⟩]
noncomputable def tT:List Row:=[⟨67,188,st 29,"form_of",(r 181),[N],"unicore.forms",308,187⟩]
noncomputable def tM:List Row:=BI++(tU++tT)
noncomputable def K1(P:Of):U8:=(K0 P).filter λp=> !N0 p.1 112
theorem GX(P:Of):tM.map (λo=>(K1 P).lookup o.a)=tM.map λo=>Nk o.obj:=by kernel_rfl
noncomputable def tp(o:Option Obj):UI:=match o with|some x=>x.data|none=>.plain
noncomputable def LB(d:UI):Array No:=match d with|.seq a _=>a|_=>#[]
noncomputable def LA(d:UI):Nat:=match d with|.seq _ n=>n|_=>0
noncomputable def L8(d:UI):Array No:=match d with|.fields a=>a|_=>#[]
noncomputable def ES(d:UI):Bool:=match d with|.seq _ _=>Nm|_=>Nl
noncomputable def ET(d:UI):Bool:=match d with|.fields _=>Nm|_=>Nl
noncomputable def MD(v:No):Tok:=match v with|.int _ t=>t|.str _ t=>t|_=>0
noncomputable def J3(v:No):NF:=match v with|.ref a=>a|_=>0
theorem Iq{d:UI}(h:ES d=Nm):d=.seq (LB d) (LA d):=by revert h;apply @UI.casesOn (λd=>ES d=Nm->d=.seq (LB d) (LA d)) d<;>intros<;>first|rfl|(rename_i h;exact fT h)
theorem Ir{d:UI}(h:ET d=Nm):d=.fields (L8 d):=by revert h;apply @UI.casesOn (λd=>ET d=Nm->d=.fields (L8 d)) d<;>intros<;>first|rfl|(rename_i h;exact fT h)
theorem zS{o:Option Obj}{d:UI}(h:tp o=d)(hd:ES d=Nm\/ET d=Nm):∃x,o=Nk x/\x.data=d:=by cases o with|none=>subst h;exact hd.elim (λh=>fT h) λh=>fT h|some x=>exact⟨x,rfl,h⟩
noncomputable def KU(o:Option Obj):Bool×Option No:=(ET (tp o),(L8 (tp o))[1]?)
theorem BH(P:Of):tM.map (λo=>KU ((K1 P).lookup o.cd))=tM.map λo=>(Nm,Nk (.str o.q (((KU ((K1 P).lookup o.cd)).2.map MD).getD 0))):=by kernel_rfl
noncomputable def dfQ(K:U8)(v:No):UI:=tp (K.lookup (J3 v))
theorem GW(P:Of):(tU++tT).map (λo=>(o.df,dfQ (K1 P) o.df))=(tU++tT).map λo=>(.ref (J3 o.df),.seq ⟨o.dv⟩ (LA (dfQ (K1 P) o.df))):=by kernel_rfl
noncomputable def dv1(d:Mine.D)(v:No):Bool:=match d with|.none=>decide (v=.none)|.bool b=>decide (v=.bool b)|.int i=>decide (v=.int i (MD v))|_=>Nl
noncomputable def LK(p:Mine.D->No->Bool)(l:List Mine.D)(vs:List No):Bool:=N0 l.length vs.length&&(l.zip vs).all λq=>p q.1 q.2
noncomputable def MO(l:List Mine.D)(vs:List No):Bool:=LK dv1 l vs
noncomputable def Row.ok(o:Row)(fn:Fn):Bool:=Ip o.fd.body&&o.fd.closure.isEmpty&&o.fd.globals==OC&&o.fd.builtins==PP&&o.fd.scope.kind==.function&& !o.fd.scope.isCoroutine&& !o.fd.scope.isGenerator&&decide ((PW 0 o.fd.scope.names []).map (·.1)).Nodup&&(o.fd.scope.names.all λp=>p.2 !=.cell||((PW 0 o.fd.scope.names []).map (·.1)).contains p.1)&&(fn.params.all λx=>o.fd.scope.names.lookup (bv x)==Nk .local||o.fd.scope.names.lookup (bv x)==Nk .cell)&&decide fn.params.Nodup&&MO fn.cA o.dv&&(o.fd.scope.names.lookup ("run":OA) !=Nk .local||o.fd.scope.names.lookup ("form_sorted":OA) !=Nq||(o.cd==114&&o.fd.qualname==("form_sorted":OA)))&&mSs (vl o.fd.scope) fn.body o.body
theorem GS:(tM.all λo=>match prog o.f with|some fn=>o.ok fn|none=>Nl)=Nm:=by decide+kernel
theorem Em:(J6.all λp=>(tM.map (·.f)).contains p.1)=Nm:=by decide+kernel
theorem jA{a b:Type}{f g:a->b}{l:List a}(h:l.map f=l.map g):∀x∈l,f x=g x:=Vf.mp h
theorem FX{a:Type}{b:Bool}{w v:a}{o:Option a}{C:Prop}(h:cond b (Nk w) o=Nk v)(c:b=Nm->w=v->C)(d:o=Nk v->C):C:=by revert h c;induction b using Nw with|false=>exact λh _=>d h|true=>exact λh k=>k rfl (NE h)
theorem Cm{a:Type}{l:List (Nat×a)}{x:Nat}{v:a}(h:lk l x=Nk v):(x,v)∈l:=by induction l with|nil=>exact nS h|cons p r b=>exact FX h (λe q=>by rw[O3 e,<-q];exact .head _) λq=>.tail _ (b q)
theorem Cn{a:Type}{l:List (Nat×Nat×a)}{x y:Nat}{v:a}(h:lk2 l x y=Nk v):(x,y,v)∈l:=by induction l with|nil=>exact nS h|cons p r b=>exact FX h (λe q=>by have e:=NH.mp e;rw[O3 e.1,O3 e.2,<-q];exact .head _) λq=>.tail _ (b q)
theorem Cl{c:Type}{l:List (Nat×c)}{x:Nat}{v:c}(a:(l.map (·.1)).Nodup)(h:(x,v)∈l):lk l x=Nk v:=by
 induction l with
 |nil=>exact absurd h Ow|cons p r d=>
 rw[Ny,NZ]at a;refine(Nz.mp h).elim (λe=>?_) λh=>?_;subst e;exact congrArg (λb=>cond b (Nk v) (lk r x)) (QI x);have e:N0 x p.1=Nl:=by rw[<-OH,PZ];intro e;exact a.1 (e▸Nx.mpr ⟨_,h,rfl⟩)
 exact(congrArg (λb=>cond b (Nk p.2) (lk r x)) e).trans (d a.2 h)
noncomputable def Dt(f:Nat):NF:=(lk (tM.map λo=>(o.f,o.a)) f).getD 0
noncomputable def AU(c:Nat):NF:=(lk [(61,168),(177,259),(124,407),(196,462)] c).getD 0
noncomputable def lqS:OA:="form_sorted.<locals>."
def Mq(h:NV):Prop:=∃a,h.get? 112=Nk (U7 a)/\TriplesOk a.toList/\∀p:Pos,p.line=92->p.col=53->Q1 p a.toList=Nq\/∃b,Q1 p a.toList=Nk (.ref b)/\h.CodeRec (.ref b) (lqS++"<lambda>")/\∃o,h.get? b=Nk o/\je o
theorem Ls(P:Of):((K1 P).all λp=>Nat.blt p.1 562&& !N0 p.1 112)=Nm:=by kernel_rfl
theorem Ki{c:Type}{a k:Nat}{w o:c}{r:List (Nat×c)}{C:Prop}(h:Uz a ((k,w)::r)=Nk o)(d:a=k->w=o->C)(f:r.lookup a=Nk o->C):C:=by rw[Os]at h;generalize e:(a==k)=b at h;induction b using Nw with|false=>exact f h|true=>exact d (beq_iff_eq.mp e) (NE h)
theorem ut{b:Type}{a:Nat}{o:b}{l:List (Nat×b)}(h:l.lookup a=Nk o):(a,o)∈l:=by induction l with|nil=>exact nS h|cons p r c=>exact Ki h (λe q=>by rw[e,<-q];exact .head _) λq=>.tail _ (c q)
theorem Lr{P:Of}{a:NF}{o:Obj}(h:(K1 P).lookup a=Nk o):a<562/\a≠112:=by have:=ND.mp (Ls P) _ (ut h);rw[NI,Nat.blt_eq,OV,<-OH,PZ]at this;exact this
theorem Lp(P:Of):(K1 P).lookup 561=(K1 P).lookup 561/\((K1 P).lookup 561).isSome=Nm:=⟨rfl,by kernel_rfl⟩
theorem iN{ps:Array No}:¬je (U7 ps):=λh=>nomatch h.1
noncomputable def WW(w:Pi):Wd where
 prog:=pw
 w:=w
 K:=K1 w.params
 ca:=AU
 tb:=112
 cy:=Mq
 n1:=562
 b0:=λa=>(K1 w.params).lookup a
 eQ:=λa o h=>Lr h
 cX:=by decide
 fj:=λh X=>by obtain⟨o,t⟩:=Om.mp (Lp w.params).2;exact Pr (X _ _ t)
 fa:=Dt
 mg:=(H7 w.params).nsMap OC
 mb:=(H7 w.params).nsMap PP
 dJ:=by decide
 lc:=114
 lq:=lqS
 cV:=λh⟨j,e,_⟩=>⟨_,e⟩
 dz:=λh G x n k=>by
  refine x.elim λj x=>w03 x λe i r=>⟨j,n.trans e,i,λp q s=>(r p q s).imp id λz=>?_⟩;clear i r;refine z.elim λf z=>w03 z λA y u=>y.elim λc y=>w34 y λo F E B l C D=>w12 u λH d g=>?_;(refine eI (Rw B) λb=>?_;subst b);have v:f≠112:=λz=>by subst z;rw[e]at d;(refine sI d λb=>?_;subst b);exact iN g
  have m:=k _ _ d v (.inr g);rw[d]at l;(refine sI l λb=>?_;subst b);exact⟨f,A,⟨f,_,F,E,rfl,m,C,D⟩,_,m,g⟩
theorem Ib{h b:NV}{a:NF}{m:OA->Option No}(x:h.Ns a m)(e:h.get? a=b.get? a):b.Ns a m:=UD (λ_=>UD λ_=>UD λ_ r=>⟨e▸r.1,r.2⟩) x
theorem Lu(P:Of):[0,2,3,4,114].map (λa=>(K1 P).lookup a)=[0,2,3,4,114].map λa=>(H7 P).get? a:=by kernel_rfl
theorem Lv(P:Of):[0,2,3,4,114].map (λa=>((H7 P).get? a).isSome)=[0,2,3,4,114].map λ_=>Nm:=by kernel_rfl
theorem Mr(P:Of):[0,2,3].map (λa=>(H7 P).isNs a)=[0,2,3].map λ_=>Nm:=by kernel_rfl
section
variable{w:Pi}{h:NV}
theorem zb(S:(WW w).be h){a:Nat}(b:a∈[0,2,3,4,114]):h.get? a=(H7 w.params).get? a:=by have e:=jA (Lu w.params) a b;obtain⟨o,c⟩:=Om.mp (jA (Lv w.params) a b);rw[c]at e⊢;exact S.1 _ _ e
theorem DK(S:(WW w).be h){a:Nat}(b:a∈[0,2,3]):h.Ns a ((H7 w.params).nsMap a):=Ib (NV.Ns.of_isNs (jA (Mr w.params) a b)) (zb S (by simp at b⊢;lia)).symm
end
noncomputable def blQ(P:Of)(x:OA×No):Option No×Option No:=((H7 P).nsMap OC x.1,(H7 P).nsMap PP x.1)
theorem Lc(P:Of):Jp.map (blQ P)=Jp.map λx=>(Nq,Nk x.2):=by kernel_rfl
theorem IQ{W:Wd}{B:gU}{as:gH}{d:Mine.D}{v:No}(h:dv1 d v=Nm):Rv W B as d v:=by revert h;apply @Mine.D.casesOn (λd=>dv1 d v=Nm->Rv W B as d v) d<;>intros<;>first|(rename_i h;exact fT h)|(rename_i h;rw[of_decide_eq_true h];first|exact .none|exact .bool _|exact .int _ _)
theorem FB{W:Wd}{B:gU}{as:gH}{p:Mine.D->No->Bool}(e:∀d v,p d v=Nm->Rv W B as d v){l:List Mine.D}:∀{vs:List No},LK p l vs=Nm->RvL W B as l vs:=by
 induction l with
 |nil=>intro vs h;cases vs with|nil=>exact .nil|cons v vs=>exact fT h
 |cons d l c=>intro vs h;cases vs with|nil=>exact fT h|cons v vs=>have a:=NH.mp h;have b:=NH.mp a.2;exact .cons (e _ _ b.1) (c (NH.mpr ⟨a.1,b.2⟩))
noncomputable def MC(o:Option Obj):Bool:=match o with|some x=>decide (x.cls=.type "tuple")&&(x.dict.isNone&&(decide (x.slots=#[])&&ES x.data))|none=>Nl
theorem JM{o:Option Obj}(h:MC o=Nm):o=Nk {cls:=.type "tuple",data:=.seq (LB (tp o)) (LA (tp o))}:=by cases o with|none=>exact fT h|some x=>obtain⟨c,d,j,s⟩:=x;have a:=NH.mp h;have b:=NH.mp a.2;have e:=NH.mp b.2;have f:c=.type "tuple":=of_decide_eq_true a.1;have g:d=Nq:=QN.mp b.1;have i:s=#[]:=of_decide_eq_true e.1;subst f g i;exact congrArg (λz=>Nk ({cls:=.type "tuple",data:=z}:Obj)) (Iq e.2)
noncomputable def rvQ(K:U8):Nat->Mine.D->No->Bool|0=>dv1|n+1=>λd v=>dv1 d v||decide (dTp d (λl=>Nk (Nat.ble l.length 1048576&&(decide (v=.ref (J3 v))&&(MC (K.lookup (J3 v))&&LK (rvQ K n) l (LB (tp (K.lookup (J3 v)))).toList))))=Nk Nm)
theorem LV{W:Wd}{as:gH}{K:U8}(n:Nat):∀(d:Mine.D)(v:No),rvQ K n d v=Nm->Rv W (λa=>K.lookup a) as d v:=by induction n with|zero=>exact λd v h=>IQ h|succ n ih=>intro d v h;refine(QB.mp h).elim IQ λh=>IU (G:=λd=>Rv W (λa=>K.lookup a) as d v) (of_decide_eq_true h) λl h=>?_;have h1:=NH.mp (NE h);have h2:=NH.mp h1.2;have h3:=NH.mp h2.2;rw[of_decide_eq_true h2.1];exact .tup (JM h3.1) (Nat.ble_eq.mp h1.1) (FB ih h3.2)
theorem IC(P:Of):(KE.all λp=>((H7 P).nsMap OC (bv p.1)).any (rvQ (K1 P) 3 p.2))=Nm:=by kernel_rfl
noncomputable def fc(K:U8)(p:Nat×Nat×Unit):=(Wi K (AU p.1),Qy K (.ref (AU p.1)) (bv p.2.1),Qy K (.ref (AU p.1)) "__getattribute__",Qy K (.ref (AU p.1)) "__setattr__",Wh K (AU p.1))
theorem Jb(P:Of):Jd.map (fc (K1 P))=Jd.map λ_=>(Nm,Nk Nq,Nk (Nk (.builtin "object.__getattribute__")),Nk (Nk (.builtin "object.__setattr__")),Nm):=by kernel_rfl
noncomputable def meQ(K:U8)(p:Nat×Nat×Nat):=(Qy K (.ref (AU p.1)) "__getattribute__",Qy K (.ref (AU p.1)) "__getattr__",Qy K (.ref (AU p.1)) (bv p.2.1),typeIn K (.ref (Dt p.2.2)))
theorem Ih(P:Of):EF.map (meQ (K1 P))=EF.map λp=>(Nk (Nk (.builtin "object.__getattribute__")),Nk Nq,Nk (Nk (.ref (Dt p.2.2))),Nk (.type "function")):=by kernel_rfl
noncomputable def inQ(P:Of)(K:U8)(p:Nat×Nat):=(makesIn K (AU p.1),Qy K (.ref (AU p.1)) "__init__",typeIn K (.ref (Dt p.2)),keepIn K (.ref (AU p.1)),(H7 P).nsMap OC (bv p.1))
theorem Iw(P:Of):EZ.map (inQ P (K1 P))=EZ.map λp=>(Nm,Nk (Nk (.ref (Dt p.2))),Nk (.type "function"),Nm,Nk (.ref (AU p.1))):=by kernel_rfl
theorem GT:(tM.map (·.f)).Nodup:=by decide+kernel
theorem GV{o:Row}(h:o∈tM):Dt o.f=o.a:=by unfold Dt;rw[Cl (l:=tM.map λo=>(o.f,o.a)) (v:=o.a) (by rw[Pe];exact GT) (Nx.mpr ⟨o,h,rfl⟩)];rfl
theorem FJ{f:Nat}{fn:Fn}(h:prog f=Nk fn):∃o∈tM,o.f=f/\o.ok fn=Nm:=by have:=ND.mp Em _ (Cm h);rw[Oh]at this;obtain⟨o,a,e⟩:=Nx.mp this;have q:=ND.mp GS o a;have e:o.f=f:=e;rw[e,h]at q;exact⟨o,a,e,q⟩
theorem FK{w:Pi}{o:Row}(h:o∈tM):(WW w).K.lookup ((WW w).fa o.f)=Nk o.obj:=by show(K1 w.params).lookup (Dt o.f)=_;rw[GV h];exact jA (GX w.params) o h
theorem IH{w:Pi}{o:Row}(h:o∈tM):FnAt (WW w) o.f:=⟨_,_,FK h,rfl⟩
theorem KK{f:Nat}(h:((tM.map (·.f)).contains f)=Nm):∃o∈tM,o.f=f:=by rw[Oh]at h;obtain⟨o,a,e⟩:=Nx.mp h;exact⟨o,a,e⟩
theorem Ij:(EF.all λp=>(tM.map (·.f)).contains p.2.2)=Nm:=by decide+kernel
theorem Iy:(EZ.all λp=>(tM.map (·.f)).contains p.2)=Nm:=by decide+kernel
theorem Ii{w:Pi}{c f g:Nat}(h:B9 c f=Nk g):cB (WW w) c f g:=by have a:=Cn h;have e:=jA (Ih w.params) _ a;simp only[meQ,QR]at e;obtain⟨o,b,rfl⟩:=KK (ND.mp Ij _ a);exact⟨e.1,e.2.1,e.2.2.1,e.2.2.2,IH b⟩
theorem Ix{w:Pi}{c g:Nat}(h:Iv c=Nk g):du (WW w) c g:=by have a:=Cm h;have e:=jA (Iw w.params) _ a;simp only[inQ,QR]at e;obtain⟨o,b,rfl⟩:=KK (ND.mp Iy _ a);exact⟨e.1,e.2.1,e.2.2.1,e.2.2.2.1,IH b,e.2.2.2.2⟩
theorem Jc{w:Pi}{c f:Nat}(h:Ja c f=Nm):eg (WW w) c f:=by obtain⟨u,h⟩:=Om.mp h;have e:=jA (Jb w.params) _ (Cn h);simp only[fc,QR]at e;exact⟨e.1,e.2.1,e.2.2.1,e.2.2.2.1,e.2.2.2.2⟩
theorem IG(P:Of):(tM.all λo=> !EE o.f||(H7 P).nsMap OC (bv o.f)==Nk (.ref (Dt o.f)))=Nm:=by kernel_rfl
theorem LY(P:Of):(H7 P).nsMap 2 "sys.recursionlimit"=Nq:=by kernel_rfl
theorem F7(P:Of):(H7 P).nsMap OC "__builtins__"=Nk (.ref 4)/\(H7 P).get? 4=Nk {cls:=.type "module",dict:=Nk PP,data:=.plain}:=⟨by kernel_rfl,by kernel_rfl⟩
noncomputable def Row.ps(o:Row):List OA:=o.fd.params.args.map (·.arg)
noncomputable def pR(k:Nat):List Row:=BI.filter λo=>N0 o.ps.length k
theorem bA0:(pR 0).map (λo=>QE o.fd ⟨[],[]⟩)=(pR 0).map λo=>OW (o.ps.zip []):=by kernel_rfl
theorem bA1:(pR 1).map (λo v=>QE o.fd ⟨[v],[]⟩)=(pR 1).map λo v=>OW (o.ps.zip [v]):=by kernel_rfl
theorem bA2:(pR 2).map (λo a b=>QE o.fd ⟨[a,b],[]⟩)=(pR 2).map λo a b=>OW (o.ps.zip [a,b]):=by kernel_rfl
theorem bA3:(pR 3).map (λo a b c=>QE o.fd ⟨[a,b,c],[]⟩)=(pR 3).map λo a b c=>OW (o.ps.zip [a,b,c]):=by kernel_rfl
theorem bA4:(pR 4).map (λo a b c d=>QE o.fd ⟨[a,b,c,d],[]⟩)=(pR 4).map λo a b c d=>OW (o.ps.zip [a,b,c,d]):=by kernel_rfl
theorem bA5:(pR 5).map (λo a b c d e=>QE o.fd ⟨[a,b,c,d,e],[]⟩)=(pR 5).map λo a b c d e=>OW (o.ps.zip [a,b,c,d,e]):=by kernel_rfl
theorem Mm:(BI.all λo=>Nat.ble o.ps.length 5)=Nm:=by decide+kernel
theorem bA{o:Row}(h:o∈BI)(vs:List No)(g:vs.length=o.ps.length):QE o.fd ⟨vs,[]⟩=OW (o.ps.zip vs):=by
 have i:=Nr (ND.mp Mm o h);have m:o∈pR vs.length:=Pp.mpr ⟨h,PZ▸g.symm⟩;induction vs using NA with|nil=>exact jA bA0 o m|cons a vs=>
 induction vs using NA with|nil=>exact congrFun (jA bA1 o m) a|cons b vs=>
 induction vs using NA with|nil=>exact congrFun (congrFun (jA bA2 o m) a) b|cons c vs=>
 induction vs using NA with|nil=>exact congrFun (congrFun (congrFun (jA bA3 o m) a) b) c|cons d vs=>
 induction vs using NA with|nil=>exact congrFun (congrFun (congrFun (congrFun (jA bA4 o m) a) b) c) d|cons e vs=>
 induction vs using NA with|nil=>exact congrFun (congrFun (congrFun (congrFun (congrFun (jA bA5 o m) a) b) c) d) e|cons f vs=>
 rw[<-g]at i;exact absurd i (by simp)
def Lz(o:Row)(vs:List No)(a:List No):Prop:=∃k,QE o.fd ⟨vs,[]⟩=seqItems? o.fd.defaults>>=k/\k (Nk ⟨o.dv⟩)=OW (o.ps.zip a)
theorem bK:∃K:Uc->List No->Option (Array No)->Sem (List (OA×No)),(∀fd vs,QE fd ⟨vs,[]⟩=seqItems? fd.defaults>>=K fd vs)/\tU.map (λo a b c=>(K o.fd [a,b,c] (Nk ⟨o.dv⟩),K o.fd [a,b] (Nk ⟨o.dv⟩)))=tU.map (λo a b c=>(OW (o.ps.zip [a,b,c]),OW (o.ps.zip ([a,b]++o.dv))))/\tT.map (λo a b c e=>(K o.fd [a,b,c,e] (Nk ⟨o.dv⟩),K o.fd [a,b,c] (Nk ⟨o.dv⟩)))=tT.map (λo a b c e=>(OW (o.ps.zip [a,b,c,e]),OW (o.ps.zip ([a,b,c]++o.dv)))):=⟨_,λ_ _=>rfl,by kernel_rfl,by kernel_rfl⟩
theorem ln3:tU.map (λo=>(o.ps.length,o.dv.length))=tU.map λ_=>(3,1):=by kernel_rfl
theorem ln4:tT.map (λo=>(o.ps.length,o.dv.length))=tT.map λ_=>(4,1):=by kernel_rfl
theorem b3(o:Row)(h:o∈tU):o.ps.length=3/\∃d,o.dv=[d]/\∀a b c,Lz o [a,b,c] [a,b,c]/\Lz o [a,b] [a,b,d]:=by obtain⟨K,g,i,_⟩:=bK;have e:=Py (jA ln3 o h);obtain⟨d,f⟩:=TZ.mp e.2;refine⟨e.1,d,f,λa b c=>?_⟩;have q:=Py (congrFun (congrFun (congrFun (jA i o h) a) b) c);rw[f]at q;exact⟨⟨_,g _ _,f▸q.1⟩,⟨_,g _ _,f▸q.2⟩⟩
theorem b4(o:Row)(h:o∈tT):o.ps.length=4/\∃d,o.dv=[d]/\∀a b c e,Lz o [a,b,c,e] [a,b,c,e]/\Lz o [a,b,c] [a,b,c,d]:=by obtain⟨K,i,_,j⟩:=bK;have e:=Py (jA ln4 o h);obtain⟨d,g⟩:=TZ.mp e.2;refine⟨e.1,d,g,λa b c f=>?_⟩;have q:=Py (congrFun (congrFun (congrFun (congrFun (jA j o h) a) b) c) f);rw[g]at q;exact⟨⟨_,i _ _,g▸q.1⟩,⟨_,i _ _,g▸q.2⟩⟩
theorem dfA:(BI.all λo=>o.dv.isEmpty)=Nm:=by decide+kernel
theorem El:(tM.all λo=>match prog o.f with|some a=>decide (o.ps=a.params.map bv)|none=>Nl)=Nm:=by decide+kernel
theorem zg:tM.map (λo=>(o.fd.defaults,o.fd.code,o.fd.qualname))=tM.map λo=>(o.df,.ref o.cd,o.q):=by kernel_rfl
section
variable{W:Wd}{B:gU}{as:gH}
theorem CZ{l:List Mine.D}{vs:List No}(h:MO l vs=Nm):RvL W B as l vs:=FB (λ_ _ h=>IQ h) h
end
variable{w:Pi}
theorem Me{h:NV}(S:(WW w).be h){o:Row}(a:o∈tU++tT):∃T b n,o.fd.defaults=.ref T/\h.get? T=Nk b/\b.data=.seq ⟨o.dv⟩ n:=by have e:=Py (jA (GW w.params) o a);obtain⟨x,q,c⟩:=zS e.2 (.inl rfl);exact⟨_,_,_,((Py (jA zg o (NW.mpr (.inr a)))).1).trans e.1,S.1 _ _ q,c⟩
theorem binds{o:Row}(ho:o∈tM){s:Np}(S:(WW w).be s.heap){vs:List No}(h1:vs.length<=o.ps.length)(h2:o.ps.length<=vs.length+o.dv.length):Wa s o.fd ⟨vs,[]⟩ (o.ps.zip (vs++o.dv.drop (o.dv.length-(o.ps.length-vs.length)))):=by
 have use:o∈tU++tT->∀{us ws:List No},Lz o us ws->Wa s o.fd ⟨us,[]⟩ (o.ps.zip ws):=λhB{us ws}hb=>by refine hid λG9 k9=>?_;obtain⟨k,q1,q2⟩:=hb;obtain⟨T,ob,n,g1,g2,g3⟩:=Me S hB;refine k9 ?_;exact Wa.of_defaults g1 g2 g3 q1 q2
 rcases NW.mp ho with hA|hB
 ·have e:=Vu.mp (ND.mp dfA o hA);rw[e]at h2⊢;rw[TH,OY];exact .of_eq (bA hA vs (Nat.le_antisymm h1 h2))
 ·rcases NW.mp hB with h3|h4
  ·obtain⟨hl,d,hd,hb⟩:=b3 o h3;rw[hd,hl]at h2⊢;rw[hl]at h1;induction vs using NA with|nil=>exact absurd h2 (by simp)|cons a vs=>
   induction vs using NA with|nil=>exact absurd h2 (by simp)|cons b vs=>
   induction vs using NA with|nil=>exact use hB (hb a b a).2|cons c vs=>
   induction vs using NA with|nil=>exact use hB (hb a b c).1|cons d vs=>
   exact absurd h1 (by simp)
  ·obtain⟨hl,d,hd,hb⟩:=b4 o h4;rw[hd,hl]at h2⊢;rw[hl]at h1;induction vs using NA with|nil=>exact absurd h2 (by simp)|cons a vs=>
   induction vs using NA with|nil=>exact absurd h2 (by simp)|cons b vs=>
   induction vs using NA with|nil=>exact absurd h2 (by simp)|cons c vs=>
   induction vs using NA with|nil=>exact use hB (hb a b c a).2|cons d vs=>
   induction vs using NA with|nil=>exact use hB (hb a b c d).1|cons e vs=>
   exact absurd h1 (by simp)
theorem zo{h:NV}(S:(WW w).be h):h.NoLimit:=⟨_,DK S (a:=2) (by simp),LY w.params⟩
theorem a14{a b c d e f g h i j k l m n:Bool}{G:Prop}(x:(a&&b&&c&&d&&e&&f&&g&&h&&i&&j&&k&&l&&m&&n)=Nm)(K:a=Nm->b=Nm->c=Nm->d=Nm->e=Nm->f=Nm->g=Nm->h=Nm->i=Nm->j=Nm->k=Nm->l=Nm->m=Nm->n=Nm->G):G:=db x λx D=>db x λx C=>db x λx A=>db x λx z=>db x λx y=>db x λx v=>db x λx u=>db x λx t=>db x λx s=>db x λx r=>db x λx q=>db x λx p=>db x λx o=>K x o p q r s t u v y z A C D
theorem KS{f:Nat}{fn:Fn}(h:prog f=Nk fn):∃o z a,dZ (WW w) f fn o z a/\mSs (vl z.scope) fn.body a=Nm:=by
 refine hid λQ p=>?_;obtain⟨o,g,rfl,A⟩:=FJ h;have i:=ND.mp El o g;rw[h]at i;have i:o.ps=fn.params.map bv:=of_decide_eq_true i;have c:o.ps.length=fn.params.length:=by rw[i,Nu]
 obtain⟨T,b⟩:=Py (jA zg o g);obtain⟨b,t⟩:=Py b;refine p ?_;have b:o.fd.code=.ref o.cd:=b;have t:o.fd.qualname=o.q:=t;unfold Row.ok at A;refine a14 A λK L C D E F G I p j k l n v=>?_;simp only[NI,SP,OV,beq_iff_eq,bne_iff_ne,decide_eq_true_eq,ND]at C D E F G I p j k n;refine⟨o.obj,o.fd,o.body,⟨FK g,rfl,?_,Vu.mp L,C,D,E,F,G,I,λx u=>?_,j,k,λO P=>?_,λh S=>?_,λh S=>zo S,λB as V s y J m H d r=>?_⟩,v⟩;exact Io K;have:=p _ (mem_of_lookup u);rcases this with q|q
 exact absurd rfl q;exact Oh.mp q;rcases n with(q|q)|q
 exact absurd O q;exact absurd P q;refine⟨?_,?_⟩;rw[b,q.1];rfl;rw[q.2];rfl;rw[b,t];have e:=jA (BH w.params) o g;have e:=Py e;obtain⟨x,q,u⟩:=zS (Ir e.1) (.inr rfl);exact⟨o.cd,x,_,_,rfl,S.1 _ _ q,u,e.2⟩;refine mQ d λU d=>?_;have d:=NE d;have N:=r.length;have M:fn.cA.length=o.dv.length:=(CZ (W:=WW w) (B:=B) (as:=as) l).length;have R:RvL (WW w) B as (y++fn.cA.drop (fn.cA.length-(fn.params.length-y.length))) (J++o.dv.drop (o.dv.length-(o.ps.length-J.length))):=by refine RvL.append ?_ r;rw[M,c,N];exact(CZ l).drop _
 refine⟨_,_,d.symm,?_,R,?_⟩;rw[NG,Pz];lia;rw[<-i];exact binds g H.aK (by lia) (by lia)
variable{w:Pi}
theorem M4(P:Of):(H7 P).get? 114=Nk (co [s "form_sorted" 348,s "form_sorted" 349,s "/claim/cut.py" 350,i0 91,i0 1,i0 0,i0 0,i0 3,r 111,T,i0 181,r 112,N,N,N,r 113,i0 351,i0 91,s "/claim/cut.py" 352]):=by kernel_rfl
theorem KC(P:Of):CodeHd (H7 P) 114 112:=⟨_,_,_,_,_,_,_,_,_,M4 P,rfl,rfl,rfl,rfl,rfl,rfl,rfl,rfl,by decide⟩
theorem Fg{p e:Pos}(f:e.line=p.line)(h:e.col=p.col):∀l,Q1 e l=Q1 p l:=λl=>by obtain⟨a,b,c,d⟩:=p;obtain⟨g,i,j,k⟩:=e;have f:g=a:=f;subst f h;kernel_rfl
theorem bw:aW (WW w) tab where
 fy:=λh S=>DK S (a:=3) (by simp)
 gg:=λh S=>DK S (a:=0) (by simp)
 blt:=λx v h=>Py (jA (Lc w.params) (x,v) h)
 glob:=λx d h=>by obtain⟨v,e,q⟩:=(Option.any_eq_true _ _).mp (ND.mp (IC w.params) _ (Cm h));exact⟨v,e,LV 3 d v q⟩
 attr:=λc f h=>Jc h
 lim:=λh S=>zo S
 fN:=λh S=>⟨4,_,(F7 w.params).1,by decide,by decide,by show(4:Nat)≠112;decide,(zb S (a:=4) (by simp)).trans (F7 w.params).2,rfl,rfl,rfl⟩
 gb:=by show(3:Nat)≠112;decide
 en:=λh S=>by refine hid λL F=>?_;obtain⟨m,e,l,r⟩:=S.2;obtain⟨o,K,g,H,b,I,n,j,J,q,i⟩:=KC w.params;refine F ?_;exact⟨m,⟨o,K,g,H,b,I,n,j,J,(zb S (a:=114) (by simp)).trans q,i⟩,e,l,r⟩
 grow:=λh M m s p u y S e D _ B C E=>by
  obtain⟨G,k,l,_⟩:=S.2;have q:=k.symm.trans e;cases q;refine⟨_,B,?_,λA k t=>.inr ⟨s,?_,C,E⟩⟩;rw[Px];exact TriplesOk_snoc _ _ _ _ l;rw[Px];have:Q1 A m.toList=Nq:=by rw[<-D];exact Fg (by rw[k,u]) (by rw[t,y]) _
  have z:=codeAmong_snoc (pos:=A) (c:=.ref s) m.toList l this;rw[k,t,<-u,<-y]at z;exact z
theorem MU{c n n':Nat}(h:aB (WW w) (ops tab prog c) n')(hn:n'+20<=n)(hb:40<=n):cR (WW w) tab (ops tab prog c) n where
 bw:=bw
 aw:=λc f g h=>Ii h
 init:=λc g h=>Ix h
 ops:=h.more (by lia)
 low:=⟨n',h,hn⟩
 fn:=λf hd=>by
  cases e:prog f with
  |none=>right;cases c with|zero=>exact λds=>⟨rfl,λst=>rfl⟩|succ c=>exact λds=>⟨by show bp (run tab (ops tab prog c) (prog f) ds []) oy=Nq;rw[e];rfl,λst=>by show run tab (ops tab prog c) (prog f) ds st=Nq;rw[e];rfl⟩
  |some fn=>left;obtain⟨o,ho,rfl,_⟩:=FJ e;have q:=ND.mp (IG w.params) o ho;rw[hd]at q;simp only[Bool.not_true,V0,beq_iff_eq]at q;exact⟨IH ho,q⟩
 gd:=hb
theorem Bn:∀c,aB (WW w) (ops tab prog c) (40+30*c):=λc=>by
 induction c with
 |zero=>exact Ez|succ c e=>
 have h:=EA (W:=WW w) (T:=tab) (P:=prog) (c:=c) (n:=60+30*c) λf g h=>by obtain⟨o,b,a,D,d⟩:=KS (w:=w) h;exact⟨o,b,a,D,sSs (MU e (by lia) (by lia)) _ _ d⟩
 exact h.more (by lia)
end Mine.HD
end
section
namespace Mine
open PySem
section
variable{x y d:D}{st:am}{l r:List D}{n:Nat}{i j:Int}{b:Bool}
theorem i9:ki .plain x y st=yy x:=rfl
theorem i8:ki .aL (.int i) y st=if decide (i.toNat<=cap)&&ry i then Nk (j3 0 i.toNat)else Nq:=rfl
theorem i7:ki .aV (.int i) (.int j) st=if decide ((j-i).toNat<=cap)&&ry i&&ry j then Nk (j3 i (j-i).toNat)else Nq:=rfl
theorem i6:ki .bI (.ae l) y st=Nk (wI 0 l):=rfl
theorem nG:yy (.ae l)=Nk l:=rfl
theorem nF:yy (.tup l)=Nk l:=rfl
theorem nE{l}:yy (.ap l)=Nk (l.map λp=>p.1.toD):=rfl
theorem nD{l}:yy (.ak l)=Nk (l.map λp=>.tup (p.1.map .int)):=rfl
theorem JU:tR n .none=Nm:=rfl
theorem JT:tR n (.bool b)=Nm:=rfl
theorem JS:tR n (.int i)=Nm:=rfl
theorem JR{k:Nat}:tR n (.str k)=Nm:=rfl
theorem JQ:tR (n+1) (.tup l)=shalL n l:=rfl
theorem JP:tR (n+1) (.ae l)=shalL n l:=rfl
theorem GP:shalL n []=Nm:=rfl
theorem GO:shalL n (d::l)=(tR n d&&shalL n l):=rfl
theorem j0:D.plain (.tup l)=D.ax l:=rfl
theorem jZ:D.plain (.ae l)=D.ax l:=rfl
theorem jY{l}:D.plain (.ap l)=D.aq l:=rfl
theorem jX{l}:D.plain (.ak l)=D.plainT l:=rfl
theorem jW{c l}:D.plain (.obj c l)=D.bf l:=rfl
theorem jV:D.plain .none=Nm:=rfl
theorem jU:D.plain (.int i)=Nm:=rfl
theorem jT{k:Nat}:D.plain (.str k)=Nm:=rfl
theorem jS:D.plain (.bool b)=Nm:=rfl
theorem kK:D.ax []=Nm:=rfl
theorem kJ:D.ax (d::l)=(d.plain&&D.ax l):=rfl
theorem n9:D.aq []=Nm:=rfl
theorem n8{k l}:D.aq ((k,d)::l)=(d.plain&&D.aq l):=rfl
theorem n7{p l}:D.aq (p::l)=(p.2.plain&&D.aq l):=rfl
theorem n0{p l}:D.plainT (p::l)=(p.2.plain&&D.plainT l):=rfl
theorem kL{p l}:D.bf (p::l)=(p.2.plain&&D.bf l):=rfl
theorem n6:D.plainT []=Nm:=rfl
theorem n5{k l}:D.plainT ((k,d)::l)=(d.plain&&D.plainT l):=rfl
theorem kN:D.bf []=Nm:=rfl
theorem kM{k l}:D.bf ((k,d)::l)=(d.plain&&D.bf l):=rfl
theorem u5:D.scalar .none=Nm:=rfl
theorem u4:D.scalar (.bool b)=Nm:=rfl
theorem u3:D.scalar (.int i)=Nm:=rfl
theorem u2{k:Nat}:D.scalar (.str k)=Nm:=rfl
theorem KJ:D.flat (.tup l)=l.all D.scalar:=rfl
theorem KI:D.flat (.int i)=Nm:=rfl
theorem KG:D.flat (.bool b)=Nm:=rfl
theorem KF:D.flat .none=Nm:=rfl
section
variable{f:Nat->Option D}
theorem su{i:Nat}:iZ f (.ag i)=f i:=rfl
theorem sq:iZ f (.tup l)=(snapL f l).map .tup:=rfl
theorem sp:iZ f (.ae l)=(snapL f l).map .ae:=rfl
theorem so{l}:iZ f (.ap l)=(snapK f l).map .ap:=rfl
theorem sn{l}:iZ f (.ak l)=(snapT f l).map .ak:=rfl
theorem sl{c l}:iZ f (.obj c l)=(snapF f l).map (.obj c):=rfl
theorem GN:snapT f []=Nk []:=rfl
theorem GM{k d r}:snapT f ((k,d)::r)=(iZ f d).bind λa=>(snapT f r).bind λc=>Nk ((k,a)::c):=rfl
end
theorem DH:ao.toD (.ae l)=.ae l:=rfl
theorem DG{l}:ao.toD (.ap l)=.ap l:=rfl
theorem DF{l}:ao.toD (.ak l)=.ak l:=rfl
theorem DE{c l}:ao.toD (.obj c l)=.obj c l:=rfl
theorem Kk{i:Nat}:jB st (.ag i)=(st[i]?).map ao.toD:=rfl
theorem EW:mu []=Nk []:=rfl
theorem EV:mu (.int i::l)=(mu l).map (i:: ·):=rfl
theorem Lj:oW (.int i)=Nk (.v (.i i)):=rfl
theorem Lh{k:Nat}:oW (.str k)=Nk (.v (.s k)):=rfl
theorem Lg:oW (.tup l)=(mu l).map .t:=rfl
theorem IN:wI i (d::l)=.tup [.int i,d]::wI (i+1) l:=rfl
theorem u8:j3 i 0=[]:=rfl
theorem rC:j3 i (n+1)=.int i::j3 (i+1) n:=rfl
theorem Kz{x:Int×D}:wZ x []=[x]:=rfl
theorem Ky{x y:Int×D}{r}:wZ x (y::r)=if x.1<y.1 then x::y::r else y::wZ x r:=rfl
theorem ID{x:Nat}:Loc.get [] x=Nq:=rfl
theorem CJ{x y:Nat}{r:Loc}:Loc.get ((y,d)::r) x=if N0 x y then Nk d else Loc.get r x:=rfl
end
section
variable{K:Type}[DecidableEq K]{α:Type}{k k':K}{v v':α}{r:List (K×α)}
theorem iw:gL ([]:List (K×α)) k=Nq:=rfl
theorem iv:gL ((k',v)::r) k=if k=k' then Nk v else gL r k:=rfl
theorem iu{p:K×α}:gL (p::r) k=if k=p.1 then Nk p.2 else gL r k:=rfl
theorem j4{p:K×α}:jv (p::r) k v=if k=p.1 then(p.1,v)::r else p::jv r k v:=rfl
theorem j6:jv [] k v=[(k,v)]:=rfl
theorem j5:jv ((k',v')::r) k v=if k=k' then(k',v)::r else(k',v')::jv r k v:=rfl
end
noncomputable abbrev OP(n:Nat):aN:=ops tab prog n
noncomputable abbrev il(l:List Int):D:=.ae (l.map .int)
noncomputable abbrev it(l:List Int):D:=.tup (l.map .int)
theorem FI{n:Nat}{fn:Fn}{ds:List D}{m m':Loc}{fl:Fl}{st st':am}{d:D}(a:kH fn ds=Nk m)(hx:exs tab (OP n) fn.body m st=Nk (fl,m',st'))(c:BK fl=Nk d):run tab (OP n) (Nk fn) ds st=Nk (d,st'):=by show(kH fn ds).bind _=_;refine rG a ?_;show(exs tab (OP n) fn.body m st).bind _=_;refine rG hx ?_;show(BK fl).map _=_;refine rG c ?_;rfl
theorem lP{n f:Nat}{fn:Fn}{ds:List D}{m m':Loc}{fl:Fl}{st:am}{d r:D}{b:Bool}(hp:prog f=Nk fn)(c:kH fn ds=Nk m)(hx:exs tab (OP n) fn.body m []=Nk (fl,m',st))(e:BK fl=Nk d)(a:oy d st=Nk (r,b)):(OP (n+1)).F f ds=Nk (r,b):=by show bp (run tab (OP n) (prog f) ds []) oy=_;refine rG hp (rG (FI c hx e) ?_);exact a
theorem Ae{n f:Nat}{fn:Fn}{ds:List D}{m m':Loc}{fl:Fl}{st st':am}{d:D}(hp:prog f=Nk fn)(a:kH fn ds=Nk m)(hx:exs tab (OP n) fn.body m st=Nk (fl,m',st'))(c:BK fl=Nk d):(OP (n+1)).S f ds st=Nk (d,st'):=by show run tab (OP n) (prog f) ds st=_;refine rG hp ?_;exact FI a hx c
theorem ad{T:Tab}{O:aN}{s:S}{r:Ss}{m m₁:Loc}{st aa:am}{q:Option (Fl×Loc×am)}(h:ex T O s m st=Nk (.next,m₁,aa))(a:exs T O r m₁ aa=q):exs T O (.cons s r) m st=q:=by show xk (ex T O s m st) (exs T O r)=q;refine rG h ?_;exact a
theorem jP{T:Tab}{O:aN}{s:S}{r:Ss}{m m₁:Loc}{st aa:am}{f:Fl}(h:ex T O s m st=Nk (f,m₁,aa))(hf:f≠.next):exs T O (.cons s r) m st=Nk (f,m₁,aa):=by show xk (ex T O s m st) (exs T O r)=_;refine rG h ?_;induction f using Fl.casesOn<;>first|exact absurd rfl hf|rfl
theorem an(m:Loc)(x:Nat)(d:D):(m.set x d).get x=Nk d:=(sx m x x d).trans (if_pos rfl)
theorem gI(m:Loc)(x y:Nat)(d:D)(h:N0 x y=Nl):(m.set y d).get x=m.get x:=(sx m y x d).trans (if_neg λe:x=y=>Od (h.symm.trans (by refine rG e ?_;exact QI y)))
theorem II{o:Ot}{f:Loc->am->Ot}{m:Loc}{st:am}(h:o=Nk (.next,m,st)\/o=Nk (.cont,m,st)):fk o f=f m st:=by rcases h with h|h<;>(rw[h];rfl)
theorem jF{z:Type}{xs:List Nat}{single:Bool}{body:Loc->am->Option (Fl×Loc×am)}{f:z->D}(t:List z->Loc->am->Prop)(l:List z):∀(o:List z)(m:Loc)(st:am),t o m st->(∀p a q m st,o++l=p++a::q->t p m st->∃s g c,iz xs single (f a) m=Nk s/\(body s st=Nk (.next,g,c)\/body s st=Nk (.cont,g,c))/\t (p++[a]) g c)->∃w u,forLoop xs single body (l.map f) m st=Nk (.next,w,u)/\t (o++l) w u:=by induction l with|nil=>exact λo m st h _=>⟨m,st,rfl,by refine rG (OY _) ?_;exact h⟩|cons a r I=>intro o m st h H;refine w33 (H o a r m st rfl h) λs g c C E F=>?_;refine w22 (I (o++[a]) g c F λJ B q m st e=>H J B q m st (by refine rL e (rG (OJ _ _ _) ?_);rfl)) λw u G A=>?_;refine i22 w u ?_ (by rw[OJ]at A;exact A);show(iz xs single (f a) m).bind _=_;refine rG C ?_;exact(II E).trans G
theorem MH{c:Type _}{l:List c}(h:l.length=2):∃a b,l=[a,b]:=by
 induction l using NA with
  |nil=>cases h
  |cons a l=>
 induction l using NA with
 |nil=>cases h
 |cons b l=>exact⟨a,b,by rw[TR.mp (Qb (Qb h))]⟩
noncomputable def nt{a:Type}(go:a->Option a):Nat->a->a|0,x=>x|n+1,x=>match go x with|none=>x|some y=>nt go n y
theorem GR{a:Type}{go:a->Option a}{x:a}:nt go 0 x=x:=rfl
theorem u7{a:Type}{go:a->Option a}{x:a}{n:Nat}:nt go (n+1) x=match go x with|none=>x|some y=>nt go n y:=rfl
theorem rY{t:Type}{test:Loc->am->Option (D×am)}{body:Loc->am->Option (Fl×Loc×am)}(g:t->Loc->am->Prop)(s:t->Nat)(go:t->Option t)(H:∀x m st,g x m st->(go x=Nq/\test m st=Nk (.bool Nl,st))\/(∃y c a,go x=Nk y/\s y<s x/\test m st=Nk (.bool Nm,st)/\(body m st=Nk (.next,c,a)\/body m st=Nk (.cont,c,a))/\g y c a)):∀n N x m st,s x<n->s x<N->g x m st->∃p o,gX test body n m st=Nk (.next,p,o)/\g (nt go N x) p o:=by
 intro n;induction n with
 |zero=>exact λN x m st h=>absurd h (Rz _)|succ n J=>
 intro N x m st h w I;induction N using NY with|zero=>exact absurd w (Rz _)|succ N=>
 have z:gX test body (n+1) m st=bb (test m st) λb st=>cond b (fk (body m st) (gX test body n)) (Nk (.next,m,st)):=rfl;have A:nt go (N+1) x=match go x with|none=>x|some y=>nt go N y:=rfl
 refine rG z (rG A ?_);rcases H x m st I with⟨e,q⟩|⟨y,c,a,e,u,B,C,E⟩
 exact i22 m st (by refine rG q ?_;rfl) (by refine rG e ?_;exact I);refine w22 (J N y c a (ON u (Vs h)) (ON u (Vs w)) E) λp o F G=>?_;refine i22 p o ?_ (by refine rG e ?_;exact G);refine rG B ?_;exact(II C).trans F
section
variable{α β:Type}
theorem iW{o:Option (α×am)}{f:α->am->Option β}{x:α}{st:am}(h:o=Nk (x,st)):bp o f=f x st:=h▸rfl
theorem Fs{o:Option (D×am)}{f:Int->am->Option β}{x:Int}{st:am}(h:o=Nk (.int x,st)):bi o f=f x st:=h▸rfl
theorem AW{o:Option (D×am)}{f:Bool->am->Option β}{x:Bool}{st:am}(h:o=Nk (.bool x,st)):bb o f=f x st:=h▸rfl
theorem Dv{o:Option (D×am)}{f:Nat->am->Option β}{x:Nat}{st:am}(h:o=Nk (.ag x,st)):bo o f=f x st:=h▸rfl
theorem Ng{o:Option (D×am)}{f:am->Option β}{st:am}(h:o=Nk (.none,st)):bn o f=f st:=h▸rfl
theorem Mj{o:Option D}{f:List D->Option β}{l:List D}(h:o=Nk (.ae l)):bl o f=f l:=h▸rfl
theorem Ml{o:Option D}{f:Nat->List (Nat×D)->Option β}{c:Nat}{l:List (Nat×D)}(h:o=Nk (.obj c l)):bj o f=f c l:=h▸rfl
theorem Nb{o:Option Bool}{t e:Option β}(h:o=Nk Nm):bt o t e=t:=h▸rfl
theorem Nc{o:Option Bool}{t e:Option β}(h:o=Nk Nl):bt o t e=e:=h▸rfl
theorem nh{p:Prop}[Decidable p]{x:Option β}(h:p):gp p x=x:=if_pos h
theorem K6{c:Option ao}{f:List D->Option β}{l:List D}(h:c=Nk (.ae l)):cL c f=f l:=h▸rfl
theorem Na{c:Option ao}{f:Nat->List (Nat×D)->Option (Loc×am)}{k:Nat}{l:List (Nat×D)}(h:c=Nk (.obj k l)):cO c f=f k l:=h▸rfl
theorem lg{o:Option α}{f:α->Option β}{x:α}(h:o=Nk x):o.bind f=f x:=h▸rfl
theorem ni{o:Option α}{f:α->β}{x:α}(h:o=Nk x):o.map f=Nk (f x):=h▸rfl
end
section
variable{a b:Int}
theorem kq:pB .lt (.int a) (.int b)=Nk (decide (a<b)):=rfl
theorem kr:pB .le (.int a) (.int b)=Nk (decide (a<=b)):=rfl
theorem kt:pB .gt (.int a) (.int b)=Nk (decide (b<a)):=rfl
theorem ku:pB .ge (.int a) (.int b)=Nk (decide (b<=a)):=rfl
end
theorem I9{a b:Int}:F6 .add (.int a) (.int b)=Nk (.int (a+b)):=rfl
theorem I8{a b:Int}:F6 .sub (.int a) (.int b)=Nk (.int (a-b)):=rfl
section
variable{xs:List Nat}{single:Bool}{body:Loc->am->Ot}{d:D}{r l:List D}{m m':Loc}{st aa ah:am}{step:D->am->Option (Option D×am)}
theorem kT(h:iz xs single d m=Nk m'):forLoop xs single body (d::r) m st=fk (body m' st) (forLoop xs single body r):=lg h
theorem Cg{x:D}(h:step x st=Nk (Nk d,aa))(h':compLoop step r aa=Nk (l,ah)):compLoop step (x::r) st=Nk (d::l,ah):=(iW h).trans (iW h')
theorem AH{i:Nat}{b:Bool}(h:tQ st (.ag i)=Nk (.ae l))(hb:l.all D.scalar=b):oy (.ag i) st=Nk (.ae l,b):=(ni h).trans (congrArg (λb=>Nk (D.ae l,b)) hb)
end
noncomputable def eqA(a b:List D):Bool:=P6 (toPyL a) (toPyL b)
theorem vv{a b:List D}:eqB (.ae a) (.ae b)=eqA a b:=QD.eq_7 _ _
theorem yO{a b:List D}:eqB (.tup a) (.tup b)=eqA a b:=QD.eq_8 _ _
theorem CU{a b:Int}:eqB (.int a) (.int b)=(a==b):=QD.eq_5 _ _
theorem yP{a b:Nat}:eqB (.str a) (.str b)=(a==b):=by refine(QD.eq_6 _ _).trans ?_;by_cases h:a=b;subst h;exact rG (beq_self_eq_true _) (rG (beq_self_eq_true _) rfl);exact rG (beq_eq_false_iff_ne.mpr h) (rG (beq_eq_false_iff_ne.mpr λe=>h (lx e)) rfl)
theorem rN{a b:D}{x y:List D}:eqA (a::x) (b::y)=(eqB a b&&eqA x y):=P6.eq_2 _ _ _ _
theorem yQ(w:List D):eqA w []=w.isEmpty:=by induction w using NA with|nil=>exact S0|cons a r=>exact SZ _ _
theorem oh(a:List Int):∀b:List Int,eqA (a.map .int) (b.map .int)=decide (a=b):=by
 induction a with
 |nil=>intro b;induction b using NA with|nil=>exact S0|cons x y=>exact P6.eq_3 _ _
 |cons x a c=>intro b;induction b using NA with|nil=>exact SZ _ _|cons y b=>refine rG Ny (rG Ny (rG rN (rG CU (rG (c _) ?_))));simp[Um]
section
variable{x y:D}{a b:List D}{g h:Nat}
theorem zV(hx:tR 64 x=Nm)(hy:tR 64 y=Nm):pB .ne x y=Nk (!eqB x y):=nh ⟨hx,hy⟩
theorem uM(hx:tR 64 (.ae a)=Nm)(hy:tR 64 (.ae b)=Nm):pB .eq (.ae a) (.ae b)=Nk (eqA a b):=(nh ⟨hx,hy⟩).trans (congrArg Nk vv)
theorem uL(hx:tR 64 (.tup a)=Nm)(hy:tR 64 (.tup b)=Nm):pB .eq (.tup a) (.tup b)=Nk (eqA a b):=(nh ⟨hx,hy⟩).trans (congrArg Nk yO)
theorem uK:pB .ne (.str g) (.str h)=Nk (g !=h):=(zV rfl rfl).trans (congrArg (λb=>Nk (!b)) yP)
theorem AS:pB .eq (.str g) (.str h)=Nk (g==h):=(nh ⟨rfl,rfl⟩:shs (.str g) (.str h) _=_).trans (congrArg Nk yP)
end
theorem CE{k n:Nat}(h:k<n):idx (k:Int) n=Nk k:=by unfold idx;refine rG (if_pos (Qc k)) (rG (if_pos (Int.ofNat_lt.mpr h)) ?_);rfl
theorem kR{l:List D}{k:Nat}{d:D}(h:l[k]? =Nk d):pU (.ae l) (.int k)=Nk d:=(lg (CE (Nv.mp h).1)).trans h
theorem zE{l:List D}{k:Nat}{d:D}(h:l[k]? =Nk d):pU (.tup l) (.int k)=Nk d:=(lg (CE (Nv.mp h).1)).trans h
theorem CC{l:List (Key×D)}{k:Nat}{b:Bool}(h:(gL l (.s k)).isSome=b):inD (.str k) (.ap l)=Nk b:=congrArg Nk h
theorem EQ{l:List (Key×D)}{k:Nat}{d:D}(h:gL l (.s k)=Nk d):pU (.ap l) (.str k)=Nk d:=h
theorem E2{l:List (Key×D)}{k:Nat}{d e:D}(h:gL l (.s k)=Nk d):vq (.ap l) (.str k) e=Nk d:=by show Nk ((gL l (.s k)).getD e)=_;refine rG h ?_;rfl
section
variable{l:List (Key×D)}{k:Nat}{i:Int}{e:D}
theorem kQ:pU (.ap l) (.str k)=gL l (.s k):=rfl
theorem op:pU (.ap l) (.int i)=gL l (.i i):=rfl
theorem zJ:inD (.str k) (.ap l)=Nk (gL l (.s k)).isSome:=rfl
theorem LH:inD (.int i) (.ap l)=Nk (gL l (.i i)).isSome:=rfl
theorem vp:vq (.ap l) (.str k) e=Nk ((gL l (.s k)).getD e):=rfl
theorem CL:vq (.ap l) (.int i) e=Nk ((gL l (.i i)).getD e):=rfl
end
section
variable{l:List (List Int×D)}{x e:D}{k:List Int}(h:oW x=Nk (.t k))
include h
theorem FT:vq (.ak l) x e=Nk ((gL l k).getD e):=congrArg (λo=>bkt o λk=>Nk ((gL l k).getD e)) h
end
theorem yF{d r:D}(h:d.plain=Nm):CN d r=Nl:=by induction d using D.casesOn<;>first|rfl|exact fT h
theorem J7{O:aN}{ag:Bool}{f:Nat}{ds ds':List D}{st:am}{r:D}{b:Bool}(hs:ol st ds=Nk ds')(hf:O.F f ds'=Nk (r,b))(hp:(ds.all D.plain||b||r.flat)=Nm):rD O ag f ds st=Nk (cond b (mkD ag r st) (r,st)):=(lg hs).trans ((lg hf).trans (nh hp))
theorem Kg(r:D)(st:am):mkD Nl r st=(r,st):=by induction r using D.casesOn<;>rfl
open Classical in
theorem Gu{ps:List (Int×D)}{r:D×am}(h:sg ps):Bp ps r=Nk r:=by unfold Bp;exact nh h
section
variable{i:Nat}{st:am}{y d:D}
theorem JZ{es:List (Key×D)}{kk:Key}(hc:st[i]? =Nk (.ap es))(c:oW y=Nk (.v kk))(f:es.length<cap):Eh i y d st=Nk (st.set i (.ap (jv es kk d))):=by unfold Eh;refine rG hc (rG c ?_);exact nh f
theorem JW{es:List (List Int×D)}{kk:List Int}(hc:st[i]? =Nk (.ak es))(c:oW y=Nk (.t kk))(f:es.length<cap):Eh i y d st=Nk (st.set i (.ak (jv es kk d))):=by unfold Eh;refine rG hc (rG c ?_);exact nh f
theorem JX{l:List D}{j:Int}(hc:st[i]? =Nk (.ae l))(c:0<=j)(f:j<l.length):Eh i (.int j) d st=Nk (st.set i (.ae (l.set j.toNat d))):=by unfold Eh;refine rG hc ?_;exact nh ⟨c,f⟩
end
section
variable{O:aN}{m m₁:Loc}{st aa ah au st':am}{x y z x' y' d r:D}{l l' ds ds':List D}{q:Option (Fl×Loc×am)}
theorem lT{r:Loc}{x y:Nat}{d:D}{q:Option D}(h:N0 x y=Nl)(h':Loc.get r x=q):Loc.get ((y,d)::r) x=q:=by show(if N0 x y=Nm then Nk d else Loc.get r x)=q;refine rG h ?_;exact h'
theorem al{n:Nat}(h:m.get n=Nk d):ev tab O (.ab n) m st=Nk (d,st):=ni h
theorem zN{n:Nat}(h:KD n=Nk d):ev tab O (.glob n) m st=Nk (d,st):=ni (o:=tab.glob n) h
theorem gY:ev tab O .none m st=Nk (.none,st):=rfl
theorem oB{b:Bool}:ev tab O (.bool b) m st=Nk (.bool b,st):=rfl
theorem ir{i:Int}:ev tab O (.int i) m st=Nk (.int i,st):=rfl
theorem j7{n:Nat}:ev tab O (.str n) m st=Nk (.str n,st):=rfl
theorem E8{i:Int}:ev tab O (.neg i) m st=Nk (.int (-i),st):=rfl
theorem kG{o:eX}{a b:E}(h:ev tab O a m st=Nk (x,aa))(h':ev tab O b m aa=Nk (y,ah))(hx:jB ah x=Nk x')(hy:jB ah y=Nk y')(hb:F6 o x' y'=Nk d):ev tab O (.bin o a b) m st=Nk (d,ah):=(iW h).trans ((iW h').trans ((lg hx).trans ((lg hy).trans (ni hb))))
theorem iA{o:dG}{a b:E}{c:Bool}(h:ev tab O a m st=Nk (x,aa))(h':ev tab O b m aa=Nk (y,ah))(hx:tQ ah x=Nk x')(hy:tQ ah y=Nk y')(hb:pB o x' y'=Nk c):ev tab O (.cmp o a b) m st=Nk (.bool c,ah):=(iW h).trans ((iW h').trans ((lg hx).trans ((lg hy).trans (ni hb))))
theorem vy{o j:dG}{a b c:E}{e:Bool}(h:ev tab O a m st=Nk (x,aa))(h':ev tab O b m aa=Nk (y,ah))(hb:pB o x y=Nk Nm)(f:ev tab O c m ah=Nk (z,au))(hc:pB j y z=Nk e):ev tab O (.bQ o j a b c) m st=Nk (.bool e,au):=(iW h).trans ((iW h').trans ((Nb hb).trans ((iW f).trans (ni hc))))
theorem vz{o f:dG}{a b c:E}(h:ev tab O a m st=Nk (x,aa))(h':ev tab O b m aa=Nk (y,ah))(hb:pB o x y=Nk Nl):ev tab O (.bQ o f a b c) m st=Nk (.bool Nl,ah):=(iW h).trans ((iW h').trans (Nc hb))
theorem kn{n:Bool}{a:E}{b:Bool}(h:ev tab O a m st=Nk (x,aa))(hb:isNone x=b):ev tab O (.bq n a) m st=Nk (.bool (n !=b),aa):=by subst hb;exact iW h
theorem pZ{n:Bool}{a b:E}{c:Bool}(h:ev tab O a m st=Nk (x,aa))(h':ev tab O b m aa=Nk (y,ah))(hy:jB ah y=Nk y')(hb:inD x y'=Nk c):ev tab O (.bz n a b) m st=Nk (.bool (n !=c),ah):=(iW h).trans ((iW h').trans ((lg hy).trans (ni hb)))
theorem mx{es:Es}{b:Bool}(h:evB tab O Nm es m st=Nk (.bool b,aa)):ev tab O (.and es) m st=Nk (.bool b,aa):=h
theorem Du{es:Es}{b:Bool}(h:evB tab O Nl es m st=Nk (.bool b,aa)):ev tab O (.or es) m st=Nk (.bool b,aa):=h
theorem mz{o:Bool}:evB tab O o .nil m st=Nk (.bool o,st):=rfl
theorem w5{o b:Bool}{e:E}{r:Es}{p:Option (D×am)}(h:ev tab O e m st=Nk (.bool b,aa))(hb:b=o)(h':evB tab O o r m aa=p):evB tab O o (.cons e r) m st=p:=by subst hb;induction b using Nw<;>exact(AW h).trans h'
theorem lY{o b:Bool}{e:E}{r:Es}(h:ev tab O e m st=Nk (.bool b,aa))(hb:b= !o):evB tab O o (.cons e r) m st=Nk (.bool b,aa):=by subst hb;induction o using Nw<;>exact AW h
theorem oV{b c:Bool}{e:E}{r:Es}(h:ev tab O e m st=Nk (.bool b,st))(h':b=Nm->evB tab O Nm r m st=Nk (.bool c,st)):evB tab O Nm (.cons e r) m st=Nk (.bool (b&&c),st):=by induction b using Nw with|false=>exact AW h|true=>exact(AW h).trans (h' rfl)
theorem Dw{b c:Bool}{e:E}{r:Es}(h:ev tab O e m st=Nk (.bool b,st))(h':b=Nl->evB tab O Nl r m st=Nk (.bool c,st)):evB tab O Nl (.cons e r) m st=Nk (.bool (b||c),st):=by induction b using Nw with|false=>exact(AW h).trans (h' rfl)|true=>exact AW h
theorem AN{a:E}{b:Bool}(h:ev tab O a m st=Nk (.bool b,aa)):ev tab O (.not a) m st=Nk (.bool (!b),aa):=AW h
theorem m6{t a b:E}{c:Bool}{p:Option (D×am)}(h:ev tab O t m st=Nk (.bool c,aa))(hc:c=Nm)(h':ev tab O a m aa=p):ev tab O (.ite t a b) m st=p:=by subst hc;exact(AW h).trans h'
theorem nV{t a b:E}{c:Bool}{p:Option (D×am)}(h:ev tab O t m st=Nk (.bool c,aa))(hc:c=Nl)(h':ev tab O b m aa=p):ev tab O (.ite t a b) m st=p:=by subst hc;exact(AW h).trans h'
theorem iV{o:E}{f:Nat}(h:ev tab O o m st=Nk (x,aa))(hx:jB aa x=Nk x')(hd:Fu tab x' f=Nk d):ev tab O (.attr o f) m st=Nk (d,aa):=(iW h).trans ((lg hx).trans (ni hd))
theorem ie{o i:E}(h:ev tab O o m st=Nk (x,aa))(h':ev tab O i m aa=Nk (y,ah))(hx:jB ah x=Nk x')(hd:pU x' y=Nk d):ev tab O (.aj o i) m st=Nk (d,ah):=(iW h).trans ((iW h').trans ((lg hx).trans (ni hd)))
theorem IO{w:Bool}{o a b:E}{i j:Int}{p:D×am}(h:ev tab O o m st=Nk (x,aa))(h':ev tab O a m aa=Nk (.int i,ah))(c:ev tab O b m ah=Nk (.int j,au))(hx:jB au x=Nk x')(hd:sw x' i j=Nk d)(hp:mkD w d au=p):ev tab O (.slice w o a b) m st=Nk p:=(iW h).trans ((Fs h').trans ((Fs c).trans ((lg hx).trans ((ni hd).trans (congrArg Nk hp)))))
theorem CX{w:Bool}{o b:E}{j:Int}{p:D×am}(h:ev tab O o m st=Nk (x,aa))(h':ev tab O b m aa=Nk (.int j,ah))(hx:jB ah x=Nk x')(hd:sw x' 0 j=Nk d)(hp:mkD w d ah=p):ev tab O (.bG w o b) m st=Nk p:=(iW h).trans ((Fs h').trans ((lg hx).trans ((ni hd).trans (congrArg Nk hp))))
theorem zO{w:Bool}{o a:E}{i:Int}{p:D×am}(h:ev tab O o m st=Nk (x,aa))(h':ev tab O a m aa=Nk (.int i,ah))(hx:jB ah x=Nk x')(hd:IE x' i=Nk d)(hp:mkD w d ah=p):ev tab O (.aM w o a) m st=Nk p:=(iW h).trans ((Fs h').trans ((lg hx).trans ((ni hd).trans (congrArg Nk hp))))
theorem IP{w:Bool}{o:E}{p:D×am}(h:ev tab O o m st=Nk (x,aa))(hx:jB aa x=Nk x')(hd:MF x'=Nk d)(hp:mkD w d aa=p):ev tab O (.rev w o) m st=Nk p:=(iW h).trans ((lg hx).trans ((ni hd).trans (congrArg Nk hp)))
theorem kZ:evs tab O .nil m st=Nk ([],st):=rfl
theorem ke{e:E}{r:Es}(h:ev tab O e m st=Nk (d,aa))(h':evs tab O r m aa=Nk (l,ah)):evs tab O (.cons e r) m st=Nk (d::l,ah):=(iW h).trans (iW h')
theorem jz{es:Es}(h:evs tab O es m st=Nk (l,aa))(c:l.length<=cap):ev tab O (.tup es) m st=Nk (.tup l,aa):=(iW h).trans (nh c)
theorem lM{es:Es}(h:evs tab O es m st=Nk (l,aa))(c:l.length<=cap):ev tab O (.ae Nl es) m st=Nk (.ae l,aa):=(iW h).trans (nh c)
theorem i5{es:Es}(h:evs tab O es m st=Nk (l,aa))(f:l.length<=cap){c:D×am}(hp:(.ag aa.length,aa++[.ae l])=c):ev tab O (.ae Nm es) m st=Nk c:=by subst hp;exact(iW h).trans (nh f)
theorem E9{c:dF}{es:List (Key×D)}(h:evKV tab O c m st []=Nk (es,aa)):ev tab O (.dict Nl c) m st=Nk (.ap es,aa):=iW h
theorem px{c:dF}{es:List (Key×D)}(h:evKV tab O c m st []=Nk (es,aa)){f:D×am}(hp:(.ag aa.length,aa++[.ap es])=f):ev tab O (.dict Nm c) m st=Nk f:=by subst hp;exact iW h
theorem uu{c:List (Key×D)}:evKV tab O .nil m st c=Nk (c,st):=rfl
theorem yT{c:D×am}(hp:(.ag st.length,st++[.ak []])=c):ev tab O .bJ m st=Nk c:=by subst hp;rfl
theorem iO{ag:Bool}{f:Nat}{es:Es}(h:evs tab O es m st=Nk (ds,aa))(hs:ol aa ds=Nk ds')(hf:O.F f ds'=Nk (r,Nl))(hp:(ds.all D.plain||r.flat)=Nm):ev tab O (.call ag f es) m st=Nk (r,aa):=(iW h).trans (J7 hs hf (by refine rG (R5 _) ?_;exact hp))
theorem jb{f:Nat}{es:Es}(h:evs tab O es m st=Nk (ds,aa))(hs:ol aa ds=Nk ds')(hf:O.F f ds'=Nk (.ae l,Nm)){c:D×am}(hp:(.ag aa.length,aa++[.ae l])=c):ev tab O (.call Nm f es) m st=Nk c:=by subst hp;exact(iW h).trans (J7 hs hf (by refine rG (Qi _) ?_;rfl))
theorem gQ{f:Nat}{es:Es}(h:evs tab O es m st=Nk (ds,aa))(hs:ol aa ds=Nk ds')(hf:O.F f ds'=Nk (r,Nm)):ev tab O (.call Nl f es) m st=Nk (r,aa):=(iW h).trans ((J7 hs hf (by refine rG (Qi _) ?_;rfl)).trans (congrArg Nk (Kg r aa)))
theorem nU{f:Nat}{es:Es}{p:Option (D×am)}(h:evs tab O es m st=Nk (ds,aa))(hf:O.S f ds aa=p):ev tab O (.aC f es) m st=p:=(iW h).trans (hf)
theorem E7{c g:Nat}{es:Es}(h:evs tab O es m st=Nk (ds,aa))(f:Iv c=Nk g)(hf:O.S g (.ag aa.length::ds) (aa++[.obj c []])=Nk (.none,ah)):ev tab O (.new c es) m st=Nk (.ag aa.length,ah):=(iW h).trans ((lg (o:=tab.init c) f).trans (Ng hf))
theorem to{ag:Bool}{o:E}{f g c:Nat}{fs:List (Nat×D)}{es:Es}(h:ev tab O o m st=Nk (x,aa))(hx:jB aa x=Nk (.obj c fs))(j:B9 c f=Nk g)(n:(gL fs f).isNone=Nm)(h':evs tab O es m aa=Nk (ds,ah))(hs:ol ah (x::ds)=Nk ds')(hf:O.F g ds'=Nk (r,Nl))(hp:((x::ds).all D.plain||r.flat)=Nm):ev tab O (.aw ag o f es) m st=Nk (r,ah):=(iW h).trans ((Ml hx).trans ((lg (o:=tab.aw c f) j).trans ((nh n).trans ((iW h').trans (J7 hs hf (by refine rG (R5 _) ?_;exact hp))))))
theorem CY{o:E}{f g c:Nat}{fs:List (Nat×D)}{es:Es}(h:ev tab O o m st=Nk (x,aa))(hx:jB aa x=Nk (.obj c fs))(j:B9 c f=Nk g)(n:(gL fs f).isNone=Nm)(h':evs tab O es m aa=Nk (ds,ah))(hs:ol ah (x::ds)=Nk ds')(hf:O.F g ds'=Nk (r,Nm)):ev tab O (.aw Nl o f es) m st=Nk (r,ah):=(iW h).trans ((Ml hx).trans ((lg (o:=tab.aw c f) j).trans ((nh n).trans ((iW h').trans ((J7 hs hf (by refine rG (Qi _) ?_;rfl)).trans (congrArg Nk (Kg r ah)))))))
theorem tn{o:E}{f g c:Nat}{fs:List (Nat×D)}{es:Es}{p:Option (D×am)}(h:ev tab O o m st=Nk (x,aa))(hx:jB aa x=Nk (.obj c fs))(j:B9 c f=Nk g)(n:(gL fs f).isNone=Nm)(h':evs tab O es m aa=Nk (ds,ah))(hf:O.S g (x::ds) ah=p):ev tab O (.ba o f es) m st=p:=(iW h).trans ((Ml hx).trans ((lg (o:=tab.aw c f) j).trans ((nh n).trans ((iW h').trans (hf)))))
theorem Ef{i:Nat}{kk:List Int}{l:List (List Int×D)}(c:oW y=Nk (.t kk))(hc:st[i]? =Nk (.ak l))(hd:gL l kk=Nk d):v3 i y st=Nk (d,st++[ao.ae []]):=by unfold v3;rw[c];show dcT st[i]? _=_;rw[hc];show(match gL l kk with|some d=>Nk (d,st++[ao.ae []])|none=>_)=_;rw[hd]
theorem Eg{i:Nat}{kk:List Int}{l:List (List Int×D)}(c:oW y=Nk (.t kk))(hc:st[i]? =Nk (.ak l))(hd:gL l kk=Nq)(f:l.length<cap):v3 i y st=Nk (D.ag st.length,(st++[ao.ae []]).set i (ao.ak (l++[(kk,D.ag st.length)]))):=by unfold v3;refine rG c ?_;show dcT st[i]? _=_;refine rG hc ?_;show(match gL l kk with|some d=>Nk (d,st++[ao.ae []])|none=>_)=_;refine rG hd ?_;exact nh f
theorem FU{o k:E}{i:Nat}{p:Option (D×am)}(h:ev tab O o m st=Nk (.ag i,aa))(c:uw aa i=Nm)(h':ev tab O k m aa=Nk (y,ah))(hs:v3 i y ah=p):ev tab O (.bW o k) m st=p:=(Dv h).trans ((nh c).trans ((iW h').trans hs))
theorem yu{c:Type}{f:c->D}{l:List c}:LD (.ae (l.map f))=Nk (.int l.length):=congrArg (λn:Nat=>Nk (D.int n)) (Nu f)
theorem Kl{c:Type}{f:c->D}{l:List c}:LD (.tup (l.map f))=Nk (.int l.length):=congrArg (λn:Nat=>Nk (D.int n)) (Nu f)
theorem vw{a:E}(h:ev tab O a m st=Nk (x,aa))(hx:jB aa x=Nk x')(hd:LD x'=Nk d):ev tab O (.len a) m st=Nk (d,aa):=(iW h).trans ((lg hx).trans (ni hd))
theorem jQ{a:E}(h:ev tab O a m st=Nk (x,aa))(hx:jB aa x=Nk x')(hd:Dq x'=Nk l):ev tab O (.list Nl a) m st=Nk (.ae l,aa):=(iW h).trans ((lg hx).trans (ni hd))
theorem zM{a:E}(h:ev tab O a m st=Nk (x,aa))(hx:jB aa x=Nk x')(hd:Dq x'=Nk l){c:D×am}(hp:(.ag aa.length,aa++[.ae l])=c):ev tab O (.list Nm a) m st=Nk c:=by subst hp;exact(iW h).trans ((lg hx).trans (ni hd))
theorem yR{a:E}(h:ev tab O a m st=Nk (x,aa))(hx:jB aa x=Nk x')(hd:Dq x'=Nk l):ev tab O (.tuple a) m st=Nk (.tup l,aa):=(iW h).trans ((lg hx).trans (ni hd))
theorem Mb{a:E}{b:Bool}(h:ev tab O a m st=Nk (x,aa))(hb:LF x=Nk b):ev tab O (.dH a) m st=Nk (.bool b,aa):=(iW h).trans (ni hb)
theorem FV{o k:E}(h:ev tab O o m st=Nk (x,aa))(c:sU aa x=Nm)(h':ev tab O k m aa=Nk (y,ah))(hx:jB ah x=Nk x')(hd:vq x' y .none=Nk d):ev tab O (.cQ o k) m st=Nk (d,ah):=(iW h).trans ((nh c).trans ((iW h').trans ((lg hx).trans (ni hd))))
theorem wJ{o k a:E}(h:ev tab O o m st=Nk (x,aa))(f:sU aa x=Nm)(h':ev tab O k m aa=Nk (y,ah))(c:ev tab O a m ah=Nk (z,au))(hx:jB au x=Nk x')(hd:vq x' y z=Nk d):ev tab O (.aH o k a) m st=Nk (d,au):=(iW h).trans ((nh f).trans ((iW h').trans ((iW c).trans ((lg hx).trans (ni hd)))))
theorem py{o a:E}{i:Nat}(h:ev tab O o m st=Nk (.ag i,aa))(f:nH aa i=Nm)(h':ev tab O a m aa=Nk (d,ah))(hc:ah[i]? =Nk (.ae l))(j:l.length<cap){c:D×am}(hp:(.none,ah.set i (.ae (l++[d])))=c):ev tab O (.append o a) m st=Nk c:=by subst hp;exact(Dv h).trans ((nh f).trans ((iW h').trans ((K6 hc).trans (nh j))))
theorem zP{o a:E}{i:Nat}(h:ev tab O o m st=Nk (.ag i,aa))(f:nH aa i=Nm)(h':ev tab O a m aa=Nk (d,ah))(hc:ah[i]? =Nk (.ae l))(hx:jB ah d=Nk x')(n:Dq x'=Nk l')(j:l.length+l'.length<=cap){c:D×am}(hp:(.none,ah.set i (.ae (l++l')))=c):ev tab O (.extend o a) m st=Nk c:=by subst hp;exact(Dv h).trans ((nh f).trans ((iW h').trans ((K6 hc).trans ((lg ((lg hx).trans n)).trans (nh j)))))
theorem Ma{o:E}{i:Nat}(h:ev tab O o m st=Nk (.ag i,aa))(hc:aa[i]? =Nk (.ae l))(f:l.getLast? =Nk d){c:D×am}(hp:(d,aa.set i (.ae l.dropLast))=c):ev tab O (.pop o) m st=Nk c:=by subst hp;exact(Dv h).trans ((K6 hc).trans (ni f))
theorem KM{o k:E}{i:Nat}{j:Int}(h:ev tab O o m st=Nk (.ag i,aa))(f:nH aa i=Nm)(h':ev tab O k m aa=Nk (.int j,ah))(hc:ah[i]? =Nk (.ae l))(n:0<=j)(p:l[j.toNat]? =Nk d){c:D×am}(hp:(d,ah.set i (.ae (l.eraseIdx j.toNat)))=c):ev tab O (.cW o k) m st=Nk c:=by subst hp;exact(Dv h).trans ((nh f).trans ((Fs h').trans ((K6 hc).trans ((nh n).trans (ni p)))))
theorem KO{a:E}{i:Int}{ns:List Int}(h:ev tab O a m st=Nk (x,aa))(hx:jB aa x=Nk (.ae l))(c:mu l=Nk (i::ns)):ev tab O (.cM a) m st=Nk (.int (vf i ns),aa):=(iW h).trans ((Mj hx).trans (ni (lg c)))
theorem KN{a b:E}{i j:Int}(h:ev tab O a m st=Nk (.int i,aa))(h':ev tab O b m aa=Nk (.int j,ah)):ev tab O (.max2 a b) m st=Nk (.int (vf i [j]),ah):=(Fs h).trans ((Fs h').trans (rfl))
theorem uF{a:E}{ns:List Int}(h:ev tab O a m st=Nk (x,aa))(hx:jB aa x=Nk (.ae l))(f:l.length<64)(j:mu l=Nk ns){c:D×am}(hp:(.ag aa.length,aa++[.ae ((kb ns).map .int)])=c):ev tab O (.sorted Nm a) m st=Nk c:=by subst hp;exact(iW h).trans ((Mj hx).trans ((nh f).trans (ni j)))
theorem yS{a:E}{ps:List (Int×D)}(h:ev tab O a m st=Nk (x,aa))(hx:jB aa x=Nk (.ae l))(f:l.length<64)(j:mJ l=Nk ps)(c:sg ps):ev tab O (.sortedK Nl a) m st=Nk (.ae ((vZ ps).map (·.2)),aa):=(iW h).trans ((Mj hx).trans ((nh f).trans ((lg j).trans (Gu c))))
theorem ja{step:D->am->Option (Option D×am)}{st:am}{l:List D}(g:D->Option D):(∀d∈l,step d st=Nk (g d,st))->compLoop step l st=Nk (l.filterMap g,st):=by induction l with|nil=>exact λ_=>rfl|cons d r c=>intro h;have c:=c λe f=>h e (.tail _ f);refine(iW (h d (.head _))).trans ?_;cases hg:g d with|none=>refine rG (P8 hg) ?_;exact c|some v=>refine rG (P7 hg) ?_;exact(iW c).trans rfl
noncomputable abbrev compTurn(O:aN)(j:E)(xs fv:List Nat)(single c:Bool)(f:E)(m:Loc):D->am->Option (Option D×am):=rf tab O j xs fv single c f m
theorem FW{ag:Bool}{j:E}{xs fv:List Nat}{single:Bool}{i:It}{a b:E}{c:Bool}{f:E}(n:ev tab O a m st=Nk (x,aa))(hb:ev tab O b m aa=Nk (y,ah))(o:ki i x y ah=Nk l)(p:l.length<=cap)(hc:compLoop (compTurn O j xs fv single c f m) l ah=Nk (l',au)):ev tab O (.comp ag j xs fv single i a b c f) m st=Nk (mk ag l' au):=(iW n).trans ((iW hb).trans ((lg o).trans ((nh p).trans (iW hc))))
theorem lv{j:E}{xs fv:List Nat}{single:Bool}{i:It}{a b:E}{c:Bool}{f:E}(n:ev tab O a m st=Nk (x,aa))(hb:ev tab O b m aa=Nk (y,ah))(o:ki i x y ah=Nk l)(p:l.length<=cap)(hc:compLoop (compTurn O j xs fv single c f m) l ah=Nk (l',au)):ev tab O (.comp Nl j xs fv single i a b c f) m st=Nk (.ae l',au):=FW n hb o p hc
theorem rO{j:E}{xs fv:List Nat}{single:Bool}{i:It}{a b:E}{c:Bool}{f:E}(o:ev tab O a m st=Nk (x,aa))(hb:ev tab O b m aa=Nk (y,ah))(p:ki i x y ah=Nk l)(s:l.length<=cap)(hc:compLoop (compTurn O j xs fv single c f m) l ah=Nk (l',au)){n:D×am}(hp:(.ag au.length,au++[.ae l'])=n):ev tab O (.comp Nm j xs fv single i a b c f) m st=Nk n:=by subst hp;exact FW o hb p s hc
theorem FH{f:E}{xs fv:List Nat}{single:Bool}{c:E}{m':Loc}(j:iz xs single x (m.only fv)=Nk m')(h:ev tab O f m' st=Nk (d,aa)):compTurn O f xs fv single Nl c m x st=Nk (Nk d,aa):=(lg j).trans (iW h)
theorem JN{j:E}{xs fv:List Nat}{single:Bool}{f:E}{m':Loc}{c:Bool}(n:iz xs single x (m.only fv)=Nk m')(hc:ev tab O f m' st=Nk (.bool c,st))(h:c=Nm->ev tab O j m' st=Nk (d,st)):compTurn O j xs fv single Nm f m x st=Nk (if c then Nk d else Nq,st):=by induction c using Nw with|true=>exact(lg n).trans ((AW hc).trans (iW (h rfl)))|false=>exact(lg n).trans ((AW hc).trans (rfl))
theorem iD{n:Nat}{e:E}(h:ev tab O e m st=Nk (d,aa)){c:Fl×Loc×am}(hp:(.next,m.set n d,aa)=c):ex tab O (.assign (.name n) e) m st=Nk c:=by subst hp;exact(iW h).trans (rfl)
theorem km{xs:List Nat}{e:E}(h:ev tab O e m st=Nk (d,aa))(hd:jB aa d=Nk x)(hb:iz xs Nl x m=Nk m₁):ex tab O (.assign (.names xs) e) m st=Nk (.next,m₁,aa):=(iW h).trans (iW ((lg hd).trans (ni hb)))
theorem ln{o e:E}{f i c:Nat}{fs:List (Nat×D)}(h:ev tab O e m st=Nk (d,aa))(n:ev tab O o m aa=Nk (.ag i,ah))(hc:ah[i]? =Nk (.obj c fs))(hf:(Ja c f&&decide (fs.length<100))=Nm){j:Fl×Loc×am}(hp:(.next,m,ah.set i (.obj c (jv fs f d)))=j):ex tab O (.assign (.attr o f) e) m st=Nk j:=by subst hp;exact(iW h).trans (iW ((Dv n).trans ((Na hc).trans (nh (db hf λa b=>⟨a,of_decide_eq_true b⟩)))))
theorem vK{o k e:E}{i:Nat}{es:List (Key×D)}{kk:Key}(h:ev tab O e m st=Nk (d,aa))(p:ev tab O o m aa=Nk (.ag i,ah))(j:ev tab O k m ah=Nk (y,au))(hc:au[i]? =Nk (.ap es))(f:oW y=Nk (.v kk))(n:es.length<cap){c:Fl×Loc×am}(hp:(.next,m,au.set i (.ap (jv es kk d)))=c):ex tab O (.assign (.aj o k) e) m st=Nk c:=by subst hp;exact(iW h).trans (iW ((Dv p).trans ((iW j).trans (ni (JZ hc f n)))))
theorem Fz{o k e:E}{i:Nat}{es:List (List Int×D)}{kk:List Int}(h:ev tab O e m st=Nk (d,aa))(p:ev tab O o m aa=Nk (.ag i,ah))(j:ev tab O k m ah=Nk (y,au))(hc:au[i]? =Nk (.ak es))(f:oW y=Nk (.t kk))(n:es.length<cap){c:Fl×Loc×am}(hp:(.next,m,au.set i (.ak (jv es kk d)))=c):ex tab O (.assign (.aj o k) e) m st=Nk c:=by subst hp;exact(iW h).trans (iW ((Dv p).trans ((iW j).trans (ni (JW hc f n)))))
theorem rV{o k e:E}{i:Nat}{j:Int}(h:ev tab O e m st=Nk (d,aa))(s:ev tab O o m aa=Nk (.ag i,ah))(n:ev tab O k m ah=Nk (.int j,au))(hc:au[i]? =Nk (.ae l))(f:0<=j)(p:j<l.length){c:Fl×Loc×am}(hp:(.next,m,au.set i (.ae (l.set j.toNat d)))=c):ex tab O (.assign (.aj o k) e) m st=Nk c:=by subst hp;exact(iW h).trans (iW ((Dv s).trans ((iW n).trans (ni (JX hc f p)))))
theorem Jg{o a b e:E}{i:Nat}{p q:Int}(h:ev tab O e m st=Nk (.ae l',aa))(n:ev tab O o m aa=Nk (.ag i,ah))(j:ev tab O a m ah=Nk (.int p,au))(hb:ev tab O b m au=Nk (.int q,st'))(hc:st'[i]? =Nk (.ae l))(h1:0<=p)(h2:p<=q)(h3:q<=l.length)(f:l.length+l'.length<=cap){c:Fl×Loc×am}(hp:(.next,m,st'.set i (.ae (l.take p.toNat++l'++l.drop q.toNat)))=c):ex tab O (.assign (.slice o a b) e) m st=Nk c:=by subst hp;exact(iW h).trans (iW ((Dv n).trans ((Fs j).trans ((Fs hb).trans ((K6 hc).trans (nh ⟨h1,h2,h3,f⟩))))))
theorem mm{e:E}(h:ev tab O e m st=Nk (d,aa)):ex tab O (.expr e) m st=Nk (.next,m,aa):=iW h
theorem Jv{e:E}(h:ev tab O e m st=Nk (d,aa)):ex tab O (.ret e) m st=Nk (.ret d,m,aa):=iW h
theorem mF{t:E}{a b:Ss}{c:Bool}(h:ev tab O t m st=Nk (.bool c,aa))(hc:c=Nm)(h':exs tab O a m aa=q):ex tab O (.ite t a b) m st=q:=by subst hc;exact(AW h).trans h'
theorem pK{t:E}{a b:Ss}{c:Bool}(h:ev tab O t m st=Nk (.bool c,aa))(hc:c=Nl)(h':exs tab O b m aa=q):ex tab O (.ite t a b) m st=q:=by subst hc;exact(AW h).trans h'
theorem mD{t:E}{b:Ss}(h:gX (ev tab O t) (exs tab O b) 1000 m st=q):ex tab O (.bF t b) m st=q:=h
theorem kX{xs:List Nat}{single:Bool}{i:It}{a b:E}{body:Ss}(c:ev tab O a m st=Nk (x,aa))(hb:ev tab O b m aa=Nk (y,ah))(f:ki i x y ah=Nk l)(h:forLoop xs single (exs tab O body) l m ah=q):ex tab O (.bu xs single i a b body) m st=q:=(iW c).trans ((iW hb).trans ((lg f).trans (h)))
theorem LM:ex tab O .brk m st=Nk (.brk,m,st):=rfl
theorem Jy:ex tab O .cont m st=Nk (.cont,m,st):=rfl
theorem gN{e:E}{r:Ss}(h:ev tab O e m st=Nk (d,aa)){c:Fl×Loc×am}(hp:(.ret d,m,aa)=c):exs tab O (.cons (.ret e) r) m st=Nk c:=by subst hp;exact jP (Jv h) (λh=>nomatch h)
theorem w7{r:Ss}{c:Fl×Loc×am}(hp:(.cont,m,st)=c):exs tab O (.cons .cont r) m st=Nk c:=by subst hp;exact jP Jy (λh=>nomatch h)
theorem Ju{r:Ss}{c:Fl×Loc×am}(hp:(.brk,m,st)=c):exs tab O (.cons .brk r) m st=Nk c:=by subst hp;exact jP LM (λh=>nomatch h)
theorem gl{c:Fl×Loc×am}(hp:(.next,m,st)=c):exs tab O .nil m st=Nk c:=by subst hp;rfl
theorem j8{t:E}{a b r:Ss}{c:Bool}(h:ev tab O t m st=Nk (.bool c,aa))(hc:c=Nm)(h':exs tab O a m aa=Nk (.ret d,m₁,ah)):exs tab O (.cons (.ite t a b) r) m st=Nk (.ret d,m₁,ah):=jP (mF h hc h') (λh=>nomatch h)
theorem rW{t:E}{a b r:Ss}{c:Bool}(h:ev tab O t m st=Nk (.bool c,aa))(hc:c=Nm)(h':exs tab O a m aa=Nk (.cont,m₁,ah)):exs tab O (.cons (.ite t a b) r) m st=Nk (.cont,m₁,ah):=jP (mF h hc h') (λh=>nomatch h)
theorem jc{t:E}{a b r:Ss}{c:Bool}(h:ev tab O t m st=Nk (.bool c,aa))(hc:c=Nm)(h':exs tab O a m aa=Nk (.next,m₁,ah))(f:exs tab O r m₁ ah=q):exs tab O (.cons (.ite t a b) r) m st=q:=ad (mF h hc h') f
theorem l5{t:E}{a b r:Ss}{c:Bool}(h:ev tab O t m st=Nk (.bool c,aa))(hc:c=Nl)(h':exs tab O b m aa=Nk (.next,m₁,ah))(f:exs tab O r m₁ ah=q):exs tab O (.cons (.ite t a b) r) m st=q:=ad (pK h hc h') f
theorem jl{t:E}{a r:Ss}{c:Bool}(h:ev tab O t m st=Nk (.bool c,aa))(hc:c=Nl)(f:exs tab O r m aa=q):exs tab O (.cons (.ite t a .nil) r) m st=q:=ad (pK h hc (gl rfl)) f
theorem gR{n:Nat}{e:E}{r:Ss}(h:ev tab O e m st=Nk (d,aa))(c:m.set n d=m₁)(f:exs tab O r m₁ aa=q):exs tab O (.cons (.assign (.name n) e) r) m st=q:=ad (iD h (by exact rG c rfl)) f
theorem cr(h:d.plain=Nm):tQ st d=Nk d:=if_pos h
theorem pa:ol st []=Nk []:=rfl
theorem gW(h:tQ st d=Nk x)(h':ol st l=Nk l'):ol st (d::l)=Nk (x::l'):=(lg h).trans (lg h')
theorem tG{b:Bool}(h:l.all D.plain=Nm):(l.all D.plain||b)=Nm:=by refine rG h ?_;rfl
theorem Dk:([]:List D).all D.plain=Nm:=rfl
theorem rb(h:d.plain=Nm)(h':l.all D.plain=Nm):(d::l).all D.plain=Nm:=NH.mpr ⟨h,h'⟩
theorem lA(l:List Int):D.ax (l.map .int)=Nm:=by induction l with|nil=>rfl|cons a r c=>exact c
theorem ch(l:List Int):(il l).plain=Nm:=lA l
theorem kf(l:List Int):(it l).plain=Nm:=lA l
end
section
variable{O:aN}{m:Loc}{st s1 s2 s3 s4 s5:am}{x1 x2 x3 x4 x5:D}{a1 a2 a3 a4 a5:E}
theorem ev1(h1:ev tab O a1 m st=Nk (x1,s1)):evs tab O (.cons a1 .nil) m st=Nk ([x1],s1):=ke h1 kZ
theorem ev2(h1:ev tab O a1 m st=Nk (x1,s1))(h2:ev tab O a2 m s1=Nk (x2,s2)):evs tab O (.cons a1 (.cons a2 .nil)) m st=Nk ([x1,x2],s2):=ke h1 (ev1 h2)
theorem ev3(h1:ev tab O a1 m st=Nk (x1,s1))(h2:ev tab O a2 m s1=Nk (x2,s2))(h3:ev tab O a3 m s2=Nk (x3,s3)):evs tab O (.cons a1 (.cons a2 (.cons a3 .nil))) m st=Nk ([x1,x2,x3],s3):=ke h1 (ev2 h2 h3)
theorem ev4(h1:ev tab O a1 m st=Nk (x1,s1))(h2:ev tab O a2 m s1=Nk (x2,s2))(h3:ev tab O a3 m s2=Nk (x3,s3))(c:ev tab O a4 m s3=Nk (x4,s4)):evs tab O (.cons a1 (.cons a2 (.cons a3 (.cons a4 .nil)))) m st=Nk ([x1,x2,x3,x4],s4):=ke h1 (ev3 h2 h3 c)
theorem ev5(h1:ev tab O a1 m st=Nk (x1,s1))(h2:ev tab O a2 m s1=Nk (x2,s2))(h3:ev tab O a3 m s2=Nk (x3,s3))(c:ev tab O a4 m s3=Nk (x4,s4))(f:ev tab O a5 m s4=Nk (x5,s5)):evs tab O (.cons a1 (.cons a2 (.cons a3 (.cons a4 (.cons a5 .nil))))) m st=Nk ([x1,x2,x3,x4,x5],s5):=ke h1 (ev4 h2 h3 c f)
variable(h1:x1.plain=Nm)
include h1
theorem sn1:ol st [x1]=Nk [x1]:=gW (cr h1) pa
theorem al1:[x1].all D.plain=Nm:=rb h1 Dk
variable(h2:x2.plain=Nm)
include h2
theorem sn2:ol st [x1,x2]=Nk [x1,x2]:=gW (cr h1) (sn1 h2)
theorem al2:[x1,x2].all D.plain=Nm:=rb h1 (al1 h2)
variable(h3:x3.plain=Nm)
include h3
theorem sn3:ol st [x1,x2,x3]=Nk [x1,x2,x3]:=gW (cr h1) (sn2 h2 h3)
theorem al3:[x1,x2,x3].all D.plain=Nm:=rb h1 (al2 h2 h3)
end
section
variable{r:Loc}{x:Nat}{q:Option D}{p1 p2 p3 p4 p5 p6 p7 p8:Nat×D}(h':Loc.get r x=q)
include h'
theorem gs1(h:N0 x p1.1=Nl):Loc.get (p1::r) x=q:=lT h h'
theorem gs2(h:(N0 x p1.1||N0 x p2.1)=Nl):Loc.get (p1::p2::r) x=q:=gs1 (gs1 h' (N9.mp h).2) (N9.mp h).1
theorem gs3(h:(N0 x p1.1||(N0 x p2.1||N0 x p3.1))=Nl):Loc.get (p1::p2::p3::r) x=q:=gs1 (gs2 h' (N9.mp h).2) (N9.mp h).1
theorem gs4(h:(N0 x p1.1||(N0 x p2.1||(N0 x p3.1||N0 x p4.1)))=Nl):Loc.get (p1::p2::p3::p4::r) x=q:=gs1 (gs3 h' (N9.mp h).2) (N9.mp h).1
theorem gs5(h:(N0 x p1.1||(N0 x p2.1||(N0 x p3.1||(N0 x p4.1||N0 x p5.1))))=Nl):Loc.get (p1::p2::p3::p4::p5::r) x=q:=gs1 (gs4 h' (N9.mp h).2) (N9.mp h).1
theorem gs6(h:(N0 x p1.1||(N0 x p2.1||(N0 x p3.1||(N0 x p4.1||(N0 x p5.1||N0 x p6.1)))))=Nl):Loc.get (p1::p2::p3::p4::p5::p6::r) x=q:=gs1 (gs5 h' (N9.mp h).2) (N9.mp h).1
end
theorem wA(n:Nat)(c:Int)(h:c<44032):(OP (n+1)).F 9 [.int c]=Nk (.bool Nl,Nl):=by
 refine lP (m:=[(6,.int c)]) rfl rfl (m':=[(6,.int c)]) (fl:=.ret (.bool Nl)) (st:=[]) (d:=.bool Nl) ?_ rfl rfl;have:decide (0<=c-44032)=Nl:=by simp;lia
 delta lm;dsimp only;refine jP (Jv (vz (x:=.int 0) (y:=.int (c-44032)) (aa:=[]) ?_ ?_ ?_)) (λh=>nomatch h);rfl;rfl;simp only[kq,kr,kt,ku,this]
theorem uh(n:Nat)(c:Int)(h:c<44032):(OP (n+2)).F 19 [.int c]=Nk (.none,Nl):=by refine lP (m:=[(6,.int c)]) rfl rfl (m':=[(6,.int c)]) (fl:=.ret .none) (st:=[]) (d:=.none) ?_ rfl rfl;delta oz;dsimp only;refine jP (mF (aa:=[]) (AN (aa:=[]) (iO (aa:=[]) (r:=.bool Nl) (ds:=[.int c]) ?_ ?_ (wA n c h) rfl)) rfl ?_) (λh=>nomatch h);rfl;rfl;rfl
noncomputable def oL(l:List Int)(c:Int):Nat×Nat->Option (Nat×Nat):=λ(b,a)=>if b<a then(if(l[(b+a)/2]?).getD 0<=c then Nk ((b+a)/2+1,a)else Nk (b,(b+a)/2))else Nq
noncomputable def place(l:List Int)(c:Int):Nat:=(nt (oL l c) (l.length+1) (0,l.length)).1
theorem mid{a b:Nat}(h:a<b):a<=(a+b)/2/\(a+b)/2<b:=by omega
theorem BQ(n:Nat)(l:List Int)(c:Int)(w:l.length<900):(OP (n+1)).F 5 [il l,.int c]=Nk (.int (place l c-1),Nl):=by
 have W:=rY (test:=ev tab (OP n) (.cmp .lt (.ab 0) (.ab 1))) (body:=exs tab (OP n) (.cons (.assign (.name 3) (.bin .fdiv (.bin .add (.ab 0) (.ab 1)) (.int 2))) (.cons (.ite (.cmp .le (.aj (.ab 2) (.ab 3)) (.ab 4)) (.cons (.assign (.name 0) (.bin .add (.ab 3) (.int 1))) .nil) (.cons (.assign (.name 1) (.ab 3)) .nil)) .nil))) (λ(x:Nat×Nat)m st=>st=[]/\x.2<=l.length/\∃r,m=[(2,il l),(4,.int c),(0,.int x.1),(1,.int x.2)]++r) (λx=>x.2-x.1) (oL l c) ?_ 1000 (l.length+1) (0,l.length) ([(2,il l),(4,.int c),(0,.int 0),(1,.int l.length)]) [] (by simp only;lia) (by simp only;lia) ⟨rfl,N4 _,[],rfl⟩;refine w22 W λk v s L=>?_;obtain⟨rfl,_,r,rfl⟩:=L;suffices ∃k,exs tab (OP n) lE.body [(2,il l),(4,.int c)] []=Nk (.ret (.int (place l c-1)),k,[])by obtain⟨k,q⟩:=this;exact lP rfl rfl q rfl rfl
 delta lE;dsimp only;apply Re;refine ad (m₁:=[(2,il l),(4,.int c),(0,.int 0)]) (aa:=[]) (by rfl) ?_;refine ad (m₁:=[(2,il l),(4,.int c),(0,.int 0),(1,.int l.length)]) (aa:=[]) (iD (d:=.int l.length) (vw (x:=il l) (x':=il l) (aa:=[]) ?_ ?_ yu) rfl) ?_;rfl;rfl;refine ad (mD s) ?_;rfl;rintro⟨e,a⟩ m st ⟨rfl,h,r,rfl⟩;have g:∀b,decide (e<a)=b->ev tab (OP n) (.cmp .lt (.ab 0) (.ab 1)) ([(2,il l),(4,.int c),(0,.int e),(1,.int a)]++r) []=Nk (.bool b,[]):=λb t=>by apply iA (x:=.int e) (y:=.int a) (x':=.int e) (y':=.int a);rfl;rfl;rfl;rfl;simp[kq,kr,kt,ku,<-t]
 by_cases f:e<a;right;have u:(e+a)/2<l.length:=ON (mid f).2 h;have p:((e:Int)+a).fdiv 2=((e+a)/2:Nat):=by refine rG (Int.fdiv_eq_ediv_of_nonneg _ (by lia)) ?_;lia
 have o:(l.map D.int)[(e+a)/2]? =Nk (.int ((l[(e+a)/2]?).getD 0)):=by refine rG (Oc) (rG (NQ u) ?_);rfl
 have first:ex tab (OP n) (.assign (.name 3) (.bin .fdiv (.bin .add (.ab 0) (.ab 1)) (.int 2))) ([(2,il l),(4,.int c),(0,.int e),(1,.int a)]++r) []=Nk (.next,[(2,il l),(4,.int c),(0,.int e),(1,.int a)]++Loc.set r 3 (.int ((e+a)/2:Nat)),[]):=by refine iD (aa:=[]) (d:=.int ((e+a)/2:Nat)) (by refine rL p ?_;rfl) rfl
 have j:∀st,ev tab (OP n) (.ab 3) ([(2,il l),(4,.int c),(0,.int e),(1,.int a)]++Loc.set r 3 (.int ((e+a)/2:Nat))) st=Nk (.int ((e+a)/2:Nat),st):=λ_=>al (gs4 (an _ _ _) rfl);by_cases i:(l[(e+a)/2]?).getD 0<=c;refine⟨((e+a)/2+1,a),[(2,il l),(4,.int c),(0,.int ((e+a)/2+1:Nat)),(1,.int a)]++Loc.set r 3 (.int ((e+a)/2:Nat)),[],by simp only[oL,if_pos f,if_pos i],Nat.sub_lt_sub_left f (Nat.lt_succ_of_le (mid f).1),g _ (by simp[f]),.inl ?_,rfl,h,_,rfl⟩;refine ad first ?_
 apply ad;apply mF (c:=decide ((l[(e+a)/2]?).getD 0<=c)) (hc:=by simp[i]);exact iA (x:=.int ((l[(e+a)/2]?).getD 0)) (x':=.int ((l[(e+a)/2]?).getD 0)) (y:=.int c) (y':=.int c) (ie (x:=il l) (x':=il l) rfl (j _) rfl (kR o)) rfl rfl rfl rfl;exact ad (iD (d:=.int ((e+a)/2+1:Nat)) (kG (j _) rfl rfl rfl rfl) rfl) rfl;rfl;refine⟨(e,(e+a)/2),[(2,il l),(4,.int c),(0,.int e),(1,.int ((e+a)/2:Nat))]++Loc.set r 3 (.int ((e+a)/2:Nat)),[],by simp only[oL,if_pos f,if_neg i],UK (mid f).1 (mid f).2,g _ (by simp[f]),.inl ?_,rfl,by simp only;lia,_,rfl⟩;refine ad first ?_
 apply ad;apply pK (c:=decide ((l[(e+a)/2]?).getD 0<=c)) (hc:=by simp[i]);exact iA (x:=.int ((l[(e+a)/2]?).getD 0)) (x':=.int ((l[(e+a)/2]?).getD 0)) (y:=.int c) (y':=.int c) (ie (x:=il l) (x':=il l) rfl (j _) rfl (kR o)) rfl rfl rfl rfl;exact ad (iD (j _) rfl) rfl;rfl;left;exact⟨by simp only[oL,if_neg f],g _ (by simp[f])⟩
noncomputable abbrev rmD(a:D)(ss:List Int)(vs:List D):D:=.obj 177 [(71,a),(72,il ss),(70,.ae vs)]
theorem mq{l:List D}(h:D.ax l=Nm):∀d∈l,d.plain=Nm:=by
 induction l with
 |nil=>intro d hd;exact iM hd|cons a r ih=>
 simp only[kK,kJ,NI]at h;intro d hd;rcases Nz.mp hd with rfl|hd
 exact h.1;exact ih h.2 d hd
theorem rF{a:D}{ss:List Int}{vs:List D}(h:a.plain=Nm)(b:D.ax vs=Nm):(rmD a ss vs).plain=Nm:=by simp only[j0,jZ,jY,jX,jW,jV,jU,jT,jS,kN,kM,kL,h,b,lA,Ox]
theorem sR{l:List D}{k:Nat}{d:D}(a:1<=k)(h:l[k-1]? =Nk d):pU (.ae l) (.int ((k:Int)-1))=Nk d:=by have:=kR h;rwa [show((k-1:Nat):Int)=(k:Int)-1 by lia]at this
theorem iJ{d:D}{st:am}(h:d.plain=Nm):oy d st=Nk (d,Nl):=by rw[oy,cr h,Ok,yF h]
theorem J2(n:Nat){a:D}{ss:List Int}{vs:List D}{c:Int}{v:D}(hs:ss.length<900)(f:1<=place ss c)(d:vs[place ss c-1]? =Nk v)(hp:(rmD a ss vs).plain=Nm):(OP (n+2)).F 74 [rmD a ss vs,.int c]=Nk (v,Nl):=by
 have b:v.plain=Nm:=by simp only[j0,jZ,jY,jX,jW,jV,jU,jT,jS,kN,kM,kL,NI]at hp;exact mq hp.2.2.1 v (Op d)
 suffices ∃e,exs tab (OP (n+1)) mi.body [(52,rmD a ss vs),(6,.int c)] []=Nk (.ret v,e,[])by obtain⟨e,q⟩:=this;exact lP rfl rfl q rfl (iJ b)
 delta mi;dsimp only;apply Re;apply gN ?_ rfl;apply ie (hd:=sR f d);rfl;apply iO (hf:=BQ n ss c hs) (hs:=sn2 (ch _) rfl) (hp:=by simp[KJ,KI,KG,KF,u5,u4,u3,u2])<;>rfl;rfl
noncomputable def nm(l:List Nat)(d:D):List (Key×D):=l.map λk=>(Key.s k,d)
noncomputable def ddA:List (Key×D):=[(.s 167,.str 168),(.s 42,.int 0),(.s 165,.str 166),(.s 163,.str 164),(.s 161,.str 162),(.s 159,.str 160),(.s 157,.str 158),(.s 155,.str 156)]
noncomputable def gJ:List (Key×D):=(ddA++(nm [151,152,153] (.str 154)++(nm [51,140,141,142,143,111,144,145,146,147,148,149,150] (.bool Nl)++(nm [29,108,107,133,87,134,135,136,137,138,128,139,98] .none++(nm [129,130,131,132] (.tup [])++[(.s 126,.tup [.str 127,.tup []])])))))
theorem AO(n:Nat):(OP (n+1)).F 169 []=Nk (.ap gJ,Nl):=by kernel_rfl
noncomputable abbrev bd(ms:List (Key×D)):D:=.obj 196 [(173,.ap gJ),(172,.ap ms),(171,.ap []),(170,.ap [])]
theorem gK{ms:List (Key×D)}(h:D.aq ms=Nm):(bd ms).plain=Nm:=by simp only[j0,jZ,jY,jX,jW,jV,jU,jT,jS,kN,kM,kL,h,n9,n8,n7,PN,Pg];kernel_rfl
theorem kI{l:List (Key×D)}{k:Key}{d:D}(h:D.aq l=Nm)(e:gL l k=Nk d):d.plain=Nm:=by induction l with|nil=>simp[iw,iv,iu]at e|cons p r a=>obtain⟨f,c⟩:=p;simp only[n9,n8,n7,NI]at h;simp only[iw,iv,iu]at e;split at e;(refine sI e λb=>?_;subst b);exact h.1;exact a h.2 e
theorem Fd(n:Nat){ms:List (Key×D)}{k:Nat}{e:D}{ss:List Int}{vs:List D}{c:Int}{v:D}(f:D.aq ms=Nm)(b:gL ms (.s k)=Nk (rmD e ss vs))(hs:ss.length<900)(j:1<=place ss c)(h:vs[place ss c-1]? =Nk v):(OP (n+3)).F 176 [bd ms,.str k,.int c]=Nk (v,Nl):=by
 have a:=kI f b;have d:v.plain=Nm:=by have g:=a;simp only[j0,jZ,jY,jX,jW,jV,jU,jT,jS,kN,kM,kL,NI]at g;exact mq g.2.2.1 v (Op h)
 have l:=gK f;suffices ∃i,exs tab (OP (n+2)) mw.body [(52,bd ms),(128,.str k),(6,.int c)] []=Nk (.ret v,i,[])by obtain⟨i,q⟩:=this;exact lP rfl rfl q rfl (iJ d)
 delta mw;dsimp only;apply Re;apply j8 (c:=Nm) (hc:=rfl);apply pZ (n:=Nl) (c:=Nm) (y':=.ap ms) (x:=.str k);rfl;rfl;rfl;exact CC (by refine rG b ?_;rfl);apply gN ?_ rfl;apply to (hf:=J2 n hs j h a) (x:=rmD e ss vs) (ds:=[.int c]);apply ie (x':=.ap ms) (y:=.str k);rfl;rfl;rfl;exact b;rfl;rfl;rfl;rfl;exact sn2 a rfl;exact tG (al2 a rfl)
theorem rB(n:Nat){ms:List (Key×D)}{k:Nat}{c v:D}(e:D.aq ms=Nm)(d:gL ms (.s k)=Nq)(a:gL gJ (.s k)=Nk v):(OP (n+3)).F 176 [bd ms,.str k,c]=Nk (v,Nl):=by
 suffices ∃b,exs tab (OP (n+2)) mw.body [(52,bd ms),(128,.str k),(6,c)] []=Nk (.ret v,b,[])by obtain⟨b,q⟩:=this;exact lP rfl rfl q rfl (iJ (kI (l:=gJ) (by kernel_rfl) a))
 delta mw;dsimp only;apply Re;refine ad (pK (c:=Nl) (aa:=[]) (pZ (n:=Nl) (c:=Nl) (y':=.ap ms) (x:=.str k) (aa:=[]) (y:=.ap ms) ?_ ?_ ?_ (CC (by refine rG d ?_;rfl))) rfl (gl rfl)) ?_;rfl;rfl;rfl;apply gN ?_ rfl;apply FV (x':=.ap gJ) (y:=.str k);rfl;rfl;rfl;rfl;exact E2 a
noncomputable abbrev Kv:=LF
noncomputable def pq(a b:D):Option Bool:=match pB .eq a b with|some Nm=>(match Kv a,Kv b with|some x,Nk y=>Nk (x==y)|_,_=>Nq)|some Nl=>Nk Nl|none=>Nq
theorem FR{O:aN}{m:Loc}{st aa:am}{a:E}{x:D}{b:Bool}(h:ev tab O a m st=Nk (x,aa))(hb:Kv x=Nk b):ev tab O (.dH a) m st=Nk (.bool b,aa):=Mb h hb
theorem zW(a b:Bool):pB .eq (.bool a) (.bool b)=Nk (a==b):=by induction a using Nw<;>cases b<;>rfl
theorem Co(n:Nat){a b:D}{r:Bool}(f:a.plain=Nm)(hb:b.plain=Nm)(h:pq a b=Nk r):(OP (n+1)).F 69 [a,b]=Nk (.bool r,Nl):=by
 suffices ∃g,exs tab (OP n) lh.body [(20,a),(21,b)] []=Nk (.ret (.bool r),g,[])by obtain⟨g,q⟩:=this;exact lP rfl rfl q rfl rfl
 delta lh;dsimp only;apply Re;apply gN ?_ rfl;apply mx;revert h;delta pq;cases hc:pB .eq a b with
 |none=>exact λh=>nS h|some c=>induction c using Nw with
 |true=>cases hx:Kv a with|none=>exact λh=>nS h|some x=>cases hy:Kv b with|none=>exact λh=>nS h|some y=>refine λh=>sI h λd=>?_;subst d;refine w5 (b:=Nm) (iA (hb:=hc) (hx:=cr f) (hy:=cr hb) rfl rfl) rfl ?_;have e:ev tab (OP n) (.cmp .eq (.dH (.ab 20)) (.dH (.ab 21))) [(20,a),(21,b)] []=Nk (.bool (x==y),[]):=iA (aa:=[]) (FR (x:=a) rfl hx) (FR (x:=b) rfl hy) rfl rfl (zW x y);revert e;cases x==y with|false=>exact λe=>lY e rfl|true=>exact λe=>w5 e rfl mz
 |false=>refine λh=>sI h λd=>?_;subst d;exact lY (b:=Nl) (iA (hb:=hc) (hx:=cr f) (hy:=cr hb) rfl rfl) rfl
abbrev RM:=List Int×List D
noncomputable def GZ(r:RM)(c:Int)(v:D):Option RM:=
 let low:=place r.1 (c-1);let bB:=place r.1 (c+1)
 if 1<=bB/\c<1114111 then
  (r.2[bB-1]?).bind λbehind=>(pq behind v).bind λfh=>
   let aO:=if fh then[]else[c+1];let et:=if fh then[]else[behind]
   if low=0 then Nk (r.1.take low++(c::aO)++r.1.drop bB,r.2.take low++(v::et)++r.2.drop bB)
   else(r.2[low-1]?).bind λprev=>(pq prev v).map λfK=>
    if fK then(r.1.take low++aO++r.1.drop bB,r.2.take low++et++r.2.drop bB)
    else(r.1.take low++(c::aO)++r.1.drop bB,r.2.take low++(v::et)++r.2.drop bB)
 else Nq
theorem gO{st:am}{i:Nat}{c:ao}(h:st[i]? =Nk c):jB st (.ag i)=Nk c.toD:=by simp only[Kk,h,Ok]
theorem vJ{a b:List D}(h:a.length+b.length<=cap):F6 .add (.ae a) (.ae b)=Nk (.ae (a++b)):=nh h
theorem rM{k:Nat}(h:k<4611686018427387904):ry (Int.ofNat k)=Nm:=by simp only[ry,NI,decide_eq_true_eq,Int.ofNat_eq_natCast];lia
theorem L9:ry 0=Nm:=by decide
theorem uS{l:List D}{k:Nat}(h:k<4611686018427387904):sw (.ae l) 0 (.ofNat k)=Nk (.ae (l.take k)):=nh ⟨UM 0,Qc k,L9,rM h⟩
theorem rJ{l:List D}{k:Nat}(h:k<4611686018427387904):IE (.ae l) (.ofNat k)=Nk (.ae (l.drop k)):=nh ⟨Qc k,rM h⟩
theorem mR{st g:am}{i:Nat}{c:ao}(h:st[i]? =Nk c):(st++g)[i]? =Nk c:=by rw[NK (Nv.mp h).1,h]
theorem CR{O:aN}{s:S}{m m':Loc}{st st':am}:(exs tab O (.cons s .nil) m st=Nk (.next,m',st'))=(ex tab O s m st=Nk (.next,m',st')):=propext ⟨λh=>Mx h (λd c b a=>by cases a;exact b) (λb a=>absurd rfl a),λh=>ad h rfl⟩
theorem c9{x:Nat}(h:x<900):x<=cap:=OM (ON h (Nr rfl))
theorem LW(n:Nat){st:am}{i:Nat}{P:D}{ss:List Int}{vs:List D}{c:Int}{v:D}{r:RM}(W:st[i]? =Nk (.obj 177 [(71,P),(72,il ss),(70,.ae vs)]))(hs:ss.length<900)(b7:vs.length<900)(hp:(rmD P ss vs).plain=Nm)(a5:v.plain=Nm)(hl:place ss (c-1)<10000)(hh:place ss (c+1)<10000)(h:GZ (ss,vs) c v=Nk r)(hr:r.1.length<900/\r.2.length<900):∃g,(OP (n+2)).S 78 [.ag i,.int c,.int c,v] st=Nk (.none,(st++g).set i (.obj 177 [(71,P),(72,il r.1),(70,.ae r.2)])):=by
 have b0:jB st (.ag i)=Nk (rmD P ss vs):=gO W;obtain⟨s,Z⟩:∃k,k=place ss (c-1):=⟨_,rfl⟩;obtain⟨a,Q⟩:∃k,k=place ss (c+1):=⟨_,rfl⟩;have X:∀d∈vs,d.plain=Nm:=by simp only[j0,jZ,jY,jX,jW,jV,jU,jT,jS,kN,kM,kL,NI]at hp;exact mq hp.2.2.1
 simp only[GZ,<-Z,<-Q]at h;split at h;case isFalse=>exact nS h
 rename_i a3;rw[Og]at h;obtain⟨w,hb,h⟩:=h;rw[Og]at h;obtain⟨J,a8,h⟩:=h;have T:∀m:Loc,m.get 52=Nk (.ag i)->∀(x:Nat)(k:Int)(e:E),ev tab (OP (n+1)) e m st=Nk (.int k,st)->x=place ss k->ev tab (OP (n+1)) (.bin .add (.call Nl 5 (.cons (.attr (.ab 52) 72) (.cons e .nil))) (.int 1)) m st=Nk (.int x,st):=λm hm x k e he hx=>by have hf:=BQ n ss k hs;refine kG (x:=.int (place ss k-1)) (x':=.int (place ss k-1)) (y:=.int 1) (y':=.int 1) (aa:=st) (iO (ds:=[il ss,.int k]) (aa:=st) (ev2 (iV (al hm) b0 rfl) he) ?_ hf ?_) ir rfl rfl ?_;exact sn2 (ch _) rfl;exact tG (al1 (ch _));simp only[I9,I8];exact rG hx (rG (Int.sub_add_cancel _ _) rfl)
 suffices ∃m' g,exs tab (OP (n+1)) mh.body [(52,.ag i),(45,.int c),(46,.int c),(75,v)] st=Nk (.next,m',(st++g).set i (.obj 177 [(71,P),(72,il r.1),(70,.ae r.2)]))by refine hid λG9 k9=>?_;obtain⟨m',g,q⟩:=this;refine k9 ?_;exact⟨g,Ae rfl rfl q rfl⟩
 delta mh;dsimp only;let m3:Loc:=[(52,.ag i),(45,.int c),(46,.int c),(75,v),(0,.int s),(1,.int a),(77,w)];let C (p q:Nat):Loc:=[(52,.ag i),(45,.int c),(46,.int c),(75,v),(0,.int s),(1,.int a),(77,w),(72,.ag p),(70,.ag q)];have a0:∃m' g,exs tab (OP (n+1)) (.cons (.assign (.names [72,70]) (.tup (.cons (.ae Nm (.cons (.ab 45) .nil)) (.cons (.ae Nm (.cons (.ab 75) .nil)) .nil)))) (.cons (.ite (.and (.cons (.cmp .lt (.ab 46) (.glob 76)) (.cons (.not (.call Nl 69 (.cons (.ab 77) (.cons (.ab 75) .nil)))) .nil))) (.cons (.expr (.append (.ab 72) (.bin .add (.ab 46) (.int 1)))) (.cons (.expr (.append (.ab 70) (.ab 77))) .nil)) .nil) (.cons (.ite (.and (.cons (.cmp .gt (.ab 0) (.int 0)) (.cons (.call Nl 69 (.cons (.aj (.attr (.ab 52) 70) (.bin .sub (.ab 0) (.int 1))) (.cons (.ab 75) .nil))) .nil))) (.cons (.assign (.names [72,70]) (.tup (.cons (.aM Nm (.ab 72) (.int 1)) (.cons (.aM Nm (.ab 70) (.int 1)) .nil)))) .nil) .nil) (.cons (.assign (.attr (.ab 52) 72) (.bin .add (.bin .add (.bG Nl (.attr (.ab 52) 72) (.ab 0)) (.ab 72)) (.aM Nl (.attr (.ab 52) 72) (.ab 1)))) (.cons (.assign (.attr (.ab 52) 70) (.bin .add (.bin .add (.bG Nl (.attr (.ab 52) 70) (.ab 0)) (.ab 70)) (.aM Nl (.attr (.ab 52) 70) (.ab 1)))) .nil))))) m3 st=Nk (.next,m',(st++g).set i (.obj 177 [(71,P),(72,il r.1),(70,.ae r.2)])):=by
  refine hid λG9 k9=>?_;obtain⟨A,es⟩:∃x,x=(if J then[]else[c+1]:List Int):=⟨_,rfl⟩;obtain⟨F,I⟩:∃x,x=(if J then[]else[w]:List D):=⟨_,rfl⟩;rw[<-es,<-I]at h;obtain⟨p,ep⟩:∃p,p=st.length:=⟨_,rfl⟩;refine k9 ?_;have hi:i<p:=by refine rG ep ?_;exact(Nv.mp W).1
  have U:ex tab (OP (n+1)) (.assign (.names [72,70]) (.tup (.cons (.ae Nm (.cons (.ab 45) .nil)) (.cons (.ae Nm (.cons (.ab 75) .nil)) .nil)))) m3 st=Nk (.next,C p (p+1),st++[.ae [.int c],.ae [v]]):=by
   have a1:ev tab (OP (n+1)) (.ae Nm (.cons (.ab 45) .nil)) m3 st=Nk (.ag p,st++[.ae [.int c]]):=by apply i5 (l:=[.int c]) (hp:=by exact rG ep rfl);rfl;exact Nr rfl
   have a2:ev tab (OP (n+1)) (.ae Nm (.cons (.ab 75) .nil)) m3 (st++[.ae [.int c]])=Nk (.ag (p+1),st++[.ae [.int c],.ae [v]]):=by apply i5 (l:=[v]) (aa:=st++[.ae [.int c]]) (hp:=by refine rG ep (rG NG (rG (OJ _ _ _) ?_));rfl);rfl;exact Nr rfl
   exact km (jz (ev2 a1 a2) (Nr rfl)) rfl rfl
  obtain⟨u,K⟩:∃x,x=st++[.ae [.int c],.ae [v]]:=⟨_,rfl⟩;rw[<-K]at U;have k2:u.length=p+2:=by refine rG K (rG NG (rL ep ?_));rfl
  have M:∃t,exs tab (OP (n+1)) (.cons (.ite (.and (.cons (.cmp .lt (.ab 46) (.glob 76)) (.cons (.not (.call Nl 69 (.cons (.ab 77) (.cons (.ab 75) .nil)))) .nil))) (.cons (.expr (.append (.ab 72) (.bin .add (.ab 46) (.int 1)))) (.cons (.expr (.append (.ab 70) (.ab 77))) .nil)) .nil) .nil) (C p (p+1)) u=Nk (.next,C p (p+1),t)/\t.length=p+2/\(∀j,j<p->t[j]? =st[j]?)/\t[p]? =Nk (.ae ((c::A).map .int))/\t[p+1]? =Nk (.ae (v::F)):=by
   have g0:∀j,j<p->u[j]? =st[j]? :=λj hj=>by exact rG K (rG (NK (by rw[<-ep];exact hj)) rfl)
   have g1:u[p]? =Nk (.ae [.int c]):=by refine rG K (rG ep ?_);simp
   have g2:u[p+1]? =Nk (.ae [v]):=by refine rG K (rG ep ?_);simp
   have hf:=Co n (X _ (Op hb)) a5 a8;have H:ev tab (OP (n+1)) (.and (.cons (.cmp .lt (.ab 46) (.glob 76)) (.cons (.not (.call Nl 69 (.cons (.ab 77) (.cons (.ab 75) .nil)))) .nil))) (C p (p+1)) u=Nk (.bool (!J),u):=by
    apply mx;refine w5 (b:=Nm) (aa:=u) ?_ rfl ?_;refine iA (x:=.int c) (y:=.int 1114111) (x':=.int c) (y':=.int 1114111) (aa:=u) ?_ ?_ ?_ ?_ ?_;rfl;rfl;rfl;rfl;simp only[kq,kr,kt,ku,a3.2,decide_true];have e:ev tab (OP (n+1)) (.not (.call Nl 69 (.cons (.ab 77) (.cons (.ab 75) .nil)))) (C p (p+1)) u=Nk (.bool (!J),u):=by have a7:=X _ (Op hb);refine AN (iO (ds:=[w,v]) (aa:=u) ?_ ?_ hf ?_);rfl;exact sn2 (by assumption) (by assumption);exact tG (al2 (by assumption) (by assumption))
    generalize hz:(!J)=z at e⊢;induction z using Nw;exact lY e rfl;exact w5 e rfl mz
   cases hl:J with
   |true=>rw[hl]at H es I;exact i15 u (jl H rfl (gl rfl)) k2 g0 (by refine rG g1 (rG es ?_);rfl) (by refine rG g2 (rG I ?_);rfl)|false=>
   rw[hl]at H es I;have i1:nH u p=Nm:=by simp only[nH,g1]
   have g3:(u.set p (.ae [.int c,.int (c+1)]))[p+1]? =Nk (.ae [v]):=by exact rG (NM (by lia)) (rG g2 rfl)
   have i2:nH (u.set p (.ae [.int c,.int (c+1)])) (p+1)=Nm:=by simp only[nH,g3]
   refine i15 ((u.set p (.ae [.int c,.int (c+1)])).set (p+1) (.ae [v,w])) (jc H rfl (ad (aa:=u.set p (.ae [.int c,.int (c+1)])) (mm (py (i:=p) (l:=[.int c]) (d:=.int (c+1)) (aa:=u) (ah:=u) ?_ i1 ?_ g1 (Nr rfl) rfl)) (ad (mm (py (i:=p+1) (l:=[v]) (d:=w) (aa:=u.set p (.ae [.int c,.int (c+1)])) (ah:=u.set p (.ae [.int c,.int (c+1)])) ?_ i2 ?_ g3 (Nr rfl) rfl)) (gl rfl))) (gl rfl)) (by simp[k2]) (λj hj=>?_) ?_ ?_;rfl;rfl;rfl;rfl;exact rG (NM (by lia)) (rG (NM (by lia)) (rG (g0 j hj) rfl));refine rG (NM (by lia)) (rG (NJ (by lia)) (rG es ?_));rfl;refine rG (NJ (by simp;lia)) (rG I ?_);rfl
  refine hid λG9 k9=>?_;obtain⟨t,M,k3,g0,g1,g2⟩:=M;refine k9 ?_;have b2:jB t (.ag i)=Nk (rmD P ss vs):=gO (by exact rG (g0 i hi) (rG W rfl));have N:∃B p' Y S V,exs tab (OP (n+1)) (.cons (.ite (.and (.cons (.cmp .gt (.ab 0) (.int 0)) (.cons (.call Nl 69 (.cons (.aj (.attr (.ab 52) 70) (.bin .sub (.ab 0) (.int 1))) (.cons (.ab 75) .nil))) .nil))) (.cons (.assign (.names [72,70]) (.tup (.cons (.aM Nm (.ab 72) (.int 1)) (.cons (.aM Nm (.ab 70) (.int 1)) .nil)))) .nil) .nil) .nil) (C p (p+1)) t=Nk (.next,C p' Y,B)/\p<=p'/\p<=Y/\p<=B.length/\(∀j,j<p->B[j]? =st[j]?)/\B[p']? =Nk (.ae (S.map .int))/\B[Y]? =Nk (.ae V)/\r=(ss.take s++S++ss.drop a,vs.take s++V++vs.drop a):=by
   by_cases R:s=0;rw[if_pos R]at h;refine i58 t p (p+1) (c::A) (v::F) (jl (c:=Nl) (aa:=t) (mx (lY (b:=Nl) (iA (x:=.int s) (y:=.int 0) (x':=.int s) (y':=.int 0) (aa:=t) ?_ ?_ ?_ ?_ ?_) rfl)) rfl (gl rfl)) (N4 _) (OZ _) (by lia) g0 g1 g2 ((NE h).symm);rfl;rfl;rfl;rfl;simp[kq,kr,kt,ku,R];rw[if_neg R,Og]at h;obtain⟨a6,L,h⟩:=h;rw[Ol]at h;obtain⟨O,a9,h⟩:=h;have hf:=Co n (X _ (Op L)) a5 a9;have H:ev tab (OP (n+1)) (.and (.cons (.cmp .gt (.ab 0) (.int 0)) (.cons (.call Nl 69 (.cons (.aj (.attr (.ab 52) 70) (.bin .sub (.ab 0) (.int 1))) (.cons (.ab 75) .nil))) .nil))) (C p (p+1)) t=Nk (.bool O,t):=by
    apply mx;refine w5 (b:=Nm) (aa:=t) ?_ rfl ?_;refine iA (x:=.int s) (y:=.int 0) (x':=.int s) (y':=.int 0) (aa:=t) ?_ ?_ ?_ ?_ ?_;rfl;rfl;rfl;rfl;simp[kq,kr,kt,ku];lia;have e:ev tab (OP (n+1)) (.call Nl 69 (.cons (.aj (.attr (.ab 52) 70) (.bin .sub (.ab 0) (.int 1))) (.cons (.ab 75) .nil))) (C p (p+1)) t=Nk (.bool O,t):=by have a7:=X _ (Op L);refine iO (ds:=[a6,v]) (aa:=t) (ke (aa:=t) (ie (x:=.ae vs) (y:=.int ((s:Int)-1)) (x':=.ae vs) (aa:=t) ?_ ?_ ?_ (sR (by lia) L)) ?_) ?_ hf ?_;exact iV (al rfl) (by assumption) rfl;rfl;rfl;rfl;exact sn2 (by assumption) (by assumption);exact tG (al2 (by assumption) (by assumption))
    induction O using Nw;exact lY e rfl;exact w5 e rfl mz
   induction O using Nw with
   |false=>exact i58 t p (p+1) (c::A) (v::F) (jl H rfl (gl rfl)) (N4 _) (OZ _) (by lia) g0 g1 g2 (by refine rL h ?_;rfl)|true=>
   have a1:ev tab (OP (n+1)) (.aM Nm (.ab 72) (.int 1)) (C p (p+1)) t=Nk (.ag (p+2),t++[.ae (A.map .int)]):=by refine zO (aa:=t) (x:=.ag p) (x':=.ae ((c::A).map .int)) (i:=1) (d:=.ae (A.map .int)) ?_ ?_ (gO g1) (rJ (k:=1) (by decide)) (by refine rL k3 ?_;rfl);rfl;rfl
   have a2:ev tab (OP (n+1)) (.aM Nm (.ab 70) (.int 1)) (C p (p+1)) (t++[.ae (A.map .int)])=Nk (.ag (p+3),t++[.ae (A.map .int),.ae F]):=by refine zO (aa:=t++[.ae (A.map .int)]) (ah:=t++[.ae (A.map .int)]) (x:=.ag (p+1)) (x':=.ae (v::F)) (i:=1) (d:=.ae F) ?_ ?_ (gO (mR g2)) (rJ (k:=1) (by decide)) (by show mk _ _ _=_;simp[mk,k3]);rfl;rfl
   refine i58 (t++[.ae (A.map .int),.ae F]) (p+2) (p+3) A F (jc H rfl (ad (km (jz (ev2 a1 a2) (Nr rfl)) rfl rfl) (gl rfl)) (gl rfl)) (by lia) (by lia) (by simp;lia) (λj hj=>by rw[NK (by lia),g0 j hj]) (by rw[<-k3];simp) (by rw[show p+3=t.length+1 by lia];simp) (by rw[<-h];rfl)
  obtain⟨B,p',Y,S,V,N,b5,b6,k4,f0,f1,f2,er⟩:=N;have a4:B[i]? =Nk (.obj 177 [(71,P),(72,il ss),(70,.ae vs)]):=by exact rG (f0 i hi) (rG W rfl)
  have b3:=gO a4;rw[er]at hr⊢;simp only[NG]at hr;have b1:(ss.take s).length+S.length<=cap/\(ss.take s).length+S.length+(ss.drop a).length<=cap/\(vs.take s).length+V.length<=cap/\(vs.take s).length+V.length+(vs.drop a).length<=cap:=by exact⟨c9 (N6 (Pl _ _) hr.1),c9 hr.1,c9 (N6 (Pl _ _) hr.2),c9 hr.2⟩
  have w1:ev tab (OP (n+1)) (.bin .add (.bin .add (.bG Nl (.attr (.ab 52) 72) (.ab 0)) (.ab 72)) (.aM Nl (.attr (.ab 52) 72) (.ab 1))) (C p' Y) B=Nk (il (ss.take s++S++ss.drop a),B):=by refine kG (x:=il (ss.take s++S)) (x':=il (ss.take s++S)) (y:=il (ss.drop a)) (y':=il (ss.drop a)) (aa:=B) (kG (x:=il (ss.take s)) (x':=il (ss.take s)) (y:=.ag p') (y':=il S) (aa:=B) (CX (x:=il ss) (x':=il ss) (j:=s) (aa:=B) (ah:=B) (d:=il (ss.take s)) ?_ ?_ ?_ ?_ ?_) ?_ ?_ ?_ ?_) (zO (x:=il ss) (x':=il ss) (i:=a) (aa:=B) (ah:=B) (d:=il (ss.drop a)) ?_ ?_ ?_ ?_ ?_) ?_ ?_ ?_;exact iV (al rfl) (by assumption) rfl;rfl;rfl;refine rG (show il (ss.take s)=.ae ((ss.map D.int).take s)by simp[R4]) ?_;exact uS (by lia);rfl;rfl;rfl;exact gO f1;refine rG (vJ (by simp only[Nu];exact b1.1)) ?_;simp;exact iV (al rfl) (by assumption) rfl;rfl;rfl;refine rG (show il (ss.drop a)=.ae ((ss.map D.int).drop a)by simp[TF]) ?_;exact rJ (by lia);rfl;rfl;rfl;refine rG (vJ (by simp only[Nu,NG];exact b1.2.1)) ?_;simp
  obtain⟨G,e5⟩:∃x,x=B.set i (.obj 177 [(71,P),(72,il (ss.take s++S++ss.drop a)),(70,.ae vs)]):=⟨_,rfl⟩;have h5:G[i]? =Nk (.obj 177 [(71,P),(72,il (ss.take s++S++ss.drop a)),(70,.ae vs)]):=by exact rG e5 (rG (NJ (by lia)) rfl)
  have b4:=gO h5;have q5:G[Y]? =Nk (.ae V):=by exact rG e5 (rG (NM (by lia)) (rG f2 rfl))
  have w2:ev tab (OP (n+1)) (.bin .add (.bin .add (.bG Nl (.attr (.ab 52) 70) (.ab 0)) (.ab 70)) (.aM Nl (.attr (.ab 52) 70) (.ab 1))) (C p' Y) G=Nk (.ae (vs.take s++V++vs.drop a),G):=by refine kG (x:=.ae (vs.take s++V)) (x':=.ae (vs.take s++V)) (y:=.ae (vs.drop a)) (y':=.ae (vs.drop a)) (aa:=G) (kG (x:=.ae (vs.take s)) (x':=.ae (vs.take s)) (y:=.ag Y) (y':=.ae V) (aa:=G) (CX (x:=.ae vs) (x':=.ae vs) (j:=s) (aa:=G) (ah:=G) (d:=.ae (vs.take s)) ?_ ?_ ?_ ?_ ?_) ?_ ?_ ?_ ?_) (zO (x:=.ae vs) (x':=.ae vs) (i:=a) (aa:=G) (ah:=G) (d:=.ae (vs.drop a)) ?_ ?_ ?_ ?_ ?_) ?_ ?_ ?_;exact iV (al rfl) (by assumption) rfl;rfl;rfl;exact uS (by lia);rfl;rfl;rfl;exact gO q5;exact rG (vJ b1.2.2.1) rfl;exact iV (al rfl) (by assumption) rfl;rfl;rfl;exact rJ (by lia);rfl;rfl;rfl;exact rG (vJ (by simp only[NG];exact b1.2.2.2)) rfl
  have e6:G.set i (.obj 177 [(71,P),(72,il (ss.take s++S++ss.drop a)),(70,.ae (vs.take s++V++vs.drop a))])=(st++B.drop p).set i (.obj 177 [(71,P),(72,il (ss.take s++S++ss.drop a)),(70,.ae (vs.take s++V++vs.drop a))]):=by refine rG e5 (rG (P1 _) ?_);congr 1;refine List.ext_getElem? λj=>?_;by_cases hj:j<p;exact rG (NK (by lia)) (rG (f0 j hj) rfl);refine rG (Ti (by lia)) (rG (UY) (rL ep ?_));congr 1;lia
  refine i21 (C p' Y) (B.drop p) ?_;refine rL e6 ?_;have s2:=M;have s3:=N;refine ad U ?_;rw[CR]at s2 s3;refine ad s2 (ad s3 (ad (aa:=G) (ln (o:=.ab 52) (f:=72) (i:=i) w1 ?_ a4 ?_ (by refine rG e5 ?_;rfl)) (ad (ln (o:=.ab 52) (f:=70) (i:=i) w2 ?_ h5 ?_ rfl) (gl rfl))));rfl;rfl;rfl;rfl
 obtain⟨m',g,q⟩:=a0;refine i21 m' g ?_;refine jl (c:=decide (c<c)) (aa:=st) ?_ (by simp) (gR (d:=.int s) (m₁:=[(52,.ag i),(45,.int c),(46,.int c),(75,v),(0,.int s)]) (T _ rfl s (c-1) (.bin .sub (.ab 45) (.int 1)) ?_ Z) rfl (gR (d:=.int a) (m₁:=[(52,.ag i),(45,.int c),(46,.int c),(75,v),(0,.int s),(1,.int a)]) (T _ rfl a (c+1) (.bin .add (.ab 46) (.int 1)) ?_ Q) rfl (gR (d:=w) (aa:=st) (m₁:=m3) (ie (x:=.ae vs) (x':=.ae vs) (y:=.int ((a:Int)-1)) (aa:=st) ?_ ?_ ?_ (sR a3.1 hb)) rfl q)));rfl;rfl;rfl;exact iV (al rfl) (by assumption) rfl;rfl;rfl
mutual
theorem iC(f:Nat->Option D):∀d:D,d.plain=Nm->iZ f d=Nk d|.ag _=>λh=>fT h|.tup l=>λh=>ni (snapL_plain f l h)|.ae l=>λh=>ni (snapL_plain f l h)|.ap l=>λh=>ni (snapK_plain f l h)|.ak l=>λh=>ni (snapT_plain f l h)|.obj c l=>λh=>ni (snapF_plain f l h)|.none=>λ_=>rfl|.bool _=>λ_=>rfl|.int _=>λ_=>rfl|.str _=>λ_=>rfl
termination_by structural d=>d
theorem snapL_plain(f:Nat->Option D):∀l:List D,D.ax l=Nm->snapL f l=Nk l|[]=>λ_=>rfl|d::r=>λh=>db h λa b=>(lg (iC f d a)).trans (lg (snapL_plain f r b))
termination_by structural l=>l
theorem snapK_plain(f:Nat->Option D):∀l:List (Key×D),D.aq l=Nm->snapK f l=Nk l|[]=>λ_=>rfl|(k,d)::r=>λh=>db h λa b=>(lg (iC f d a)).trans (lg (snapK_plain f r b))
termination_by structural l=>l
theorem snapT_plain(f:Nat->Option D):∀l:List (List Int×D),D.plainT l=Nm->snapT f l=Nk l|[]=>λ_=>rfl|(k,d)::r=>λh=>db h λa b=>(lg (iC f d a)).trans (lg (snapT_plain f r b))
termination_by structural l=>l
theorem snapF_plain(f:Nat->Option D):∀l:List (Nat×D),D.bf l=Nm->snapF f l=Nk l|[]=>λ_=>rfl|(k,d)::r=>λh=>db h λa b=>(lg (iC f d a)).trans (lg (snapF_plain f r b))
termination_by structural l=>l
end
theorem jK{st:am}{i:Nat}{c:ao}(h:st[i]? =Nk c)(hp:c.toD.plain=Nm):tQ st (.ag i)=Nk c.toD:=by show(st[i]?).bind (λc=>iZ (jD st 5) c.toD)=_;rw[h,O2,iC _ _ hp]
noncomputable def oC(nm:Nat):D:=(gL gJ (.s nm)).getD .none
theorem my(nm:Nat):(oC nm).plain=Nm:=by unfold oC;cases h:gL gJ (.s nm)with|none=>rfl|some d=>exact kI (l:=gJ) (by kernel_rfl) h
noncomputable abbrev ri(nm:Nat)(r:RM):ao:=.obj 177 [(71,oC nm),(72,il r.1),(70,.ae r.2)]
abbrev Ms:=List (Nat×Nat×RM)
noncomputable abbrev mr(ms:Ms):List (Key×D):=ms.map λp=>(.s p.1,.ag p.2.1)
structure aI(outs:List Nat)(st:am)(a k k1 k2:Nat)(ms:Ms):Prop where
 obj:st[a]? =Nk (.obj 196 [(173,.ap gJ),(172,.ag k),(171,.ag k1),(170,.ag k2)])
 dk:st[k]? =Nk (.ap (ms.map λp=>(.s p.1,.ag p.2.1)))
 e1:st[k1]? =Nk (.ap [])
 e2:st[k2]? =Nk (.ap [])
 eZ:∀p∈ms,st[p.2.1]? =Nk (ri p.1 p.2.2)
 pl:∀p∈ms,D.ax p.2.2.2=Nm
 nd:(outs++a::k::k1::k2::ms.map (·.2.1)).Nodup
 lo:∀j∈outs,j<st.length
noncomputable def jC(ms:Ms):List (Nat×RM):=ms.map λp=>(p.1,p.2.2)
noncomputable def msD(ms:List (Nat×RM)):List (Key×D):=ms.map λp=>(.s p.1,rmD (oC p.1) p.2.1 p.2.2)
theorem iT(f:Nat->Option D)(k:Nat)(d a:D)(r b:List (Nat×D))(h:iZ f d=Nk a)(c:snapF f r=Nk b):snapF f ((k,d)::r)=Nk ((k,a)::b):=(lg h).trans (lg c)
theorem t8{st:am}{n:Nat}:∀{ms:Ms},(∀p∈ms,st[p.2.1]? =Nk (ri p.1 p.2.2))->(∀p∈ms,D.ax p.2.2.2=Nm)->snapK (jD st (n+1)) (ms.map λp=>(.s p.1,.ag p.2.1))=Nk (msD (jC ms))
 |[],_,_=>rfl|p::r,h,hp=>by
  have e:iZ (jD st (n+1)) (.ag p.2.1)=Nk (rmD (oC p.1) p.2.2.1 p.2.2.2):=by show(st[p.2.1]?).bind (λc=>iZ (jD st n) c.toD)=_;refine rG (h p (.head _)) (rG (O2 _ _) ?_);exact iC _ _ (rF (my _) (hp p (.head _)))
  exact(lg e).trans (lg (t8 (ms:=r) (λq a=>h q (.tail _ a)) (λq a=>hp q (.tail _ a))))
theorem si{outs:List Nat}{st:am}{a k b d:Nat}{ms:Ms}(h:aI outs st a k b d ms):tQ st (.ag a)=Nk (bd (msD (jC ms))):=by
 show(st[a]?).bind (λc=>iZ (jD st 5) c.toD)=_;refine rG h.obj (rG (O2 _ _) ?_);have e:iZ (jD st 5) (.ap gJ)=Nk (.ap gJ):=iC _ _ (by kernel_rfl);have f:iZ (jD st 5) (.ag k)=Nk (.ap (msD (jC ms))):=by show(st[k]?).bind (λc=>iZ (jD st 4) c.toD)=_;refine rG h.dk (rG (O2 _ _) ?_);simp only[DH,DG,DF,DE,su,sq,sp,so,sn,sl,t8 h.eZ h.pl,Ok]
 have g:iZ (jD st 5) (.ag b)=Nk (.ap []):=by show(st[b]?).bind (λc=>iZ (jD st 4) c.toD)=_;refine rG h.e1 ?_;rfl
 have i:iZ (jD st 5) (.ag d)=Nk (.ap []):=by show(st[d]?).bind (λc=>iZ (jD st 4) c.toD)=_;refine rG h.e2 ?_;rfl
 simp only[DH,DG,DF,DE,su,sq,sp,so,sn,sl,iT _ _ _ _ _ _ e (iT _ _ _ _ _ _ f (iT _ _ _ _ _ _ g (iT _ _ _ _ _ [] i (show snapF _ []=Nk []from rfl)))),Ok]
theorem BP{ms:Ms}(hp:∀p∈ms,D.ax p.2.2.2=Nm):D.aq (msD (jC ms))=Nm:=by induction ms with|nil=>rfl|cons p r b=>show(_&&_)=Nm;refine rG (rF (my _) (hp p (.head _))) (rG (Pg _) ?_);exact b λq a=>hp q (.tail _ a)
theorem aI.foot{outs:List Nat}{st:am}{a k d e:Nat}{ms:Ms}(h:aI outs st a k d e ms){j:Nat}(b:j∈a::k::d::e::ms.map (·.2.1)):∃c,st[j]? =Nk c:=by
 simp only[Nz,Nx]at b;rcases b with rfl|rfl|rfl|rfl|⟨p,hp,rfl⟩
 exact⟨_,h.obj⟩;exact⟨_,h.dk⟩;exact⟨_,h.e1⟩;exact⟨_,h.e2⟩;exact⟨_,h.eZ p hp⟩
theorem aI.other{outs b:List Nat}{st st':am}{a k g i:Nat}{ms:Ms}(h:aI outs st a k g i ms)(f:∀j c,j∉outs->st[j]? =Nk c->st'[j]? =Nk c)(u:b.Nodup)(v:∀j∈b,j∈outs\/st.length<=j)(s:∀j∈b,j<st'.length):aI b st' a k g i ms:=by
 have n:=Oj.mp h.nd;have d:∀j∈a::k::g::i::ms.map (·.2.1),j∉outs:=λj r t=>n.2.2 j t j r rfl;refine⟨f _ _ (d _ (by simp)) h.obj,f _ _ (d _ (by simp)) h.dk,f _ _ (d _ (by simp)) h.e1,f _ _ (d _ (by simp)) h.e2,λp l=>f _ _ (d _ ?_) (h.eZ p l),h.pl,?_,s⟩;simp only[Nz,Nx];exact .inr (.inr (.inr (.inr ⟨p,l,rfl⟩)));refine Oj.mpr ⟨u,n.2.1,λx w y m e=>?_⟩;subst e;rcases v x w with q|q
 exact d x m q;obtain⟨c,o⟩:=h.foot m;exact absurd (Nv.mp o).1 (Pa.mpr q)
theorem tI{ms:Ms}{nm:Nat}:gL (ms.map λp=>(Key.s p.1,D.ag p.2.1)) (.s nm)=(gL ms nm).map λp=>.ag p.1:=by induction ms with|nil=>rfl|cons p r a=>simp only[Ny,iw,iv,iu,Key.s.injEq];split;rfl;exact a
theorem lZ{a b:Type}[DecidableEq a]{l:List (a×b)}{k:a}{v:b}(h:gL l k=Nk v):(k,v)∈l:=by induction l with|nil=>simp[iw,iv,iu]at h|cons p r c=>simp only[iw,iv,iu]at h;split at h;(refine sI h λd=>?_;subst d);rename_i e;subst e;exact .head _;exact .tail _ (c h)
theorem pG{α β:Type}[DecidableEq α]{l:List (α×β)}{k:α}(h:gL l k=Nq):∀p∈l,p.1≠k:=by
 induction l with
 |nil=>intro p hp;exact iM hp|cons p r ih=>
 simp only[iw,iv,iu]at h;split at h;exact sN h;intro q hq;rcases Nz.mp hq with rfl|hq
 rename_i e;exact λz=>e z.symm;exact ih h q hq
theorem pE{a b:Type}[DecidableEq a]{l:List (a×b)}{k:a}{v:b}(h:∀p∈l,p.1≠k):jv l k v=l++[(k,v)]:=by induction l with|nil=>rfl|cons p r d=>simp only[j6,j5,j4];refine rG (if_neg (λe=>h p (.head _) e.symm)) (rG (d λq c=>h q (.tail _ c)) ?_);rfl
theorem GY(n:Nat){st:am}{p:Nat}{d:D}(h:st[p]? =Nk (.obj 177 [])):(OP (n+1)).S 73 [.ag p,d] st=Nk (.none,st.set p (.obj 177 [(71,d),(72,il [0]),(70,.ae [d])])):=by have a:=(Nv.mp h).1;refine Ae (m:=[(52,.ag p),(71,d)]) (fn:=lI) (fl:=.next) rfl rfl (m':=[(52,.ag p),(71,d)]) ?_ rfl;delta lI;dsimp only;refine ad (aa:=st.set p (.obj 177 [(71,d)])) (ln (i:=p) (aa:=st) (ah:=st) (d:=d) ?_ ?_ h rfl rfl) (ad (aa:=st.set p (.obj 177 [(71,d),(72,il [0])])) (ln (i:=p) (aa:=st.set p (.obj 177 [(71,d)])) (ah:=st.set p (.obj 177 [(71,d)])) (d:=.ae [.int 0]) ?_ ?_ (by rw[NJ a]) rfl (by rw[P1];rfl)) (ad (aa:=st.set p (.obj 177 [(71,d),(72,il [0]),(70,.ae [d])])) (ln (i:=p) (aa:=st.set p (.obj 177 [(71,d),(72,il [0])])) (ah:=st.set p (.obj 177 [(71,d),(72,il [0])])) (d:=.ae [d]) ?_ ?_ (by rw[NJ a]) rfl (by rw[P1];rfl)) (gl rfl)));rfl;rfl;rfl;rfl;rfl;rfl
theorem EG(n:Nat){outs:List Nat}{st:am}{a k k1 k2:Nat}{ms:Ms}(h:aI outs st a k k1 k2 ms)(hlen:ms.length<1000)(nm:Nat):∃st' i r ms',(OP (n+2)).S 178 [.ag a,.str nm] st=Nk (.ag i,st')/\aI outs st' a k k1 k2 ms'/\gL ms' nm=Nk (i,r)/\st.length<=st'.length/\(∀j∈outs,st'[j]? =st[j]?)/\r=(gL (jC ms) nm).getD ([0],[oC nm])/\((ms'=ms/\(gL (jC ms) nm).isSome)\/(gL ms nm=Nq/\ms'=ms++[(nm,i,r)])):=by
 have hla:=gO h.obj;have hlk:jB st (.ag k)=Nk (.ap (mr ms)):=gO h.dk;have estrip:gL (jC ms) nm=(gL ms nm).map (·.2):=by
  have:∀l:Ms,gL (jC l) nm=(gL l nm).map (·.2):=λl=>by induction l with|nil=>rfl|cons p r ih=>simp only[jC,Ny,iw,iv,iu];split;rfl;exact ih
  exact this ms
 have cond:∀b,(gL ms nm).isSome=b->ev tab (OP (n+1)) (.bz Nm (.ab 128) (.attr (.ab 52) 172)) [(52,.ag a),(128,.str nm)] st=Nk (.bool (Nm !=b),st):=λb hb=>by refine pZ (x:=.str nm) (y:=.ag k) (y':=.ap (mr ms)) (aa:=st) (c:=b) ?_ (iV (x:=.ag a) (x':=ao.toD _) (aa:=st) ?_ hla rfl) hlk ?_;rfl;rfl;exact CC (by simp only[mr,tI,QS,hb])
 cases e:gL ms nm with
 |some p=>obtain⟨i,r⟩:=p;refine i47 st i r ms (Ae (m:=[(52,.ag a),(128,.str nm)]) (fn:=i4) (fl:=.ret (.ag i)) (m':=[(52,.ag a),(128,.str nm)]) rfl rfl ?_ rfl) h e (N4 _) (λ_ _=>rfl) (by refine rG estrip (rG e ?_);rfl) (.inl ⟨rfl,by refine rG estrip (rG e ?_);rfl⟩);delta i4;dsimp only;refine jl (cond Nm (by refine rG e ?_;rfl)) rfl (gN (ie (x:=.ag k) (x':=.ap (mr ms)) (y:=.str nm) (d:=.ag i) (aa:=st) (iV (x:=.ag a) (x':=ao.toD _) (aa:=st) ?_ hla rfl) ?_ hlk ?_) rfl);rfl;rfl;exact EQ (by simp only[mr,tI,e,Ok])
 |none=>
 refine hid λG9 k9=>?_;obtain⟨i,ei⟩:∃i,i=st.length:=⟨_,rfl⟩;have nd:=Oj.mp h.nd;have lk:k<i:=by refine rG ei ?_;exact(Nv.mp h.dk).1
 obtain⟨st1,e1⟩:∃x,x=st++[ri nm ([0],[oC nm])]:=⟨_,rfl⟩;have hnew:ev tab (OP (n+1)) (.new 177 (.cons (.cQ (.attr (.ab 52) 173) (.ab 128)) .nil)) [(52,.ag a),(128,.str nm)] st=Nk (.ag i,st1):=by refine rG ei ?_;refine E7 (ds:=[oC nm]) (g:=73) (aa:=st) (ev1 (FV (x:=.ap gJ) (x':=.ap gJ) (y:=.str nm) (aa:=st) (iV (x:=.ag a) (x':=ao.toD _) (aa:=st) ?_ hla rfl) rfl ?_ rfl ?_)) rfl ?_;rfl;rfl;rfl;refine rG (GY n (p:=st.length) (by simp)) (rG e1 ?_);simp
 obtain⟨st2,e2⟩:∃x,x=st1.set k (.ap (mr (ms++[(nm,i,([0],[oC nm]))]))):=⟨_,rfl⟩;refine k9 ?_;have l1:st1.length=i+1:=by refine rG e1 (rG ei ?_);simp
 have l2:st2.length=i+1:=by refine rG e2 ?_;simpa using l1
 have other:∀j,j≠k->j<i->st2[j]? =st[j]? :=λj hj hji=>by exact rG e2 (rG (NM (O9 hj)) (rG e1 (rG (NK (by lia)) rfl)))
 have low:∀j∈a::k::k1::k2::ms.map (·.2.1),j<i:=λj hj=>by obtain⟨c,hc⟩:=h.foot hj;refine rG ei ?_;exact(Nv.mp hc).1
 have ndf:=nd.2.1;simp only[NZ,Nz,not_or,Nx,not_exists,not_and]at ndf;have hk2:st2[k]? =Nk (.ap (mr (ms++[(nm,i,([0],[oC nm]))]))):=by exact rG e2 (rG (NJ (by lia)) rfl)
 have hi2:st2[i]? =Nk (ri nm ([0],[oC nm])):=by refine rG e2 (rG (NM (by lia)) (rG e1 (rG ei ?_)));simp
 have D2:aI outs st2 a k k1 k2 (ms++[(nm,i,([0],[oC nm]))]):=by
  refine⟨?_,hk2,?_,?_,λp hp=>?_,λp hp=>?_,?_,λj hj=>?_⟩;exact rG (other a ndf.1.1 (low _ (by simp))) (rG h.obj rfl);exact rG (other k1 (λq=>ndf.2.1.1 q.symm) (low _ (by simp))) (rG h.e1 rfl);exact rG (other k2 (λq=>ndf.2.1.2.1 q.symm) (low _ (by simp))) (rG h.e2 rfl);rcases NW.mp hp with hp|hp
  exact rG (other p.2.1 (λq=>ndf.2.1.2.2 p hp q) (low _ (by simp only[Nz,Nx];exact .inr (.inr (.inr (.inr ⟨p,hp,rfl⟩)))))) (rG (h.eZ p hp) rfl);rw[NC]at hp;subst hp;exact hi2;rcases NW.mp hp with hp|hp
  exact h.pl p hp;rw[NC]at hp;subst hp;simp only[kK,kJ,my,Ox];refine rG Pq ?_;show(outs++a::k::k1::k2::(ms.map (·.2.1)++[i])).Nodup;refine rG (by simp:outs++a::k::k1::k2::(ms.map (·.2.1)++[i])=(outs++a::k::k1::k2::ms.map (·.2.1))++[i]) ?_;refine Oj.mpr ⟨h.nd,by simp,λx hx y hy e=>?_⟩;rw[NC]at hy;have:x<i:=by
   rcases NW.mp hx with hx|hx
   refine rG ei ?_;exact h.lo x hx;exact low x hx
  lia;have:=h.lo j hj;lia
 have gen:∀l:Ms,gL l nm=Nq->gL (l++[(nm,i,([0],[oC nm]))]) nm=Nk (i,([0],[oC nm])):=λl=>by induction l with|nil=>intro _;simp[iw,iv,iu]|cons p r ih=>intro q;simp only[iw,iv,iu,P2]at q⊢;split at q;exact sN q;rename_i ne;refine rG (if_neg ne) ?_;exact ih q
 refine i47 st2 i ([0],[oC nm]) (ms++[(nm,i,([0],[oC nm]))]) (Ae (m:=[(52,.ag a),(128,.str nm)]) (fn:=i4) (fl:=.ret (.ag i)) (m':=[(52,.ag a),(128,.str nm)]) rfl rfl ?_ rfl) D2 (gen ms e) (by lia) (λj hj=>?_) (by refine rG estrip (rG e ?_);rfl) (.inr ⟨rfl,rfl⟩);delta i4;dsimp only;refine jc (ah:=st2) (m₁:=[(52,.ag a),(128,.str nm)]) (cond Nl (by refine rG e ?_;rfl)) rfl (ad (vK (i:=k) (es:=mr ms) (kk:=.s nm) (aa:=st1) (ah:=st1) (au:=st1) (y:=.str nm) hnew (iV (x:=.ag a) (x':=ao.toD _) (aa:=st1) ?_ (gO (by refine rG e1 ?_;exact mR h.obj)) rfl) ?_ (by exact rG e1 (rG (NK (by lia)) (rG h.dk rfl))) rfl ?_ ?_) (gl rfl)) (gN (ie (x:=.ag k) (x':=.ap (mr (ms++[(nm,i,([0],[oC nm]))]))) (y:=.str nm) (d:=.ag i) (aa:=st2) (iV (x:=.ag a) (x':=ao.toD _) (aa:=st2) ?_ (gO D2.obj) rfl) ?_ (gO hk2) ?_) rfl);rfl;rfl;simp only[mr,Nu,cap];lia;rw[e2,pE];rw[mr,mr,Pq];rfl;intro p hp q;refine w12 (Nx.mp hp) λz hz z1=>?_;subst z1;exact pG e z hz (by simpa using q);rfl;rfl;simp only[kQ,op,mr,tI];have:gL (ms++[(nm,i,([0],[oC nm]))]) nm=Nk (i,([0],[oC nm])):=by exact gen ms e
 refine rG this ?_;rfl;have hj':=h.lo j hj;exact other j (λq=>nd.2.2 j hj k (by simp) q) (by lia)
theorem nr{b:Type}{go:b->Option b}(P:b->Prop)(h:∀x y,go x=Nk y->P x->P y):∀n x,P x->P (nt go n x)|0,_,a=>a|n+1,x,a=>by simp only[GR,u7];split;exact a;rename_i y e;exact nr P h n y (h x y e a)
theorem zl(l:List Int)(c:Int):place l c<=l.length:=by have:=nr (go:=oL l c) (λx:Nat×Nat=>x.1<=x.2/\x.2<=l.length) (λx y e d=>by simp only[oL]at e;split at e;rename_i a;split at e;(refine sI e λb=>?_;subst b);exact⟨(mid a).2,d.2⟩;(refine sI e λb=>?_;subst b);exact⟨(mid a).1,NN (OM (mid a).2) d.2⟩;exact nS e) (l.length+1) (0,l.length) ⟨NX _,N4 _⟩;exact NN this.1 this.2
noncomputable def Ka(r:RM):Bool:=decide (r.1.length<900)&&decide (r.2.length<900)&&D.ax r.2
noncomputable def ub(r:RM)(c:Int)(v:D):Option RM:=if Ka r then(GZ r c v).bind λa=>if Ka a then Nk a else Nq else Nq
theorem rR{nm i:Nat}{r:RM}:∀{l:Ms}{a:RM},gL l nm=Nk (i,a)->(jv l nm (i,r)).map (·.2.1)=l.map (·.2.1)|[],_,h=>by simp[iw,iv,iu]at h|(f,d,g)::l,a,h=>by simp only[iw,iv,iu]at h;simp only[j6,j5,j4];split at h;rename_i e;(refine spI h λb c=>?_;subst b;subst c);rw[if_pos e];rfl;rename_i e;rw[if_neg e,Ny,Ny,rR h]
theorem vI{nm i:Nat}{r:RM}:∀{l:Ms}{r0:RM},gL l nm=Nk (i,r0)->(l.map (·.2.1)).Nodup->∀p∈jv l nm (i,r),p=(nm,i,r)\/(p∈l/\p.2.1≠i)
 |[],_,h,_=>by simp[iw,iv,iu]at h|(qn,qi,qr)::l,r0,h,nd=>by
  simp only[iw,iv,iu]at h;simp only[j6,j5,j4];rw[Ny,NZ]at nd;split at h;rename_i e;(refine spI h λq0 q1=>?_;subst q0;subst q1);refine rG (if_pos e) ?_;intro p hp;rcases Nz.mp hp with rfl|hp
  left;exact rL e rfl;exact .inr ⟨.tail _ hp,λz=>nd.1 (Nx.mpr ⟨p,hp,z⟩)⟩;rename_i e;refine rG (if_neg e) ?_;intro p hp;rcases Nz.mp hp with rfl|hp
  exact .inr ⟨.head _,λz=>nd.1 (Nx.mpr ⟨_,lZ h,z.symm⟩)⟩;rcases vI h nd.2 p hp with z|⟨z,z'⟩
  exact .inl z;exact .inr ⟨.tail _ z,z'⟩
theorem t5{nm i:Nat}{r:RM}:∀{l:Ms},jC (jv l nm (i,r))=jv (jC l) nm r|[]=>rfl|p::l=>by have e:jC (p::l)=(p.1,p.2.2)::jC l:=rfl;rw[e];simp only[j6,j5,j4];split;rfl;show(p.1,p.2.2)::jC (jv l nm (i,r))=_;rw[t5]
theorem rQ{a b:Type}[DecidableEq a](l:List (a×b))(k:a)(v:b):(jv l k v).length<=l.length+1:=by induction l with|nil=>simp[j6,j5,j4]|cons p r c=>simp only[j6,j5,j4];split<;>simp<;>omega
theorem uJ(n:Nat){outs:List Nat}{st:am}{a k P Q:Nat}{ms:Ms}(h:aI outs st a k P Q ms)(J:ms.length<1000)(nm:Nat){c:Int}{v:D}(Y:v.plain=Nm){r:RM}(z:ub ((gL (jC ms) nm).getD ([0],[oC nm])) c v=Nk r):∃A G,(OP (n+3)).S 175 [.ag a,.str nm,.int c,.int c,v] st=Nk (.none,A)/\aI outs A a k P Q G/\st.length<=A.length/\(∀j∈outs,A[j]? =st[j]?)/\jC G=jv (jC ms) nm r/\G.length<=ms.length+1:=by
 refine w47 (EG n h J nm) λf i u y q1 w C l1 o1 V K=>?_;rw[<-V]at z;unfold ub at z;split at z;case isFalse=>exact nS z
 rename_i H;rw[Og]at z;refine w12 z λr' N z=>?_;split at z;case isFalse=>exact nS z
 rename_i I;refine hid λG9 Z=>?_;cases z;simp only[Ka,NI,decide_eq_true_eq]at H I;have F:=lZ C;have o:f[i]? =Nk (ri nm u):=w.eZ _ F;obtain⟨g,q2⟩:=LW n o H.1.1 H.1.2 (rF (ss:=u.1) (my nm) (w.pl _ F)) Y (by have:=zl u.1 (c-1);lia) (by have:=zl u.1 (c+1);lia) N I.1;refine Z ?_;have W:i<f.length:=(Nv.mp o).1;have R:=Oj.mp w.nd;have t:=R.2.1;simp only[NZ,Nz,not_or,Nx,not_exists,not_and]at t;have b:∀j c',j≠i->f[j]? =Nk c'->((f++g).set i (ri nm r))[j]? =Nk c':=λj c' E e=>by rw[NM (O9 E),mR e]
 refine i26 ((f++g).set i (ri nm r)) (jv y nm (i,r)) (Ae (fn:=pX) (m:=[(52,.ag a),(128,.str nm),(45,.int c),(46,.int c),(75,v)]) (fl:=.next) (m':=[(52,.ag a),(128,.str nm),(45,.int c),(46,.int c),(75,v)]) rfl rfl ?_ rfl) ?_ ?_ (λj E=>?_) ?_ ?_;delta pX;dsimp only;refine ad (mm (d:=.none) (tn (x:=.ag i) (c:=177) (g:=78) (ds:=[.int c,.int c,v]) (aa:=f) (ah:=f) (fs:=[(71,oC nm),(72,il u.1),(70,.ae u.2)]) (tn (x:=.ag a) (c:=196) (g:=178) (ds:=[.str nm]) (aa:=st) (ah:=st) (fs:=[(173,.ap gJ),(172,.ag k),(171,.ag P),(170,.ag Q)]) ?_ (gO h.obj) rfl rfl ?_ q1) (gO o) rfl rfl ?_ q2)) (gl rfl);rfl;rfl;rfl;refine⟨b _ _ (λe=>t.1.2.2.2 _ F e.symm) w.obj,?_,b _ _ (λe=>t.2.2.1.2 _ F e.symm) w.e1,b _ _ (λe=>t.2.2.2.1 _ F e.symm) w.e2,λp L=>?_,λp L=>?_,?_,λj E=>?_⟩;have U:mr (jv y nm (i,r))=mr y:=by
  have B:∀(l:Ms)(u:RM),gL l nm=Nk (i,u)->mr (jv l nm (i,r))=mr l:=λl=>by induction l with|nil=>intro u q;simp[iw,iv,iu]at q|cons p l O=>obtain⟨pn,pi,pr⟩:=p;intro u q;simp only[iw,iv,iu]at q;simp only[j6,j5,j4,mr];split at q;rename_i e;cases q;rw[if_pos e];rfl;rename_i e;rw[if_neg e,Ny,Ny];rw[show(jv l nm (i,r)).map _=mr l from O u q]
  exact B y u C
 show((f++g).set i (ri nm r))[k]? =Nk (.ap (mr (jv y nm (i,r))));rw[U];exact b _ _ (λe=>t.2.1.2.2 _ F e.symm) w.dk;rcases vI C t.2.2.2.2 p L with rfl|⟨hp',eD⟩
 rw[NJ (by simp;lia)];exact b _ _ eD (w.eZ p hp');rcases vI C t.2.2.2.2 p L with rfl|⟨hp',eD⟩
 exact I.2;exact w.pl p hp';rw[rR C];exact w.nd;have:=w.lo j E;simp;lia;simp;lia;have M:=w.lo j E;rw[NM (O9 (λe=>R.2.2 j E i (by simp only[Nz,Nx];exact .inr (.inr (.inr (.inr ⟨_,F,rfl⟩)))) e)),NK M,o1 j E];rw[t5];rcases K with⟨rfl,_⟩|⟨s,rfl⟩
 rfl;have T:jv (jC (ms++[(nm,i,u)])) nm r=jC ms++[(nm,r)]:=by
  have B:∀l:Ms,gL l nm=Nq->jv (jC (l++[(nm,i,u)])) nm r=jC l++[(nm,r)]:=λl=>by induction l with|nil=>intro _;simp[jC,j6,j5,j4]|cons p l O=>intro q;simp only[iw,iv,iu]at q;split at q;exact sN q;rename_i ne;have:=O q;simp only[jC,P2,Ny,j6,j5,j4]at this⊢;rw[if_neg ne,this]
  exact B ms s
 rw[T,pE];intro p L;refine w12 (Nx.mp L) λq X z1=>?_;subst z1;exact pG s q X;rcases K with⟨rfl,_⟩|⟨s,rfl⟩
 have:=congrArg PG (rR (r:=r) C);simp only[Nu]at this;lia;have:=congrArg PG (rR (r:=r) C);simp only[Nu,NG,NU,O8]at this;lia
theorem C4(n:Nat){st:am}{a:Nat}(h:st[a]? =Nk (.obj 196 [])):(OP (n+2)).S 174 [.ag a] st=Nk (.none,(st++[ao.ap [],ao.ap [],ao.ap []]).set a (.obj 196 [(173,.ap gJ),(172,.ag st.length),(171,.ag (st.length+1)),(170,.ag (st.length+2))])):=by
 have k:=(Nv.mp h).1;refine Ae (m:=[(52,.ag a)]) (fn:=oS) (fl:=.next) rfl rfl (m':=[(52,.ag a)]) ?_ rfl;delta oS;dsimp only;obtain⟨l,b⟩:∃l,l=st.length:=⟨_,rfl⟩;refine rL b ?_;have e:ex tab (OP (n+1)) (.assign (.attr (.ab 52) 173) (.call Nl 169 .nil)) [(52,.ag a)] st=Nk (.next,[(52,.ag a)],st.set a (.obj 196 [(173,.ap gJ)])):=by refine ln (i:=a) (aa:=st) (ah:=st) (iO (ds:=[]) (aa:=st) kZ pa (AO n) rfl) ?_ h rfl rfl;rfl
 have f:ex tab (OP (n+1)) (.assign (.attr (.ab 52) 172) (.dict Nm .nil)) [(52,.ag a)] (st.set a (.obj 196 [(173,.ap gJ)]))=Nk (.next,[(52,.ag a)],(st++[ao.ap []]).set a (.obj 196 [(173,.ap gJ),(172,.ag l)])):=by refine ln (i:=a) (c:=196) (fs:=[(173,.ap gJ)]) (d:=.ag l) (aa:=(st++[ao.ap []]).set a (.obj 196 [(173,.ap gJ)])) (ah:=(st++[ao.ap []]).set a (.obj 196 [(173,.ap gJ)])) (px (aa:=st.set a (.obj 196 [(173,.ap gJ)])) uu ?_) ?_ ?_ rfl ?_;exact rG OX (rG b (rG (Ps _ _ (by lia)) rfl));rfl;exact rG (NJ (by simp;lia)) rfl;refine rG (P1 _) ?_;rfl
 have g:ex tab (OP (n+1)) (.assign (.attr (.ab 52) 171) (.dict Nm .nil)) [(52,.ag a)] ((st++[ao.ap []]).set a (.obj 196 [(173,.ap gJ),(172,.ag l)]))=Nk (.next,[(52,.ag a)],(st++[ao.ap [],ao.ap []]).set a (.obj 196 [(173,.ap gJ),(172,.ag l),(171,.ag (l+1))])):=by refine ln (i:=a) (c:=196) (fs:=[(173,.ap gJ),(172,.ag l)]) (d:=.ag (l+1)) (aa:=(st++[ao.ap [],ao.ap []]).set a (.obj 196 [(173,.ap gJ),(172,.ag l)])) (ah:=(st++[ao.ap [],ao.ap []]).set a (.obj 196 [(173,.ap gJ),(172,.ag l)])) (px (aa:=(st++[ao.ap []]).set a (.obj 196 [(173,.ap gJ),(172,.ag l)])) uu ?_) ?_ ?_ rfl ?_;refine rG OX (rG NG (rL b (rG (show st++[ao.ap [],.ap []]=(st++[ao.ap []])++[.ap []]by simp) (rG (Ps (t:=[ao.ap []]) (s:=st++[ao.ap []]) _ _ (by simp;lia)) ?_))));rfl;rfl;exact rG (NJ (by simp;lia)) rfl;refine rG (P1 _) ?_;rfl
 have j:ex tab (OP (n+1)) (.assign (.attr (.ab 52) 170) (.dict Nm .nil)) [(52,.ag a)] ((st++[ao.ap [],ao.ap []]).set a (.obj 196 [(173,.ap gJ),(172,.ag l),(171,.ag (l+1))]))=Nk (.next,[(52,.ag a)],(st++[ao.ap [],ao.ap [],ao.ap []]).set a (.obj 196 [(173,.ap gJ),(172,.ag l),(171,.ag (l+1)),(170,.ag (l+2))])):=by refine ln (i:=a) (c:=196) (fs:=[(173,.ap gJ),(172,.ag l),(171,.ag (l+1))]) (d:=.ag (l+2)) (aa:=(st++[ao.ap [],ao.ap [],ao.ap []]).set a (.obj 196 [(173,.ap gJ),(172,.ag l),(171,.ag (l+1))])) (ah:=(st++[ao.ap [],ao.ap [],ao.ap []]).set a (.obj 196 [(173,.ap gJ),(172,.ag l),(171,.ag (l+1))])) (px (aa:=(st++[ao.ap [],ao.ap []]).set a (.obj 196 [(173,.ap gJ),(172,.ag l),(171,.ag (l+1))])) uu ?_) ?_ ?_ rfl ?_;refine rG OX (rG NG (rL b (rG (show st++[ao.ap [],.ap [],.ap []]=(st++[ao.ap [],ao.ap []])++[.ap []]by simp) (rG (Ps (t:=[ao.ap []]) (s:=st++[ao.ap [],ao.ap []]) _ _ (by simp;lia)) ?_))));rfl;rfl;exact rG (NJ (by simp;lia)) rfl;refine rG (P1 _) ?_;rfl
 exact ad e (ad f (ad g (ad j (gl rfl))))
theorem Fc(n:Nat){m:Loc}{st:am}{outs:List Nat}(h:outs.Nodup)(f:∀j∈outs,j<st.length):∃b,ev tab (OP (n+2)) (.new 196 .nil) m st=Nk (.ag st.length,b)/\aI outs b st.length (st.length+1) (st.length+2) (st.length+3) []/\(∀j,j<st.length->b[j]? =st[j]?)/\st.length<=b.length:=by
 have q:=C4 n (st:=st++[.obj 196 []]) (a:=st.length) (by simp);have e:∀x:ao,(st++[ao.obj 196 []]++[ao.ap [],ao.ap [],ao.ap []]).set st.length x=st++[x,ao.ap [],ao.ap [],ao.ap []]:=λx=>by simp
 rw[e]at q;refine i14 _ (E7 (ds:=[]) (g:=174) (aa:=st) kZ rfl q) ⟨?_,?_,?_,?_,λp d=>(iM d),λp d=>(iM d),?_,λj c=>by have:=f j c;simp;lia⟩ (λj c=>by exact rG (NK c) rfl) (by simp);simp;simp;simp;simp;refine Oj.mpr ⟨h,by simp,λx i y k e=>?_⟩;have:=f x i;simp at k;lia
noncomputable def uE(es:List (Int×D)):List (Key×D):=es.map λq=>(.i q.1,q.2)
noncomputable def gM(l:List (Nat×List (Int×D))):D:=.ap (l.map λp=>(.s p.1,.ap (uE p.2)))
noncomputable def jR(nm:Nat)(M:List (Nat×RM))(es:List (Int×D)):Option (List (Nat×RM)):=es.foldlM (λM e=>(ub ((gL M nm).getD ([0],[oC nm])) e.1 e.2).map (jv M nm)) M
noncomputable def kB(M:List (Nat×RM))(l:List (Nat×List (Int×D))):Option (List (Nat×RM)):=l.foldlM (λM p=>jR p.1 M p.2) M
noncomputable def kh{a b:Type}[DecidableEq a]:List (a×b)->Bool|[]=>Nm|(k,_)::r=>(gL r k).isNone&&kh r
theorem EM{a b:Type}[DecidableEq a]:kh ([]:List (a×b))=Nm:=rfl
theorem EL{a b:Type}[DecidableEq a]{k:a}{v:b}{r:List (a×b)}:kh ((k,v)::r)=((gL r k).isNone&&kh r):=rfl
theorem tJ{α β:Type}[DecidableEq α]{l:List (α×β)}(h:kh l=Nm):∀p∈l,gL l p.1=Nk p.2:=by
 induction l with
 |nil=>intro p hp;exact iM hp|cons q r ih=>
 obtain⟨k,v⟩:=q;simp only[EM,EL,NI]at h;intro p hp;simp only[iw,iv,iu];rcases Nz.mp hp with rfl|hp
 simp;split;rename_i e;rw[<-e]at h;rw[ih h.2 p hp]at h;simp at h;exact ih h.2 p hp
theorem rT{es:List (Int×D)}{c:Int}:gL (uE es) (.i c)=gL es c:=by induction es with|nil=>rfl|cons p r a=>show gL ((Key.i p.1,p.2)::uE r) (.i c)=_;simp only[iw,iv,iu,Key.i.injEq];split;rfl;exact a
theorem tK{l:List (Nat×List (Int×D))}{nm:Nat}:gL (l.map λp=>(Key.s p.1,D.ap (uE p.2))) (.s nm)=(gL l nm).map λa=>.ap (uE a):=by induction l with|nil=>rfl|cons p r b=>simp only[Ny,iw,iv,iu,Key.s.injEq];split;rfl;exact b
theorem nJ{e g:Type}{f:g->e->Option g}{M N:g}{p q:List e}{a:e}(h:(p++a::q).foldlM f M=Nk N):∃b c,p.foldlM f M=Nk b/\f b a=Nk c/\(p++[a]).foldlM f M=Nk c:=by rw[UZ]at h;simp only[Pw,Og]at h;refine w12 h λb i d=>?_;rw[Ph]at d;simp only[Pw,Og]at d;refine w12 d λc j _=>?_;refine i23 b c i j ?_;refine rG UZ (rG i ?_);simp[j]
theorem AD(n:Nat){st:am}{outs:List Nat}(hn:outs.Nodup)(hl:∀j∈outs,j<st.length){l:List (Nat×List (Int×D))}{M:List (Nat×RM)}(hM:kB [] l=Nk M)(hk:kh l=Nm)(a3:∀p∈l,kh p.2=Nm)(hp:∀p∈l,∀q∈p.2,q.2.plain=Nm)(hc:∀p q r,l=p++q::r->∀M',kB [] p=Nk M'->M'.length+q.2.length<1000):∃b a k N O i,(OP (n+4)).S 197 [gM l] st=Nk (.ag a,b)/\aI outs b a k N O i/\jC i=M/\(∀j∈outs,b[j]? =st[j]?)/\st.length<=b.length:=by
 refine w14 (Fc (n+1) (m:=[(195,gM l)]) (st:=st) hn hl) λK q0 P o0 l0=>?_;generalize ea:st.length=a at q0 P;generalize ek:a+1=k at P;generalize b4:a+2=N at P;generalize b5:a+3=O at P;have L:=jF (xs:=[128]) (single:=Nm) (f:=λp:Nat×List (Int×D)=>D.str p.1) (body:=exs tab (OP (n+3)) (.cons (.bu [6] Nm .plain (.aj (.ab 195) (.ab 128)) .none (.cons (.expr (.ba (.ab 27) 113 (.cons (.ab 128) (.cons (.ab 6) (.cons (.ab 6) (.cons (.aj (.aj (.ab 195) (.ab 128)) (.ab 6)) .nil)))))) .nil)) .nil)) (λt m b=>∃M' i r,kB [] t=Nk M'/\aI outs b a k N O i/\jC i=M'/\(∀j∈outs,b[j]? =st[j]?)/\st.length<=b.length/\m=[(195,gM l),(27,.ag a)]++r) l [] [(195,gM l),(27,.ag a)] K ⟨[],[],[],rfl,P,rfl,(λj hj=>o0 j (hl j hj)),l0,rfl⟩ ?_;refine w22 L λm' b hx L=>?_;refine w36 L λM' i r B D' hs ho W z1=>?_;subst z1;rw[NO,hM]at B;refine hid λG9 Z=>?_;(refine sI B λq0=>?_;subst q0);refine Z ?_;refine i65 b a k N O i (Ae (fn:=oR) (m:=[(195,gM l)]) (fl:=.ret (.ag a)) (m':=[(195,gM l),(27,.ag a)]++r) rfl rfl ?_ rfl) D' hs ho (by lia);delta oR;dsimp only;refine gR (d:=.ag a) (m₁:=[(195,gM l),(27,.ag a)]) q0 rfl (ad (kX (x:=gM l) (y:=.none) (l:=l.map λp=>.str p.1) (aa:=K) (ah:=K) ?_ gY ?_ hx) ?_);rfl;simp only[i9,i8,i7,i6,gM,nG,nF,nE,nD,Pe];rfl;rfl;rintro t ⟨o,u⟩ a0 m E C ⟨M',i,r,B,D',hs,ho,W,rfl⟩;rw[NO]at C;have z:(o,u)∈l:=by refine rG C ?_;simp
 refine hid λG9 Z=>?_;refine w23 (nJ (f:=λ(M:List (Nat×RM))(p:Nat×List (Int×D))=>jR p.1 M p.2) (by refine rL C ?_;exact hM)) λe Q e1 e2 e3=>?_;have:e=M':=by have:=B.symm.trans e1;injection this with this;exact this.symm
 subst this;have V:gL l o=Nk u:=tJ hk _ z;have b7:e.length+u.length<1000:=hc t (o,u) a0 C e e1;obtain⟨r2,T⟩:∃x,x=Loc.set r 128 (.str o):=⟨_,rfl⟩;refine Z ?_;have G:Loc.get r2 128=Nk (.str o):=by refine rG T ?_;exact an _ _ _
 have L:=jF (xs:=[6]) (single:=Nm) (f:=λp:Int×D=>D.int p.1) (body:=exs tab (OP (n+3)) (.cons (.expr (.ba (.ab 27) 113 (.cons (.ab 128) (.cons (.ab 6) (.cons (.ab 6) (.cons (.aj (.aj (.ab 195) (.ab 128)) (.ab 6)) .nil)))))) .nil)) (λt m b=>∃M' i r,jR o e t=Nk M'/\aI outs b a k N O i/\jC i=M'/\(∀j∈outs,b[j]? =st[j]?)/\st.length<=b.length/\i.length<=e.length+t.length/\m=[(195,gM l),(27,.ag a)]++r/\Loc.get r 128=Nk (.str o)) u [] ([(195,gM l),(27,.ag a)]++r2) E ⟨e,i,r2,rfl,D',hs,ho,W,by refine rL hs ?_;simp[jC],rfl,G⟩ ?_;refine w22 L λm' b hx L=>?_;refine w38 L λM' a8 r' U D1 a7 a5 a4 _ z2 _=>?_;subst z2;have:M'=Q:=by rw[NO]at U;exact NE (U.symm.trans e2)
 subst this;refine⟨[(195,gM l),(27,.ag a)]++r2,_,b,by refine rG T ?_;rfl,.inl ?_,M',a8,r',e3,D1,a7,a5,a4,rfl⟩;refine ad (kX (x:=.ap (uE u)) (y:=.none) (l:=u.map λp=>.int p.1) (aa:=E) (ah:=E) (ie (x:=gM l) (x':=gM l) (y:=.str o) (aa:=E) ?_ (al (gs2 G rfl)) rfl ?_) gY ?_ hx) (gl rfl);rfl;simp only[gM,kQ,op,tK,V,Ok];simp only[i9,i8,i7,i6,nG,nF,nE,nD,uE,Pe];rfl;rintro a1 ⟨c,v⟩ b0 m F h ⟨M',b9,r3,a2,D2,Y,a6,b6,b8,rfl,hg⟩;rw[NO]at h;have A:(c,v)∈u:=by refine rG h ?_;simp
 refine hid λG9 Z=>?_;refine w23 (nJ (by refine rL h ?_;exact e2)) λR b2 f1 f2 f3=>?_;have:R=M':=NE (f1.symm.trans a2);subst this;rw[Ol]at f2;refine w12 f2 λrr X z3=>?_;subst z3;have b3:a1.length<u.length:=by refine rG h ?_;simp
 rw[<-Y]at X;refine w26 (uJ n D2 (by lia) o (hp _ z _ A) X) λb1 a9 q3 D3 l3 o3 s3 n3=>?_;obtain⟨J,I⟩:∃x,x=Loc.set r3 6 (.int c):=⟨_,rfl⟩;refine Z ?_;have g6:Loc.get J 6=Nk (.int c):=by refine rG I ?_;exact an _ _ _
 have w:Loc.get J 128=Nk (.str o):=by refine rG I (rG (gI _ _ _ _ rfl) ?_);exact hg
 refine⟨[(195,gM l),(27,.ag a)]++J,[(195,gM l),(27,.ag a)]++J,b1,by rw[I];rfl,.inl ?_,_,a9,J,f3,D3,by rw[s3,Y],λj hj=>by rw[o3 j hj,a6 j hj],by lia,by rw[NG,Ov];lia,rfl,w⟩;have H:∀s,ev tab (OP (n+3)) (.ab 128) ([(195,gM l),(27,.ag a)]++J) s=Nk (.str o,s):=λs=>al (gs2 w rfl);have l6:∀s,ev tab (OP (n+3)) (.ab 6) ([(195,gM l),(27,.ag a)]++J) s=Nk (.int c,s):=λs=>al (gs2 g6 rfl);refine ad (mm (d:=.none) (tn (x:=.ag a) (c:=196) (g:=175) (ds:=[.str o,.int c,.int c,v]) (aa:=F) (ah:=F) (fs:=[(173,.ap gJ),(172,.ag k),(171,.ag N),(170,.ag O)]) ?_ (gO D2.obj) rfl rfl (ev4 (H _) (l6 _) (l6 _) (ie (x:=.ap (uE u)) (x':=.ap (uE u)) (y:=.int c) (aa:=F) (ie (x:=gM l) (x':=gM l) (y:=.str o) (aa:=F) ?_ (H _) rfl ?_) (l6 _) rfl ?_)) q3)) (gl rfl);rfl;rfl;simp only[gM,kQ,op,tK,V,Ok];simp only[kQ,op,rT];exact tJ (a3 _ z) _ A
noncomputable def cfE(a b:Bool):List (Int×D):=[(65,.ap [(.s 93,it [97])]),(75,.ap [(.s 93,it [107])]),(90,.ap [(.s 93,it [122])]),(73,.ap [(.s 93,it [105]),(.s 90,it [305])]),(304,.ap [(.s 92,it [105,769]),(.s 90,it [105])]),(8490,.ap [(.s 93,it [107])]),(453,.ap [(.s 93,it [122])]),(223,.ap [(.s 92,if b then it [97,769]else it [97,107])])]++(if a then[(193,.ap [(.s 93,it [225])])]else[])
noncomputable def lcE:List (Int×D):=[(65,.int 97),(75,.int 107),(90,.int 122),(73,.int 105),(304,.int 105),(193,.int 225),(8490,.int 107),(453,.int 122)]
noncomputable def ucE:List (Int×D):=[(97,.int 65),(107,.int 75),(122,.int 90),(105,.int 73),(305,.int 73),(225,.int 193),(453,.int 90)]
noncomputable def dmE(a b c:Bool):List (Int×D):=(13189,.tup [.str 193,if c then it [75,173,73]else it [75,122]])::((if a then[(193,.tup [.str 25,it [65,769]]),(225,.tup [.str 25,it [97,769]])]else[])++(if b then[(8490,.tup [.str 25,it [75]])]else[]))
noncomputable def gcE:List (Int×D):=[(453,.str 192),(223,.str 187),(13189,.str 191),(173,.str 190),(769,.str 189),(803,.str 189),(65,.str 188),(75,.str 188),(90,.str 188),(73,.str 188),(304,.str 188),(193,.str 188),(8490,.str 188),(97,.str 187),(107,.str 187),(122,.str 187),(105,.str 187),(305,.str 187),(225,.str 187)]
noncomputable def diE(a:Bool):List (Int×D):=if a then[(173,.bool Nm)]else[]
set_option genSizeOf false in
set_option genInjectivity false in
set_option genCtorIdx false in
structure Bk where
 x0:Bool
 x1:Bool
 x2:Bool
 x3:Bool
 x4:Bool
 x5:Bool
 w1:Int
 w2:Int
noncomputable def oj(b:Bk):List (Nat×List (Int×D)):=[(87,cfE b.x1 b.x4),(107,lcE),(108,ucE),(29,dmE b.x0 b.x2 b.x5),(167,gcE),(111,diE b.x3),(42,[(769,.int b.w1),(803,.int b.w2)])]
noncomputable def tC(n:Nat)(a b:Int):Bk:=⟨n%2==1,n/2%2==1,n/4%2==1,n/8%2==1,n/16%2==1,n/32%2==1,a,b⟩
theorem Mh(n:Nat)(a b:Int):((Qr 64).map λk:Nat=>(OP (n+1)).F 194 [.int k,.tup [.int a,.int b]])=(Qr 64).map λk=>Nk (gM (oj (tC k a b)),Nl):=by kernel_rfl
theorem La(n:Nat)(a b:Int){k:Nat}(c:k<64):(OP (n+1)).F 194 [.int k,.tup [.int a,.int b]]=Nk (gM (oj (tC k a b)),Nl):=by simpa[c]using(congrArg (λl:List (Option (D×Bool))=>l[k]?) (Mh n a b))
noncomputable def ce:List Int:=[97,107,122,105,305,65,75,90,73,304,193,225,8490,223,453,13189,173,769,803]
theorem yU{O:aN}{m:Loc}{st:am}:ev tab O (.glob 214) m st=Nk (.tup (ce.map .int),st):=zN rfl
def lr(w:Nat)(st:am)(k:Nat):Prop:=∃(c:List Int)(a:Nat)(b:Int),st[w]? =Nk (.ae [il c,.int a,.int b])/\a<=k/\0<=b/\b<2147483647/\c.length<1000
theorem mul_int{a b:Int}(c:ry a=Nm)(hb:ry b=Nm):F6 .mul (.int a) (.int b)=Nk (.int (a*b)):=nh ⟨c,hb⟩
theorem ve{a b:Int}(hb:ry b=Nm)(h:0<b):F6 .mod (.int a) (.int b)=Nk (.int (OQ a b)):=nh ⟨hb,h⟩
theorem oO{a:Int}(h:0<=a)(b:a<4000000000):ry a=Nm:=by simp only[ry,NI,decide_eq_true_eq];lia
theorem uB(a:Int){b:Int}(h:0<b):0<=OQ a b/\OQ a b<b:=by refine rG (Int.fmod_eq_emod_of_nonneg _ (by lia)) ?_;exact⟨Int.emod_nonneg _ (by lia),Int.emod_lt_of_pos _ h⟩
theorem F4{v:Nat}(h:v<1000):decide (v<=cap)=Nm:=decide_eq_true (NN (OM h) (Nr rfl))
theorem uH(n:Nat){w k:Nat}{st:am}(h:lr w st k)(R:k<1000000){sz:Nat}(N:0<sz)(O:sz<1000):∃(v:Nat)(o:am),(OP (n+1)).S 184 [.ag w,.int sz] st=Nk (.int v,o)/\v<sz/\lr w o (k+1)/\(∀j,j≠w->o[j]? =st[j]?)/\o.length=st.length:=by
 refine hid λM L=>?_;refine w35 h λe a g E Q G P H=>?_;have z:=(Nv.mp E).1;obtain⟨c,s⟩:∃p:Int,ev tab (OP n) (.ite (.cmp .lt (.ab 82) (.len (.ab 183))) (.aj (.ab 183) (.ab 82)) (.ab 182)) [(181,.ag w),(180,.int sz),(183,il e),(82,.int a),(182,.int g)] st=Nk (.int p,st):=by
  have r:∀b,decide ((a:Int)<e.length)=b->ev tab (OP n) (.cmp .lt (.ab 82) (.len (.ab 183))) [(181,.ag w),(180,.int sz),(183,il e),(82,.int a),(182,.int g)] st=Nk (.bool b,st):=λb I=>by refine iA (x:=.int a) (y:=.int e.length) (x':=.int a) (y':=.int e.length) (aa:=st) ?_ (vw (x:=il e) (x':=il e) ?_ ?_ ?_) ?_ ?_ ?_;rfl;rfl;rfl;exact yu;rfl;rfl;simp only[kq,kr,kt,ku,I]
  by_cases C:(a:Int)<e.length;have F:(e.map D.int)[a]? =Nk (.int ((e[a]?).getD 0)):=by refine rG (Oc) (rG (NQ (by lia)) ?_);rfl
  refine⟨_,m6 (r Nm (by simp[C])) rfl (ie (x:=il e) (x':=il e) (y:=.int a) (aa:=st) ?_ ?_ ?_ (kR F))⟩;rfl;rfl;rfl;refine⟨g,nV (r Nl (by simp;lia)) rfl ?_⟩;rfl
 obtain⟨q,t⟩:∃x,x=OQ (g*48271+OQ c 65521+7*a+13) 2147483647:=⟨_,rfl⟩;have u:0<=q/\q<2147483647:=by refine rG t ?_;exact uB _ (by decide)
 have K:0<=OQ c sz/\OQ c sz<sz:=uB _ (by lia);obtain⟨v,B⟩:∃v:Nat,OQ c sz=v:=⟨(OQ c sz).toNat,(Int.toNat_of_nonneg K.1).symm⟩;refine L ?_;refine i25 v (st.set w (.ae [il e,.int (a+1:Nat),.int q])) (Ae (fn:=oQ) (m:=[(181,.ag w),(180,.int sz)]) (fl:=.ret (.int v)) (m':=[(181,.ag w),(180,.int sz),(183,il e),(82,.int a),(182,.int g),(179,.int c)]) rfl rfl ?_ rfl) (by lia) ⟨e,a+1,q,by exact rG (NJ z) rfl,by lia,u.1,u.2,H⟩ (λj J=>by exact rG (NM (O9 J)) rfl) (by simp);delta oQ;dsimp only;obtain⟨f,A⟩:∃x,x=st.set w (.ae [il e,.int (a+1:Nat),.int g]):=⟨_,rfl⟩;refine ad (aa:=st) (km (d:=.ag w) (x:=.ae [il e,.int a,.int g]) (m₁:=[(181,.ag w),(180,.int sz),(183,il e),(82,.int a),(182,.int g)]) ?_ (gO E) rfl) (gR s rfl (ad (aa:=f) (m₁:=[(181,.ag w),(180,.int sz),(183,il e),(82,.int a),(182,.int g),(179,.int c)]) (rV (i:=w) (j:=1) (d:=.int (a+1:Nat)) (l:=[il e,.int a,.int g]) (aa:=st) (ah:=st) (au:=st) ?_ ?_ ?_ E (by decide) (by simp) (by refine rG A ?_;rfl)) (ad (m₁:=[(181,.ag w),(180,.int sz),(183,il e),(82,.int a),(182,.int g),(179,.int c)]) (aa:=st.set w (.ae [il e,.int (a+1:Nat),.int q])) (rV (i:=w) (j:=2) (d:=.int q) (l:=[il e,.int (a+1:Nat),.int g]) (aa:=f) (ah:=f) (au:=f) ?_ ?_ ?_ (by exact rG A (rG (NJ z) rfl)) (by decide) (by simp) (by refine rG A (rG (P1 _) ?_);rfl)) (gN (d:=.int v) (aa:=st.set w (.ae [il e,.int (a+1:Nat),.int q])) ?_ rfl))));rfl;rfl;rfl;rfl;refine rG t ?_;refine kG (aa:=f) (x:=.int (g*48271+OQ c 65521+7*a+13)) (x':=.int (g*48271+OQ c 65521+7*a+13)) (y:=.int 2147483647) (y':=.int 2147483647) (kG (aa:=f) (x:=.int (g*48271+OQ c 65521+7*a)) (x':=.int (g*48271+OQ c 65521+7*a)) (y:=.int 13) (y':=.int 13) (kG (aa:=f) (x:=.int (g*48271+OQ c 65521)) (x':=.int (g*48271+OQ c 65521)) (y:=.int (7*a)) (y':=.int (7*a)) (kG (aa:=f) (x:=.int (g*48271)) (x':=.int (g*48271)) (y:=.int (OQ c 65521)) (y':=.int (OQ c 65521)) (kG (aa:=f) (x:=.int g) (x':=.int g) (y:=.int 48271) (y':=.int 48271) ?_ ?_ rfl rfl (mul_int (oO G (by lia)) rfl)) (kG (aa:=f) (x:=.int c) (x':=.int c) (y:=.int 65521) (y':=.int 65521) ?_ ?_ rfl rfl (ve rfl (by decide))) rfl rfl rfl) (kG (aa:=f) (x:=.int 7) (x':=.int 7) (y:=.int a) (y':=.int a) ?_ ?_ rfl rfl (mul_int rfl (oO (by lia) (by lia)))) rfl rfl rfl) ?_ rfl rfl rfl) ?_ rfl rfl (ve rfl (by decide));rfl;rfl;rfl;rfl;rfl;rfl;rfl;rfl;rfl;rfl;refine rL B ?_;refine kG (x:=.int c) (x':=.int c) (y:=.int sz) (y':=.int sz) (aa:=st.set w (.ae [il e,.int (a+1:Nat),.int q])) ?_ ?_ rfl rfl (ve (oO (by lia) (by lia)) (by lia));rfl;rfl
theorem wM(n:Nat){w k:Nat}{st:am}{m:Loc}(d:m.get 181=Nk (.ag w))(h:lr w st k)(b:k<1000000):∃(c:Int)(a:am),ev tab (OP (n+1)) (.aj (.glob 214) (.aC 184 (.cons (.ab 181) (.cons (.int 19) .nil)))) m st=Nk (.int c,a)/\c∈ce/\lr w a (k+1)/\(∀j,j≠w->a[j]? =st[j]?)/\a.length=st.length:=by refine w25 (uH n h b (sz:=19) (by decide) (by decide)) λv a q e W o l=>?_;refine i25 (ce[v]) a (ie (x:=.tup (ce.map .int)) (x':=.tup (ce.map .int)) (y:=.int v) (aa:=st) yU (nU (ds:=[.ag w,.int 19]) (aa:=st) (ev2 (al d) ir) q) rfl (zE ?_)) (PA _) W o l;refine rG (Oc) (rG (NQ e) ?_);rfl
theorem uG(n:Nat){w:Nat}{m:Loc}(s:m.get 181=Nk (.ag w)):∀(r:Nat)(a:Int)(k:Nat)(st:am),lr w st k->k+r<1000000->∃(t:List Int)(b:am),compLoop (compTurn (OP (n+1)) (.aj (.glob 214) (.aC 184 (.cons (.ab 181) (.cons (.int 19) .nil)))) [110] [181] Nm Nl .none m) (j3 a r) st=Nk (t.map .int,b)/\t.length=r/\(∀c∈t,c∈ce)/\lr w b (k+r)/\(∀j,j≠w->b[j]? =st[j]?)/\b.length=st.length
 |0,a,k,st,W,_=>⟨[],st,rfl,rfl,λc f=>(iM f),W,λ_ _=>rfl,rfl⟩|r+1,a,k,st,W,J=>by
  have h:Loc.get ((m.only [181]).set 110 (.int a)) 181=Nk (.ag w):=by
   rw[gI _ _ _ _ rfl];have:∀m:Loc,Loc.get (m.only [181]) 181=Loc.get m 181:=λm=>by
    induction m with
    |nil=>rfl|cons p r D=>
    obtain⟨y,e⟩:=p;by_cases q:y=181;subst q;rfl;have x:N0 y 181=Nl:=by rw[<-OH,PZ];exact q
    have A:N0 181 y=Nl:=by rw[<-OH,PZ];exact λz=>q z.symm
    rw[(by simp[Loc.only,PC,x]:Loc.only [181] ((y,e)::r)=Loc.only [181] r),D,CJ];simp[A]
   rw[this,s]
  refine w25 (wM n h W (by lia)) λc i q f u G E=>?_;refine w26 (uG n s r (a+1) (k+1) i u (by lia)) λt l I C g v H F=>?_;refine i26 (c::t) l ?_ (by simp[C]) (λd B=>(Nz.mp B).elim (λe=>e▸f) (g d)) (by rw[show k+(r+1)=k+1+r by lia];exact v) (λj o=>by rw[H j o,G j o]) (by rw[F,E]);exact Cg (FH (m':=(m.only [181]).set 110 (.int a)) rfl q) I
theorem wK(n:Nat){w k:Nat}{st:am}{m:Loc}(i:m.get 181=Nk (.ag w))(h:lr w st k)(F:k+10<1000000):∃(t:List Int)(b:am),ev tab (OP (n+1)) (.comp Nl (.aj (.glob 214) (.aC 184 (.cons (.ab 181) (.cons (.int 19) .nil)))) [110] [181] Nm .aL (.aC 184 (.cons (.ab 181) (.cons (.int 5) .nil))) .none Nl .none) m st=Nk (il t,b)/\t.length<=4/\(∀c∈t,c∈ce)/\lr w b (k+10)/\(∀j,j≠w->b[j]? =st[j]?)/\b.length=st.length:=by
 refine w25 (uH n h (by lia) (sz:=5) (by decide) (by decide)) λv d q H W o l=>?_;refine w26 (uG n i v 0 (k+1) d W (by lia)) λt f B G e p A z=>?_;refine i26 t f (lv (x:=.int v) (y:=.none) (l:=j3 0 v) (aa:=d) (ah:=d) (nU (ds:=[.ag w,.int 5]) (aa:=st) (ev2 (al i) ir) q) gY ?_ ?_ B) (by lia) e ?_ (λj g=>by exact rG (A j g) (rG (o j g) rfl)) (by exact rG z (rG l rfl));simp only[i9,i8,i7,i6,OK,show ry (v:Int)=Nm from oO (by lia) (by lia),F4 (show v<1000 by lia),Ox,if_true];have:∀(r:Nat)(a:Int),(j3 a r).length=r:=λr=>by induction r with|zero=>intro a;rfl|succ r u=>intro a;simp[u8,rC,u]
 rw[this,cap];lia;refine w33 p λs a C D I E=>?_;exact i33 s a C D (by lia) E
abbrev Get(ms:List (Key×D))(k:Nat)(c:Int)(v:D):Prop:=∀n,(OP (n+3)).F 176 [bd ms,.str k,.int c]=Nk (v,Nl)
theorem nT{n k:Nat}{ms:List (Key×D)}{m:Loc}{st:am}{c:Int}{v:D}{e:E}{w:Bool}(hp:D.aq ms=Nm)(G:Get ms k c v)(b:m.get 27=Nk (bd ms))(a:ev tab (OP (n+3)) e m st=Nk (.int c,st)):ev tab (OP (n+3)) (.aw w (.ab 27) 28 (.cons (.str k) (.cons e .nil))) m st=Nk (v,st):=by have:=gK hp;refine to (x:=bd ms) (c:=196) (g:=176) (ds:=[.str k,.int c]) (aa:=st) (ah:=st) (al b) rfl rfl rfl (ev2 j7 a) ?_ (G n) ?_;exact sn3 (by assumption) rfl rfl;exact tG (al1 (by assumption))
theorem gP{i:Nat}{st:am}{l:List Int}(h:st[i]? =Nk (.ae (l.map .int))):oy (.ag i) st=Nk (il l,Nm):=by exact AH (jK h (ch l)) (by simp[u5,u4,u3,u2])
noncomputable abbrev wc(ac:Int->Int)(c:Int):D:=.tup [.int (ac c),.int c]
noncomputable def yD(ac:Int->Int)(x:Int):List Int->List Int|[]=>[x]|y::r=>if ac x<ac y then x::y::r else y::yD ac x r
theorem zI{ac:Int->Int}{x:Int}:yD ac x []=[x]:=rfl
theorem ux{ac:Int->Int}{x y:Int}{r:List Int}:yD ac x (y::r)=if ac x<ac y then x::y::r else y::yD ac x r:=rfl
noncomputable def iI(ac:Int->Int)(l:List Int):List Int:=l.foldl (λa x=>yD ac x a) []
theorem EX(ac:Int->Int)(x:Int)(l:List Int):wZ (ac x,wc ac x) (l.map λc=>(ac c,wc ac c))=(yD ac x l).map λc=>(ac c,wc ac c):=by induction l with|nil=>rfl|cons y r a=>simp only[Ny,Kz,Ky,zI,ux];split<;>simp[a]
theorem Bo(ac:Int->Int)(l:List Int):vZ (l.map λc=>(ac c,wc ac c))=(iI ac l).map λc=>(ac c,wc ac c):=by
 have:∀(l a:List Int),(l.map λc=>(ac c,wc ac c)).foldl (λb x=>wZ x b) (a.map λc=>(ac c,wc ac c))=(l.foldl (λa x=>yD ac x a) a).map λc=>(ac c,wc ac c):=λl=>by induction l with|nil=>intro a;rfl|cons x r d=>intro a;simp only[Ny,N5];exact rG (EX _ _ _) (rG (d _) rfl)
 exact this l []
def Two(ac:Int->Int):Prop:=(∀a b,0<ac a->0<ac b->ac a=ac b)\/∀a b,0<ac a->0<ac b->ac a=ac b->a=b
theorem JL{ac:Int->Int}(h:Two ac){l:List Int}(hp:∀c∈l,0<ac c):sg (l.map λc=>(ac c,wc ac c)):=by
 rcases h with h|h
 exact .inl (PS.mpr (QV.mpr λi j k m _=>Int.le_of_eq (h _ _ (hp _ (PA k)) (hp _ (PA m)))));refine .inr λp d q n e=>?_;refine w12 (Nx.mp d) λa f o=>?_;subst o;refine w12 (Nx.mp n) λb g r=>?_;subst r;rw[h a b (hp a f) (hp b g) e]
theorem yq(ac:Int->Int)(l:List Int):mJ (l.map (wc ac))=Nk (l.map λc=>(ac c,wc ac c)):=by induction l with|nil=>rfl|cons x r a=>exact(lg (f:=λx=>(mJ (r.map (wc ac))).bind λy=>Nk (x::y)) (x:=(ac x,wc ac x)) rfl).trans (lg a)
theorem EY(ac:Int->Int)(x:Int)(l:List Int):(yD ac x l).length=l.length+1:=by induction l with|nil=>rfl|cons y r a=>simp only[zI,ux];split<;>simp[a]
theorem nj(ac:Int->Int)(l:List Int):(iI ac l).length=l.length:=by
 have:∀(l a:List Int),(l.foldl (λa x=>yD ac x a) a).length=a.length+l.length:=λl=>by induction l with|nil=>intro a;rfl|cons x r b=>intro a;refine rG N5 (rG (b _) (rG (EY _ _ _) (rG NU ?_)));lia
 have q:=this l [];rw[O8,Oz]at q;exact q
theorem wa(ac:Int->Int)(l:List Int):D.ax (l.map (wc ac))=Nm:=by induction l with|nil=>rfl|cons x r a=>simp only[Ny,kK,kJ,a];rfl
theorem lW{v:Nat}(h:v<1000):v<=cap:=NN (OM h) (Nr rfl)
theorem AT{v:Nat}(h:v<1000):v<cap:=ON h (Nr rfl)
theorem DL(n:Nat)(ac:Int->Int)(l:List Int)(e:l.length<64)(a:Two ac)(f:∀c∈l,0<ac c):(OP (n+1)).F 38 [.ae (l.map (wc ac))]=Nk (il (iI ac l),Nm):=by have j:(D.ae (l.map (wc ac))).plain=Nm:=wa ac l;refine lP (fn:=mW) (m:=[(39,.ae (l.map (wc ac)))]) (fl:=.ret (.ag 0)) (m':=[(39,.ae (l.map (wc ac)))]) (st:=[.ae ((iI ac l).map .int)]) rfl rfl ?_ rfl (gP rfl);delta mW;dsimp only;refine gN (rO (x:=.ae ((vZ (l.map λc=>(ac c,wc ac c))).map (·.2))) (y:=.none) (l:=(iI ac l).map (wc ac)) (l':=(iI ac l).map .int) (aa:=[]) (ah:=[]) (au:=[]) (yS (x:=.ae (l.map (wc ac))) (l:=l.map (wc ac)) ?_ rfl (by simpa using e) (yq ac l) (JL a f)) gY ?_ ?_ ?_ rfl) rfl;rfl;refine rG (Bo _ _) ?_;simp only[i9,i8,i7,i6,nG,nF,nE,nD,Pe];rfl;refine rG (Nu _) (rG (nj _ _) ?_);exact lW (by lia);have q:=ja (step:=compTurn (OP n) (.ab 6) [41,6] [] Nl Nl .none [(39,.ae (l.map (wc ac)))]) (st:=[]) (l:=(iI ac l).map (wc ac)) (λd=>match d with|.tup l=>l[1]?|_=>Nq) (λd b=>by refine w12 (Nx.mp b) λc i h=>?_;subst h;refine FH (m':=[(41,.int (ac c)),(6,.int c)]) rfl ?_;rfl);refine rG q ?_;congr 2;generalize iI ac l=s;induction s with|nil=>rfl|cons x r g=>exact congrArg (D.int x:: ·) g
noncomputable def nv(ac:Int->Int):List Int->List Int->List Int->List Int|f,r,[]=>f++iI ac r|f,r,c::t=>if ac c>0 then nv ac f (r++[c]) t else nv ac (f++iI ac r++[c]) [] t
theorem B0{ac:Int->Int}{f r:List Int}:nv ac f r []=f++iI ac r:=rfl
theorem BZ{ac:Int->Int}{f r t:List Int}{c:Int}:nv ac f r (c::t)=if ac c>0 then nv ac f (r++[c]) t else nv ac (f++iI ac r++[c]) [] t:=rfl
noncomputable def pg(ac:Int->Int)(t:List Int):List Int:=nv ac [] [] t
noncomputable def ic(ac:Int->Int)(p:List Int):List Int×List Int:=p.foldl (λs c=>if ac c>0 then(s.1,s.2++[c])else(s.1++iI ac s.2++[c],[])) ([],[])
theorem lR(ac:Int->Int)(t:List Int):pg ac t=(ic ac t).1++iI ac (ic ac t).2:=by
 have:∀(t:List Int)(s:List Int×List Int),nv ac s.1 s.2 t=(t.foldl (λs c=>if ac c>0 then(s.1,s.2++[c])else(s.1++iI ac s.2++[c],[])) s).1++iI ac (t.foldl (λs c=>if ac c>0 then(s.1,s.2++[c])else(s.1++iI ac s.2++[c],[])) s).2:=λt=>by induction t with|nil=>intro s;rfl|cons c r a=>intro s;simp only[B0,BZ,N5];split;exact a (s.1,s.2++[c]);exact a (s.1++iI ac s.2++[c],[])
 exact this t ([],[])
theorem ls(ac:Int->Int)(p:List Int)(c:Int):ic ac (p++[c])=if ac c>0 then((ic ac p).1,(ic ac p).2++[c])else((ic ac p).1++iI ac (ic ac p).2++[c],[]):=by simp only[ic,Pt,N5,QP]
theorem rm(ac:Int->Int)(p:List Int):∀c∈(ic ac p).2,0<ac c:=by
 have:∀(p:List Int)(s:List Int×List Int),(∀c∈s.2,0<ac c)->∀c∈(p.foldl (λs c=>if ac c>0 then(s.1,s.2++[c])else(s.1++iI ac s.2++[c],[])) s).2,0<ac c:=λp=>by induction p with|nil=>exact λs h=>h|cons a r d=>intro s h;refine d _ ?_;show ∀c∈(if ac a>0 then(s.1,s.2++[a])else(s.1++iI ac s.2++[a],[])).2,0<ac c;by_cases q:ac a>0;refine rG (if_pos q) ?_;exact λc b=>(NW.mp b).elim (h c) λb=>NC.mp b▸q;refine rG (if_neg q) ?_;exact λc b=>iM b
 exact this p _ λc b=>iM b
theorem nx(ac:Int->Int)(p:List Int):(ic ac p).1.length+(ic ac p).2.length=p.length:=by
 have:∀(t:List Int)(s:List Int×List Int),(t.foldl (λs c=>if ac c>0 then(s.1,s.2++[c])else(s.1++iI ac s.2++[c],[])) s).1.length+(t.foldl (λs c=>if ac c>0 then(s.1,s.2++[c])else(s.1++iI ac s.2++[c],[])) s).2.length=s.1.length+s.2.length+t.length:=λt=>by induction t with|nil=>intro s;rfl|cons c r a=>intro s;refine rG N5 (rG (a _) ?_);split<;>simp[nj]<;>omega
 have q:=this p ([],[]);simp only[O8,Oz]at q;exact q
theorem pY{O:aN}{m:Loc}{st:am}{o a:E}{i:Nat}{l:List D}{x:D}{l':List D}(h:ev tab O o m st=Nk (.ag i,st))(hc:st[i]? =Nk (.ae l))(b:ev tab O a m st=Nk (x,st))(hx:jB st x=Nk (.ae l'))(c:l.length+l'.length<1000):ex tab O (.expr (.extend o a)) m st=Nk (.next,m,st.set i (.ae (l++l'))):=mm (zP h (by simp only[nH,hc]) b hc hx rfl (lW c) rfl)
theorem og{O:aN}{m:Loc}{st:am}{o a:E}{i:Nat}{l:List D}{x:D}{l':List D}(h:ev tab O o m st=Nk (.ag i,st))(hc:st[i]? =Nk (.ae l))(b:ev tab O a m st=Nk (x,st))(hx:jB st x=Nk (.tup l'))(c:l.length+l'.length<1000):ex tab O (.expr (.extend o a)) m st=Nk (.next,m,st.set i (.ae (l++l'))):=mm (zP h (by simp only[nH,hc]) b hc hx rfl (lW c) rfl)
theorem iH{O:aN}{m:Loc}{st:am}{o a:E}{i:Nat}{l:List D}{x:D}(h:ev tab O o m st=Nk (.ag i,st))(hc:st[i]? =Nk (.ae l))(b:ev tab O a m st=Nk (x,st))(c:l.length<1000):ex tab O (.expr (.append o a)) m st=Nk (.next,m,st.set i (.ae (l++[x]))):=mm (py h (by simp only[nH,hc]) b hc (AT c) rfl)
theorem kP{b c:Type}(f:b->c)(l:List b)(a:b):l.map f++[f a]=(l++[a]).map f:=by simp
theorem BX(n:Nat){ms:List (Key×D)}(hp:D.aq ms=Nm)(ac:Int->Int)(T:Two ac)(t:List Int)(G:∀c∈t,Get ms 42 c (.int (ac c)))(Y:t.length<64):(OP (n+4)).F 43 [il t,bd ms]=Nk (il (pg ac t),Nm):=by
 obtain⟨m0,S⟩:∃x:Loc,x=[(40,il t),(27,bd ms)]:=⟨_,rfl⟩;have ext:∀(f r:List Int)(j:Nat)(st:am)(rest:Loc),st[0]? =Nk (.ae (f.map .int))->st[j]? =Nk (.ae (r.map (wc ac)))->(∀c∈r,0<ac c)->f.length+r.length<64->ex tab (OP (n+3)) (.expr (.extend (.ab 32) (.call Nl 38 (.cons (.ab 39) .nil)))) ([(40,il t),(27,bd ms),(32,.ag 0),(39,.ag j)]++rest) st=Nk (.next,[(40,il t),(27,bd ms),(32,.ag 0),(39,.ag j)]++rest,st.set 0 (.ae ((f++iI ac r).map .int))):=λf r j st rest p N P u=>by have q:=pY (O:=OP (n+3)) (m:=[(40,il t),(27,bd ms),(32,.ag 0),(39,.ag j)]++rest) (st:=st) (o:=.ab 32) (a:=.call Nl 38 (.cons (.ab 39) .nil)) (i:=0) (x:=il (iI ac r)) (l':=(iI ac r).map .int) ?_ p (gQ (ds:=[.ag j]) (ds':=[.ae (r.map (wc ac))]) (aa:=st) ?_ (gW (jK N (wa ac r)) pa) (DL (n+2) ac r (by lia) T P)) rfl (by simp[nj];lia);exact rG q (rG Pq rfl);rfl;rfl
 have L:=jF (xs:=[6]) (single:=Nm) (f:=D.int) (body:=exs tab (OP (n+3)) (.cons (.assign (.name 41) (.aw Nl (.ab 27) 28 (.cons (.str 42) (.cons (.ab 6) .nil)))) (.cons (.ite (.cmp .gt (.ab 41) (.int 0)) (.cons (.expr (.append (.ab 39) (.tup (.cons (.ab 41) (.cons (.ab 6) .nil))))) .nil) (.cons (.expr (.extend (.ab 32) (.call Nl 38 (.cons (.ab 39) .nil)))) (.cons (.expr (.append (.ab 32) (.ab 6))) (.cons (.assign (.name 39) (.ae Nm .nil)) .nil)))) .nil))) (λb m st=>∃j rest,m=[(40,il t),(27,bd ms),(32,.ag 0),(39,.ag j)]++rest/\0<j/\st[0]? =Nk (.ae ((ic ac b).1.map .int))/\st[j]? =Nk (.ae ((ic ac b).2.map (wc ac)))) t [] [(40,il t),(27,bd ms),(32,.ag 0),(39,.ag 1)] [.ae [],.ae []] ⟨1,[],rfl,by decide,rfl,rfl⟩ ?_;refine w22 L λZ M W L=>?_;refine w24 L λj rest X N p h=>?_;subst X;rw[NO]at p h;have u:=nx ac t;refine lP (fn:=s8) (m:=[(40,il t),(27,bd ms)]) (fl:=.ret (.ag 0)) (m':=[(40,il t),(27,bd ms),(32,.ag 0),(39,.ag j)]++rest) (st:=M.set 0 (.ae ((pg ac t).map .int))) rfl rfl ?_ rfl (gP (by exact rG (NJ (Nv.mp p).1) rfl));delta s8;dsimp only;have B:=ext _ _ j M rest p h (rm ac t) (by lia);rw[<-lR]at B;refine ad (aa:=[.ae [],.ae []]) (km (d:=.tup [.ag 0,.ag 1]) (x:=.tup [.ag 0,.ag 1]) (m₁:=[(40,il t),(27,bd ms),(32,.ag 0),(39,.ag 1)]) ?_ rfl rfl) (ad (kX (x:=il t) (y:=.none) (l:=t.map .int) (aa:=[.ae [],.ae []]) (ah:=[.ae [],.ae []]) ?_ gY rfl W) (ad B (gN (d:=.ag 0) ?_ rfl)));refine jz (ke (aa:=[.ae []]) (i5 kZ (NX _) rfl) (ev1 (i5 kZ (NX _) rfl))) (Nr rfl);rfl;rfl;rintro b c q m st z ⟨j,rest,rfl,N,p,h⟩;rw[NO]at z;have U:c∈t:=by refine rG z ?_;simp
 have u:=nx ac b;have V:b.length+1<=t.length:=by refine rG z ?_;simp
 obtain⟨e,w⟩:∃x,x=(Loc.set rest 6 (.int c)).set 41 (.int (ac c)):=⟨_,rfl⟩;have H:ex tab (OP (n+3)) (.assign (.name 41) (.aw Nl (.ab 27) 28 (.cons (.str 42) (.cons (.ab 6) .nil)))) ([(40,il t),(27,bd ms),(32,.ag 0),(39,.ag j)]++Loc.set rest 6 (.int c)) st=Nk (.next,[(40,il t),(27,bd ms),(32,.ag 0),(39,.ag j)]++e,st):=iD (nT hp (G c U) rfl (al (gs4 (an _ _ _) rfl))) (by refine rG w ?_;rfl);have R:∀j s,ev tab (OP (n+3)) (.ab 6) ([(40,il t),(27,bd ms),(32,.ag 0),(39,.ag j)]++e) s=Nk (.int c,s):=λj s=>al (gs4 (by exact rG w (rG (gI _ _ _ _ rfl) (rG (an _ _ _) rfl))) rfl);have K:∀s,ev tab (OP (n+3)) (.ab 41) ([(40,il t),(27,bd ms),(32,.ag 0),(39,.ag j)]++e) s=Nk (.int (ac c),s):=λs=>al (gs4 (by exact rG w (rG (an _ _ _) rfl)) rfl);have v:ev tab (OP (n+3)) (.cmp .gt (.ab 41) (.int 0)) ([(40,il t),(27,bd ms),(32,.ag 0),(39,.ag j)]++e) st=Nk (.bool (decide (0<ac c)),st):=iA (K _) ir rfl rfl rfl;by_cases A:ac c>0;refine⟨_,[(40,il t),(27,bd ms),(32,.ag 0),(39,.ag j)]++e,st.set j (.ae (((ic ac b).2++[c]).map (wc ac))),rfl,.inl (ad H (jc v (by simpa using A) (ad (m₁:=[(40,il t),(27,bd ms),(32,.ag 0),(39,.ag j)]++e) (by have q:=iH (O:=OP (n+3)) (m:=[(40,il t),(27,bd ms),(32,.ag 0),(39,.ag j)]++e) (st:=st) (o:=.ab 39) (a:=.tup (.cons (.ab 41) (.cons (.ab 6) .nil))) (i:=j) (x:=wc ac c) (al rfl) h (jz (ev2 (K _) (R _ _)) (Nr rfl)) (by simp;lia);rw[kP]at q;exact q) (gl rfl)) (gl rfl))),j,e,rfl,N,?_,?_⟩;exact rG (NM (by lia)) (rG (ls _ _ _) (rG (if_pos A) (rG p rfl)));exact rG (NJ ((Nv.mp h).1)) (rG (ls _ _ _) (rG (if_pos A) rfl));have B:=ext _ _ j st e p h (rm ac b) (by lia);obtain⟨k,C⟩:∃x,x=st.set 0 (.ae (((ic ac b).1++iI ac (ic ac b).2).map .int)):=⟨_,rfl⟩;rw[<-C]at B;have I:k[0]? =Nk (.ae (((ic ac b).1++iI ac (ic ac b).2).map .int)):=by exact rG C (rG (NJ ((Nv.mp p).1)) rfl)
 have Q:ex tab (OP (n+3)) (.expr (.append (.ab 32) (.ab 6))) ([(40,il t),(27,bd ms),(32,.ag 0),(39,.ag j)]++e) k=Nk (.next,[(40,il t),(27,bd ms),(32,.ag 0),(39,.ag j)]++e,k.set 0 (.ae (((ic ac b).1++iI ac (ic ac b).2++[c]).map .int))):=by have q:=iH (O:=OP (n+3)) (m:=[(40,il t),(27,bd ms),(32,.ag 0),(39,.ag j)]++e) (st:=k) (o:=.ab 32) (a:=.ab 6) (i:=0) (x:=.int c) (al rfl) I (R _ _) (by simp[nj];lia);rw[kP]at q;exact q
 obtain⟨g,E⟩:∃x,x=k.set 0 (.ae (((ic ac b).1++iI ac (ic ac b).2++[c]).map .int)):=⟨_,rfl⟩;rw[<-E]at Q;have J:g[0]? =Nk (.ae (((ic ac b).1++iI ac (ic ac b).2++[c]).map .int)):=by exact rG E (rG (NJ (Nv.mp I).1) rfl)
 refine⟨_,[(40,il t),(27,bd ms),(32,.ag 0),(39,.ag g.length)]++e,g++[.ae []],rfl,.inl (ad H (l5 (m₁:=[(40,il t),(27,bd ms),(32,.ag 0),(39,.ag g.length)]++e) (ah:=g++[.ae []]) v (by simpa using A) (ad B (ad Q (gR (d:=.ag g.length) (i5 kZ (NX _) rfl) rfl (gl rfl)))) (gl rfl))),g.length,e,rfl,N6 (NX _) (Nv.mp J).1,?_,?_⟩;exact rG (mR J) (rG (ls _ _ _) (rG (if_neg A) rfl));refine rG (ls _ _ _) (rG (if_neg A) ?_);simp
abbrev Dm:=Int->Option (Nat×List Int)
noncomputable def dmV:Option (Nat×List Int)->D|none=>.none|some (g,l)=>.tup [.str g,it l]
noncomputable def rI(k:Bool):Option (Nat×List Int)->Option (List Int)|none=>Nq|some (g,l)=>if g !=25&& !k then Nq else Nk l
noncomputable def A4:Option (List Int)->D|none=>.none|some l=>it l
noncomputable def jh(k:Bool)(a:Dm)(c:Int):List Int:=match rI k (a c)with|none=>[c]|some l=>l
theorem AB(o:Option (List Int)):(A4 o).plain=Nm:=by induction o using N3;rfl;exact kf _
theorem Cd(n:Nat){ms:List (Key×D)}(hp:D.aq ms=Nm)(d:Dm){c:Int}(k:Bool)(G:Get ms 29 c (dmV (d c)))(hc:c<44032):(OP (n+4)).F 31 [.int c,bd ms,.bool k]=Nk (A4 (rI k (d c)),Nl):=by
 have i:ex tab (OP (n+3)) (.assign (.name 30) (.call Nl 19 (.cons (.ab 6) .nil))) [(6,.int c),(27,bd ms),(26,.bool k)] []=Nk (.next,[(6,.int c),(27,bd ms),(26,.bool k),(30,.none)],[]):=by refine iD (aa:=[]) (iO (ds:=[.int c]) (aa:=[]) ?_ ?_ (uh (n+1) c hc) rfl) rfl;rfl;rfl
 suffices ∃f,exs tab (OP (n+3)) mc.body [(6,.int c),(27,bd ms),(26,.bool k)] []=Nk (.ret (A4 (rI k (d c))),f,[])by obtain⟨f,q⟩:=this;exact lP rfl rfl q rfl (iJ (AB _))
 delta mc;dsimp only;refine⟨[(6,.int c),(27,bd ms),(26,.bool k),(30,.none),(24,dmV (d c))],ad i (jl (kn (b:=Nm) (aa:=[]) (x:=.none) (al rfl) rfl) rfl (ad (iD (nT hp G rfl (al rfl)) rfl) ?_))⟩;cases e:d c with
 |none=>refine j8 (aa:=[]) (Du (lY (b:=Nm) (kn (b:=Nm) (aa:=[]) (x:=.none) (al rfl) rfl) rfl)) rfl (gN gY rfl)|some p=>
 obtain⟨g,l⟩:=p;have h:ev tab (OP (n+3)) (.cmp .ne (.aj (.ab 24) (.int 0)) (.str 25)) [(6,.int c),(27,bd ms),(26,.bool k),(30,.none),(24,dmV (Nk (g,l)))] []=Nk (.bool (g !=25),[]):=by refine iA (x:=.str g) (x':=.str g) (y:=.str 25) (y':=.str 25) (aa:=[]) (ie (x:=.tup [.str g,it l]) (x':=.tup [.str g,it l]) (y:=.int 0) (aa:=[]) (al rfl) ir rfl rfl) j7 rfl rfl uK
 have a:ev tab (OP (n+3)) (.or (.cons (.bq Nl (.ab 24)) (.cons (.and (.cons (.cmp .ne (.aj (.ab 24) (.int 0)) (.str 25)) (.cons (.not (.ab 26)) .nil))) .nil))) [(6,.int c),(27,bd ms),(26,.bool k),(30,.none),(24,dmV (Nk (g,l)))] []=Nk (.bool (g !=25&& !k),[]):=by refine Du (w5 (b:=Nl) (kn (b:=Nl) (aa:=[]) (x:=.tup [.str g,it l]) (al rfl) rfl) rfl ?_);simpa using(Dw (mx (oV h λ_=>oV (AN (al rfl)) λ_=>mz)) λ_=>(mz:evB tab (OP (n+3)) Nl .nil _ []=_))
 simp only[rI];cases hb:(g !=25&& !k)with|true=>rw[hb]at a;exact j8 a rfl (gN gY rfl)|false=>rw[hb]at a;exact jl a rfl (gN (ie (x:=.tup [.str g,it l]) (x':=.tup [.str g,it l]) (y:=.int 1) (aa:=[]) (al rfl) ir rfl rfl) rfl)
theorem ky{test:Loc->am->Option (D×am)}{body:Loc->am->Option (Fl×Loc×am)}{n:Nat}{m a:Loc}{st ah:am}{q:Option (Fl×Loc×am)}(c:test m st=Nk (.bool Nm,st))(hb:body m st=Nk (.next,a,ah)\/body m st=Nk (.cont,a,ah))(h:gX test body n a ah=q):gX test body (n+1) m st=q:=by show bb (test m st) (λb st=>cond b (fk (body m st) (gX test body n)) (Nk (.next,m,st)))=q;refine rG c ?_;exact(II hb).trans h
theorem mn{test:Loc->am->Option (D×am)}{body:Loc->am->Option (Fl×Loc×am)}{n:Nat}{m:Loc}{st:am}(a:test m st=Nk (.bool Nl,st)):gX test body (n+1) m st=Nk (.next,m,st):=by show bb (test m st) (λb st=>cond b (fk (body m st) (gX test body n)) (Nk (.next,m,st)))=_;refine rG a ?_;rfl
theorem FL{w:List D}(h:shalL 63 w=Nm):pB .ne (.ae w) (.ae [])=Nk (!w.isEmpty):=(zV (x:=.ae w) (y:=.ae []) h rfl).trans (congrArg (λb=>Nk (!b)) (vv.trans (yQ w)))
noncomputable abbrev AK:D->Bool|.int _=>Nm|.none=>Nm|_=>Nl
theorem yK{w:List D}(h:∀d∈w,AK d=Nm):D.ax w=Nm:=by induction w with|nil=>rfl|cons a r e=>have b:=h a (.head _);simp only[kK,kJ,e λd c=>h d (.tail _ c),PN];induction a using D.casesOn<;>first|rfl|exact fT b
theorem AJ{w:List D}(h:∀d∈w,AK d=Nm)(n:Nat):shalL n w=Nm:=by
 induction w with
 |nil=>induction n using NY<;>rfl
 |cons a r f=>have b:=h a (.head _);have e:=f λd c=>h d (.tail _ c);induction a using D.casesOn<;>first|exact fT b|exact NH.mpr ⟨rfl,e⟩
theorem kY{O:aN}{m:Loc}{st:am}{x:Nat}{i:Nat}{w:List D}(b:m.get x=Nk (.ag i))(hc:st[i]? =Nk (.ae w))(a:∀d∈w,AK d=Nm):ev tab O (.cmp .ne (.ab x) (.ae Nl .nil)) m st=Nk (.bool (!w.isEmpty),st):=by refine iA (x:=.ag i) (x':=.ae w) (y:=.ae []) (y':=.ae []) (aa:=st) (al b) (lM kZ (NX _)) (jK hc (yK a)) rfl (FL (AJ a _))
theorem va{O:aN}{m:Loc}{st:am}{x:Nat}{i:Nat}{w:List D}{d:D}(a:m.get x=Nk (.ag i))(hc:st[i]? =Nk (.ae (w++[d]))):ev tab O (.pop (.ab x)) m st=Nk (d,st.set i (.ae w)):=Ma (l:=w++[d]) (d:=d) (al a) hc (by simp) (by simp)
theorem nk{st:am}{i:Nat}{l:List Int}(h:st[i]? =Nk (.ae (l.map .int))):tQ st (.ag i)=Nk (il l):=jK h (ch l)
theorem ig{r:Loc}{x y:Nat}{d e:D}(h:N0 x y=Nl):Loc.get ((Loc.set r x d).set y e) x=Nk d:=by exact rG (gI _ _ _ _ h) (rG (an _ _ _) rfl)
noncomputable abbrev XF(n:Nat):Ss:=(.cons (.assign (.name 34) (.pop (.ab 33))) (.cons (.ite (.bq Nl (.ab 34)) (.cons (.expr (.pop (.ab 35))) (.cons .cont .nil)) .nil) (.cons (.assign (.name 30) (.call Nl 31 (.cons (.ab 34) (.cons (.ab 27) (.cons (.ab 26) .nil))))) (.cons (.ite (.bq Nl (.ab 30)) (.cons (.expr (.append (.ab 32) (.ab 34))) .nil) (.cons (.ite (.bz Nl (.ab 34) (.ab 35)) (.cons .stuck .nil) (.cons (.expr (.append (.ab 35) (.ab 34))) (.cons (.expr (.append (.ab 33) .none)) (.cons (.bu [36] Nm .plain (.rev Nl (.ab 30)) .none (.cons (.expr (.append (.ab 33) (.ab 36))) .nil)) .nil)))) .nil)) .nil))))
noncomputable abbrev pL(c:Int)(ms:List (Key×D))(k:Bool):Loc:=[(6,.int c),(27,bd ms),(26,.bool k),(32,.ag 0),(33,.ag 1),(35,.ag 2)]
section
variable{n:Nat}{ms:List (Key×D)}{c0:Int}{k:Bool}{rest:Loc}
theorem Jx{f w o:List D}{x:D}:∃a,exs tab (OP n) (XF 0) (pL c0 ms k++rest) [.ae f,.ae (w++[.none]),.ae (o++[x])]=Nk (.cont,pL c0 ms k++a,[.ae f,.ae w,.ae o]):=by refine⟨Loc.set rest 34 .none,gR (va (w:=w) rfl rfl) rfl (rW (aa:=[.ae f,.ae w,.ae (o++[x])]) (kn (b:=Nm) (x:=.none) (aa:=[.ae f,.ae w,.ae (o++[x])]) (al (gs6 (an _ _ _) rfl)) rfl) rfl (ad (mm (va (w:=o) rfl rfl)) (w7 rfl)))⟩
theorem A6{f w o:List D}{c:Int}(hp:D.aq ms=Nm){d:Dm}(G:Get ms 29 c (dmV (d c)))(hc:c<44032){q:Option (Fl×Loc×am)}{s:Ss}(h:exs tab (OP (n+5)) s (pL c0 ms k++(Loc.set rest 34 (.int c)).set 30 (A4 (rI k (d c)))) [.ae f,.ae w,.ae o]=q):exs tab (OP (n+5)) (.cons (.assign (.name 34) (.pop (.ab 33))) (.cons (.ite (.bq Nl (.ab 34)) (.cons (.expr (.pop (.ab 35))) (.cons .cont .nil)) .nil) (.cons (.assign (.name 30) (.call Nl 31 (.cons (.ab 34) (.cons (.ab 27) (.cons (.ab 26) .nil))))) s))) (pL c0 ms k++rest) [.ae f,.ae (w++[.int c]),.ae o]=q:=by have e:=gK hp;have a:Loc.get (pL c0 ms k++Loc.set rest 34 (.int c)) 34=Nk (.int c):=lT rfl (gs5 (an _ _ _) rfl);refine gR (va (w:=w) rfl rfl) rfl (jl (aa:=[.ae f,.ae w,.ae o]) (kn (b:=Nl) (x:=.int c) (aa:=[.ae f,.ae w,.ae o]) (al a) rfl) rfl (gR (iO (ds:=[.int c,bd ms,.bool k]) (aa:=[.ae f,.ae w,.ae o]) (ev3 (al a) (al rfl) (al rfl)) ?_ (Cd (n+1) hp d k G hc) ?_) rfl h));exact sn3 rfl (by assumption) rfl;exact tG (al1 (by assumption))
theorem FE{f w o:List D}{c:Int}(hp:D.aq ms=Nm){a:Dm}(G:Get ms 29 c (dmV (a c)))(hc:c<44032)(d:rI k (a c)=Nq)(hf:f.length<1000):∃e,exs tab (OP (n+5)) (XF 0) (pL c0 ms k++rest) [.ae f,.ae (w++[.int c]),.ae o]=Nk (.next,pL c0 ms k++e,[.ae (f++[.int c]),.ae w,.ae o]):=by refine⟨(Loc.set rest 34 (.int c)).set 30 (A4 (rI k (a c))),A6 hp G hc ?_⟩;refine rG d ?_;refine jc (ah:=[.ae (f++[.int c]),.ae w,.ae o]) (m₁:=pL c0 ms k++(Loc.set rest 34 (.int c)).set 30 .none) (aa:=[.ae f,.ae w,.ae o]) (kn (b:=Nm) (x:=.none) (aa:=[.ae f,.ae w,.ae o]) (al (lT rfl (gs5 (an _ _ _) rfl))) rfl) rfl (ad (iH (i:=0) (x:=.int c) (l:=f) (al rfl) rfl (al (lT rfl (gs5 (ig rfl) rfl))) hf) (gl rfl)) (gl rfl)
theorem FD{f o:List D}{x30 x34:D}:∀{l:List Int}{w:List D}{r:Loc},w.length+l.length<1000->∃b,forLoop [36] Nm (exs tab (OP n) (.cons (.expr (.append (.ab 33) (.ab 36))) .nil)) (l.map .int) (pL c0 ms k++r) [.ae f,.ae w,.ae o]=Nk (.next,pL c0 ms k++b,[.ae f,.ae (w++l.map .int),.ae o])|[],w,r,_=>⟨r,by refine rG Rp (rG (OY _) ?_);rfl⟩|a::l,w,r,hl=>by rw[NU]at hl;obtain⟨b,q⟩:=FD (f:=f) (o:=o) (x30:=x30) (x34:=x34) (l:=l) (w:=w++[.int a]) (r:=Loc.set r 36 (.int a)) (by simp;lia);refine⟨b,?_⟩;have e:exs tab (OP n) (.cons (.expr (.append (.ab 33) (.ab 36))) .nil) (pL c0 ms k++Loc.set r 36 (.int a)) [.ae f,.ae w,.ae o]=Nk (.next,pL c0 ms k++Loc.set r 36 (.int a),[.ae f,.ae (w++[.int a]),.ae o]):=ad (iH (i:=1) (x:=.int a) (l:=w) (al rfl) rfl (al (gs6 (an _ _ _) rfl)) (by lia)) (gl rfl);refine rG Ny (rG (kT (m':=pL c0 ms k++Loc.set r 36 (.int a)) rfl) ?_);refine rG e ?_;rw[OJ]at q;exact q
theorem Jw{f:List D}{c:Int}(hp:D.aq ms=Nm){m:Dm}{l:List Int}(G:Get ms 29 c (dmV (m c)))(hc:c<44032)(p:rI k (m c)=Nk l)(s:l.length<900):∃h,exs tab (OP (n+5)) (XF 0) (pL c0 ms k++rest) [.ae f,.ae [.int c],.ae []]=Nk (.next,pL c0 ms k++h,[.ae f,.ae (.none::l.reverse.map .int),.ae [.int c]]):=by
 obtain⟨j,a⟩:∃x,x=(Loc.set rest 34 (.int c)).set 30 (it l):=⟨_,rfl⟩;have e:Loc.get (pL c0 ms k++j) 30=Nk (it l):=by subst a;exact lT rfl (gs5 (an _ _ _) rfl)
 have g:Loc.get (pL c0 ms k++j) 34=Nk (.int c):=by subst a;exact lT rfl (gs5 (ig rfl) rfl)
 obtain⟨h,q⟩:=FD (n:=n+5) (c0:=c0) (ms:=ms) (k:=k) (f:=f) (o:=[.int c]) (x30:=.none) (x34:=.none) (l:=l.reverse) (w:=[.none]) (r:=j) (by simp;lia);refine⟨h,A6 (w:=[]) hp G hc ?_⟩;refine rG p ?_;simp only[A4];refine rL a ?_;refine l5 (ah:=[.ae f,.ae (.none::l.reverse.map .int),.ae [.int c]]) (m₁:=pL c0 ms k++h) (aa:=[.ae f,.ae [],.ae []]) (kn (b:=Nl) (x:=it l) (aa:=[.ae f,.ae [],.ae []]) (al e) rfl) rfl (l5 (aa:=[.ae f,.ae [],.ae []]) (ah:=[.ae f,.ae (.none::l.reverse.map .int),.ae [.int c]]) (m₁:=pL c0 ms k++h) (pZ (c:=Nl) (x:=.int c) (y:=.ag 2) (y':=.ae []) (aa:=[.ae f,.ae [],.ae []]) (al g) (al rfl) rfl rfl) rfl (ad (iH (i:=2) (x:=.int c) (l:=[]) (al rfl) rfl (al g) (by decide)) (ad (iH (i:=1) (x:=.none) (l:=[]) (al rfl) rfl gY (by decide)) (ad (kX (x:=.tup (l.map .int).reverse) (y:=.none) (l:=l.reverse.map .int) (aa:=[.ae f,.ae [.none],.ae [.int c]]) (ah:=[.ae f,.ae [.none],.ae [.int c]]) (IP (x:=it l) (x':=it l) (d:=.tup (l.map .int).reverse) (aa:=[.ae f,.ae [.none],.ae [.int c]]) (al e) rfl rfl rfl) gY ?_ q) (gl rfl)))) (gl rfl)) (gl rfl);simp only[i9,i8,i7,i6,nG,nF,nE,nD,Qs]
theorem y4(hp:D.aq ms=Nm){g:Dm}{w o:List D}(j:∀d∈w,AK d=Nm){m':Nat}:∀{l:List Int}{f:List D}{r:Loc},(∀p∈l,Get ms 29 p (dmV (g p))/\p<44032/\rI k (g p)=Nq)->f.length+l.length<1000->∃y,gX (ev tab (OP (n+5)) (.cmp .ne (.ab 33) (.ae Nl .nil))) (exs tab (OP (n+5)) (XF 0)) (l.length+m') (pL c0 ms k++r) [.ae f,.ae (w++l.reverse.map .int),.ae o]=gX (ev tab (OP (n+5)) (.cmp .ne (.ab 33) (.ae Nl .nil))) (exs tab (OP (n+5)) (XF 0)) m' (pL c0 ms k++y) [.ae (f++l.map .int),.ae w,.ae o]
 |[],f,r,_,_=>⟨r,by simp⟩|a::l,f,r,h,hf=>by
  rw[NU]at hf;refine w03 (h a (.head _)) λq s t=>?_;have c:∀d∈(w++l.reverse.map D.int)++[.int a],AK d=Nm:=λd b=>by
   simp only[NW,Nx,NC]at b;rcases b with(b|⟨x,_,rfl⟩)|rfl
   exact j d b;rfl;rfl
  have e:=kY (O:=OP (n+5)) (m:=pL c0 ms k++r) (st:=[.ae f,.ae ((w++l.reverse.map D.int)++[.int a]),.ae o]) (x:=33) (i:=1) rfl rfl c;obtain⟨z,u⟩:=FE (n:=n) (c0:=c0) (rest:=r) (f:=f) (w:=w++l.reverse.map D.int) (o:=o) hp q s t (by lia);obtain⟨A,v⟩:=y4 hp j (m':=m') (l:=l) (f:=f++[.int a]) (r:=z) (λp hp=>h p (.tail _ hp)) (by simp;lia);refine⟨A,?_⟩;refine rG (show(a::l).length+m'=(l.length+m')+1 by rw[NU];lia) (rG (show w++(a::l).reverse.map D.int=(w++l.reverse.map D.int)++[.int a]by simp) (rG (show f++(a::l).map D.int=(f++[.int a])++l.map D.int by simp) ?_));refine ky ?_ (.inl u) v;refine rG e ?_;simp
theorem AM(hp:D.aq ms=Nm){a:Dm}{c:Int}(G:Get ms 29 c (dmV (a c)))(hc:c<44032)(hd:∀l,rI k (a c)=Nk l->l.length<900/\∀p∈l,Get ms 29 p (dmV (a p))/\p<44032/\rI k (a p)=Nq):(OP (n+6)).F 37 [.int c,bd ms,.bool k]=Nk (il (jh k a c),Nm):=by
 suffices ∃h,gX (ev tab (OP (n+5)) (.cmp .ne (.ab 33) (.ae Nl .nil))) (exs tab (OP (n+5)) (XF 0)) 1000 (pL c ms k++[]) [.ae [],.ae [.int c],.ae []]=Nk (.next,pL c ms k++h,[.ae ((jh k a c).map .int),.ae [],.ae []])by refine hid λt e=>?_;obtain⟨h,q⟩:=this;refine e ?_;refine lP (fn:=lG) (m:=[(6,.int c),(27,bd ms),(26,.bool k)]) (fl:=.ret (.ag 0)) (m':=pL c ms k++h) (st:=[.ae ((jh k a c).map .int),.ae [],.ae []]) rfl rfl ?_ rfl (gP rfl);delta lG;dsimp only;refine gR (i5 kZ (NX _) rfl) rfl (ad (m₁:=pL c ms k++[]) (aa:=[.ae [],.ae [.int c],.ae []]) (km (d:=.tup [.ag 1,.ag 2]) (x:=.tup [.ag 1,.ag 2]) (jz (ke (aa:=[.ae [],.ae [.int c]]) (i5 (l:=[.int c]) (ev1 (al rfl)) (Nr rfl) rfl) (ev1 (i5 kZ (NX _) rfl))) (Nr rfl)) rfl rfl) (ad (mD q) (gN (al rfl) rfl)))
 have b:=kY (O:=OP (n+5)) (m:=pL c ms k++[]) (st:=[.ae [],.ae [.int c],.ae []]) (x:=33) (i:=1) (w:=[.int c]) rfl rfl (by simp);cases hm:rI k (a c)with
 |none=>obtain⟨j,g⟩:=FE (n:=n) (c0:=c) (rest:=[]) (f:=[]) (w:=[]) (o:=[]) hp G hc hm (by decide);refine⟨j,ky b (.inl g) ?_⟩;refine rG (by simp only[jh,hm]:jh k a c=[c]) ?_;exact mn (kY (w:=[]) (i:=1) rfl rfl (by simp))
 |some l=>refine hid λt e=>?_;obtain⟨u,hd⟩:=hd l hm;obtain⟨j,g⟩:=Jw (n:=n) (c0:=c) (rest:=[]) (f:=[]) hp G hc hm u;obtain⟨y,s⟩:=y4 (n:=n) (c0:=c) (w:=[.none]) (o:=[.int c]) hp (by simp) (m':=999-l.length) (l:=l) (f:=[]) (r:=j) hd (by simp;lia);obtain⟨z,v⟩:=Jx (n:=n+5) (ms:=ms) (c0:=c) (k:=k) (rest:=y) (f:=l.map .int) (w:=[]) (o:=[]) (x:=.int c);refine e ?_;refine⟨z,ky b (.inl g) ?_⟩;refine rG (by simp only[jh,hm]:jh k a c=l) ?_;rw[show l.length+(999-l.length)=999 by lia]at s;refine We s ?_;refine rG (show 999-l.length=(997-l.length)+1+1 by lia) ?_;refine ky (kY (w:=[.none]) (i:=1) rfl rfl (by simp)) (.inr v) (mn (kY (w:=[]) (i:=1) rfl rfl (by simp)))
theorem wN(hp:D.aq ms=Nm){a:Dm}(ac:Int->Int)(h:Two ac){t:List Int}(hx:∀c∈t,∀n,(OP (n+6)).F 37 [.int c,bd ms,.bool k]=Nk (il (jh k a c),Nm))(G:∀c∈t.flatMap (jh k a),Get ms 42 c (.int (ac c)))(p:(t.flatMap (jh k a)).length<64):(OP (n+7)).F 44 [il t,bd ms,.bool k]=Nk (il (pg ac (t.flatMap (jh k a))),Nm):=by
 have o:=gK hp;have L:=jF (xs:=[6]) (single:=Nm) (f:=D.int) (body:=exs tab (OP (n+6)) (.cons (.expr (.extend (.ab 32) (.call Nl 37 (.cons (.ab 6) (.cons (.ab 27) (.cons (.ab 26) .nil)))))) .nil)) (λb m g=>∃rest,m=[(40,il t),(27,bd ms),(26,.bool k),(32,.ag 0)]++rest/\g=[.ae ((b.flatMap (jh k a)).map .int)]) t [] [(40,il t),(27,bd ms),(26,.bool k),(32,.ag 0)] [.ae []] ⟨[],rfl,rfl⟩ ?_;refine w22 L λv r q L=>?_;refine w12 L λrest s u=>?_;subst s;subst u;rw[NO]at q;refine lP (fn:=nO) (m:=[(40,il t),(27,bd ms),(26,.bool k)]) (fl:=.ret (.ag 1)) (m':=[(40,il t),(27,bd ms),(26,.bool k),(32,.ag 0)]++rest) (st:=[.ae ((t.flatMap (jh k a)).map .int),.ae ((pg ac (t.flatMap (jh k a))).map .int)]) rfl rfl ?_ rfl (gP rfl);delta nO;dsimp only;refine gR (i5 kZ (NX _) rfl) rfl (ad (kX (x:=il t) (y:=.none) (l:=t.map .int) (aa:=[.ae []]) (ah:=[.ae []]) (al rfl) gY rfl q) (gN (jb (ds:=[.ag 0,bd ms]) (ds':=[il (t.flatMap (jh k a)),bd ms]) (aa:=[.ae ((t.flatMap (jh k a)).map .int)]) (ev2 (al rfl) (al rfl)) (gW (nk rfl) ?_) (BX (n+2) hp ac h _ G p) rfl) rfl));exact sn1 (by assumption);rintro b c q m g d ⟨rest,rfl,rfl⟩;rw[NO]at d;have j:c∈t:=by refine rG d ?_;simp
 have e:(b.flatMap (jh k a)).length+(jh k a c).length<=(t.flatMap (jh k a)).length:=by refine rG d ?_;simp
 refine⟨_,_,_,rfl,.inl (ad (pY (i:=0) (x:=il (jh k a c)) (l':=(jh k a c).map .int) (al rfl) rfl (gQ (ds:=[.int c,bd ms,.bool k]) (aa:=[.ae ((b.flatMap (jh k a)).map .int)]) (ev3 (al (gs4 (an _ _ _) rfl)) (al rfl) (al rfl)) ?_ (hx c j n)) rfl (by simp only[Nu];lia)) (gl rfl)),Loc.set rest 6 (.int c),rfl,?_⟩;exact sn3 rfl (by assumption) rfl;simp
end
section
variable{n:Nat}{ms:List (Key×D)}
theorem zw(hp:D.aq ms=Nm){k:Nat}{r:D}(a:gL ms (.s k)=Nk r):(OP (n+1)).F 178 [bd ms,.str k]=Nk (r,Nl):=by have b:=gK hp;refine lP (fn:=i4) (m:=[(52,bd ms),(128,.str k)]) (fl:=.ret r) (m':=[(52,bd ms),(128,.str k)]) (st:=[]) rfl rfl ?_ rfl (iJ (kI hp a));delta i4;dsimp only;refine jl (c:=(Nm !=Nm)) (aa:=[]) (pZ (c:=Nm) (x:=.str k) (y:=.ap ms) (y':=.ap ms) (aa:=[]) (al rfl) (iV (x:=bd ms) (x':=bd ms) (aa:=[]) (al rfl) rfl rfl) rfl (by simp only[zJ,LH,a];rfl)) rfl (gN (ie (x:=.ap ms) (x':=.ap ms) (y:=.str k) (aa:=[]) (iV (x:=bd ms) (x':=bd ms) (aa:=[]) (al rfl) rfl rfl) (al rfl) rfl (by simp only[kQ,op,a])) rfl)
abbrev Row:=Int×Int×D
noncomputable abbrev rt(r:Row):D:=.tup [.int r.1,.int r.2.1,r.2.2]
noncomputable def BJ(ss:List Int)(i:Nat)(v:D):Row:=((ss[i]?).getD 0,(if i+1<ss.length then(ss[i+1]?).getD 0-1 else 1114111),v)
noncomputable def v6(ss:List Int)(vs:List D):List Row:=vs.zipIdx.map λp=>BJ ss p.2 p.1
theorem CW(vs:List D)(k:Nat):wI k vs=(vs.zipIdx k).map λp=>.tup [.int p.2,p.1]:=by induction vs generalizing k with|nil=>rfl|cons v r a=>refine rG IN (rG List.zipIdx_cons (rG Ny ?_));refine rL (a (k+1)) ?_;rfl
theorem oK{l:List Row}(h:∀r∈l,r.2.2.plain=Nm):D.ax (l.map rt)=Nm:=by induction l with|nil=>rfl|cons a r c=>simp only[Ny,kK,kJ,j0,jZ,jY,jX,jW,jV,jU,jT,jS,h a (.head _),c λq b=>h q (.tail _ b),Ox]
theorem uz{d:D}{st:am}{l:List D}(h:tQ st d=Nk (.ae l))(hl:l.all D.scalar=Nl):oy d st=Nk (.ae l,Nl):=by refine(ni h).trans ?_;induction d using D.casesOn<;>first|rfl|exact congrArg (λb=>Nk (D.ae l,b)) hl
theorem J1{e:D}{ss:List Int}{vs:List D}(hp:(rmD e ss vs).plain=Nm)(J:ss.length=vs.length)(P:0<vs.length)(Y:vs.length<900):(OP (n+1)).F 79 [rmD e ss vs]=Nk (.ae ((v6 ss vs).map rt),Nl):=by
 have H:∀d∈vs,d.plain=Nm:=by simp only[j0,jZ,jY,jX,jW,jV,jU,jT,jS,kN,kM,kL,NI]at hp;exact mq hp.2.2.1
 have L:=jF (xs:=[82,75]) (single:=Nl) (f:=λp:D×Nat=>D.tup [.int p.2,p.1]) (body:=exs tab (OP n) (.cons (.assign (.name 46) (.ite (.cmp .lt (.bin .add (.ab 82) (.int 1)) (.len (.ab 72))) (.bin .sub (.aj (.ab 72) (.bin .add (.ab 82) (.int 1))) (.int 1)) (.glob 76))) (.cons (.expr (.append (.ab 32) (.tup (.cons (.aj (.ab 72) (.ab 82)) (.cons (.ab 46) (.cons (.ab 75) .nil)))))) .nil))) (λt m N=>∃a,m=[(83,rmD e ss vs),(72,il ss),(32,.ag 0)]++a/\N=[.ae ((t.map λp=>BJ ss p.2 p.1).map rt)]) vs.zipIdx [] [(83,rmD e ss vs),(72,il ss),(32,.ag 0)] [.ae []] ⟨[],rfl,rfl⟩ ?_;obtain⟨m',W,q,L⟩:=L;obtain⟨a,rfl,rfl⟩:=L;have V:D.ax ((v6 ss vs).map rt)=Nm:=oK λr T=>by obtain⟨p,G,rfl⟩:=Nx.mp T;exact H _ (Tj G)
 refine lP (fn:=nN) (m:=[(83,rmD e ss vs)]) (fl:=.ret (.ag 0)) (m':=[(83,rmD e ss vs),(72,il ss),(32,.ag 0)]++a) (st:=[.ae ((v6 ss vs).map rt)]) rfl rfl ?_ rfl (uz (jK (c:=.ae _) rfl V) ?_);delta nN;dsimp only;refine ad (m₁:=[(83,rmD e ss vs),(72,il ss),(32,.ag 0)]) (aa:=[.ae []]) (km (d:=.tup [il ss,.ag 0]) (x:=.tup [il ss,.ag 0]) (jz (ke (aa:=[]) (iV (x:=rmD e ss vs) (x':=rmD e ss vs) (aa:=[]) (al rfl) rfl rfl) (ev1 (i5 kZ (NX _) rfl))) (Nr rfl)) rfl rfl) (ad (kX (x:=.ae vs) (y:=.none) (l:=vs.zipIdx.map λp=>.tup [.int p.2,p.1]) (aa:=[.ae []]) (ah:=[.ae []]) (iV (x:=rmD e ss vs) (x':=rmD e ss vs) (aa:=[.ae []]) (al rfl) rfl rfl) gY ?_ q) (gN (al rfl) rfl));simp only[i9,i8,i7,i6];refine rL (CW _ _) ?_;rfl;induction vs using NA with|nil=>simp at P|cons v r=>rfl
 rintro t ⟨v,i⟩ q m N w ⟨a,rfl,rfl⟩;rw[NO]at w;have A:(v,i)∈vs.zipIdx:=by refine rG w ?_;simp
 refine hid λX U=>?_;obtain⟨_,R,Z⟩:=List.mem_zipIdx A;rw[Oz]at R;have B:t.length<1000:=by have:=congrArg PG w;simp at this;lia
 obtain⟨z,k⟩:∃x,x=(Loc.set a 82 (.int i)).set 75 v:=⟨_,rfl⟩;obtain⟨h,E⟩:∃x:Int,x=(if i+1<ss.length then(ss[i+1]?).getD 0-1 else 1114111):=⟨_,rfl⟩;obtain⟨M,o⟩:∃x,x=Loc.set z 46 (.int h):=⟨_,rfl⟩;refine U ?_;have C:∀j,j<ss.length->pU (il ss) (.int j)=Nk (.int ((ss[j]?).getD 0)):=λj S=>kR (by refine rG (Oc) (rG (NQ S) ?_);rfl);have K:∀s,ev tab (OP n) (.bin .add (.ab 82) (.int 1)) ([(83,rmD e ss vs),(72,il ss),(32,.ag 0)]++z) s=Nk (.int (i+1:Nat),s):=λs=>kG ((λs=>al (gs3 (by subst k;exact ig rfl) rfl)) s) ir rfl rfl rfl;have u:∀s b,decide (i+1<ss.length)=b->ev tab (OP n) (.cmp .lt (.bin .add (.ab 82) (.int 1)) (.len (.ab 72))) ([(83,rmD e ss vs),(72,il ss),(32,.ag 0)]++z) s=Nk (.bool b,s):=λs b Q=>by refine iA (K s) (vw (x:=il ss) (x':=il ss) (d:=.int ss.length) (al rfl) rfl yu) rfl rfl ?_;simp only[kq,kr,kt,ku,<-Q];congr 1;exact decide_eq_decide.mpr (by lia)
 have I:∀s,ev tab (OP n) (.ite (.cmp .lt (.bin .add (.ab 82) (.int 1)) (.len (.ab 72))) (.bin .sub (.aj (.ab 72) (.bin .add (.ab 82) (.int 1))) (.int 1)) (.glob 76)) ([(83,rmD e ss vs),(72,il ss),(32,.ag 0)]++z) s=Nk (.int h,s):=λs=>by by_cases g:i+1<ss.length;refine rG E (rG (if_pos g) ?_);exact m6 (u s Nm (by simp[g])) rfl (kG (ie (x:=il ss) (x':=il ss) (al rfl) (K s) rfl (C _ g)) ir rfl rfl rfl);refine rG E (rG (if_neg g) ?_);exact nV (u s Nl (by simp[g])) rfl (zN rfl)
 have O:rt (BJ ss i v)=.tup [.int ((ss[i]?).getD 0),.int h,v]:=by refine rG E ?_;rfl
 refine⟨[(83,rmD e ss vs),(72,il ss),(32,.ag 0)]++z,[(83,rmD e ss vs),(72,il ss),(32,.ag 0)]++M,_,by refine rG k ?_;rfl,.inl (gR (I _) (by refine rG o ?_;rfl) (ad (iH (i:=0) (x:=rt (BJ ss i v)) (l:=(t.map λp=>BJ ss p.2 p.1).map rt) (al rfl) rfl ?_ (by simpa using B)) (gl rfl))),M,rfl,?_⟩;refine rG O ?_;exact jz (ev3 (ie (x:=il ss) (x':=il ss) (al rfl) ((λs=>al (gs3 (by subst o;show Loc.get (Loc.set z 46 _) 82=_;refine rG (gI _ _ _ _ rfl) ?_;subst k;exact ig rfl) rfl)) _) rfl (C _ (by lia))) ((λs=>al (gs3 (by subst o;exact an _ _ _) rfl)) _) ((λs=>al (gs3 (by subst o;show Loc.get (Loc.set z 46 _) 75=_;refine rG (gI _ _ _ _ rfl) ?_;subst k;exact an _ _ _) rfl)) _)) (Nr rfl);simp
noncomputable def kz(a:D)(ss:List Int)(vs:List D):List Row:=(v6 ss vs).filter λr=>pq r.2.2 a==Nk Nl
theorem kj{c d:Type}(f:c->d)(p:c->Bool)(g:d->Option d)(l:List c)(h:∀a∈l,g (f a)=if p a then Nk (f a)else Nq):(l.map f).filterMap g=(l.filter p).map f:=by induction l with|nil=>rfl|cons a r i=>refine rG Ny (rG Oy (rG (h a (.head _)) (rG PC (rG (i λb e=>h b (.tail _ e)) ?_))));cases p a<;>rfl
theorem zj{f:D}{ss:List Int}{vs:List D}(hp:(rmD f ss vs).plain=Nm)(k:ss.length=vs.length)(z:0<vs.length)(B:vs.length<900)(i:∀v∈vs,(pq v f).isSome=Nm)(s:∃r,r∈kz f ss vs):(OP (n+2)).F 81 [rmD f ss vs]=Nk (.ae ((kz f ss vs).map rt),Nl):=by
 have o:=hp;simp only[j0,jZ,jY,jX,jW,jV,jU,jT,jS,kN,kM,kL,NI]at o;have q:∀d∈vs,d.plain=Nm:=mq o.2.2.1;have h:∀r∈v6 ss vs,r.2.2∈vs:=λr g=>by refine w12 (Nx.mp g) λp t C=>?_;subst C;exact Tj t
 refine lP (fn:=kE) (m:=[(52,rmD f ss vs)]) (fl:=.ret (.ag 0)) (m':=[(52,rmD f ss vs)]) (st:=[.ae ((kz f ss vs).map rt)]) rfl rfl ?_ rfl (uz (jK (c:=.ae _) rfl (oK λr g=>q _ (h r (Pp.mp g).1))) ?_);delta kE;dsimp only;refine gN (rO (x:=.ae ((v6 ss vs).map rt)) (y:=.none) (l:=(v6 ss vs).map rt) (l':=(kz f ss vs).map rt) (aa:=[]) (ah:=[]) (au:=[]) (iO (ds:=[rmD f ss vs]) (aa:=[]) (ev1 (al rfl)) (sn1 hp) (J1 hp k z B) (tG (al1 hp))) gY rfl (by rw[Nu,v6,Nu,List.length_zipIdx];exact lW (by lia)) ?_ rfl) rfl;rw[ja (λd=>match d with|.tup l=>if pq (l.getD 2 .none) f==Nk Nl then Nk d else Nq|_=>Nq) λd A=>?_];rw[kj rt (λr=>pq r.2.2 f==Nk Nl) _ _ λr _=>rfl];rfl;refine w12 (Nx.mp A) λr g E=>?_;subst E;have w:=h r g;obtain⟨b,u⟩:=Om.mp (i _ w);have j:=q _ w;show compTurn _ _ _ _ _ _ _ _ _ _=Nk (if pq r.2.2 f==Nk Nl then Nk (rt r)else Nq,[]);refine rG (show(pq r.2.2 f==Nk Nl)= !b by rw[u];induction b using Nw<;>rfl) ?_;refine JN (m':=[(52,rmD f ss vs),(80,rt r)]) rfl (AN (iO (ds:=[r.2.2,f]) (aa:=[]) (ev2 (ie (x:=rt r) (x':=rt r) (y:=.int 2) (aa:=[]) (al rfl) ir rfl rfl) (iV (x:=rmD f ss vs) (x':=rmD f ss vs) (aa:=[]) (al rfl) rfl rfl)) (sn2 j o.1) (Co n j o.1 u) (tG (al2 j o.1)))) λ_=>al rfl;obtain⟨r,g⟩:=s;cases e:kz f ss vs with|nil=>rw[e]at g;exact iM g|cons a b=>rfl
end
section
variable{n:Nat}{ms:List (Key×D)}
theorem BM(hp:D.aq ms=Nm){ac:Int->Int}{c a p1:Int}(hx:Get ms 51 c (.bool Nl))(hc:c<44032)(G:Get ms 42 c (.int (ac c)))(e:Get ms 42 a (.int (ac a))):(OP (n+4)).F 49 [.int c,it [a,p1],bd ms]=Nk (.bool (ac c==0&&ac a==0),Nl):=by
 suffices ∃d,exs tab (OP (n+3)) kD.body [(6,.int c),(30,it [a,p1]),(27,bd ms)] []=Nk (.ret (.bool (ac c==0&&ac a==0)),d,[])by obtain⟨d,q⟩:=this;exact lP rfl rfl q rfl rfl
 delta kD;dsimp only;refine⟨_,jl (aa:=[]) (Du (w5 (b:=Nl) (aa:=[]) (nT hp hx rfl (al rfl)) rfl (w5 (b:=Nl) (aa:=[]) (kn (b:=Nm) (x:=.none) (aa:=[]) (iO (ds:=[.int c]) (aa:=[]) (ev1 (al rfl)) (sn1 rfl) (uh (n+1) c hc) rfl) rfl) rfl mz))) rfl (gN ?_ rfl)⟩;have:=mx (oV (iA (nT hp G rfl (al rfl)) ir rfl rfl rfl:ev tab (OP (n+3)) (.cmp .eq (.aw Nl (.ab 27) 28 (.cons (.str 42) (.cons (.ab 6) .nil))) (.int 0)) [(6,.int c),(30,it [a,p1]),(27,bd ms)] []=Nk (.bool (ac c==0),[])) λ_=>oV (iA (nT hp e rfl (ie (x:=it [a,p1]) (x':=it [a,p1]) (al rfl) ir rfl rfl)) ir rfl rfl rfl:ev tab (OP (n+3)) (.cmp .eq (.aw Nl (.ab 27) 28 (.cons (.str 42) (.cons (.aj (.ab 30) (.int 0)) .nil))) (.int 0)) [(6,.int c),(30,it [a,p1]),(27,bd ms)] []=Nk (.bool (ac a==0),[])) λ_=>(mz:evB tab (OP (n+3)) Nm .nil _ []=_));rw[PN]at this;exact this
abbrev t0:=Int×Nat×List Int
noncomputable abbrev Fa(r:t0):Row:=(r.1,r.1,.tup [.str r.2.1,it r.2.2])
noncomputable def ji(ac:Int->Int)(f:List (List Int×D))(r:t0):List (List Int×D):=if r.2.1 !=25||r.2.2.length !=2 then f else if(ac r.1==0&&ac (r.2.2.headD 0)==0)&&(gL f r.2.2).isNone then jv f r.2.2 (.int r.1)else f
noncomputable def nW(ac:Int->Int)(a:List t0):List (List Int×D):=a.foldl (ji ac) []
theorem wQ(ac:Int->Int)(f:List (List Int×D))(r:t0):(ji ac f r).length<=f.length+1:=by unfold ji;split;lia;split;exact rQ _ _ _;lia
theorem wO(ac:Int->Int):∀(a:List t0)(f:List (List Int×D)),(a.foldl (ji ac) f).length<=f.length+a.length|[],f=>by simp|r::a,f=>by have:=wO ac a (ji ac f r);have:=wQ ac f r;refine rG N5 (rG NU ?_);lia
theorem y2{l:List (List Int×D)}{k:List Int}{d:D}(h:D.plainT l=Nm)(hd:d.plain=Nm):D.plainT (jv l k d)=Nm:=by induction l with|nil=>simp only[j6,j5,j4,n6,n5,n0,hd,Ox]|cons p r a=>obtain⟨c,b⟩:=p;simp only[n6,n5,n0,NI]at h;simp only[j6,j5,j4];split;simp only[n6,n5,n0,hd,h.2,Ox];simp only[n6,n5,n0,h.1,a h.2,Ox]
theorem tq(ac:Int->Int):∀(a:List t0)(f:List (List Int×D)),D.plainT f=Nm->D.plainT (a.foldl (ji ac) f)=Nm|[],f,h=>h|r::a,f,h=>by refine rG N5 ?_;refine tq ac a _ ?_;unfold ji;split;exact h;split;exact y2 h rfl;exact h
theorem oe(l:List Int):mu (l.map .int)=Nk l:=by induction l with|nil=>rfl|cons a r b=>simp only[Ny,EW,EV,b,Ok]
theorem rc(l:List Int):oW (it l)=Nk (.t l):=by simp only[Lj,Lh,Lg,oe,Ok]
theorem v7{c:Int}(a:0<=c)(hc:c<44032):ki .aV (.int c) (.int (c+1)) st=Nk ([c].map .int):=by simp only[i9,i8,i7,i6,show(c+1-c).toNat=1 by lia,show ry c=Nm from oO a (by lia),show ry (c+1)=Nm from oO (by lia) (by lia)];rfl
theorem wP(hp:D.aq ms=Nm){ac:Int->Int}{Q:D}{ss:List Int}{vs:List D}(hk:gL ms (.s 29)=Nk (rmD Q ss vs))(S:ss.length=vs.length)(h0:0<vs.length)(hl:vs.length<900)(K:∀v∈vs,(pq v Q).isSome=Nm){A:List t0}(M:kz Q ss vs=A.map Fa)(Z:0<A.length)(a7:A.length<900)(U:∀r∈A,0<=r.1/\r.1<44032/\Get ms 51 r.1 (.bool Nl)/\Get ms 42 r.1 (.int (ac r.1))/\∀p∈r.2.2,Get ms 42 p (.int (ac p))):(OP (n+5)).F 50 [bd ms]=Nk (.ak (nW ac A),Nl):=by
 have G:=kI hp hk;have E:=gK hp;have hq:=G;simp only[j0,jZ,jY,jX,jW,jV,jU,jT,jS,kN,kM,kL,NI]at hq;have a8:(D.ae ((kz Q ss vs).map rt)).plain=Nm:=oK λr U=>by rw[M]at U;refine w12 (Nx.mp U) λp _ z1=>?_;subst z1;simp only[j0,jZ,jY,jX,jW,jV,jU,jT,jS,kK,kJ,lA,Ox]
 have L:=jF (xs:=[45,46,24]) (single:=Nl) (f:=λr:t0=>rt (Fa r)) (body:=exs tab (OP (n+4)) (.cons (.ite (.or (.cons (.bq Nl (.ab 24)) (.cons (.cmp .ne (.aj (.ab 24) (.int 0)) (.str 25)) (.cons (.cmp .ne (.len (.aj (.ab 24) (.int 1))) (.int 2)) .nil)))) (.cons .cont .nil) .nil) (.cons (.bu [6] Nm .aV (.ab 45) (.bin .add (.ab 46) (.int 1)) (.cons (.ite (.and (.cons (.call Nl 49 (.cons (.ab 6) (.cons (.aj (.ab 24) (.int 1)) (.cons (.ab 27) .nil)))) (.cons (.bz Nm (.aj (.ab 24) (.int 1)) (.ab 32)) .nil))) (.cons (.assign (.aj (.ab 32) (.aj (.ab 24) (.int 1))) (.ab 6)) .nil) .nil) .nil)) .nil))) (λe m R=>∃t,m=[(27,bd ms),(32,.ag 0)]++t/\R=[.ak (nW ac e)]) A [] [(27,bd ms),(32,.ag 0)] [.ak []] ⟨[],rfl,rfl⟩ ?_;refine w22 L λm' a5 q L=>?_;refine w12 L λt z2 z3=>?_;subst z2;subst z3;rw[NO]at q;refine lP (fn:=jG) (m:=[(27,bd ms)]) (fl:=.ret (.ag 0)) (m':=[(27,bd ms),(32,.ag 0)]++t) (st:=[.ak (nW ac A)]) rfl rfl ?_ rfl ?_;delta jG;dsimp only;refine gR (yT rfl) rfl (ad (kX (x:=.ae ((kz Q ss vs).map rt)) (y:=.none) (l:=A.map λr=>rt (Fa r)) (aa:=[.ak []]) (ah:=[.ak []]) (to (x:=rmD Q ss vs) (c:=177) (g:=81) (ds:=[]) (aa:=[.ak []]) (ah:=[.ak []]) (to (x:=bd ms) (c:=196) (g:=178) (ds:=[.str 29]) (aa:=[.ak []]) (ah:=[.ak []]) (al rfl) rfl rfl rfl (ev1 j7) (sn2 E rfl) (zw (n:=n+3) hp hk) (tG (al2 E rfl))) rfl rfl rfl kZ (sn1 G) (zj (n:=n+2) G S h0 hl K ?_) (tG (al1 G))) gY ?_ q) (gN (al rfl) rfl));refine rG M ?_;induction A using NA with|nil=>simp at Z|cons a b=>exact⟨_,.head _⟩
 simp only[i9,i8,i7,i6,nG,nF,nE,nD,M,Pe];rfl;have:tQ [.ak (nW ac A)] (.ag 0)=Nk (.ak (nW ac A)):=jK (c:=.ak _) rfl (tq ac A [] rfl);exact ni this;rintro e ⟨c,g,d⟩ q m R N ⟨t,rfl,rfl⟩;rw[NO]at N;have T:(c,g,d)∈A:=by refine rG N ?_;simp
 refine w05 (U _ T) λc0 c1 gx X gp=>?_;have a6:e.length<900:=by have:=congrArg PG N;simp at this;lia
 have Y:(nW ac e).length<900:=by have:=wO ac e [];simp only[O8]at this;show(e.foldl _ []).length<900;lia
 refine rG (by simp only[nW,Pt,N5,QP]:nW ac (e++[(c,g,d)])=ji ac (nW ac e) (c,g,d)) ?_;generalize nW ac e=f at*;obtain⟨u,z⟩:∃x,x=((Loc.set t 45 (.int c)).set 46 (.int c)).set 24 (.tup [.str g,it d]):=⟨_,rfl⟩;have P:∀s,ev tab (OP (n+4)) (.ab 24) ([(27,bd ms),(32,.ag 0)]++u) s=Nk (.tup [.str g,it d],s):=λs=>al (gs2 (by subst z;exact an _ _ _) rfl);have a4:∀s,ev tab (OP (n+4)) (.ab 46) ([(27,bd ms),(32,.ag 0)]++u) s=Nk (.int c,s):=λs=>al (gs2 (by subst z;exact ig rfl) rfl);have a3:∀s,ev tab (OP (n+4)) (.ab 45) ([(27,bd ms),(32,.ag 0)]++u) s=Nk (.int c,s):=λs=>al (gs2 (by subst z;show Loc.get (Loc.set (Loc.set _ 46 _) 24 _) 45=_;refine rG (gI _ _ _ _ rfl) ?_;exact ig rfl) rfl);have w:ev tab (OP (n+4)) (.or (.cons (.bq Nl (.ab 24)) (.cons (.cmp .ne (.aj (.ab 24) (.int 0)) (.str 25)) (.cons (.cmp .ne (.len (.aj (.ab 24) (.int 1))) (.int 2)) .nil)))) ([(27,bd ms),(32,.ag 0)]++u) [.ak f]=Nk (.bool (g !=25||d.length !=2),[.ak f]):=by
  have W:ev tab (OP (n+4)) (.cmp .ne (.len (.aj (.ab 24) (.int 1))) (.int 2)) ([(27,bd ms),(32,.ag 0)]++u) [.ak f]=Nk (.bool (d.length !=2),[.ak f]):=by refine iA (x:=.int d.length) (x':=.int d.length) (vw (x:=it d) (x':=it d) (ie (x:=.tup [.str g,it d]) (x':=.tup [.str g,it d]) (P _) ir rfl rfl) rfl Kl) ir rfl rfl ?_;show Nk (!((d.length:Int)==2))=Nk (d.length !=2);congr 1;show(!decide ((d.length:Int)=2))= !decide (d.length=2);congr 1;exact decide_eq_decide.mpr (by lia)
  have:=Du (w5 (b:=Nl) (kn (b:=Nl) (x:=.tup [.str g,it d]) (P _) rfl:ev tab (OP (n+4)) (.bq Nl (.ab 24)) ([(27,bd ms),(32,.ag 0)]++u) [.ak f]=Nk (.bool Nl,[.ak f])) rfl (Dw (iA (x:=.str g) (x':=.str g) (ie (x:=.tup [.str g,it d]) (x':=.tup [.str g,it d]) (P _) ir rfl rfl) j7 rfl rfl uK:ev tab (OP (n+4)) (.cmp .ne (.aj (.ab 24) (.int 0)) (.str 25)) ([(27,bd ms),(32,.ag 0)]++u) [.ak f]=Nk (.bool (g !=25),[.ak f])) λ_=>Dw W λ_=>(mz:evB tab (OP (n+4)) Nl .nil _ [ao.ak f]=_)));rw[R5]at this;exact this
 refine⟨[(27,bd ms),(32,.ag 0)]++u,?_⟩;cases hskip:(g !=25||d.length !=2)with
 |true=>rw[hskip]at w;refine⟨_,_,by refine rG z ?_;rfl,.inr (rW w rfl (w7 rfl)),u,rfl,?_⟩;simp only[ji,hskip,if_true]|false=>
 rw[hskip]at w;have h5:=hskip;simp only[N9,bne_eq_false_iff_eq]at h5;obtain⟨j,o,rfl⟩:=MH h5.2;have pf:=BM (n:=n) hp (p1:=o) gx c1 X (gp j (by simp));obtain⟨I,J⟩:∃x,x=Loc.set u 6 (.int c):=⟨_,rfl⟩;have l6:∀s,ev tab (OP (n+4)) (.ab 6) ([(27,bd ms),(32,.ag 0)]++I) s=Nk (.int c,s):=λs=>al (gs2 (by subst J;exact an _ _ _) rfl);have C:∀s,ev tab (OP (n+4)) (.aj (.ab 24) (.int 1)) ([(27,bd ms),(32,.ag 0)]++I) s=Nk (it [j,o],s):=λs=>ie (x:=.tup [.str g,it [j,o]]) (x':=.tup [.str g,it [j,o]]) (al (gs2 (by subst J;show Loc.get (Loc.set u 6 _) 24=_;refine rG (gI _ _ _ _ rfl) ?_;subst z;exact an _ _ _) rfl)) ir rfl rfl;obtain⟨b,eb⟩:∃b,b=((ac c==0&&ac j==0)&&(gL f [j,o]).isNone):=⟨_,rfl⟩;have H:ev tab (OP (n+4)) (.and (.cons (.call Nl 49 (.cons (.ab 6) (.cons (.aj (.ab 24) (.int 1)) (.cons (.ab 27) .nil)))) (.cons (.bz Nm (.aj (.ab 24) (.int 1)) (.ab 32)) .nil))) ([(27,bd ms),(32,.ag 0)]++I) [.ak f]=Nk (.bool b,[.ak f]):=by have a1:ev tab (OP (n+4)) (.call Nl 49 (.cons (.ab 6) (.cons (.aj (.ab 24) (.int 1)) (.cons (.ab 27) .nil)))) ([(27,bd ms),(32,.ag 0)]++I) [.ak f]=Nk (.bool (ac c==0&&ac j==0),[.ak f]):=iO (ds:=[.int c,it [j,o],bd ms]) (ev3 (l6 _) (C _) (al rfl)) (sn3 rfl (kf [j,o]) E) pf (tG (al3 rfl (kf [j,o]) E));have W:ev tab (OP (n+4)) (.bz Nm (.aj (.ab 24) (.int 1)) (.ab 32)) ([(27,bd ms),(32,.ag 0)]++I) [.ak f]=Nk (.bool (Nm !=(gL f [j,o]).isSome),[.ak f]):=pZ (x:=it [j,o]) (y:=.ag 0) (y':=.ak f) (C _) (al rfl) rfl (congrArg (λk=>bkt k λk=>Nk (gL f k).isSome) (rc [j,o]):_);have:=mx (oV a1 λ_=>oV W λ_=>(mz:evB tab (OP (n+4)) Nm .nil _ [ao.ak f]=_));rw[PN]at this;refine rG this (rG eb ?_);cases gL f [j,o]<;>rfl
 have O:∃V,forLoop [6] Nm (exs tab (OP (n+4)) (.cons (.ite (.and (.cons (.call Nl 49 (.cons (.ab 6) (.cons (.aj (.ab 24) (.int 1)) (.cons (.ab 27) .nil)))) (.cons (.bz Nm (.aj (.ab 24) (.int 1)) (.ab 32)) .nil))) (.cons (.assign (.aj (.ab 32) (.aj (.ab 24) (.int 1))) (.ab 6)) .nil) .nil) .nil)) ([c].map .int) ([(27,bd ms),(32,.ag 0)]++u) [.ak f]=Nk (.next,[(27,bd ms),(32,.ag 0)]++V,[.ak (ji ac f (c,g,[j,o]))]):=by
  have L:=jF (xs:=[6]) (single:=Nm) (f:=D.int) (body:=exs tab (OP (n+4)) (.cons (.ite (.and (.cons (.call Nl 49 (.cons (.ab 6) (.cons (.aj (.ab 24) (.int 1)) (.cons (.ab 27) .nil)))) (.cons (.bz Nm (.aj (.ab 24) (.int 1)) (.ab 32)) .nil))) (.cons (.assign (.aj (.ab 32) (.aj (.ab 24) (.int 1))) (.ab 6)) .nil) .nil) .nil)) (λe m R=>∃r,m=[(27,bd ms),(32,.ag 0)]++r/\((e=[]/\r=u/\R=[.ak f])\/(e≠[]/\R=[.ak (ji ac f (c,g,[j,o]))]))) [c] [] ([(27,bd ms),(32,.ag 0)]++u) [.ak f] ⟨u,rfl,.inl ⟨rfl,rfl,rfl⟩⟩ ?_;refine w22 L λm' a5 q L=>?_;refine w12 L λr z4 h=>?_;subst z4;rcases h with⟨h,_⟩|⟨_,rfl⟩
  cases h;exact⟨r,q⟩;rintro p' a q' m R B ⟨r,rfl,h⟩;rw[NO]at B;have a0:p'=[]/\a=c:=by
   induction p' using NA with
   |nil=>cases B;exact⟨rfl,rfl⟩
   |cons x y=>induction y using NA<;>cases B
  obtain⟨rfl,rfl⟩:=a0;rcases h with⟨_,rfl,rfl⟩|⟨h,_⟩
  refine⟨[(27,bd ms),(32,.ag 0)]++I,[(27,bd ms),(32,.ag 0)]++I,[.ak (ji ac f (a,g,[j,o]))],by refine rG J ?_;rfl,.inl ?_,I,rfl,.inr ⟨by simp,rfl⟩⟩;have ec:ji ac f (a,g,[j,o])=if b then jv f [j,o] (.int a)else f:=by simp only[ji,hskip,OE,if_false,VH,<-eb]
  refine rG ec ?_;induction b using Nw with|true=>exact jc H rfl (ad (Fz (i:=0) (es:=f) (kk:=[j,o]) (y:=it [j,o]) (l6 _) (al rfl) (C _) rfl (rc [j,o]) (AT (by lia)) rfl) (gl rfl)) (gl rfl)|false=>exact jl H rfl (gl rfl)
  exact absurd rfl h
 obtain⟨V,q2⟩:=O;exact⟨[(27,bd ms),(32,.ag 0)]++V,_,by refine rG z ?_;rfl,.inl (jl w rfl (ad (kX (x:=.int c) (y:=.int (c+1)) (l:=[c].map .int) (aa:=[.ak f]) (ah:=[.ak f]) (a3 _) (kG (x:=.int c) (x':=.int c) (a4 _) ir rfl rfl rfl) (v7 c0 c1) q2) (gl rfl))),V,rfl,rfl⟩
end
abbrev mC:=List (List Int×Int)
noncomputable abbrev prD(ps:mC):List (List Int×D):=ps.map λp=>(p.1,.int p.2)
theorem v8(ps:mC):D.plainT (prD ps)=Nm:=by induction ps with|nil=>rfl|cons a r b=>simp only[prD,Ny,n6,n5,n0,j0,jZ,jY,jX,jW,jV,jU,jT,jS,Pg];exact b
theorem G3(ps:mC)(k:List Int):gL (prD ps) k=(gL ps k).map .int:=by induction ps with|nil=>rfl|cons p r a=>simp only[prD,Ny,iw,iv,iu];split;rfl;exact a
noncomputable abbrev IZ(ps:mC)(q:List (Key×D)):D:=.obj 61 [(53,.ak (prD ps)),(54,.ap q)]
noncomputable def tS(ps:mC):List (Key×D):=ps.foldl (λq p=>jv q (.i (p.1.getLastD 0)) (.bool Nm)) []
theorem ua:∀(ps:mC)(q:List (Key×D)),D.aq q=Nm->D.aq (ps.foldl (λq p=>jv q (.i (p.1.getLastD 0)) (.bool Nm)) q)=Nm|[],q,h=>h|p::r,q,h=>by refine rG N5 ?_;refine ua r _ ?_;generalize (Key.i (p.1.getLastD 0))=k;induction q with|nil=>rfl|cons a l b=>obtain⟨c,d⟩:=a;simp only[n9,n8,n7,NI]at h;simp only[j6,j5,j4];split;simp only[n9,n8,n7,j0,jZ,jY,jX,jW,jV,jU,jT,jS,h.2,Ox];simp only[n9,n8,n7,h.1,b h.2,Ox]
theorem zf:∀(ps:mC)(q:List (Key×D)),(ps.foldl (λq p=>jv q (.i (p.1.getLastD 0)) (.bool Nm)) q).length<=q.length+ps.length|[],q=>by simp|p::r,q=>by have:=zf r (jv q (.i (p.1.getLastD 0)) (.bool Nm));have:=rQ q (.i (p.1.getLastD 0)) (.bool Nm);refine rG N5 (rG NU ?_);lia
section
variable{n:Nat}{ms:List (Key×D)}
abbrev Do(ms:List (Key×D))(ps:mC):Prop:=∀n,(OP (n+5)).F 50 [bd ms]=Nk (.ak (prD ps),Nl)
theorem AP(hp:D.aq ms=Nm){ps:mC}(G:∀p∈ps,p.1.length=2)(M:ps.length<900)(H:Do ms ps){st:am}{a:Nat}(h:st[a]? =Nk (.obj 61 [])):(OP (n+6)).S 55 [.ag a,bd ms] st=Nk (.none,(st++[ao.ap (tS ps)]).set a (.obj 61 [(53,.ak (prD ps)),(54,.ag st.length)])):=by
 have B:=(Nv.mp h).1;have u:=gK hp;obtain⟨s,A⟩:∃s,s=st.length:=⟨_,rfl⟩;rw[<-A];let b (q:List (Key×D)):am:=(st++[ao.ap q]).set a (.obj 61 [(53,.ak (prD ps)),(54,.ag s)]);have I:∀q,(b q)[s]? =Nk (.ap q):=λq=>by show((st++[ao.ap q]).set a _)[s]? =_;rw[NM (by lia),A];simp
 have t:∀q,(b q)[a]? =Nk (.obj 61 [(53,.ak (prD ps)),(54,.ag s)]):=λq=>by show((st++[ao.ap q]).set a _)[a]? =_;rw[NJ (by simp;lia)]
 have z:∀q C,(b q).set s (.ap C)=b C:=λq C=>by show((st++[ao.ap q]).set a _).set s _=(st++[ao.ap C]).set a _;rw[List.set_comm _ _ (by lia),A];congr 1;simp
 have L:=jF (xs:=[20,21]) (single:=Nl) (f:=λp:List Int×Int=>D.tup (p.1.map .int)) (body:=exs tab (OP (n+5)) (.cons (.assign (.aj (.attr (.ab 52) 54) (.ab 21)) (.bool Nm)) .nil)) (λe m r=>∃g,m=[(52,.ag a),(27,bd ms)]++g/\r=b (tS e)) ps [] [(52,.ag a),(27,bd ms)] (b []) ⟨[],rfl,rfl⟩ ?_;refine w22 L λN r q L=>?_;refine w12 L λg J K=>?_;subst J;subst K;rw[NO]at q;refine Ae (fn:=lL) (m:=[(52,.ag a),(27,bd ms)]) (fl:=.next) (m':=[(52,.ag a),(27,bd ms)]++g) rfl rfl ?_ rfl;delta lL;dsimp only;refine ad (aa:=st.set a (.obj 61 [(53,.ak (prD ps))])) (ln (i:=a) (c:=61) (fs:=[]) (aa:=st) (ah:=st) (d:=.ak (prD ps)) (iO (ds:=[bd ms]) (aa:=st) (ev1 (al rfl)) (sn1 u) (H n) (tG (al1 u))) (al rfl) h rfl rfl) (ad (m₁:=[(52,.ag a),(27,bd ms)]) (aa:=b []) (ln (i:=a) (c:=61) (fs:=[(53,.ak (prD ps))]) (d:=.ag s) (aa:=st.set a (.obj 61 [(53,.ak (prD ps))])++[.ap []]) (ah:=st.set a (.obj 61 [(53,.ak (prD ps))])++[.ap []]) (px (aa:=st.set a (.obj 61 [(53,.ak (prD ps))])) uu (by rw[OX,A])) (al rfl) ?_ rfl ?_) (ad (kX (x:=.ak (prD ps)) (y:=.none) (l:=ps.map λp=>.tup (p.1.map .int)) (aa:=b []) (ah:=b []) (iV (x:=.ag a) (x':=ao.toD (.obj 61 [(53,.ak (prD ps)),(54,.ag s)])) (aa:=b []) (al rfl) (gO (t [])) rfl) gY ?_ q) (gl rfl)));rw[NK (by simpa using B),NJ B];show _=(Fl.next,_,(st++[ao.ap []]).set a _);rw[Ps _ _ B,Ps _ _ (by simpa using B),P1];rfl;simp only[i9,i8,i7,i6,nG,nF,nE,nD,prD,Pe];rfl;rintro e ⟨k,v⟩ q m r o ⟨g,rfl,rfl⟩;rw[NO]at o;have w:(k,v)∈ps:=by rw[o];simp
 obtain⟨x,y,rfl⟩:=MH (G _ w);have F:e.length<900:=by have:=congrArg PG o;simp at this;lia
 have E:=zf e [];rw[O8,Oz]at E;have j:tS (e++[([x,y],v)])=jv (tS e) (.i y) (.bool Nm):=by simp only[tS,Pt,N5,QP];rfl
 refine⟨[(52,.ag a),(27,bd ms)]++((Loc.set g 20 (.int x)).set 21 (.int y)),[(52,.ag a),(27,bd ms)]++((Loc.set g 20 (.int x)).set 21 (.int y)),b (jv (tS e) (.i y) (.bool Nm)),rfl,.inl (ad (m₁:=[(52,.ag a),(27,bd ms)]++((Loc.set g 20 (.int x)).set 21 (.int y))) (aa:=b (jv (tS e) (.i y) (.bool Nm))) (vK (i:=s) (es:=tS e) (kk:=.i y) (y:=.int y) (d:=.bool Nm) (aa:=b (tS e)) (ah:=b (tS e)) (au:=b (tS e)) oB (iV (x:=.ag a) (x':=ao.toD (.obj 61 [(53,.ak (prD ps)),(54,.ag s)])) (aa:=b (tS e)) (al rfl) (gO (t _)) rfl) (al (gs2 (an _ _ _) rfl)) (I _) rfl (AT (show(tS e).length<1000 by show(e.foldl _ []).length<1000;lia)) (by rw[z];rfl)) (gl rfl)),_,rfl,by rw[j]⟩
def AC(c:Int):Prop:=0<=c/\c<44032/\¬(4352<=c/\c<4371)
theorem Ie{a b:Int}(h:AC a):(OP (n+2)).F 23 [.int a,.int b]=Nk (.none,Nl):=by refine lP (fn:=mV) (m:=[(20,.int a),(21,.int b)]) (fl:=.ret .none) (m':=[(20,.int a),(21,.int b),(14,.int (a-4352)),(16,.int (b-4449))]) (st:=[]) rfl rfl ?_ rfl rfl;delta mV;dsimp only;refine w03 h λg f i=>?_;refine gR (d:=.int (a-4352)) (aa:=[]) (by rfl) rfl (gR (d:=.int (b-4449)) (aa:=[]) (by rfl) rfl (jl (c:=Nl) (aa:=[]) (mx ?_) rfl (jl (c:=Nl) (aa:=[]) (mx (lY (b:=Nl) (iO (ds:=[.int a]) (ev1 (al rfl)) (sn1 rfl) (wA n a f) rfl) rfl)) rfl (gN gY rfl))));refine lY (b:=Nl) ?_ rfl;by_cases e:0<=a-4352;exact vy (x:=.int 0) (y:=.int (a-4352)) (z:=.int 19) ir (al rfl) (by simp only[kq,kr,kt,ku,e,decide_true]) (zN rfl) (by simp only[kq,kr,kt,ku];exact rG (decide_eq_false (by lia)) rfl);exact vz (x:=.int 0) (y:=.int (a-4352)) ir (al rfl) (by simp only[kq,kr,kt,ku,e,decide_false])
theorem J8{ps:mC}{q:List (Key×D)}(f:D.aq q=Nm){a b:Int}(h:AC a):(OP (n+3)).F 56 [IZ ps q,.int a,.int b]=Nk (((gL ps [a,b]).map .int).getD .none,Nl):=by
 suffices ∃d,exs tab (OP (n+2)) lK.body [(52,IZ ps q),(20,.int a),(21,.int b)] []=Nk (.ret (((gL ps [a,b]).map .int).getD .none),d,[])by obtain⟨d,e⟩:=this;exact lP rfl rfl e rfl (iJ (by cases gL ps [a,b]<;>rfl))
 delta lK;dsimp only;refine⟨_,gR (iO (ds:=[.int a,.int b]) (aa:=[]) (ev2 (al rfl) (al rfl)) (sn2 rfl rfl) (Ie h) rfl) rfl (gN (nV (c:=Nl) (aa:=[]) (kn (b:=Nm) (x:=.none) (aa:=[]) (al rfl) rfl) rfl (wJ (x:=.ak (prD ps)) (x':=.ak (prD ps)) (y:=it [a,b]) (z:=.none) (aa:=[]) (ah:=[]) (iV (x:=IZ ps q) (x':=IZ ps q) (aa:=[]) (al rfl) rfl rfl) rfl (jz (ev2 (al rfl) (al rfl)) (Nr rfl)) gY rfl (by simp only[FT (rc _),G3]))) rfl)⟩
end
abbrev CS:=List Int×Option Nat×Int
noncomputable def lb(ac:Int->Int)(P:Int->Int->Option Int)(s:CS)(c:Int):Option (Nat×Int):=match s.2.1 with|some k=>if k+1=s.1.length\/s.2.2<ac c then(P ((s.1[k]?).getD 0) c).map λx=>(k,x)else Nq|none=>Nq
noncomputable def pJ(ac:Int->Int)(P:Int->Int->Option Int)(s:CS)(c:Int):CS:=match lb ac P s c with|some (k,x)=>(s.1.set k x,s.2)|none=>if ac c=0 then(s.1++[c],Nk s.1.length,-1)else(s.1++[c],s.2.1,if ac c>s.2.2 then ac c else s.2.2)
noncomputable def Jo(ac:Int->Int)(P:Int->Int->Option Int)(t:List Int):List Int:=(t.foldl (pJ ac P) ([],Nq,-1)).1
noncomputable def stV:Option Nat->D|none=>.int (-1)|some k=>.int k
noncomputable abbrev Pof(ps:mC)(a b:Int):Option Int:=gL ps [a,b]
structure fC(s:CS):Prop where
 st:∀k,s.2.1=Nk k->k<s.1.length
 low:∀c∈s.1,AC c
theorem IX{ac:Int->Int}{P:Int->Int->Option Int}(hP:∀a b x,P a b=Nk x->AC x){s:CS}(h:fC s){c:Int}(hc:AC c):fC (pJ ac P s c):=by
 unfold pJ;cases e:lb ac P s c with
 |some p=>
  obtain⟨k,x⟩:=p;refine⟨λk' hk=>by simpa using h.st k' hk,λd hd=>?_⟩;rcases Po hd with hd|rfl
  exact h.low d hd;unfold lb at e;split at e;split at e;rw[Ol]at e;obtain⟨y,hy,e⟩:=e;cases e;exact hP _ _ _ hy;exact nS e;exact nS e
 |none=>
 simp only;split;refine⟨λk' hk=>?_,λd hd=>?_⟩;(refine sI hk λq0=>?_;subst q0);simp;rcases NW.mp hd with hd|hd
 exact h.low d hd;rw[NC]at hd;subst hd;exact hc;refine⟨λk' hk=>?_,λd hd=>?_⟩;have:=h.st k' hk;simp;lia;rcases NW.mp hd with hd|hd
 exact h.low d hd;rw[NC]at hd;subst hd;exact hc
theorem Fh{ac:Int->Int}{P:Int->Int->Option Int}{s:CS}{c:Int}:(pJ ac P s c).1.length<=s.1.length+1:=by unfold pJ;split;simp;split<;>simp
theorem vC{ac:Int->Int}{P:Int->Int->Option Int}(e:∀a b x,P a b=Nk x->AC x):∀{t:List Int}{s:CS},fC s->(∀c∈t,AC c)->fC (t.foldl (pJ ac P) s)/\(t.foldl (pJ ac P) s).1.length<=s.1.length+t.length|[],s,h,_=>⟨h,by simp⟩|c::t,s,h,hc=>by obtain⟨f,i⟩:=vC e (IX (ac:=ac) e h (hc c (.head _))) (t:=t) λd g=>hc d (.tail _ g);have:=Fh (ac:=ac) (P:=P) (s:=s) (c:=c);exact⟨f,by refine rG N5 (rG NU ?_);lia⟩
section
variable{n:Nat}{ms:List (Key×D)}
theorem AQ(hp:D.aq ms=Nm){ps:mC}(h2:∀p∈ps,p.1.length=2)(hl:ps.length<900)(hP:Do ms ps)(a5:∀a b x,Pof ps a b=Nk x->AC x){ac:Int->Int}{t:List Int}(ht:t.length<900)(hc:∀c∈t,AC c/\Get ms 42 c (.int (ac c))):(OP (n+7)).F 62 [il t,bd ms,.none]=Nk (il (Jo ac (Pof ps) t),Nm):=by
 have b6:=gK hp;have K:=ua ps [] rfl;have b5:(IZ ps (tS ps)).plain=Nm:=by have h2:D.aq (tS ps)=Nm:=K;simp only[j0,jZ,jY,jX,jW,jV,jU,jT,jS,kN,kM,kL,(v8 ps),h2,Ox]
 let w:ao:=.obj 61 [(53,.ak (prD ps)),(54,.ag 1)];let z:ao:=.ap (tS ps);have V:∀l:List D,tQ [w,z,.ae l] (.ag 0)=Nk (IZ ps (tS ps)):=λl=>by
  show iZ (jD [w,z,.ae l] 5) (.obj 61 [(53,.ak (prD ps)),(54,.ag 1)])=_;have e1:iZ (jD [w,z,.ae l] 5) (.ak (prD ps))=Nk (.ak (prD ps)):=iC _ _ (v8 ps);have e2:iZ (jD [w,z,.ae l] 5) (.ag 1)=Nk (.ap (tS ps)):=by show iZ (jD [w,z,.ae l] 4) (.ap (tS ps))=_;exact iC _ _ K
  simp only[su,sq,sp,so,sn,sl,iT _ _ _ _ _ _ e1 (iT _ _ _ _ _ [] e2 (show snapF _ []=Nk []from rfl)),Ok]
 have L:=jF (xs:=[6]) (single:=Nm) (f:=D.int) (body:=exs tab (OP (n+6)) (.cons (.assign (.name 41) (.aw Nl (.ab 27) 28 (.cons (.str 42) (.cons (.ab 6) .nil)))) (.cons (.ite (.and (.cons (.cmp .ge (.ab 57) (.int 0)) (.cons (.or (.cons (.cmp .eq (.ab 57) (.bin .sub (.len (.ab 32)) (.int 1))) (.cons (.cmp .lt (.ab 58) (.ab 41)) .nil))) .nil))) (.cons (.assign (.name 59) (.aw Nl (.ab 60) 59 (.cons (.aj (.ab 32) (.ab 57)) (.cons (.ab 6) .nil)))) (.cons (.ite (.bq Nm (.ab 59)) (.cons (.assign (.aj (.ab 32) (.ab 57)) (.ab 59)) (.cons .cont .nil)) .nil) .nil)) .nil) (.cons (.ite (.cmp .eq (.ab 41) (.int 0)) (.cons (.assign (.names [57,58]) (.tup (.cons (.len (.ab 32)) (.cons (.neg 1) .nil)))) .nil) (.cons (.assign (.name 58) (.max2 (.ab 58) (.ab 41))) .nil)) (.cons (.expr (.append (.ab 32) (.ab 6))) .nil))))) (λC m st=>∃E,m=[(40,il t),(27,bd ms),(60,.ag 0),(32,.ag 2),(57,stV (C.foldl (pJ ac (Pof ps)) ([],Nq,-1)).2.1),(58,.int (C.foldl (pJ ac (Pof ps)) ([],Nq,-1)).2.2)]++E/\st=[w,z,.ae ((C.foldl (pJ ac (Pof ps)) ([],Nq,-1)).1.map .int)]) t [] [(40,il t),(27,bd ms),(60,.ag 0),(32,.ag 2),(57,.int (-1)),(58,.int (-1))] [w,z,.ae []] ⟨[],rfl,rfl⟩ ?_;refine w22 L λm' b8 q L=>?_;refine w12 L λE z1 z2=>?_;subst z1;subst z2;rw[NO]at q;suffices ∃m',exs tab (OP (n+6)) pW.body [(40,il t),(27,bd ms),(60,.none)] []=Nk (.ret (.ag 2),m',[w,z,.ae ((Jo ac (Pof ps) t).map .int)])by obtain⟨m',q⟩:=this;exact lP rfl rfl q rfl (gP rfl)
 delta pW;dsimp only;refine⟨_,gR (d:=.ag 0) (aa:=[w,z]) (m6 (c:=Nm) (aa:=[]) (kn (b:=Nm) (x:=.none) (aa:=[]) (al rfl) rfl) rfl (E7 (g:=55) (ds:=[bd ms]) (aa:=[]) (ah:=[w,z]) (ev1 (al rfl)) rfl (AP (n:=n) hp h2 hl hP (st:=[.obj 61 []]) (a:=0) rfl))) rfl (ad (m₁:=[(40,il t),(27,bd ms),(60,.ag 0),(32,.ag 2),(57,.int (-1)),(58,.int (-1))]) (aa:=[w,z,.ae []]) (km (d:=.tup [.ag 2,.int (-1),.int (-1)]) (x:=.tup [.ag 2,.int (-1),.int (-1)]) (jz (ke (aa:=[w,z,.ae []]) (i5 kZ (NX _) rfl) (ev2 E8 E8)) (Nr rfl)) rfl rfl) (ad (kX (x:=il t) (y:=.none) (l:=t.map .int) (aa:=[w,z,.ae []]) (ah:=[w,z,.ae []]) (al rfl) gY rfl q) (gN (al rfl) rfl)))⟩;rintro C c q m st P ⟨E,rfl,rfl⟩;rw[NO]at P;have a6:c∈t:=by rw[P];simp
 obtain⟨b3,G⟩:=hc c a6;have b4:C.length<900:=by have:=congrArg PG P;simp at this;lia
 have T:(C++[c]).foldl (pJ ac (Pof ps)) ([],Nq,-1)=pJ ac (Pof ps) (C.foldl (pJ ac (Pof ps)) ([],Nq,-1)) c:=by simp only[Pt,N5,QP]
 obtain⟨a7,a0⟩:=vC (ac:=ac) a5 (t:=C) (s:=([],Nq,-1)) ⟨λk h=>(nS h),λc h=>(iM h)⟩ λd hd=>(hc d (by rw[P];simp[hd])).1;rw[T];generalize C.foldl (pJ ac (Pof ps)) ([],Nq,-1)=s at*;obtain⟨f,u,e⟩:=s;simp only[O8,Oz]at a0;obtain⟨H,J⟩:∃x,x=(Loc.set E 6 (.int c)).set 41 (.int (ac c)):=⟨_,rfl⟩;let A (u :Option Nat) (e:Int) (r:Loc):Loc:=[(40,il t),(27,bd ms),(60,.ag 0),(32,.ag 2),(57,stV u),(58,.int e)]++r;have l6:∀u e s,ev tab (OP (n+6)) (.ab 6) (A u e H) s=Nk (.int c,s):=λu e s=>al (gs6 (by subst J;exact ig rfl) rfl);have M:∀u e s,ev tab (OP (n+6)) (.ab 41) (A u e H) s=Nk (.int (ac c),s):=λu e s=>al (gs6 (by subst J;exact an _ _ _) rfl);have X:ex tab (OP (n+6)) (.assign (.name 41) (.aw Nl (.ab 27) 28 (.cons (.str 42) (.cons (.ab 6) .nil)))) (A u e (Loc.set E 6 (.int c))) [w,z,.ae (f.map .int)]=Nk (.next,A u e H,[w,z,.ae (f.map .int)]):=iD (nT hp G rfl (al (gs6 (an _ _ _) rfl))) (by rw[J];rfl);have tail:∀r,(∀u e s,ev tab (OP (n+6)) (.ab 6) (A u e r) s=Nk (.int c,s))->(∀u e s,ev tab (OP (n+6)) (.ab 41) (A u e r) s=Nk (.int (ac c),s))->lb ac (Pof ps) (f,u,e) c=Nq->exs tab (OP (n+6)) (.cons (.ite (.cmp .eq (.ab 41) (.int 0)) (.cons (.assign (.names [57,58]) (.tup (.cons (.len (.ab 32)) (.cons (.neg 1) .nil)))) .nil) (.cons (.assign (.name 58) (.max2 (.ab 58) (.ab 41))) .nil)) (.cons (.expr (.append (.ab 32) (.ab 6))) .nil)) (A u e r) [w,z,.ae (f.map .int)]=Nk (.next,A (pJ ac (Pof ps) (f,u,e) c).2.1 (pJ ac (Pof ps) (f,u,e) c).2.2 r,[w,z,.ae ((pJ ac (Pof ps) (f,u,e) c).1.map .int)]):=λr l6 M B=>by
  have Z:∀u e,ex tab (OP (n+6)) (.expr (.append (.ab 32) (.ab 6))) (A u e r) [w,z,.ae (f.map .int)]=Nk (.next,A u e r,[w,z,.ae ((f++[c]).map .int)]):=λu e=>by have q:=iH (O:=OP (n+6)) (m:=A u e r) (st:=[w,z,.ae (f.map .int)]) (o:=.ab 32) (a:=.ab 6) (i:=2) (x:=.int c) (l:=f.map .int) (al rfl) rfl (l6 _ _ _) (by simp only[Nu];lia);rw[kP]at q;exact q
  have R:ev tab (OP (n+6)) (.cmp .eq (.ab 41) (.int 0)) (A u e r) [w,z,.ae (f.map .int)]=Nk (.bool (ac c==0),[w,z,.ae (f.map .int)]):=iA (M _ _ _) ir rfl rfl rfl;unfold pJ;rw[B];by_cases hw:ac c=0;simp only[hw,if_true];refine jc (m₁:=A (Nk f.length) (-1) r) R (by simp[hw]) (ad (m₁:=A (Nk f.length) (-1) r) (km (d:=.tup [.int f.length,.int (-1)]) (x:=.tup [.int f.length,.int (-1)]) (jz (ev2 (vw (x:=.ag 2) (x':=il f) (al rfl) rfl yu) E8) (Nr rfl)) rfl rfl) (gl rfl)) (ad (Z _ _) (gl rfl));simp only[hw,if_false];refine l5 (m₁:=A u (if ac c>e then ac c else e) r) R (by simp[hw]) (ad (m₁:=A u (if ac c>e then ac c else e) r) (iD (d:=.int (if ac c>e then ac c else e)) (KN (i:=e) (j:=ac c) (al rfl) (M _ _ _)) rfl) (gl rfl)) (ad (Z _ _) (gl rfl))
 obtain⟨b,Y⟩:∃b,b=(match u with|some k=>decide (k+1=f.length)||decide (e<ac c)|none=>Nl):=⟨_,rfl⟩;have I:ev tab (OP (n+6)) (.and (.cons (.cmp .ge (.ab 57) (.int 0)) (.cons (.or (.cons (.cmp .eq (.ab 57) (.bin .sub (.len (.ab 32)) (.int 1))) (.cons (.cmp .lt (.ab 58) (.ab 41)) .nil))) .nil))) (A u e H) [w,z,.ae (f.map .int)]=Nk (.bool b,[w,z,.ae (f.map .int)]):=by
  cases u with
  |none=>rw[Y];exact mx (lY (b:=Nl) (iA (x:=.int (-1)) (x':=.int (-1)) (y:=.int 0) (y':=.int 0) (al rfl) ir rfl rfl rfl) rfl)|some k=>
  have a1:ev tab (OP (n+6)) (.cmp .ge (.ab 57) (.int 0)) (A (Nk k) e H) [w,z,.ae (f.map .int)]=Nk (.bool Nm,[w,z,.ae (f.map .int)]):=iA (x:=.int k) (x':=.int k) (y:=.int 0) (y':=.int 0) (al rfl) ir rfl rfl (by simp only[kq,kr,kt,ku];rw[decide_eq_true (by lia)]);have a2:ev tab (OP (n+6)) (.cmp .eq (.ab 57) (.bin .sub (.len (.ab 32)) (.int 1))) (A (Nk k) e H) [w,z,.ae (f.map .int)]=Nk (.bool (decide (k+1=f.length)),[w,z,.ae (f.map .int)]):=by refine iA (x:=.int k) (x':=.int k) (y:=.int ((f.length:Int)-1)) (y':=.int ((f.length:Int)-1)) (al rfl) (kG (x:=.int f.length) (x':=.int f.length) (vw (x:=.ag 2) (x':=il f) (al rfl) rfl yu) ir rfl rfl rfl) rfl rfl ?_;show Nk ((k:Int)==(f.length:Int)-1)=_;congr 1;show decide ((k:Int)=(f.length:Int)-1)=_;exact decide_eq_decide.mpr (by lia)
  have a3:ev tab (OP (n+6)) (.cmp .lt (.ab 58) (.ab 41)) (A (Nk k) e H) [w,z,.ae (f.map .int)]=Nk (.bool (decide (e<ac c)),[w,z,.ae (f.map .int)]):=iA (x:=.int e) (x':=.int e) (al rfl) (M _ _ _) rfl rfl rfl;have a4:=Du (Dw a2 λ_=>Dw a3 λ_=>(mz:evB tab (OP (n+6)) Nl .nil _ [w,z,.ae (f.map .int)]=_));have:=mx (oV a1 λ_=>oV a4 λ_=>(mz:evB tab (OP (n+6)) Nm .nil _ [w,z,.ae (f.map .int)]=_));rw[Pg,PN,R5]at this;rw[this,Y]
 induction b using Nw with
 |false=>
  have B:lb ac (Pof ps) (f,u,e) c=Nq:=by unfold lb;cases u with|none=>rfl|some k=>simp only at Y⊢;have:=Y.symm;rw[N9,decide_eq_false_iff_not,decide_eq_false_iff_not]at this;rw[if_neg (λh=>h.elim this.1 this.2)]
  exact⟨_,A _ _ H,_,rfl,.inl (ad X (jl I rfl (tail H l6 M B))),H,rfl,rfl⟩
 |true=>
 obtain⟨k,rfl⟩:∃k,u =Nk k:=by cases u with|none=>exact tF Y|some k=>exact⟨k,rfl⟩
 have hk:=a7.st k rfl;simp only at hk;have S:k+1=f.length\/e<ac c:=by have:=Y.symm;simp only[SP,decide_eq_true_eq]at this;exact this
 have B:lb ac (Pof ps) (f,Nk k,e) c=(Pof ps ((f[k]?).getD 0) c).map λx=>(k,x):=by unfold lb;simp only;rw[if_pos S]
 have a9:(f.map D.int)[k]? =Nk (.int ((f[k]?).getD 0)):=by rw[Oc,NQ hk];rfl
 have U:AC ((f[k]?).getD 0):=a7.low _ (by rw[NQ hk];exact PA _);have pf:=J8 (n:=n+3) (ps:=ps) (q:=tS ps) K (a:=(f[k]?).getD 0) (b:=c) U;obtain⟨v,hv⟩:∃v,v=((gL ps [(f[k]?).getD 0,c]).map D.int).getD .none:=⟨_,rfl⟩;rw[<-hv]at pf;obtain⟨Q,N⟩:∃x,x=Loc.set H 59 v:=⟨_,rfl⟩;have b7:v.plain=Nm:=by rw[hv];cases gL ps [(f[k]?).getD 0,c]<;>rfl
 have i1:ev tab (OP (n+6)) (.aw Nl (.ab 60) 59 (.cons (.aj (.ab 32) (.ab 57)) (.cons (.ab 6) .nil))) (A (Nk k) e H) [w,z,.ae (f.map .int)]=Nk (v,[w,z,.ae (f.map .int)]):=by refine to (x:=.ag 0) (c:=61) (g:=56) (fs:=[(53,.ak (prD ps)),(54,.ag 1)]) (ds:=[.int ((f[k]?).getD 0),.int c]) (ds':=[IZ ps (tS ps),.int ((f[k]?).getD 0),.int c]) (al rfl) rfl rfl rfl (ev2 (ie (x:=.ag 2) (x':=il f) (y:=.int k) (al rfl) (al rfl) rfl (kR a9)) (l6 _ _ _)) (gW (V _) (sn2 rfl rfl)) pf ?_;rw[SP];right;rw[hv];cases gL ps [(f[k]?).getD 0,c]<;>rfl
 have s1:ex tab (OP (n+6)) (.assign (.name 59) (.aw Nl (.ab 60) 59 (.cons (.aj (.ab 32) (.ab 57)) (.cons (.ab 6) .nil)))) (A (Nk k) e H) [w,z,.ae (f.map .int)]=Nk (.next,A (Nk k) e Q,[w,z,.ae (f.map .int)]):=iD i1 (by rw[N];rfl);have W:∀s,ev tab (OP (n+6)) (.ab 59) (A (Nk k) e Q) s=Nk (v,s):=λs=>al (gs6 (by subst N;exact an _ _ _) rfl);have b2:∀u e s,ev tab (OP (n+6)) (.ab 6) (A u e Q) s=Nk (.int c,s):=λu e s=>al (gs6 (by subst N;show Loc.get (Loc.set H 59 v) 6=_;rw[gI _ _ _ _ rfl];subst J;exact ig rfl) rfl);have a8:∀u e s,ev tab (OP (n+6)) (.ab 41) (A u e Q) s=Nk (.int (ac c),s):=λu e s=>al (gs6 (by subst N;show Loc.get (Loc.set H 59 v) 41=_;rw[gI _ _ _ _ rfl];subst J;exact an _ _ _) rfl);cases hP':Pof ps ((f[k]?).getD 0) c with
 |none=>
  have b0:v=.none:=by rw[hv,show gL ps [(f[k]?).getD 0,c]=Nq from hP'];rfl
  rw[hP']at B;refine hid λG9 k9=>?_;subst b0;refine k9 ?_;exact⟨_,A _ _ Q,_,rfl,.inl (ad X (jc I rfl (ad s1 (jl (c:=Nl) (kn (b:=Nm) (W _) rfl) rfl (gl rfl))) (tail Q b2 a8 B))),Q,rfl,rfl⟩
 |some x=>
 have b1:v=.int x:=by rw[hv,show gL ps [(f[k]?).getD 0,c]=Nk x from hP'];rfl
 rw[hP']at B;subst b1;have e1:pJ ac (Pof ps) (f,Nk k,e) c=(f.set k x,Nk k,e):=by unfold pJ;rw[B];rfl
 rw[e1];refine⟨_,A (Nk k) e Q,[w,z,.ae ((f.set k x).map .int)],rfl,.inr (ad X (jP (mF I rfl (ad s1 (rW (c:=Nm) (kn (b:=Nl) (W _) rfl) rfl (ad (rV (i:=2) (j:=k) (l:=f.map .int) (d:=.int x) (W _) (al rfl) (al rfl) rfl (by lia) (by simp only[Nu];lia) ?_) (w7 rfl))))) (λh=>nomatch h))),Q,rfl,rfl⟩;rw[OK,<-List.map_set];rfl
end
structure Cx(ms:List (Key×D))(ac:Int->Int)(dm:Dm)(ps:mC):Prop where
 hp:D.aq ms=Nm
 gc:Two ac
 eR:∀c∈ce,Get ms 42 c (.int (ac c))
 fL:∀c∈ce,Get ms 29 c (dmV (dm c))
 da:∀c∈ce,∀g l,dm c=Nk (g,l)->l.length<4/\∀p∈l,p∈ce/\dm p=Nq
 pairs:Do ms ps
 two:∀p∈ps,p.1.length=2
 fz:ps.length<900
 eu:∀a b x,Pof ps a b=Nk x->x∈ce
theorem la{c:Int}(h:c∈ce):AC c:=by exact(by unfold AC;decide+kernel:∀c∈ce,AC c) c h
section
variable{n:Nat}{ms:List (Key×D)}{ac:Int->Int}{dm:Dm}{ps:mC}
theorem wk(k:Bool){o:Option (Nat×List Int)}(h:o=Nq):rI k o=Nq:=by refine rG h ?_;rfl
theorem Cx.exp(X:Cx ms ac dm ps){c:Int}(hc:c∈ce)(k:Bool):(OP (n+6)).F 37 [.int c,bd ms,.bool k]=Nk (il (jh k dm c),Nm)/\(jh k dm c).length<4/\∀p∈jh k dm c,p∈ce:=by
 have a:∀l,rI k (dm c)=Nk l->∃g,dm c=Nk (g,l):=λl h=>by unfold rI at h;split at h;exact nS h;rename_i g o e;split at h;exact nS h;(refine sI h λm=>?_;subst m);exact⟨g,e⟩
 refine⟨AM X.hp (X.fL c hc) (la hc).2.1 λl j=>?_,?_⟩;obtain⟨g,e⟩:=a l j;obtain⟨f,d⟩:=X.da c hc g l e;exact⟨by lia,λp b=>⟨X.fL p (d p b).1,(la (d p b).1).2.1,wk k (d p b).2⟩⟩;unfold jh;cases e:rI k (dm c)with|none=>exact⟨by simp,λp b=>by rw[NC]at b;subst b;exact hc⟩|some l=>obtain⟨g,i⟩:=a l e;obtain⟨f,d⟩:=X.da c hc g l i;exact⟨f,λp b=>(d p b).1⟩
noncomputable def oU(k:Bool)(ac:Int->Int)(dm:Dm)(t:List Int):List Int:=pg ac (t.flatMap (jh k dm))
noncomputable def nfP(k:Bool)(ac:Int->Int)(dm:Dm)(ps:mC)(t:List Int):List Int:=Jo ac (Pof ps) (oU k ac dm t)
theorem vm(ac:Int->Int)(x:Int):∀(l:List Int)(c:Int),c∈yD ac x l↔c=x\/c∈l|[],c=>by simp[zI,ux]|y::r,c=>by simp only[zI,ux];split;simp;simp only[Nz,vm ac x r c];constructor;rintro(h|h|h)<;>simp[h];rintro(h|h|h)<;>simp[h]
theorem v1(ac:Int->Int)(l:List Int)(c:Int):c∈iI ac l↔c∈l:=by
 have:∀(l a:List Int),c∈l.foldl (λa x=>yD ac x a) a↔c∈a\/c∈l:=λl=>by induction l with|nil=>intro a;simp|cons x r b=>intro a;rw[N5,b,vm,Nz];constructor;rintro((h|h)|h)<;>simp[h];rintro(h|h|h)<;>simp[h]
 have q:=this l [];simp only[Ow,false_or]at q;exact q
theorem rn(ac:Int->Int)(c:Int):∀(t:List Int)(s:List Int×List Int),(c∈(t.foldl (λs c=>if ac c>0 then(s.1,s.2++[c])else(s.1++iI ac s.2++[c],[])) s).1\/c∈(t.foldl (λs c=>if ac c>0 then(s.1,s.2++[c])else(s.1++iI ac s.2++[c],[])) s).2)↔(c∈s.1\/c∈s.2)\/c∈t|[],s=>by simp|x::t,s=>by rw[N5,rn ac c t];split;simp only[NW,Nz,Ow,or_false];exact⟨λh=>h.elim (λh=>h.elim (λh=>.inl (.inl h)) λh=>h.elim (λh=>.inl (.inr h)) λh=>.inr (.inl h)) λh=>.inr (.inr h),λh=>h.elim (λh=>.inl (h.elim .inl λh=>.inr (.inl h))) λh=>h.elim (λh=>.inl (.inr (.inr h))) .inr⟩;simp only[NW,NC,Nz,v1,Ow,or_false];exact⟨λh=>h.elim (λh=>h.elim .inl λh=>.inr (.inl h)) λh=>.inr (.inr h),λh=>h.elim (λh=>.inl (.inl h)) λh=>h.elim (λh=>.inl (.inr h)) .inr⟩
theorem Az{ac:Int->Int}{t:List Int}{c:Int}:c∈pg ac t↔c∈t:=by rw[lR,NW,v1];have q:(c∈(ic ac t).1\/c∈(ic ac t).2)↔(c∈([]:List Int)\/c∈([]:List Int))\/c∈t:=rn ac c t ([],[]);rw[q];simp
theorem pS(ac:Int->Int)(t:List Int):(pg ac t).length=t.length:=by rw[lR,NG,nj,nx]
theorem Cx.bX(X:Cx ms ac dm ps){t:List Int}(e:∀c∈t,c∈ce)(k:Bool):∀c∈oU k ac dm t,c∈ce:=λc a=>by rw[oU,Az,OG]at a;refine w12 a λd b a=>?_;exact(X.exp (n:=0) (e d b) k).2.2 c a
theorem Cx.cZ(X:Cx ms ac dm ps)(k:Bool):∀{t:List Int},(∀c∈t,c∈ce)->(t.flatMap (jh k dm)).length<=3*t.length|[],_=>by simp|c::t,ht=>by have:=Cx.cZ X k (t:=t) λd a=>ht d (.tail _ a);have b:=(X.exp (n:=0) (ht c (.head _)) k).2.1;refine rG O7 (rG NG (rG NU ?_));lia
theorem Cx.dec(X:Cx ms ac dm ps){t:List Int}(b:∀c∈t,c∈ce)(k:Bool)(f:(t.flatMap (jh k dm)).length<64):(OP (n+7)).F 44 [il t,bd ms,.bool k]=Nk (il (oU k ac dm t),Nm):=wN X.hp ac X.gc (λc a n=>(X.exp (b c a) k).1) (λc a=>X.eR c (by refine w12 (OG.mp a) λd e a=>?_;exact(X.exp (n:=0) (b d e) k).2.2 c a)) f
theorem Cx.cmp(X:Cx ms ac dm ps){t:List Int}(e:∀c∈t,c∈ce)(f:t.length<900):(OP (n+7)).F 62 [il t,bd ms,.none]=Nk (il (Jo ac (Pof ps) t),Nm):=AQ X.hp X.two X.fz X.pairs (λa b x h=>la (X.eu a b x h)) f λc d=>⟨la (e c d),X.eR c (e c d)⟩
theorem IY{P:Int->Int->Option Int}(hP:∀a b x,P a b=Nk x->x∈ce){s:CS}(h:∀c∈s.1,c∈ce){c:Int}(hc:c∈ce):∀d∈(pJ ac P s c).1,d∈ce:=by
 unfold pJ;cases e:lb ac P s c with
 |some p=>
  obtain⟨k,x⟩:=p;intro d hd;rcases Po hd with hd|rfl
  exact h d hd;unfold lb at e;split at e;split at e;rw[Ol]at e;obtain⟨y,hy,e⟩:=e;cases e;exact hP _ _ _ hy;exact nS e;exact nS e
 |none=>
 intro d hd;have:d∈s.1++[c]:=by simp only at hd;split at hd<;>exact hd
 rcases NW.mp this with hd|hd
 exact h d hd;rw[NC]at hd;subst hd;exact hc
theorem C9{P:Int->Int->Option Int}(e:∀a b x,P a b=Nk x->x∈ce):∀{t:List Int}{s:CS},(∀c∈s.1,c∈ce)->(∀c∈t,c∈ce)->∀d∈(t.foldl (pJ ac P) s).1,d∈ce|[],s,h,_=>h|c::t,s,h,ht=>C9 e (t:=t) (s:=pJ ac P s c) (IY e h (ht c (.head _))) λd f=>ht d (.tail _ f)
theorem Cx.eC(X:Cx ms ac dm ps){t:List Int}(a:∀c∈t,c∈ce)(k:Bool):∀c∈nfP k ac dm ps t,c∈ce:=C9 X.eu (λc h=>(iM h)) (X.bX a k)
theorem Cx.eP(X:Cx ms ac dm ps){t:List Int}(ht:∀c∈t,c∈ce)(k:Bool):(nfP k ac dm ps t).length<=(t.flatMap (jh k dm)).length:=by have:=(vC (ac:=ac) (λa b x h=>la (X.eu a b x h)) (t:=oU k ac dm t) (s:=([],Nq,-1)) ⟨λk h=>(nS h),λc h=>(iM h)⟩ λd hd=>la (X.bX ht k d hd)).2;rw[O8,Oz,oU,pS]at this;exact this
noncomputable abbrev Cw(w:Nat):Bool:=w==65||w==66
theorem Cx.eS(X:Cx ms ac dm ps){t:List Int}(i:∀c∈t,c∈ce){w:Nat}(g:w=64\/w=68\/w=66)(l:(t.flatMap (jh (Cw w) dm)).length<64):(OP (n+8)).F 67 [il t,bd ms,.str w]=Nk (il (if w=64 then oU Nl ac dm t else nfP (Cw w) ac dm ps t),Nm):=by
 have f:=gK X.hp;suffices ∃j st,exs tab (OP (n+7)) ta.body [(40,il t),(27,bd ms),(63,.str w),(60,.none)] []=Nk (.ret (.ag (if w=64 then 0 else 1)),j,st)/\st[if w=64 then 0 else 1]? =Nk (.ae ((if w=64 then oU Nl ac dm t else nfP (Cw w) ac dm ps t).map .int))by refine w22 this λj st q o=>?_;exact lP rfl rfl q rfl (gP o)
 delta ta;dsimp only;let h:Loc:=[(40,il t),(27,bd ms),(63,.str w),(60,.none),(32,.ag 0)];have k:ex tab (OP (n+7)) (.assign (.name 32) (.call Nm 44 (.cons (.ab 40) (.cons (.ab 27) (.cons (.bz Nl (.ab 63) (.tup (.cons (.str 65) (.cons (.str 66) .nil)))) .nil))))) [(40,il t),(27,bd ms),(63,.str w),(60,.none)] []=Nk (.next,h,[.ae ((oU (Cw w) ac dm t).map .int)]):=by refine iD (jb (ds:=[il t,bd ms,.bool (Cw w)]) (ds':=[il t,bd ms,.bool (Cw w)]) (aa:=[]) (ke (al rfl) (ke (al rfl) (ke (aa:=[]) ?_ kZ))) (sn3 (ch t) f rfl) (X.dec (n:=n) i (Cw w) l) rfl) rfl;have:=pZ (O:=OP (n+7)) (n:=Nl) (a:=.ab 63) (b:=.tup (.cons (.str 65) (.cons (.str 66) .nil))) (m:=[(40,il t),(27,bd ms),(63,.str w),(60,.none)]) (st:=[]) (x:=.str w) (y:=.tup [.str 65,.str 66]) (y':=.tup [.str 65,.str 66]) (c:=Cw w) (al rfl) (jz (ev2 j7 j7) (Nr rfl)) rfl (by rcases g with rfl|rfl|rfl<;>rfl);rcases g with rfl|rfl|rfl<;>exact this
 have d:∀st,ev tab (OP (n+7)) (.bz Nl (.ab 63) (.tup (.cons (.str 64) (.cons (.str 65) .nil)))) h st=Nk (.bool (decide (w=64)),st):=λst=>by have:=pZ (O:=OP (n+7)) (n:=Nl) (a:=.ab 63) (b:=.tup (.cons (.str 64) (.cons (.str 65) .nil))) (m:=h) (st:=st) (x:=.str w) (y:=.tup [.str 64,.str 65]) (y':=.tup [.str 64,.str 65]) (c:=decide (w=64)) (al rfl) (jz (ev2 j7 j7) (Nr rfl)) rfl (by rcases g with rfl|rfl|rfl<;>rfl);rcases g with rfl|rfl|rfl<;>exact this
 by_cases e:w=64;subst e;exact i22 _ _ (ad k (gN (m6 (d _) rfl (al rfl)) rfl)) rfl;simp only[if_neg e];refine i22 _ _ (ad k (gN (nV (d _) (by simp[e]) (jb (ds:=[.ag 0,bd ms,.none]) (ds':=[il (oU (Cw w) ac dm t),bd ms,.none]) (aa:=[.ae ((oU (Cw w) ac dm t).map .int)]) (ev3 (al rfl) (al rfl) (al rfl)) (gW (nk rfl) (sn2 f rfl)) (X.cmp (n:=n) (t:=oU (Cw w) ac dm t) (X.bX i _) (by rw[oU,pS];omega)) rfl)) rfl)) rfl
theorem Cx.fY(X:Cx ms ac dm ps){t:List Int}(b:∀c∈t,c∈ce)(a:(t.flatMap (jh Nl dm)).length<64):(OP (n+9)).F 64 [il t,bd ms]=Nk (il (oU Nl ac dm t),Nm):=by refine lP (fn:=IJ) (m:=[(40,il t),(27,bd ms)]) (fl:=.ret (.ag 0)) (m':=[(40,il t),(27,bd ms)]) (st:=[.ae ((oU Nl ac dm t).map .int)]) rfl rfl ?_ rfl (gP rfl);delta IJ;dsimp only;exact gN (jb (ds:=[il t,bd ms,.str 64]) (aa:=[]) (ev3 (al rfl) (al rfl) j7) (sn3 (ch t) (gK X.hp) rfl) (X.eS (n:=n) b (.inl rfl) a) rfl) rfl
theorem Cx.gC(X:Cx ms ac dm ps){t:List Int}(b:∀c∈t,c∈ce)(a:(t.flatMap (jh Nl dm)).length<64):(OP (n+9)).F 68 [il t,bd ms]=Nk (il (nfP Nl ac dm ps t),Nm):=by refine lP (fn:=IL) (m:=[(40,il t),(27,bd ms)]) (fl:=.ret (.ag 0)) (m':=[(40,il t),(27,bd ms)]) (st:=[.ae ((nfP Nl ac dm ps t).map .int)]) rfl rfl ?_ rfl (gP rfl);delta IL;dsimp only;exact gN (jb (ds:=[il t,bd ms,.str 68]) (aa:=[]) (ev3 (al rfl) (al rfl) j7) (sn3 (ch t) (gK X.hp) rfl) (X.eS (n:=n) b (.inr (.inl rfl)) a) rfl) rfl
theorem Cx.fJ(X:Cx ms ac dm ps){t:List Int}(b:∀c∈t,c∈ce)(a:(t.flatMap (jh Nm dm)).length<64):(OP (n+9)).F 66 [il t,bd ms]=Nk (il (nfP Nm ac dm ps t),Nm):=by refine lP (fn:=CQ) (m:=[(40,il t),(27,bd ms)]) (fl:=.ret (.ag 0)) (m':=[(40,il t),(27,bd ms)]) (st:=[.ae ((nfP Nm ac dm ps t).map .int)]) rfl rfl ?_ rfl (gP rfl);delta CQ;dsimp only;exact gN (jb (ds:=[il t,bd ms,.str 66]) (aa:=[]) (ev3 (al rfl) (al rfl) j7) (sn3 (ch t) (gK X.hp) rfl) (X.eS (n:=n) b (.inr (.inr rfl)) a) rfl) rfl
end
abbrev Cf:=Int->Option (List (Nat×List Int))
noncomputable abbrev cfD(l:List (Nat×List Int)):D:=.ap (l.map λp=>(.s p.1,it p.2))
noncomputable def cfV:Option (List (Nat×List Int))->D|none=>.none|some l=>cfD l
noncomputable def em(a:List Nat)(cf:Cf)(c:Int):List Int:=match cf c with|none=>[c]|some l=>(a.findSome? λs=>gL l s).getD [c]
noncomputable abbrev jJ(a:List Nat):D:=.tup (a.map .str)
theorem iG(b:List Nat):(jJ b).plain=Nm:=by show D.ax (b.map .str)=Nm;induction b with|nil=>rfl|cons a r c=>simp only[Ny,kK,kJ,j0,jZ,jY,jX,jW,jV,jU,jT,jS,c,Ox]
theorem rU(l:List (Nat×List Int))(s:Nat):gL (l.map λp=>(Key.s p.1,it p.2)) (.s s)=(gL l s).map λx=>it x:=by induction l with|nil=>rfl|cons p r a=>simp only[Ny,iw,iv,iu,Key.s.injEq];split;rfl;exact a
section
variable{n:Nat}{ms:List (Key×D)}
theorem s7(hp:D.aq ms=Nm){cf:Cf}{c:Int}(G:Get ms 87 c (cfV (cf c)))(a:List Nat):(OP (n+4)).F 88 [.int c,bd ms,jJ a]=Nk (it (em a cf c),Nl):=by
 have t:=gK hp;suffices ∃p,exs tab (OP (n+3)) te.body [(6,.int c),(27,bd ms),(86,jJ a)] []=Nk (.ret (it (em a cf c)),p,[])by obtain⟨p,q⟩:=this;exact lP rfl rfl q rfl (iJ (kf _))
 delta te;dsimp only;have k:ex tab (OP (n+3)) (.assign (.name 84) (.aw Nl (.ab 27) 28 (.cons (.str 87) (.cons (.ab 6) .nil)))) [(6,.int c),(27,bd ms),(86,jJ a)] []=Nk (.next,[(6,.int c),(27,bd ms),(86,jJ a),(84,cfV (cf c))],[]):=iD (nT hp G rfl (al rfl)) rfl;cases e:cf c with
 |none=>rw[e]at k;refine rG (by simp only[em,e]:em a cf c=[c]) ?_;exact⟨_,ad k (jl (c:=(Nm !=Nm)) (kn (b:=Nm) (x:=.none) (al rfl) rfl) rfl (gN (d:=it [c]) (jz (ev1 (al rfl)) (Nr rfl)) rfl))⟩|some l=>
 rw[e]at k;refine rG (by simp only[em,e]:em a cf c=(a.findSome? λs=>gL l s).getD [c]) ?_;have L:∀(s:List Nat)(r:Loc),∃m,forLoop [85] Nm (exs tab (OP (n+3)) (.cons (.ite (.bz Nl (.ab 85) (.ab 84)) (.cons (.ret (.tuple (.aj (.ab 84) (.ab 85)))) .nil) .nil) .nil)) (s.map .str) ([(6,.int c),(27,bd ms),(86,jJ a),(84,cfD l)]++r) []=Nk (match s.findSome? λs=>gL l s with|some x=>.ret (it x)|none=>.next,[(6,.int c),(27,bd ms),(86,jJ a),(84,cfD l)]++m,[]):=λs=>by
  induction s with
  |nil=>intro r;exact⟨r,rfl⟩|cons s v u=>
  intro r;obtain⟨j,g⟩:∃x,x=Loc.set r 85 (.str s):=⟨_,rfl⟩;have i:ev tab (OP (n+3)) (.ab 85) ([(6,.int c),(27,bd ms),(86,jJ a),(84,cfD l)]++j) []=Nk (.str s,[]):=al (gs4 (by subst g;exact an _ _ _) rfl);have f:ev tab (OP (n+3)) (.bz Nl (.ab 85) (.ab 84)) ([(6,.int c),(27,bd ms),(86,jJ a),(84,cfD l)]++j) []=Nk (.bool (Nl !=(gL l s).isSome),[]):=pZ (y:=cfD l) (y':=cfD l) i (al rfl) rfl (by simp only[zJ,LH,rU,QS]);have o:iz [85] Nm (D.str s) ([(6,.int c),(27,bd ms),(86,jJ a),(84,cfD l)]++r)=Nk ([(6,.int c),(27,bd ms),(86,jJ a),(84,cfD l)]++j):=by refine rG g ?_;rfl
  cases ea:gL l s with
  |none=>rw[ea]at f;obtain⟨m,q⟩:=u j;refine⟨m,?_⟩;refine rG Ny (rG (kT o) ?_);refine rG (jl (c:=Nl) f rfl (gl rfl)) ?_;simp only[R1,ea];exact q
  |some x=>rw[ea]at f;refine⟨j,?_⟩;refine rG Ny (rG (kT o) ?_);refine rG (j8 (c:=Nm) f rfl (gN (yR (x:=it x) (x':=it x) (ie (x:=cfD l) (x':=cfD l) (y:=.str s) (al rfl) i rfl (by simp only[kQ,op,rU,ea,Ok])) rfl rfl) rfl)) ?_;simp only[R1,ea];rfl
 obtain⟨m,q⟩:=L a [];cases ef:a.findSome? λs=>gL l s with|some x=>rw[ef]at q;exact⟨_,ad k (j8 (c:=Nm) (kn (b:=Nl) (x:=cfD l) (al rfl) rfl) rfl (jP (kX (x:=jJ a) (y:=.none) (l:=a.map .str) (al rfl) gY rfl q) (λh=>nomatch h)))⟩|none=>rw[ef]at q;exact⟨_,ad k (jc (c:=Nm) (kn (b:=Nl) (x:=cfD l) (al rfl) rfl) rfl (ad (kX (x:=jJ a) (y:=.none) (l:=a.map .str) (al rfl) gY rfl q) (gl rfl)) (gN (d:=it [c]) (jz (ev1 (al rfl)) (Nr rfl)) rfl))⟩
noncomputable def bs(b a:Bool):List Nat:=(if a then[90]else[])++(if b then[92,93]else[94,93])
theorem t6(b a:Bool):(OP (n+1)).F 95 [.bool b,.bool a]=Nk (jJ (bs b a),Nl):=by induction b using Nw<;>cases a<;>kernel_rfl
theorem CP(hp:D.aq ms=Nm){cf:Cf}{t:List Int}(a:List Nat)(G:∀c∈t,Get ms 87 c (cfV (cf c)))(u:(t.flatMap (em a cf)).length<900):(OP (n+5)).F 96 [il t,bd ms,jJ a]=Nk (il (t.flatMap (em a cf)),Nm):=by
 have g:=gK hp;have h:=iG a;have L:=jF (xs:=[6]) (single:=Nm) (f:=D.int) (body:=exs tab (OP (n+4)) (.cons (.expr (.extend (.ab 32) (.call Nl 88 (.cons (.ab 6) (.cons (.ab 27) (.cons (.ab 86) .nil)))))) .nil)) (λe m k=>∃b,m=[(40,il t),(27,bd ms),(86,jJ a),(32,.ag 0)]++b/\k=[.ae ((e.flatMap (em a cf)).map .int)]) t [] [(40,il t),(27,bd ms),(86,jJ a),(32,.ag 0)] [.ae []] ⟨[],rfl,rfl⟩ ?_;refine w22 L λv p q L=>?_;refine w12 L λb r s=>?_;subst r;subst s;rw[NO]at q;refine lP (fn:=tg) (m:=[(40,il t),(27,bd ms),(86,jJ a)]) (fl:=.ret (.ag 0)) (m':=[(40,il t),(27,bd ms),(86,jJ a),(32,.ag 0)]++b) (st:=[.ae ((t.flatMap (em a cf)).map .int)]) rfl rfl ?_ rfl (gP rfl);delta tg;dsimp only;exact gR (i5 kZ (NX _) rfl) rfl (ad (kX (x:=il t) (y:=.none) (l:=t.map .int) (al rfl) gY rfl q) (gN (al rfl) rfl));rintro e c q m k d ⟨b,rfl,rfl⟩;rw[NO]at d;have o:c∈t:=by refine rG d ?_;simp
 have j:(e.flatMap (em a cf)).length+(em a cf c).length<=(t.flatMap (em a cf)).length:=by refine rG d ?_;simp
 refine⟨_,_,_,rfl,.inl (ad (og (i:=0) (x:=it (em a cf c)) (l':=(em a cf c).map .int) (al rfl) rfl (iO (ds:=[.int c,bd ms,jJ a]) (ev3 (al (gs4 (an _ _ _) rfl)) (al rfl) (al rfl)) (sn3 rfl g h) (s7 hp (G c o) a) (tG (al3 rfl g h))) rfl (by simp only[Nu];lia)) (gl rfl)),Loc.set b 6 (.int c),rfl,?_⟩;simp
theorem oN(hp:D.aq ms=Nm){cf:Cf}{t:List Int}(a:Bool)(G:∀c∈t,Get ms 87 c (cfV (cf c)))(d:(t.flatMap (em (bs Nm a) cf)).length<900){ds:List D}(b:ds=[il t,bd ms,.bool a]\/(ds=[il t,bd ms]/\a=Nl)):(OP (n+6)).F 97 ds=Nk (il (t.flatMap (em (bs Nm a) cf)),Nm):=by
 have e:kH mX ds=Nk [(40,il t),(27,bd ms),(89,.bool a)]:=by rcases b with rfl|⟨rfl,rfl⟩<;>rfl
 refine lP (fn:=mX) (m:=[(40,il t),(27,bd ms),(89,.bool a)]) (fl:=.ret (.ag 0)) (m':=[(40,il t),(27,bd ms),(89,.bool a)]) (st:=[.ae ((t.flatMap (em (bs Nm a) cf)).map .int)]) rfl e ?_ rfl (gP rfl);delta mX;dsimp only;exact gN (jb (ds:=[il t,bd ms,jJ (bs Nm a)]) (aa:=[]) (ev3 (al rfl) (al rfl) (iO (ds:=[.bool Nm,.bool a]) (aa:=[]) (ev2 oB (al rfl)) (sn2 rfl rfl) (t6 Nm a) (tG (al2 rfl rfl)))) (sn3 (ch t) (gK hp) (iG (bs Nm a))) (CP hp _ G d) rfl) rfl
abbrev Nf:=Int->Option (List Int)
noncomputable def lj(nf:Nf)(c:Int):List Int:=(nf c).getD [c]
variable{ac:Int->Int}{dm:Dm}{ps:mC}
theorem Cx.casefold(X:Cx ms ac dm ps){nf:Nf}{t:List Int}(G:∀c∈t,Get ms 98 c (A4 (nf c)))(v:∀c∈t.flatMap (lj nf),c∈ce)(I:(t.flatMap (lj nf)).length<900)(w:((t.flatMap (lj nf)).flatMap (jh Nl dm)).length<64):(OP (n+10)).F 99 [il t,bd ms]=Nk (il (nfP Nl ac dm ps (t.flatMap (lj nf))),Nm):=by
 have z:=X.hp;have L:=jF (xs:=[6]) (single:=Nm) (f:=D.int) (body:=exs tab (OP (n+9)) (.cons (.assign (.name 84) (.aw Nl (.ab 27) 28 (.cons (.str 98) (.cons (.ab 6) .nil)))) (.cons (.ite (.bq Nl (.ab 84)) (.cons (.expr (.append (.ab 32) (.ab 6))) .nil) (.cons (.expr (.extend (.ab 32) (.ab 84))) .nil)) .nil))) (λd m A=>∃g,m=[(40,il t),(27,bd ms),(32,.ag 0)]++g/\A=[.ae ((d.flatMap (lj nf)).map .int)]) t [] [(40,il t),(27,bd ms),(32,.ag 0)] [.ae []] ⟨[],rfl,rfl⟩ ?_;refine w22 L λJ C q L=>?_;refine w12 L λg E H=>?_;subst E;subst H;rw[NO]at q;refine lP (fn:=lF) (m:=[(40,il t),(27,bd ms)]) (fl:=.ret (.ag 1)) (m':=[(40,il t),(27,bd ms),(32,.ag 0)]++g) (st:=[.ae ((t.flatMap (lj nf)).map .int),.ae ((nfP Nl ac dm ps (t.flatMap (lj nf))).map .int)]) rfl rfl ?_ rfl (gP rfl);delta lF;dsimp only;exact gR (i5 kZ (NX _) rfl) rfl (ad (kX (x:=il t) (y:=.none) (l:=t.map .int) (al rfl) gY rfl q) (gN (jb (ds:=[.ag 0,bd ms]) (ds':=[il (t.flatMap (lj nf)),bd ms]) (ev2 (al rfl) (al rfl)) (gW (nk rfl) (sn1 (gK z))) (X.gC v w) rfl) rfl));rintro d c q m A h ⟨g,rfl,rfl⟩;rw[NO]at h;have B:c∈t:=by refine rG h ?_;simp
 have k:(d.flatMap (lj nf)).length+(lj nf c).length<=(t.flatMap (lj nf)).length:=by refine rG h ?_;simp
 obtain⟨r,p⟩:∃x,x=(Loc.set g 6 (.int c)).set 84 (A4 (nf c)):=⟨_,rfl⟩;have j:∀s,ev tab (OP (n+9)) (.ab 84) ([(40,il t),(27,bd ms),(32,.ag 0)]++r) s=Nk (A4 (nf c),s):=λs=>al (gs3 (by subst p;exact an _ _ _) rfl);refine⟨_,[(40,il t),(27,bd ms),(32,.ag 0)]++r,[.ae (((d++[c]).flatMap (lj nf)).map .int)],rfl,.inl (ad ((λs=>iD (nT (n:=n+6) z (G c B) rfl (al (gs3 (an _ _ _) rfl))) (by refine rG p ?_;rfl):∀s,ex tab (OP (n+9)) (.assign (.name 84) (.aw Nl (.ab 27) 28 (.cons (.str 98) (.cons (.ab 6) .nil)))) ([(40,il t),(27,bd ms),(32,.ag 0)]++Loc.set g 6 (.int c)) s=Nk (.next,[(40,il t),(27,bd ms),(32,.ag 0)]++r,s)) _) ?_),r,rfl,rfl⟩;cases e:nf c with
 |none=>
  rw[e]at j;have u:lj nf c=[c]:=by simp only[lj,e];rfl
  rw[u,Ov]at k;have q:=iH (O:=OP (n+9)) (m:=[(40,il t),(27,bd ms),(32,.ag 0)]++r) (st:=[.ae ((d.flatMap (lj nf)).map .int)]) (o:=.ab 32) (a:=.ab 6) (i:=0) (x:=.int c) (al rfl) rfl ((λs=>al (gs3 (by subst p;exact ig rfl) rfl)) _) (by simp only[Nu];lia);rw[kP]at q;refine rG (by simp[u]:(d++[c]).flatMap (lj nf)=d.flatMap (lj nf)++[c]) ?_;exact jc (c:=(Nl !=Nm)==Nm) (kn (b:=Nm) (x:=.none) (j _) rfl) rfl (ad q (gl rfl)) (gl rfl)
 |some x=>
 rw[e]at j;have u:lj nf c=x:=by simp only[lj,e];rfl
 rw[u]at k;refine rG (by simp[u]:((d++[c]).flatMap (lj nf)).map D.int=(d.flatMap (lj nf)).map D.int++x.map .int) ?_;exact l5 (c:=(Nl !=Nl)) (kn (b:=Nl) (x:=it x) (j _) rfl) rfl (ad (og (O:=OP (n+9)) (m:=[(40,il t),(27,bd ms),(32,.ag 0)]++r) (st:=[.ae ((d.flatMap (lj nf)).map .int)]) (o:=.ab 32) (a:=.ab 84) (i:=0) (x:=it x) (l':=x.map .int) (al rfl) rfl (j _) rfl (by simp only[Nu];lia)) (gl rfl)) (gl rfl)
noncomputable def Db(nf:Nf)(ac:Int->Int)(dm:Dm)(ps:mC)(t:List Int):List Int:=nfP Nl ac dm ps (t.flatMap (lj nf))
theorem Cx.dQ(X:Cx ms ac dm ps){nf:Nf}{t:List Int}(h:∀c∈t,c∈ce)(i:(t.flatMap (jh Nl dm)).length<64)(G:∀c∈ce,Get ms 98 c (A4 (nf c)))(e:∀c∈ce,∀d∈lj nf c,d∈ce)(l:((oU Nl ac dm t).flatMap (lj nf)).length<900)(f:(((oU Nl ac dm t).flatMap (lj nf)).flatMap (jh Nl dm)).length<64):(OP (n+11)).F 100 [il t,bd ms]=Nk (il (Db nf ac dm ps (oU Nl ac dm t)),Nm):=by have a:=gK X.hp;have g:=X.bX h Nl;have C:=X.casefold (n:=n) (nf:=nf) (t:=oU Nl ac dm t) (λc b=>G c (g c b)) (λc b=>by refine w12 (OG.mp b) λd j k=>?_;exact e d (g d j) c k) l f;refine lP (fn:=jq) (m:=[(40,il t),(27,bd ms)]) (fl:=.ret (.ag 0)) (m':=[(40,il t),(27,bd ms)]) (st:=[.ae ((Db nf ac dm ps (oU Nl ac dm t)).map .int)]) rfl rfl ?_ rfl (gP rfl);delta jq;dsimp only;exact gN (jb (ds:=[il (oU Nl ac dm t),bd ms]) (aa:=[]) (ke (aa:=[]) (gQ (ds:=[il t,bd ms]) (aa:=[]) (ev2 (al rfl) (al rfl)) (sn2 (ch t) a) (X.fY (n:=n+1) h i)) (ev1 (al rfl))) (sn2 (ch _) a) C rfl) rfl
theorem jn(a:List Int)(n:Nat):shalL n (a.map .int)=Nm:=by
 induction a with
 |nil=>induction n using NY<;>rfl
 |cons x a b=>induction n using NY<;>exact b
theorem tm(a b:List Int):pB .eq (il a) (il b)=Nk (decide (a=b)):=(uM (jn a 63) (jn b 63)).trans (congrArg Nk (oh a b))
theorem mM(a b:List Int):pB .ne (il a) (il b)=Nk (!decide (a=b)):=(zV (x:=il a) (y:=il b) (jn a 63) (jn b 63)).trans (congrArg (λb=>Nk (!b)) (vv.trans (oh a b)))
theorem Kd(a b:List Int):pB .ne (it a) (it b)=Nk (!decide (a=b)):=(zV (x:=it a) (y:=it b) (jn a 63) (jn b 63)).trans (congrArg (λb=>Nk (!b)) (yO.trans (oh a b)))
theorem KL(a b:List Int):pB .eq (it a) (it b)=Nk (decide (a=b)):=(uL (jn a 63) (jn b 63)).trans (congrArg Nk (oh a b))
end
section
variable{n:Nat}{ms:List (Key×D)}{ac:Int->Int}{dm:Dm}{ps:mC}
theorem Cc{b a:List Int}{c d:List Int}(hp:D.aq ms=Nm)(f:(OP (n+1)).F 100 [il b,bd ms]=Nk (il c,Nm))(g:(OP (n+1)).F 100 [il a,bd ms]=Nk (il d,Nm)):(OP (n+2)).F 101 [il b,il a,bd ms]=Nk (.bool (decide (c=d)),Nl):=by have e:=gK hp;refine lP (fn:=jH) (m:=[(20,il b),(21,il a),(27,bd ms)]) (fl:=.ret (.bool (decide (c=d)))) (m':=[(20,il b),(21,il a),(27,bd ms)]) (st:=[]) rfl rfl ?_ rfl rfl;delta jH;dsimp only;exact gN (iA (x:=il c) (x':=il c) (y:=il d) (y':=il d) (aa:=[]) (gQ (ds:=[il b,bd ms]) (aa:=[]) (ev2 (al rfl) (al rfl)) (sn2 (ch _) e) f) (gQ (ds:=[il a,bd ms]) (aa:=[]) (ev2 (al rfl) (al rfl)) (sn2 (ch _) e) g) (cr (ch _)) (cr (ch _)) (tm c d)) rfl
theorem tX{t a b:List Int}(hp:D.aq ms=Nm)(d:(OP (n+1)).F 64 [il t,bd ms]=Nk (il a,Nm))(e:(OP (n+1)).F 97 [il a,bd ms]=Nk (il b,Nm)):(OP (n+2)).F 103 [il t,bd ms]=Nk (.bool (!decide (b=a)),Nl):=by have c:=gK hp;refine lP (fn:=jp) (m:=[(40,il t),(27,bd ms)]) (fl:=.ret (.bool (!decide (b=a)))) (m':=[(40,il t),(27,bd ms),(102,il a)]) (st:=[]) rfl rfl ?_ rfl rfl;delta jp;dsimp only;exact gR (gQ (ds:=[il t,bd ms]) (aa:=[]) (ev2 (al rfl) (al rfl)) (sn2 (ch _) c) d) rfl (gN (iA (x:=il b) (x':=il b) (y:=il a) (y':=il a) (aa:=[]) (gQ (ds:=[il a,bd ms]) (aa:=[]) (ev2 (al rfl) (al rfl)) (sn2 (ch _) c) e) (al rfl) (cr (ch _)) (cr (ch _)) (mM b a)) rfl)
theorem tY{t a:List Int}(hp:D.aq ms=Nm)(b:(OP (n+1)).F 99 [il t,bd ms]=Nk (il a,Nm)):(OP (n+2)).F 104 [il t,bd ms]=Nk (.bool (!decide (a=t)),Nl):=by refine lP (fn:=iF) (m:=[(40,il t),(27,bd ms)]) (fl:=.ret (.bool (!decide (a=t)))) (m':=[(40,il t),(27,bd ms)]) (st:=[]) rfl rfl ?_ rfl rfl;delta iF;dsimp only;exact gN (iA (x:=il a) (x':=il a) (y:=il t) (y':=il t) (aa:=[]) (gQ (ds:=[il t,bd ms]) (aa:=[]) (ev2 (al rfl) (al rfl)) (sn2 (ch _) (gK hp)) b) (jQ (x:=il t) (x':=il t) (al rfl) rfl rfl) (cr (ch _)) (cr (ch _)) (mM a t)) rfl
abbrev On:=Int->Option Int
noncomputable def onV:Option Int->D|none=>.none|some i=>.int i
noncomputable def tL(lc uc:On)(c:Int):Int:=match lc c with|some l=>if l=c then(uc c).getD c else l|none=>(uc c).getD c
theorem Bi(hp:D.aq ms=Nm){lc uc:On}{t:List Int}(M:∀c∈t,Get ms 107 c (onV (lc c)))(N:∀c∈t,Get ms 108 c (onV (uc c)))(U:t.length<900):(OP (n+4)).F 109 [il t,bd ms]=Nk (il (t.map (tL lc uc)),Nm):=by
 have L:=jF (xs:=[6]) (single:=Nm) (f:=D.int) (body:=exs tab (OP (n+3)) (.cons (.assign (.names [105,106]) (.tup (.cons (.aw Nl (.ab 27) 28 (.cons (.str 107) (.cons (.ab 6) .nil))) (.cons (.aw Nl (.ab 27) 28 (.cons (.str 108) (.cons (.ab 6) .nil))) .nil)))) (.cons (.ite (.and (.cons (.bq Nm (.ab 105)) (.cons (.cmp .ne (.ab 105) (.ab 6)) .nil))) (.cons (.expr (.append (.ab 32) (.ab 105))) .nil) (.cons (.expr (.append (.ab 32) (.ite (.bq Nl (.ab 106)) (.ab 6) (.ab 106)))) .nil)) .nil))) (λd m I=>∃g,m=[(40,il t),(27,bd ms),(32,.ag 0)]++g/\I=[.ae ((d.map (tL lc uc)).map .int)]) t [] [(40,il t),(27,bd ms),(32,.ag 0)] [.ae []] ⟨[],rfl,rfl⟩ ?_;refine w22 L λV R q L=>?_;refine w12 L λg S T=>?_;subst S;subst T;rw[NO]at q;refine lP (fn:=me) (m:=[(40,il t),(27,bd ms)]) (fl:=.ret (.ag 0)) (m':=[(40,il t),(27,bd ms),(32,.ag 0)]++g) (st:=[.ae ((t.map (tL lc uc)).map .int)]) rfl rfl ?_ rfl (gP rfl);delta me;dsimp only;exact gR (i5 kZ (NX _) rfl) rfl (ad (kX (x:=il t) (y:=.none) (l:=t.map .int) (al rfl) gY rfl q) (gN (al rfl) rfl));rintro d c q m I r ⟨g,rfl,rfl⟩;rw[NO]at r;have C:c∈t:=by refine rG r ?_;simp
 have G:d.length<900:=by have:=congrArg PG r;simp at this;lia
 obtain⟨p,w⟩:∃x,x=((Loc.set g 6 (.int c)).set 105 (onV (lc c))).set 106 (onV (uc c)):=⟨_,rfl⟩;have H:∀s,ev tab (OP (n+3)) (.ab 6) ([(40,il t),(27,bd ms),(32,.ag 0)]++p) s=Nk (.int c,s):=λs=>al (gs3 (by subst w;show Loc.get (Loc.set (Loc.set _ 105 _) 106 _) 6=_;refine rG (gI _ _ _ _ rfl) ?_;exact ig rfl) rfl);have j:∀s,ev tab (OP (n+3)) (.ab 105) ([(40,il t),(27,bd ms),(32,.ag 0)]++p) s=Nk (onV (lc c),s):=λs=>al (gs3 (by subst w;exact ig rfl) rfl);have k:∀s,ev tab (OP (n+3)) (.ab 106) ([(40,il t),(27,bd ms),(32,.ag 0)]++p) s=Nk (onV (uc c),s):=λs=>al (gs3 (by subst w;exact an _ _ _) rfl);have B:ev tab (OP (n+3)) (.ab 6) ([(40,il t),(27,bd ms),(32,.ag 0)]++Loc.set g 6 (.int c)) [.ae ((d.map (tL lc uc)).map .int)]=Nk (.int c,[.ae ((d.map (tL lc uc)).map .int)]):=al (gs3 (an _ _ _) rfl);have Q:ex tab (OP (n+3)) (.assign (.names [105,106]) (.tup (.cons (.aw Nl (.ab 27) 28 (.cons (.str 107) (.cons (.ab 6) .nil))) (.cons (.aw Nl (.ab 27) 28 (.cons (.str 108) (.cons (.ab 6) .nil))) .nil)))) ([(40,il t),(27,bd ms),(32,.ag 0)]++Loc.set g 6 (.int c)) [.ae ((d.map (tL lc uc)).map .int)]=Nk (.next,[(40,il t),(27,bd ms),(32,.ag 0)]++p,[.ae ((d.map (tL lc uc)).map .int)]):=km (jz (ev2 (nT hp (M c C) rfl B) (nT hp (N c C) rfl B)) (Nr rfl)) rfl (by refine rG w ?_;rfl);have J:ev tab (OP (n+3)) (.ite (.bq Nl (.ab 106)) (.ab 6) (.ab 106)) ([(40,il t),(27,bd ms),(32,.ag 0)]++p) [.ae ((d.map (tL lc uc)).map .int)]=Nk (.int ((uc c).getD c),[.ae ((d.map (tL lc uc)).map .int)]):=by cases e:uc c with|none=>rw[e]at k;exact m6 (c:=(Nl !=Nm)) (kn (b:=Nm) (k _) rfl) rfl (H _)|some u=>rw[e]at k;exact nV (c:=(Nl !=Nl)) (kn (b:=Nl) (k _) rfl) rfl (k _)
 have A:∀(e:E)(v:Int),ev tab (OP (n+3)) e ([(40,il t),(27,bd ms),(32,.ag 0)]++p) [.ae ((d.map (tL lc uc)).map .int)]=Nk (.int v,[.ae ((d.map (tL lc uc)).map .int)])->tL lc uc c=v->ex tab (OP (n+3)) (.expr (.append (.ab 32) e)) ([(40,il t),(27,bd ms),(32,.ag 0)]++p) [.ae ((d.map (tL lc uc)).map .int)]=Nk (.next,[(40,il t),(27,bd ms),(32,.ag 0)]++p,[.ae (((d++[c]).map (tL lc uc)).map .int)]):=λe v K P=>by have q:=iH (O:=OP (n+3)) (m:=[(40,il t),(27,bd ms),(32,.ag 0)]++p) (st:=[.ae ((d.map (tL lc uc)).map .int)]) (o:=.ab 32) (a:=e) (i:=0) (x:=.int v) (al rfl) rfl K (by simp only[Nu];lia);rw[kP,<-P,kP]at q;exact q
 refine⟨_,[(40,il t),(27,bd ms),(32,.ag 0)]++p,_,rfl,.inl (ad Q ?_),p,rfl,rfl⟩;cases e:lc c with|none=>rw[e]at j;exact l5 (c:=(Nm !=Nm)) (mx (lY (b:=(Nm !=Nm)) (kn (b:=Nm) (j _) rfl) rfl)) rfl (ad (A _ _ J (by simp only[tL,e])) (gl rfl)) (gl rfl)|some l=>rw[e]at j;have z:ev tab (OP (n+3)) (.and (.cons (.bq Nm (.ab 105)) (.cons (.cmp .ne (.ab 105) (.ab 6)) .nil))) ([(40,il t),(27,bd ms),(32,.ag 0)]++p) [.ae ((d.map (tL lc uc)).map .int)]=Nk (.bool (l !=c&&Nm),[.ae ((d.map (tL lc uc)).map .int)]):=mx (w5 (b:=(Nm !=Nl)) (kn (b:=Nl) (j _) rfl) rfl (oV (iA (x:=.int l) (x':=.int l) (j _) (H _) rfl rfl rfl) λ_=>mz));by_cases h:l=c;exact l5 z (by simp[h]) (ad (A _ _ J (by simp only[tL,e,if_pos h])) (gl rfl)) (gl rfl);exact jc z (by simp[h]) (ad (A _ _ (j _) (by simp only[tL,e,if_neg h])) (gl rfl)) (gl rfl)
noncomputable def mt(step:List Int->List Int):Nat->List Int->List Int|0,k=>k|r+1,k=>if step k=k then k else mt step r (step k)
theorem vh{step:List Int->List Int}{k:List Int}:mt step 0 k=k:=rfl
theorem vg{step:List Int->List Int}{k:List Int}{r:Nat}:mt step (r+1) k=if step k=k then k else mt step r (step k):=rfl
noncomputable def lS(step:List Int->List Int)(ok:List Int->Bool):Nat->List Int->Bool|0,k=>ok k|r+1,k=>ok k&&(if step k=k then Nm else lS step ok r (step k))
theorem po{step:List Int->List Int}{ok:List Int->Bool}{k:List Int}:lS step ok 0 k=ok k:=rfl
theorem pk{step:List Int->List Int}{ok:List Int->Bool}{k:List Int}{r:Nat}:lS step ok (r+1) k=(ok k&&(if step k=k then Nm else lS step ok r (step k))):=rfl
noncomputable abbrev oH(ac:Int->Int)(dm:Dm)(ps:mC)(cf:Cf)(a:Int->Bool)(k:List Int):List Int:=(nfP Nm ac dm ps (k.flatMap (em [92,93] cf))).filter λc=> !a c
noncomputable def ui(dm:Dm)(cf:Cf)(k:List Int):Bool:=decide ((k.flatMap (em [92,93] cf)).length<20)
theorem Cx.ident(X:Cx ms ac dm ps){cf:Cf}{b:Int->Bool}(G:∀c∈ce,Get ms 87 c (cfV (cf c)))(U:∀c∈ce,∀d∈em [92,93] cf c,d∈ce)(T:∀c∈ce,Get ms 111 c (.bool (b c))){c:Int}(hc:c∈ce)(g:lS (oH ac dm ps cf b) (ui dm cf) 8 [c]=Nm):(OP (n+10)).F 112 [.int c,bd ms]=Nk (it (mt (oH ac dm ps cf b) 8 [c]),Nl):=by
 have V:=X.hp;have J:=gK V;let f (k:List Int) (r:Loc):Loc:=[(6,.int c),(27,bd ms),(58,.int 8),(84,il k)]++r;have N:∀(k:List Int)(r:Loc),(∀d∈k,d∈ce)->ui dm cf k=Nm->∃B,exs tab (OP (n+9)) (.cons (.assign (.name 24) (.call Nl 66 (.cons (.call Nl 97 (.cons (.ab 84) (.cons (.ab 27) .nil))) (.cons (.ab 27) .nil)))) (.cons (.assign (.name 24) (.comp Nl (.ab 20) [20] [27] Nm .plain (.ab 24) .none Nm (.not (.aw Nl (.ab 27) 28 (.cons (.str 111) (.cons (.ab 20) .nil)))))) (.cons (.ite (.cmp .eq (.ab 24) (.ab 84)) (.cons .brk .nil) .nil) (.cons (.assign (.name 84) (.ab 24)) .nil)))) (f k r) []=Nk (if oH ac dm ps cf b k=k then(.brk,f k B,[])else(.next,f (oH ac dm ps cf b k) B,[]))/\∀d∈oH ac dm ps cf b k,d∈ce:=λk r P g=>by
  have a0:(k.flatMap (em [92,93] cf)).length<20:=by simpa[ui]using g
  have i:∀d∈k.flatMap (em [92,93] cf),d∈ce:=λd p=>by refine w12 (OG.mp p) λe h1 O=>?_;exact U e (P e h1) d O
  have a1:=X.cZ Nm i;have Y:=X.fJ (n:=n) (t:=k.flatMap (em [92,93] cf)) i (by lia);have o:=X.eC i Nm;have A:=X.eP i Nm;obtain⟨j,C⟩:∃x,x=nfP Nm ac dm ps (k.flatMap (em [92,93] cf)):=⟨_,rfl⟩;rw[<-C]at Y o A;rw[(by rw[C]:oH ac dm ps cf b k=j.filter λc=> !b c)];refine hid λG9 k9=>?_;obtain⟨u,E⟩:∃x,x=Loc.set r 24 (il j):=⟨_,rfl⟩;obtain⟨Q,H⟩:∃x,x=Loc.set u 24 (il (j.filter λc=> !b c)):=⟨_,rfl⟩;have Z:ex tab (OP (n+9)) (.assign (.name 24) (.call Nl 66 (.cons (.call Nl 97 (.cons (.ab 84) (.cons (.ab 27) .nil))) (.cons (.ab 27) .nil)))) (f k r) []=Nk (.next,f k u,[]):=iD (gQ (ds:=[il (k.flatMap (em [92,93] cf)),bd ms]) (aa:=[]) (ev2 (gQ (ds:=[il k,bd ms]) (aa:=[]) (ev2 (al rfl) (al rfl)) (sn2 (ch _) J) (oN (n:=n+3) V (cf:=cf) (t:=k) Nl (λd p=>G d (P d p)) (by show(k.flatMap (em [92,93] cf)).length<900;lia) (.inr ⟨rfl,rfl⟩))) (al rfl)) (sn2 (ch _) J) Y) (by rw[E];rfl);have W:ev tab (OP (n+9)) (.ab 24) (f k u) []=Nk (il j,[]):=al (gs4 (by subst E;exact an _ _ _) rfl);have v:ev tab (OP (n+9)) (.ab 24) (f k Q) []=Nk (il (j.filter λc=> !b c),[]):=al (gs4 (by subst H;exact an _ _ _) rfl);have s:∀(r:Loc),∃q,Loc.only [27] (f k r)=(27,bd ms)::q:=λr=>⟨_,rfl⟩;obtain⟨M,S⟩:=s u;refine k9 ?_;have z:=ja (step:=compTurn (OP (n+9)) (.ab 20) [20] [27] Nm Nm (.not (.aw Nl (.ab 27) 28 (.cons (.str 111) (.cons (.ab 20) .nil)))) (f k u)) (st:=[]) (l:=j.map .int) (λd=>match d with|.int x=>if !b x then Nk (.int x)else Nq|_=>Nq) (λd p=>by refine w12 (Nx.mp p) λx hx z3=>?_;subst z3;have I:Loc.get ((27,bd ms)::Loc.set M 20 (.int x)) 20=Nk (.int x):=lT rfl (an _ _ _);exact JN (m':=(27,bd ms)::Loc.set M 20 (.int x)) (by rw[S];rfl) (AN (nT (n:=n+6) V (T x (o x hx)) rfl (al I))) λ_=>al I);have s2:ex tab (OP (n+9)) (.assign (.name 24) (.comp Nl (.ab 20) [20] [27] Nm .plain (.ab 24) .none Nm (.not (.aw Nl (.ab 27) 28 (.cons (.str 111) (.cons (.ab 20) .nil)))))) (f k u) []=Nk (.next,f k Q,[]):=by refine iD (d:=il (j.filter λc=> !b c)) (lv (x:=il j) (y:=.none) (l:=j.map .int) W gY rfl (by rw[Nu];exact lW (by lia)) ?_) (by rw[H];rfl);rw[z,kj D.int (λx=> !b x) _ j λx _=>rfl]
  have w:ev tab (OP (n+9)) (.cmp .eq (.ab 24) (.ab 84)) (f k Q) []=Nk (.bool (decide ((j.filter λc=> !b c)=k)),[]):=iA v (al rfl) (cr (ch _)) (cr (ch _)) (tm _ _);refine⟨Q,?_,λd p=>o d (Pp.mp p).1⟩;by_cases h:(j.filter λc=> !b c)=k;rw[if_pos h];exact ad Z (ad s2 (jP (mF w (by simp[h]) (Ju rfl)) (λh=>nomatch h)));rw[if_neg h];exact ad Z (ad s2 (jl w (by simp[h]) (ad (iD v rfl) (gl rfl))))
 have L:∀(R:Nat)(a:Int)(k:List Int)(r:Loc),(∀d∈k,d∈ce)->lS (oH ac dm ps cf b) (ui dm cf) R k=Nm->∃B,forLoop [110] Nm (exs tab (OP (n+9)) (.cons (.assign (.name 24) (.call Nl 66 (.cons (.call Nl 97 (.cons (.ab 84) (.cons (.ab 27) .nil))) (.cons (.ab 27) .nil)))) (.cons (.assign (.name 24) (.comp Nl (.ab 20) [20] [27] Nm .plain (.ab 24) .none Nm (.not (.aw Nl (.ab 27) 28 (.cons (.str 111) (.cons (.ab 20) .nil)))))) (.cons (.ite (.cmp .eq (.ab 24) (.ab 84)) (.cons .brk .nil) .nil) (.cons (.assign (.name 84) (.ab 24)) .nil))))) (j3 a R) (f k r) []=Nk (.next,f (mt (oH ac dm ps cf b) R k) B,[]):=λR=>by induction R with|zero=>intro a k r _ _;exact⟨r,rfl⟩|succ R ih=>intro a k r P g;simp only[po,pk,NI]at g;refine w12 (N k (Loc.set r 110 (.int a)) P g.1) λu q K=>?_;have hb:iz [110] Nm (D.int a) (f k r)=Nk (f k (Loc.set r 110 (.int a))):=rfl;simp only[vh,vg,u8,rC,kT hb];rw[q];by_cases h:oH ac dm ps cf b k=k;rw[if_pos h,if_pos h];exact⟨u,rfl⟩;have O:=g.2;rw[if_neg h]at O;rw[if_neg h,if_neg h];exact ih (a+1) (oH ac dm ps cf b k) u K O
 obtain⟨B,q⟩:=L 8 0 [c] [] (λd p=>by rw[NC]at p;subst p;exact hc) g;refine lP (fn:=iR) (m:=[(6,.int c),(27,bd ms),(58,.int 8)]) (fl:=.ret (it (mt (oH ac dm ps cf b) 8 [c]))) (m':=f (mt (oH ac dm ps cf b) 8 [c]) B) (st:=[]) rfl rfl ?_ rfl (iJ (kf _));delta iR;dsimp only;exact gR (d:=il [c]) (lM (ev1 (al rfl)) (Nr rfl)) rfl (ad (kX (x:=.int 8) (y:=.none) (l:=j3 0 8) (al rfl) gY rfl q) (gN (yR (x:=il (mt (oH ac dm ps cf b) 8 [c])) (x':=il (mt (oH ac dm ps cf b) 8 [c])) (al rfl) rfl rfl) rfl))
end
abbrev Tb:=List (List Int×Nat×List Int)
abbrev Tp:=List (List Int×List Int)
noncomputable def iy(T:Tb):Tp:=T.map λp=>(p.1,p.2.2)
noncomputable def Jf(T:Tp)(g:List Int)(c:Int):Tp:=jv T g ((gL T g).getD []++[c])
noncomputable abbrev Jm(T:Tb):List (List Int×D):=T.map λp=>(p.1,.ag p.2.1)
structure TabAt(st:am)(i:Nat)(T:Tb)(oth:List Nat):Prop where
 tab:st[i]? =Nk (.ak (Jm T))
 at_:∀p∈T,st[p.2.1]? =Nk (.ae (p.2.2.map .int))
 nd:(oth++i::T.map (·.2.1)).Nodup
 lo:∀j∈oth,j<st.length
theorem Ad{T:Tb}{g:List Int}:gL (T.map λp=>(p.1,D.ag p.2.1)) g=(gL T g).map λp=>.ag p.1:=by induction T with|nil=>rfl|cons p r a=>simp only[Ny,iw,iv,iu];split;rfl;exact a
theorem tH{T:Tb}{g:List Int}:gL (iy T) g=(gL T g).map (·.2):=by induction T with|nil=>rfl|cons p r a=>simp only[iy,Ny,iw,iv,iu];split;rfl;exact a
section
variable{n:Nat}{ms:List (Key×D)}
theorem ze{O:aN}{m:Loc}{st:am}{i:Nat}{T:Tb}{oth:List Nat}(h:TabAt st i T oth){o k x:E}{g:List Int}{c:Int}(hlen:T.length<900)(hl:∀p∈T,p.2.2.length<900)(ho:∀s,(∀j∈oth,s[j]? =st[j]?)->ev tab O o m s=Nk (.ag i,s))(hk:∀s,ev tab O k m s=Nk (it g,s))(hx:∀s,ev tab O x m s=Nk (.int c,s)):∃st' T',ex tab O (.expr (.append (.bW o k) x)) m st=Nk (.next,m,st')/\TabAt st' i T' oth/\iy T'=Jf (iy T) g c/\(∀j∈oth,st'[j]? =st[j]?):=by
 have nd:=Oj.mp h.nd;have ndT:=NZ.mp nd.2.1;have ii:=(Nv.mp h.tab).1;have hid:uw st i=Nm:=by simp only[uw,h.tab]
 cases e:gL T g with
 |some p=>
  obtain⟨j,l⟩:=p;have hm:=lZ e;have hj:st[j]? =Nk (.ae (l.map .int)):=h.at_ _ hm;have hll:l.length<900:=hl _ hm;have ij:=(Nv.mp hj).1;have s1:ev tab O (.bW o k) m st=Nk (.ag j,st++[.ae []]):=by exact FU (ho st (λ_ _=>rfl)) hid (hk st) (Ef (rc g) h.tab (by rw[Ad,e];rfl))
  have hj1:(st++[ao.ae []])[j]? =Nk (.ae (l.map .int)):=mR hj;refine i24 ((st++[ao.ae []]).set j (.ae ((l++[c]).map .int))) (jv T g (j,l++[c])) ?_ ⟨?_,λp hp=>?_,?_,λk hk=>?_⟩ ?_ (λk hk=>?_);refine mm (py s1 (by simp only[nH,hj1]) (hx _) hj1 (AT (by simp only[Nu];lia)) (by rw[kP]));rw[NM (λq=>ndT.1 (Nx.mpr ⟨_,hm,q⟩)),NK ii,h.tab];congr 2;have:∀T:Tb,gL T g=Nk (j,l)->T.map (λp=>(p.1,D.ag p.2.1))=(jv T g (j,l++[c])).map (λp=>(p.1,D.ag p.2.1)):=λT=>by induction T with|nil=>intro q;simp[iw,iv,iu]at q|cons a r ih=>obtain⟨a1,a2,a3⟩:=a;intro q;simp only[iw,iv,iu]at q;simp only[j6,j5,j4];split at q;rename_i e1;(refine spI q λq0 q1=>?_;subst q0;subst q1);rw[if_pos e1];rfl;rename_i e1;rw[if_neg e1,Ny,Ny,ih q]
  exact this T e;have:∀T:Tb,gL T g=Nk (j,l)->(T.map (·.2.1)).Nodup->∀p∈jv T g (j,l++[c]),p=(g,j,l++[c])\/(p∈T/\p.2.1≠j):=λT=>by
   induction T with
   |nil=>intro q;simp[iw,iv,iu]at q|cons a r ih=>
   obtain⟨a1,a2,a3⟩:=a;intro q nd';simp only[iw,iv,iu]at q;simp only[j6,j5,j4];rw[Ny,NZ]at nd';split at q;rename_i e1;(refine spI q λq0 q1=>?_;subst q0;subst q1);rw[if_pos e1];intro p hp;rcases Nz.mp hp with rfl|hp
   left;rw[<-e1];exact .inr ⟨.tail _ hp,λz=>nd'.1 (Nx.mpr ⟨p,hp,z⟩)⟩;rename_i e1;rw[if_neg e1];intro p hp;rcases Nz.mp hp with rfl|hp
   exact .inr ⟨.head _,λz=>nd'.1 (Nx.mpr ⟨_,lZ q,z.symm⟩)⟩;rcases ih q nd'.2 p hp with z|⟨z,z'⟩
   exact .inl z;exact .inr ⟨.tail _ z,z'⟩
  rcases this T e ndT.2 p hp with rfl|⟨hp',eD⟩
  rw[NJ (by simp;lia)];rw[NM (O9 eD),mR (h.at_ p hp')];have:∀T:Tb,gL T g=Nk (j,l)->(jv T g (j,l++[c])).map (·.2.1)=T.map (·.2.1):=λT=>by induction T with|nil=>intro q;simp[iw,iv,iu]at q|cons a r ih=>obtain⟨a1,a2,a3⟩:=a;intro q;simp only[iw,iv,iu]at q;simp only[j6,j5,j4];split at q;rename_i e1;(refine spI q λq0 q1=>?_;subst q0;subst q1);rw[if_pos e1];rfl;rename_i e1;rw[if_neg e1,Ny,Ny,ih q]
  rw[this T e];exact h.nd;have:=h.lo k hk;simp;lia;have e2:gL (iy T) g=Nk l:=by rw[tH,e];rfl
  unfold Jf;rw[e2];have:∀T:Tb,iy (jv T g (j,l++[c]))=jv (iy T) g (l++[c]):=λT=>by induction T with|nil=>rfl|cons a r ih=>have e0:iy (a::r)=(a.1,a.2.2)::iy r:=rfl;rw[e0];simp only[j6,j5,j4];split;rfl;show(a.1,a.2.2)::iy (jv r g (j,l++[c]))=_;rw[ih]
  exact this T;have hk':=h.lo k hk;rw[NM (O9 (λq=>nd.2.2 k hk j (.tail _ (Nx.mpr ⟨_,hm,rfl⟩)) q)),NK hk']
 |none=>
 obtain⟨j,ej⟩:∃j,j=st.length:=⟨_,rfl⟩;have low:∀x∈oth++i::T.map (·.2.1),x<j:=λx hx=>by
  rw[ej];rcases NW.mp hx with hx|hx
  exact h.lo x hx;rcases Nz.mp hx with rfl|hx
  exact ii;refine w12 (Nx.mp hx) λp hp z1=>?_;subst z1;exact(Nv.mp (h.at_ p hp)).1
 obtain⟨st1,e1⟩:∃x,x=(st++[ao.ae []]).set i (.ak (Jm (T++[(g,j,[])]))):=⟨_,rfl⟩;have s1:ev tab O (.bW o k) m st=Nk (.ag j,st1):=by rw[FU (ho st (λ_ _=>rfl)) hid (hk st) (Eg (rc g) h.tab (by rw[Ad,e];rfl) (by simp only[Nu];exact AT (by lia))),e1,ej];simp[Jm]
 have hj1:st1[j]? =Nk (.ae []):=by rw[e1,NM (by lia),ej];simp
 have l1:st1.length=j+1:=by rw[e1,ej];simp
 refine i24 (st1.set j (.ae [.int c])) (T++[(g,j,[c])]) ?_ ⟨?_,λp hp=>?_,?_,λk hk=>?_⟩ ?_ (λk hk=>?_);exact mm (py s1 (by simp only[nH,hj1]) (hx _) hj1 (Nr rfl) rfl);rw[NM (by lia),e1,NJ (by simp;lia)];simp;rcases NW.mp hp with hp|hp
 have h1:=low p.2.1 (Ui _ (.tail _ (Nx.mpr ⟨p,hp,rfl⟩)));rw[NM (by lia),e1,NM (O9 (λq=>ndT.1 (Nx.mpr ⟨p,hp,q⟩))),mR (h.at_ p hp)];rw[NC]at hp;subst hp;rw[NJ (by lia)];rfl;rw[Pq];show(oth++i::(T.map (·.2.1)++[j])).Nodup;rw[show oth++i::(T.map (·.2.1)++[j])=(oth++i::T.map (·.2.1))++[j]by simp];refine Oj.mpr ⟨h.nd,by simp,λx hx y hy q=>?_⟩;rw[NC]at hy;have:=low x hx;lia;have:=h.lo k hk;simp;lia;have e2:gL (iy T) g=Nq:=by rw[tH,e];rfl
 unfold Jf;rw[e2,pE];simp[iy];intro p hp q;refine w12 (Nx.mp hp) λz hz z2=>?_;subst z2;exact pG e z hz q;have h1:=low k (Uy _ hk);rw[NM (by lia),e1,NM (O9 ((λj hj e=>nd.2.2 j hj i (by simp) e) k hk)),NK (h.lo k hk)]
end
noncomputable abbrev Jn(ms:List (Key×D))(t:Bool):ao:=.obj 124 [(27,bd ms),(117,jJ (bs Nl t)),(116,jJ (bs Nm t)),(115,.ag 1),(114,.ag 2)]
structure cC(st:am)(ms:List (Key×D))(t:Bool)(T1 T2:Tb):Prop where
 obj:st[0]? =Nk (Jn ms t)
 one:TabAt st 1 T1 (0::2::T2.map (·.2.1))
 many:TabAt st 2 T2 (0::1::T1.map (·.2.1))
noncomputable def bC(cf:Cf)(t:Bool)(T:Tp)(c:Int):Tp:=if em (bs Nl t) cf c=[c]then T else Jf T (em (bs Nl t) cf c) c
noncomputable def Dr(cf:Cf)(t:Bool)(T:Tp)(c:Int):Tp:=if(em (bs Nm t) cf c).length=1 then T else Jf T (em (bs Nm t) cf c) c
theorem TabAt.keep{st st':am}{i:Nat}{T:Tb}{b a:List Nat}(h:TabAt st i T b)(c:∀j,j=i\/j∈T.map (·.2.1)->st'[j]? =st[j]?)(f:(a++i::T.map (·.2.1)).Nodup)(e:∀j∈a,j<st'.length):TabAt st' i T a:=⟨by exact rG (c i (.inl rfl)) (rG h.tab rfl),λp d=>by exact rG (c _ (.inr (Nx.mpr ⟨p,d,rfl⟩))) (rG (h.at_ p d) rfl),f,e⟩
theorem TabAt.low{st:am}{i:Nat}{T:Tb}{oth:List Nat}(h:TabAt st i T oth):∀j∈i::T.map (·.2.1),j<st.length:=λj hj=>by
 rcases Nz.mp hj with rfl|hj
 exact(Nv.mp h.tab).1;refine w12 (Nx.mp hj) λp hp z1=>?_;subst z1;exact(Nv.mp (h.at_ p hp)).1
section
variable{n:Nat}{ms:List (Key×D)}
def ko(T:Tp)(B:Nat):Prop:=T.length<=B/\∀p∈T,p.2.length<=B
theorem pP{T:Tp}{g:List Int}{c:Int}{B:Nat}(h:ko T B):ko (Jf T g c) (B+1):=by
 refine⟨NN (rQ _ _ _) (Pk h.1),?_⟩;have hg:((gL T g).getD []++[c]).length<=B+1:=by refine rG NG (rG Ov ?_);cases e:gL T g with|none=>simp|some l=>have:=h.2 _ (lZ e);simpa using this
 unfold Jf;generalize (gL T g).getD []++[c]=x at hg;have h2:=h.2;clear h;induction T with
 |nil=>intro p hp;simp only[j6,j5,j4,NC]at hp;subst hp;exact hg|cons a r ih=>
 intro p hp;simp only[j6,j5,j4]at hp;split at hp;rcases Nz.mp hp with rfl|hp
 exact hg;have:=h2 p (.tail _ hp);lia;rcases Nz.mp hp with rfl|hp
 exact Ql (h2 _ (.head _));exact ih (λq hq=>h2 q (.tail _ hq)) p hp
theorem rh{T:Tb}{B:Nat}(h:ko (iy T) B):T.length<=B/\∀p∈T,p.2.2.length<=B:=⟨by have:=h.1;simpa[iy]using this,λp a=>h.2 (p.1,p.2.2) (Nx.mpr ⟨p,a,rfl⟩)⟩
theorem oJ{T:Tp}{B a:Nat}(h:ko T B)(hb:B<=a):ko T a:=⟨by have:=h.1;lia,λp b=>by have:=h.2 p b;lia⟩
theorem CB(hp:D.aq ms=Nm){cf:Cf}{t:Bool}{st:am}{T1 T2:Tb}(h:cC st ms t T1 T2){c:Int}(G:Get ms 87 c (cfV (cf c))){B:Nat}(hB:B<800)(s1:ko (iy T1) B)(s2:ko (iy T2) B):∃st' T1' T2',(OP (n+5)).S 120 [.ag 0,.int c] st=Nk (.none,st')/\cC st' ms t T1' T2'/\iy T1'=bC cf t (iy T1) c/\iy T2'=Dr cf t (iy T2) c:=by
 have hdp:=gK hp;let m1 (g:D):Loc:=[(52,.ag 0),(6,.int c),(119,g)];have fold:∀(m:Loc)(s:am)(f:Nat)(sts:List Nat),m.get 6=Nk (.int c)->m.get 52=Nk (.ag 0)->s[0]? =Nk (Jn ms t)->Fu tab (Jn ms t).toD f=Nk (jJ sts)->ev tab (OP (n+4)) (.call Nl 88 (.cons (.ab 6) (.cons (.attr (.ab 52) 27) (.cons (.attr (.ab 52) f) .nil)))) m s=Nk (it (em sts cf c),s):=λm s f sts h6 h52 h0 hf=>iO (ds:=[.int c,bd ms,jJ sts]) (ev3 (al h6) (iV (al h52) (gO h0) rfl) (iV (al h52) (gO h0) hf)) (sn3 rfl hdp (iG sts)) (s7 hp G sts) (tG (al3 rfl hdp (iG sts)));have step1:∃st1 T1',exs tab (OP (n+4)) (.cons (.ite (.cmp .ne (.ab 119) (.tup (.cons (.ab 6) .nil))) (.cons (.expr (.append (.bW (.attr (.ab 52) 115) (.ab 119)) (.ab 6))) .nil) .nil) .nil) (m1 (it (em (bs Nl t) cf c))) st=Nk (.next,m1 (it (em (bs Nl t) cf c)),st1)/\cC st1 ms t T1' T2/\iy T1'=bC cf t (iy T1) c:=by
  have test:ev tab (OP (n+4)) (.cmp .ne (.ab 119) (.tup (.cons (.ab 6) .nil))) (m1 (it (em (bs Nl t) cf c))) st=Nk (.bool (!decide (em (bs Nl t) cf c=[c])),st):=iA (y:=it [c]) (al rfl) (jz (ev1 (al rfl)) (Nr rfl)) (cr (kf _)) (cr (kf [c])) (Kd _ _);by_cases hg:em (bs Nl t) cf c=[c];exact i23 st T1 (jl test (by simp[hg]) (gl rfl)) h (by simp only[bC,if_pos hg]);have sm:=rh s1;refine w24 (ze (O:=OP (n+4)) (m:=m1 (it (em (bs Nl t) cf c))) h.one (o:=.attr (.ab 52) 115) (k:=.ab 119) (x:=.ab 6) (g:=em (bs Nl t) cf c) (c:=c) (by lia) (λp hp=>by have:=sm.2 p hp;lia) (λs hs=>iV (x:=.ag 0) (x':=(Jn ms t).toD) (al rfl) (gO (by exact rG (hs 0 (.head _)) (rG h.obj rfl))) rfl) (λs=>al rfl) (λs=>al rfl)) λst1 T1' q A hs ho=>?_;refine i23 st1 T1' (jc test (by simp[hg]) (ad q (gl rfl)) (gl rfl)) ⟨by rw[ho 0 (.head _),h.obj],A,?_⟩ (by rw[hs];simp only[bC,if_neg hg]);refine h.many.keep (λj hj=>ho j ?_) ?_ λj hj=>?_;rcases hj with rfl|hj
  exact .tail _ (.head _);exact .tail _ (.tail _ hj);have nd:=A.nd;refine UC (l:=0::2::T2.map (·.2.1)++1::T1'.map (·.2.1)) ?_ nd;refine rG (rfl:(0::1::T1'.map (·.2.1))++2::T2.map (·.2.1)=0::((1::T1'.map (·.2.1))++(2::T2.map (·.2.1)))) ?_;exact Rh 0 Uh;rcases Nz.mp hj with rfl|hj
  exact A.lo 0 (.head _);exact A.low j hj
 refine w23 step1 λst1 T1' q1 I1 hs1=>?_;have step2:∃st2 T2',exs tab (OP (n+4)) (.cons (.ite (.cmp .ne (.len (.ab 119)) (.int 1)) (.cons (.expr (.append (.bW (.attr (.ab 52) 114) (.ab 119)) (.ab 6))) .nil) .nil) .nil) (m1 (it (em (bs Nm t) cf c))) st1=Nk (.next,m1 (it (em (bs Nm t) cf c)),st2)/\cC st2 ms t T1' T2'/\iy T2'=Dr cf t (iy T2) c:=by
  have test:ev tab (OP (n+4)) (.cmp .ne (.len (.ab 119)) (.int 1)) (m1 (it (em (bs Nm t) cf c))) st1=Nk (.bool (!decide ((em (bs Nm t) cf c).length=1)),st1):=by refine iA (x:=.int (em (bs Nm t) cf c).length) (x':=.int (em (bs Nm t) cf c).length) (vw (x:=it (em (bs Nm t) cf c)) (x':=it (em (bs Nm t) cf c)) (al rfl) rfl Kl) ir rfl rfl ?_;show Nk (!((((em (bs Nm t) cf c).length:Nat):Int)==1))=_;congr 2;show decide ((((em (bs Nm t) cf c).length:Nat):Int)=1)=_;exact decide_eq_decide.mpr (by lia)
  by_cases hg:(em (bs Nm t) cf c).length=1;exact i23 st1 T2 (jl test (by simp[hg]) (gl rfl)) I1 (by simp only[Dr,if_pos hg]);have sm:=rh s2;refine w24 (ze (O:=OP (n+4)) (m:=m1 (it (em (bs Nm t) cf c))) I1.many (o:=.attr (.ab 52) 114) (k:=.ab 119) (x:=.ab 6) (g:=em (bs Nm t) cf c) (c:=c) (by lia) (λp hp=>by have:=sm.2 p hp;lia) (λs hs=>iV (x:=.ag 0) (x':=(Jn ms t).toD) (al rfl) (gO (by exact rG (hs 0 (.head _)) (rG I1.obj rfl))) rfl) (λs=>al rfl) (λs=>al rfl)) λst2 T2' q A hs ho=>?_;refine i23 st2 T2' (jc test (by simp[hg]) (ad q (gl rfl)) (gl rfl)) ⟨by rw[ho 0 (.head _),I1.obj],?_,A⟩ (by rw[hs];simp only[Dr,if_neg hg]);refine I1.one.keep (λj hj=>ho j ?_) ?_ λj hj=>?_;rcases hj with rfl|hj
  exact .tail _ (.head _);exact .tail _ (.tail _ hj);have nd:=A.nd;refine UC (l:=0::1::T1'.map (·.2.1)++2::T2'.map (·.2.1)) ?_ nd;refine rG (rfl:(0::2::T2'.map (·.2.1))++1::T1'.map (·.2.1)=0::((2::T2'.map (·.2.1))++(1::T1'.map (·.2.1)))) ?_;exact Rh 0 Uh;rcases Nz.mp hj with rfl|hj
  exact A.lo 0 (.head _);exact A.low j hj
 refine w23 step2 λst2 T2' q2 I2 hs2=>?_;refine i34 st2 T1' T2' (Ae (fn:=lJ) (m:=[(52,.ag 0),(6,.int c)]) (fl:=.next) (m':=m1 (it (em (bs Nm t) cf c))) rfl rfl ?_ rfl) I2 hs1 hs2;delta lJ;dsimp only;rw[CR]at q1 q2;exact gR (fold _ st 117 _ rfl rfl h.obj rfl) rfl (ad q1 (gR (fold _ st1 116 _ rfl rfl I1.obj rfl) rfl (ad q2 (gl rfl))))
end
section
variable{n:Nat}{ms:List (Key×D)}
noncomputable abbrev tpD(T:Tp):List (List Int×D):=T.map λp=>(p.1,il p.2)
noncomputable abbrev CF(ms:List (Key×D))(t:Bool)(a b:Tp):D:=.obj 124 [(27,bd ms),(117,jJ (bs Nl t)),(116,jJ (bs Nm t)),(115,.ak (tpD a)),(114,.ak (tpD b))]
theorem vQ(T:Tp):D.plainT (tpD T)=Nm:=by induction T with|nil=>rfl|cons a r b=>simp only[tpD,Ny,n6,n5,n0,ch,Pg];exact b
theorem sj{st:am}{k:Nat}:∀{T:Tb},(∀p∈T,st[p.2.1]? =Nk (.ae (p.2.2.map .int)))->snapT (jD st (k+1)) (Jm T)=Nk (tpD (iy T))
 |[],_=>rfl|p::r,h=>by
  have e:iZ (jD st (k+1)) (.ag p.2.1)=Nk (il p.2.2):=by show(st[p.2.1]?).bind (λc=>iZ (jD st k) c.toD)=_;refine rG (h p (.head _)) (rG (O2 _ _) ?_);exact iC _ _ (ch _)
  simp only[Jm,Ny,GN,GM,e];refine rG (show r.map (λp=>(p.1,D.ag p.2.1))=Jm r from rfl) (rG (sj (k:=k) (T:=r) λq a=>h q (.tail _ a)) ?_);rfl
theorem AG(hp:D.aq ms=Nm)(t:Bool)(a b:Tp):(CF ms t a b).plain=Nm:=by have c:=gK hp;have d:=vQ a;have e:=vQ b;have f:=iG (bs Nl t);have g:=iG (bs Nm t);show D.bf _=Nm;simp only[kN,kM,kL,c,f,g,Pg,PN];show(D.plainT (tpD a)&&D.plainT (tpD b))=Nm;refine rG d (rG e ?_);rfl
theorem At(hp:D.aq ms=Nm){st:am}{t:Bool}{a b:Tb}(h:cC st ms t a b):tQ st (.ag 0)=Nk (CF ms t (iy a) (iy b)):=by
 show(st[0]?).bind (λc=>iZ (jD st 5) c.toD)=_;refine rG h.obj (rG (O2 _ _) ?_);have d:iZ (jD st 5) (.ag 1)=Nk (.ak (tpD (iy a))):=by show(st[1]?).bind (λc=>iZ (jD st 4) c.toD)=_;refine rG h.one.tab (rG (O2 _ _) ?_);simp only[DH,DG,DF,DE,su,sq,sp,so,sn,sl,sj h.one.at_,Ok]
 have e:iZ (jD st 5) (.ag 2)=Nk (.ak (tpD (iy b))):=by show(st[2]?).bind (λc=>iZ (jD st 4) c.toD)=_;refine rG h.many.tab (rG (O2 _ _) ?_);simp only[DH,DG,DF,DE,su,sq,sp,so,sn,sl,sj h.many.at_,Ok]
 show(snapF (jD st 5) _).map (D.obj 124)=_;refine rG (iT _ _ _ _ _ _ (iC (jD st 5) _ (gK hp)) (iT _ _ _ _ _ _ (iC (jD st 5) _ (iG (bs Nl t))) (iT _ _ _ _ _ _ (iC (jD st 5) _ (iG (bs Nm t))) (iT _ _ _ _ _ _ d (iT _ _ _ _ _ [] e (show snapF _ []=Nk []from rfl)))))) ?_;rfl
theorem Iz(hp:D.aq ms=Nm){cf:Cf}(t:Bool){ss:List Int}{vs:List D}{P:D}(hk:gL ms (.s 87)=Nk (rmD P ss vs))(U:ss.length=vs.length)(h0:0<vs.length)(hl:vs.length<900)(H:∀v∈vs,(pq v P).isSome=Nm){u:List Int}(W:kz P ss vs=u.map λc=>(c,c,cfV (cf c)))(a5:0<u.length)(a7:u.length<700)(hr:∀c∈u,0<=c/\c<44032/\(∃l,cf c=Nk l)/\Get ms 87 c (cfV (cf c))):∃z A C,(OP (n+6)).S 118 [.ag 0,bd ms,.bool t] [.obj 124 []]=Nk (.none,z)/\cC z ms t A C/\iy A=u.foldl (bC cf t) []/\iy C=u.foldl (Dr cf t) []:=by
 have J:=kI hp hk;have R:=gK hp;let k:am:=[Jn ms t,.ak [],.ak []];have N:∀(l:List Int),ko (l.foldl (bC cf t) []) l.length/\ko (l.foldl (Dr cf t) []) l.length:=λl=>by
  have a4:∀(l:List Int)(T O:Tp)(B:Nat),ko T B->ko O B->ko (l.foldl (bC cf t) T) (B+l.length)/\ko (l.foldl (Dr cf t) O) (B+l.length):=λl=>by
   induction l with
   |nil=>intro T O B h h';exact⟨h,h'⟩|cons c r ih=>
   intro T O B h h';have E:ko (bC cf t T c) (B+1):=by unfold bC;split;exact oJ h (by lia);exact pP h
   have F:ko (Dr cf t O c) (B+1):=by unfold Dr;split;exact oJ h' (by lia);exact pP h'
   refine rG N5 (rG N5 (rG NU (rG (show B+(r.length+1)=B+1+r.length by lia) ?_)));exact(ih _ _ _ E F)
  have:=a4 l [] [] 0 ⟨N4 _,λp hp=>(iM hp)⟩ ⟨N4 _,λp hp=>(iM hp)⟩;rw[Oz]at this;exact this
 have L:=jF (xs:=[45,46,84]) (single:=Nl) (f:=λc:Int=>rt (c,c,cfV (cf c))) (body:=exs tab (OP (n+5)) (.cons (.ite (.bq Nm (.ab 84)) (.cons (.bu [6] Nm .aV (.ab 45) (.bin .add (.ab 46) (.int 1)) (.cons (.expr (.ba (.ab 52) 113 (.cons (.ab 6) .nil))) .nil)) .nil) .nil) .nil)) (λo m Z=>∃e A C,m=[(52,.ag 0),(27,bd ms),(89,.bool t)]++e/\cC Z ms t A C/\iy A=o.foldl (bC cf t) []/\iy C=o.foldl (Dr cf t) []) u [] [(52,.ag 0),(27,bd ms),(89,.bool t)] k ⟨[],[],[],rfl,(⟨rfl,⟨rfl,λp hp=>(iM hp),by decide,λj hj=>by simp only[Rp,Nz,Ow,or_false]at hj;show j<3;lia⟩,⟨rfl,λp hp=>(iM hp),by decide,λj hj=>by simp only[Rp,Nz,Ow,or_false]at hj;show j<3;lia⟩⟩),rfl,rfl⟩ ?_;refine w22 L λm' z q L=>?_;refine w34 L λe A C z1 I E F=>?_;subst z1;rw[NO]at E F;refine i34 z A C (Ae (fn:=li) (m:=[(52,.ag 0),(27,bd ms),(89,.bool t)]) (fl:=.next) (m':=[(52,.ag 0),(27,bd ms),(89,.bool t)]++e) rfl rfl ?_ rfl) I E F;delta li;dsimp only;have sf:∀(d:Bool)(s:am),ev tab (OP (n+5)) (.call Nl 95 (.cons (.bool d) (.cons (.ab 89) .nil))) [(52,.ag 0),(27,bd ms),(89,.bool t)] s=Nk (jJ (bs d t),s):=λd s=>iO (ds:=[.bool d,.bool t]) (ev2 oB (al rfl)) (sn2 rfl rfl) (t6 d t) (tG (al2 rfl rfl));refine ad (aa:=[.obj 124 [(27,bd ms)]]) (ln (i:=0) (c:=124) (fs:=[]) (al rfl) (al rfl) rfl rfl rfl) (ad (aa:=[.obj 124 [(27,bd ms),(117,jJ (bs Nl t))]]) (ln (i:=0) (c:=124) (fs:=[(27,bd ms)]) (sf Nl _) (al rfl) rfl rfl rfl) (ad (aa:=[.obj 124 [(27,bd ms),(117,jJ (bs Nl t)),(116,jJ (bs Nm t))]]) (ln (i:=0) (c:=124) (fs:=[(27,bd ms),(117,jJ (bs Nl t))]) (sf Nm _) (al rfl) rfl rfl rfl) (ad (aa:=[.obj 124 [(27,bd ms),(117,jJ (bs Nl t)),(116,jJ (bs Nm t)),(115,.ag 1)],.ak []]) (ln (i:=0) (c:=124) (fs:=[(27,bd ms),(117,jJ (bs Nl t)),(116,jJ (bs Nm t))]) (yT rfl) (al rfl) rfl rfl rfl) (ad (aa:=k) (ln (i:=0) (c:=124) (fs:=[(27,bd ms),(117,jJ (bs Nl t)),(116,jJ (bs Nm t)),(115,.ag 1)]) (yT rfl) (al rfl) rfl rfl rfl) (ad (kX (x:=.ae ((kz P ss vs).map rt)) (y:=.none) (l:=u.map λc=>rt (c,c,cfV (cf c))) (aa:=k) (ah:=k) (to (x:=rmD P ss vs) (c:=177) (g:=81) (ds:=[]) (aa:=k) (ah:=k) (to (x:=bd ms) (c:=196) (g:=178) (ds:=[.str 87]) (aa:=k) (ah:=k) (al rfl) rfl rfl rfl (ev1 j7) (sn2 R rfl) (zw (n:=n+4) hp hk) (tG (al2 R rfl))) rfl rfl rfl kZ (sn1 J) (zj (n:=n+3) J U h0 hl H ?_) (tG (al1 J))) gY ?_ q) (gl rfl))))));refine rG W ?_;induction u using NA with|nil=>simp at a5|cons a b=>exact⟨_,.head _⟩
 simp only[i9,i8,i7,i6,nG,nF,nE,nD,W,Pe];rfl;rintro o c q m Z K ⟨e,A,C,rfl,I,E,F⟩;rw[NO]at K;have V:c∈u:=by refine rG K ?_;simp
 refine hid λG9 k9=>?_;refine w04 (hr c V) λc0 c1 z2 G=>?_;obtain⟨l,a3⟩:=z2;have a6:o.length<700:=by have:=congrArg PG K;simp at this;lia
 obtain⟨X,Y⟩:=N o;rw[<-E]at X;rw[<-F]at Y;refine w34 (CB (n:=n) hp I G (B:=o.length) (by lia) X Y) λa0 a1 a2 qp I2 g1 g2=>?_;obtain⟨r2,w⟩:∃x,x=((Loc.set e 45 (.int c)).set 46 (.int c)).set 84 (cfV (cf c)):=⟨_,rfl⟩;obtain⟨r3,Q⟩:∃x,x=Loc.set r2 6 (.int c):=⟨_,rfl⟩;refine k9 ?_;have M:forLoop [6] Nm (exs tab (OP (n+5)) (.cons (.expr (.ba (.ab 52) 113 (.cons (.ab 6) .nil))) .nil)) ([c].map .int) ([(52,.ag 0),(27,bd ms),(89,.bool t)]++r2) Z=Nk (.next,[(52,.ag 0),(27,bd ms),(89,.bool t)]++r3,a0):=by
  have hb:iz [6] Nm (D.int c) ([(52,.ag 0),(27,bd ms),(89,.bool t)]++r2)=Nk ([(52,.ag 0),(27,bd ms),(89,.bool t)]++r3):=by refine rG Q ?_;rfl
  refine rG Ny (rG Rp (rG (kT hb) ?_));refine rG (ad (mm (tn (x:=.ag 0) (c:=124) (g:=120) (ds:=[.int c]) (aa:=Z) (ah:=Z) (fs:=[(27,bd ms),(117,jJ (bs Nl t)),(116,jJ (bs Nm t)),(115,.ag 1),(114,.ag 2)]) (al rfl) (gO I.obj) rfl rfl (ev1 (al (gs3 (by subst Q;exact an _ _ _) rfl))) qp)) (gl rfl)) ?_;rfl
 refine⟨[(52,.ag 0),(27,bd ms),(89,.bool t)]++r2,[(52,.ag 0),(27,bd ms),(89,.bool t)]++r3,a0,by refine rG w ?_;rfl,.inl (jc (c:=(Nm !=isNone (cfV (cf c)))) (kn ((λs=>al (gs3 (by subst w;exact an _ _ _) rfl)) _) rfl) (by refine rG a3 ?_;rfl) (ad (kX (x:=.int c) (y:=.int (c+1)) (l:=[c].map .int) ((λs=>al (gs3 (by subst w;show Loc.get (Loc.set (Loc.set _ 46 _) 84 _) 45=_;refine rG (gI _ _ _ _ rfl) ?_;exact ig rfl) rfl)) _) (kG (x:=.int c) (x':=.int c) ((λs=>al (gs3 (by subst w;exact ig rfl) rfl)) _) ir rfl rfl rfl) (v7 c0 c1) M) (gl rfl)) (gl rfl)),r3,a1,a2,rfl,I2,?_,?_⟩;refine rG g1 (rG E (rG Pt ?_));rfl;refine rG g2 (rG F (rG Pt ?_));rfl
noncomputable def Ab(cf:Cf)(t:Bool)(T:Tp)(c:Int):List Int:=
 let g:=em (bs Nl t) cf c
 let f:=(gL T g).getD []
 let f:=if em (bs Nl t) cf (g.headD 0)=g/\¬g.headD 0∈f then f++[g.headD 0]else f
 kb (if c∈f then f else f++[c])
theorem Fw(x:Int)(l:List Int):((l.map D.int).any λy=>eqB y (.int x))=decide (x∈l):=by induction l with|nil=>rfl|cons y r a=>refine rG Ny (rG Q5 (rG a (rG CU ?_)));by_cases h:y=x;subst h;simp;refine rG (beq_eq_false_iff_ne.mpr h) ?_;simp[show ¬x=y from λe=>h e.symm]
theorem CD(x:Int)(l:List Int):inD (.int x) (il l)=Nk (decide (x∈l)):=(nh ⟨rfl,jn l 64⟩:inS (.int x) (l.map .int)=_).trans (congrArg Nk (Fw x l))
theorem Gk(T:Tp)(k:List Int):gL (tpD T) k=(gL T k).map λl=>il l:=by induction T with|nil=>rfl|cons p r a=>simp only[tpD,Ny,iw,iv,iu];split;rfl;exact a
theorem Je(hp:D.aq ms=Nm){cf:Cf}(t:Bool)(T1 T2:Tp){c:Int}(hT:∀p∈T1,p.2.length<60)(G:Get ms 87 c (cfV (cf c))){h0:Int}{gr:List Int}(hg:em (bs Nl t) cf c=h0::gr)(G0:Get ms 87 h0 (cfV (cf h0))):(OP (n+5)).F 121 [CF ms t T1 T2,.int c]=Nk (il (Ab cf t T1 c),Nm):=by
 have hdp:=gK hp
 obtain⟨f,ef⟩:∃f,f=(gL T1 (h0::gr)).getD []:=⟨_,rfl⟩
 have hf:f.length<60:=by
  refine rG ef ?_
  cases e:gL T1 (h0::gr)with
   |none=>simp
   |some l=>exact hT _ (lZ e)
 let m0:Loc:=[(52,CF ms t T1 T2),(6,.int c)]
 have fold:∀(m:Loc)(s:am)(e:E)(x:Int),ev tab (OP (n+4)) e m s=Nk (.int x,s)->m.get 52=Nk (CF ms t T1 T2)->Get ms 87 x (cfV (cf x))->ev tab (OP (n+4)) (.call Nl 88 (.cons e (.cons (.attr (.ab 52) 27) (.cons (.attr (.ab 52) 117) .nil)))) m s=Nk (it (em (bs Nl t) cf x),s):=λm s e x he h52 Gx=>
  iO (ds:=[.int x,bd ms,jJ (bs Nl t)]) (ev3 he (iV (x':=CF ms t T1 T2) (al h52) rfl rfl) (iV (x':=CF ms t T1 T2) (al h52) rfl rfl)) (sn3 rfl hdp (iG (bs Nl t))) (s7 hp Gx (bs Nl t)) (tG (al3 rfl hdp (iG _)))
 let m1:Loc:=[(52,CF ms t T1 T2),(6,.int c),(119,it (h0::gr))]
 let m2:Loc:=[(52,CF ms t T1 T2),(6,.int c),(119,it (h0::gr)),(32,.ag 0)]
 have s1:ex tab (OP (n+4)) (.assign (.name 119) (.call Nl 88 (.cons (.ab 6) (.cons (.attr (.ab 52) 27) (.cons (.attr (.ab 52) 117) .nil))))) m0 []=Nk (.next,m1,[]):=by
  refine iD (fold m0 [] _ c (al rfl) rfl G) ?_
  refine rG hg ?_;rfl
 have s2:ex tab (OP (n+4)) (.assign (.name 32) (.list Nm (.aH (.attr (.ab 52) 115) (.ab 119) (.ae Nl .nil)))) m1 []=Nk (.next,m2,[.ae (f.map .int)]):=by
  refine iD (zM (x:=il f) (x':=il f) (l:=f.map .int) (aa:=[]) (wJ (x:=.ak (tpD T1)) (x':=.ak (tpD T1)) (y:=it (h0::gr)) (z:=il []) (iV (x':=CF ms t T1 T2) (al rfl) rfl rfl) rfl (al rfl) (lM kZ (NX _)) rfl ?_) rfl rfl rfl) rfl
  simp only[FT (rc (h0::gr)),Gk,ef]
  cases gL T1 (h0::gr)<;>rfl
 have h0e:∀s,ev tab (OP (n+4)) (.aj (.ab 119) (.int 0)) m2 s=Nk (.int h0,s):=λs=>ie (x:=it (h0::gr)) (x':=it (h0::gr)) (al rfl) ir rfl (zE (l:=(h0::gr).map .int) (k:=0) rfl)
 obtain⟨f2,ef2⟩:∃x,x=(if em (bs Nl t) cf h0=h0::gr/\¬h0∈f then f++[h0]else f):=⟨_,rfl⟩
 obtain⟨f3,ef3⟩:∃x,x=(if c∈f2 then f2 else f2++[c]):=⟨_,rfl⟩
 have l2:f2.length<61:=by refine rG ef2 ?_;split<;>first|lia|(refine rG NG (rG Ov ?_);lia)
 have l3:f3.length<62:=by refine rG ef3 ?_;split<;>first|lia|(refine rG NG (rG Ov ?_);lia)
 have e0:Ab cf t T1 c=kb f3:=by simp only[Ab,hg,VH,<-ef,<-ef2,<-ef3]
 refine rG e0 ?_
 have st1:ex tab (OP (n+4)) (.ite (.and (.cons (.cmp .eq (.call Nl 88 (.cons (.aj (.ab 119) (.int 0)) (.cons (.attr (.ab 52) 27) (.cons (.attr (.ab 52) 117) .nil)))) (.ab 119)) (.cons (.bz Nm (.aj (.ab 119) (.int 0)) (.ab 32)) .nil)))
 (.cons (.expr (.append (.ab 32) (.aj (.ab 119) (.int 0))))
 .nil)
 .nil) m2 [.ae (f.map .int)]=Nk (.next,m2,[.ae (f2.map .int)]):=by
  have a1:ev tab (OP (n+4)) (.cmp .eq (.call Nl 88 (.cons (.aj (.ab 119) (.int 0)) (.cons (.attr (.ab 52) 27) (.cons (.attr (.ab 52) 117) .nil)))) (.ab 119)) m2 [.ae (f.map .int)]=Nk (.bool (decide (em (bs Nl t) cf h0=h0::gr)),[.ae (f.map .int)]):=iA (fold m2 _ _ h0 (h0e _) rfl G0) (al rfl) (cr (kf _)) (cr (kf (h0::gr))) (KL _ _)
  have a2:ev tab (OP (n+4)) (.bz Nm (.aj (.ab 119) (.int 0)) (.ab 32)) m2 [.ae (f.map .int)]=Nk (.bool (Nm !=decide (h0∈f)),[.ae (f.map .int)]):=pZ (y:=.ag 0) (y':=il f) (h0e _) (al rfl) rfl (CD _ _)
  have test:=mx (oV a1 λ_=>oV a2 λ_=>(mz:evB tab (OP (n+4)) Nm .nil _ [ao.ae (f.map .int)]=_))
  by_cases h:em (bs Nl t) cf h0=h0::gr/\¬h0∈f
  ·rw[if_pos h]at ef2
   have q:=iH (O:=OP (n+4)) (m:=m2) (st:=[.ae (f.map .int)]) (o:=.ab 32) (a:=.aj (.ab 119) (.int 0)) (i:=0) (x:=.int h0) (al rfl) rfl (h0e _) (by simp only[Nu];lia)
   rw[kP,<-ef2]at q
   exact mF test (by simp[h.1,h.2]) (ad q (gl rfl))
  ·rw[if_neg h]at ef2
   refine rG ef2 ?_
   refine pK test ?_ (gl rfl)
   by_cases h1:em (bs Nl t) cf h0=h0::gr
   ·have:h0∈f:=Decidable.of_not_not λh2=>h ⟨h1,h2⟩
    simp[this]
   ·simp[h1]
 have st2:ex tab (OP (n+4)) (.ite (.bz Nm (.ab 6) (.ab 32))
 (.cons (.expr (.append (.ab 32) (.ab 6)))
 .nil)
 .nil) m2 [.ae (f2.map .int)]=Nk (.next,m2,[.ae (f3.map .int)]):=by
  have test:ev tab (OP (n+4)) (.bz Nm (.ab 6) (.ab 32)) m2 [.ae (f2.map .int)]=Nk (.bool (Nm !=decide (c∈f2)),[.ae (f2.map .int)]):=pZ (y:=.ag 0) (y':=il f2) (al rfl) (al rfl) rfl (CD _ _)
  by_cases h:c∈f2
  ·rw[if_pos h]at ef3
   refine rG ef3 ?_
   exact pK test (by simp[h]) (gl rfl)
  ·rw[if_neg h]at ef3
   have q:=iH (O:=OP (n+4)) (m:=m2) (st:=[.ae (f2.map .int)]) (o:=.ab 32) (a:=.ab 6) (i:=0) (x:=.int c) (al rfl) rfl (al rfl) (by simp only[Nu];lia)
   rw[kP,<-ef3]at q
   exact mF test (by simp[h]) (ad q (gl rfl))
 refine lP (fn:=kF) (m:=m0) (fl:=.ret (.ag 1)) (m':=m2) (st:=[.ae (f3.map .int),.ae ((kb f3).map .int)]) rfl rfl ?_ rfl (gP rfl)
 delta kF;dsimp only
 exact ad s1 (ad s2 (ad st1 (ad st2 (gN (uF (x:=.ag 0) (l:=f3.map .int) (al rfl) rfl (by simp only[Nu];lia) (oe f3) rfl) rfl))))
end
section
variable{n:Nat}{ms:List (Key×D)}
structure eK(ms:List (Key×D))(cf:Cf)(ss:List Int)(vs:List D)(dv:D)(rs:List Int):Prop where
 hk:gL ms (.s 87)=Nk (rmD dv ss vs)
 hlen:ss.length=vs.length
 h0:0<vs.length
 hl:vs.length<900
 fq:∀v∈vs,(pq v dv).isSome=Nm
 gE:kz dv ss vs=rs.map λc=>(c,c,cfV (cf c))
 eD:0<rs.length
 fZ:rs.length<50
 hr:∀c∈rs,0<=c/\c<44032/\(∃l,cf c=Nk l)/\Get ms 87 c (cfV (cf c))
noncomputable def BU(cf:Cf)(t:Bool)(a:List Int)(c:Int):List Int:=Ab cf t (a.foldl (bC cf t) []) c
theorem Av{cf:Cf}{t:Bool}(l:List Int):∀p∈l.foldl (bC cf t) [],p.2.length<=l.length:=by
 have a:∀(l:List Int)(T:Tp)(B:Nat),ko T B->ko (l.foldl (bC cf t) T) (B+l.length):=λl=>by
  induction l with
  |nil=>intro T B h;exact h|cons c r e=>
  intro T B h;have b:ko (bC cf t T c) (B+1):=by unfold bC;split;exact oJ h (by lia);exact pP h
  refine rG N5 (rG NU (rG (show B+(r.length+1)=B+1+r.length by lia) ?_));exact(e _ _ b)
 have:=a l [] 0 ⟨N4 _,λp d=>(iM d)⟩;rw[Oz]at this;exact this.2
theorem BT(hp:D.aq ms=Nm){cf:Cf}(t:Bool){ss:List Int}{vs:List D}{E:D}{h:List Int}(K:eK ms cf ss vs E h){tx:List Int}(C:∀c∈tx,Get ms 87 c (cfV (cf c)))(A:(tx.flatMap (em (bs Nm t) cf)).length<900)(G:∀c∈tx.flatMap (em (bs Nm t) cf),Get ms 87 c (cfV (cf c))/\∃o w,em (bs Nl t) cf c=o::w/\Get ms 87 o (cfV (cf o))):∃H,(OP (n+7)).F 125 [il tx,bd ms,.bool t]=Nk (.ae ((tx.flatMap (em (bs Nm t) cf)).map λc=>il (BU cf t h c)),H):=by
 refine w34 (Iz (n:=n) hp t K.hk K.hlen K.h0 K.hl K.fq K.gE K.eD (by have:=K.fZ;lia) K.hr) λf m s q I z U=>?_;have Q:=AG hp t (iy m) (iy s);have N:∀p∈iy m,p.2.length<60:=λp j=>by rw[z]at j;have:=Av h p j;have:=K.fZ;lia
 let e:=tx.flatMap (em (bs Nm t) cf);have i:=ja (step:=compTurn (OP (n+6)) (.aw Nl (.ab 122) 123 (.cons (.ab 6) .nil)) [6] [122] Nm Nl .none [(40,il tx),(27,bd ms),(89,.bool t),(122,.ag 0)]) (st:=f) (l:=e.map .int) (λd=>match d with|.int c=>Nk (il (BU cf t h c))|_=>Nq) (λd P=>by refine w12 (Nx.mp P) λc O T=>?_;subst T;obtain⟨J,o,w,L,M⟩:=G c O;refine FH (m':=[(122,.ag 0),(6,.int c)]) rfl (CY (x:=.ag 0) (c:=124) (g:=121) (fs:=[(27,bd ms),(117,jJ (bs Nl t)),(116,jJ (bs Nm t)),(115,.ag 1),(114,.ag 2)]) (ds:=[.int c]) (ds':=[CF ms t (iy m) (iy s),.int c]) (al rfl) (gO I.obj) rfl rfl (ev1 (al rfl)) (gW (At hp I) (sn1 rfl)) ?_);refine rG (Je (n:=n+1) hp t (iy m) (iy s) N J L M) ?_;simp only[BU,z]);have k:(D.ae (e.map λc=>il (BU cf t h c))).plain=Nm:=by show D.ax _=Nm;generalize e=x;induction x with|nil=>rfl|cons a r u=>simp only[Ny,kK,kJ,ch,u,Ox]
 suffices ∃B v,exs tab (OP (n+6)) kU.body [(40,il tx),(27,bd ms),(89,.bool t)] []=Nk (.ret (.ag f.length),B,v)/\v[f.length]? =Nk (.ae (e.map λc=>il (BU cf t h c)))by refine w22 this λB v R S=>?_;refine⟨_,lP (fn:=kU) rfl rfl R rfl (r:=.ae (e.map λc=>il (BU cf t h c))) (b:=(e.map λc=>il (BU cf t h c)).all D.scalar) ?_⟩;exact ni (jK S k)
 delta kU;dsimp only;refine i22 ([(40,il tx),(27,bd ms),(89,.bool t),(122,.ag 0)]) (f++[.ae (e.map λc=>il (BU cf t h c))]) (gR (E7 (g:=118) (ds:=[bd ms,.bool t]) (aa:=[]) (ev2 (al rfl) (al rfl)) rfl q) rfl (gN (rO (x:=il e) (y:=.none) (l:=e.map .int) (l':=e.map λc=>il (BU cf t h c)) (aa:=f) (ah:=f) (au:=f) (gQ (ds:=[il tx,bd ms,.bool t]) (ev3 (al rfl) (al rfl) (al rfl)) (sn3 (ch _) (gK hp) rfl) (oN (n:=n) hp t C A (.inl rfl))) gY rfl (by refine rG (Nu _) ?_;exact lW (by show e.length<1000;have:e.length<900:=A;lia)) ?_ rfl) rfl)) (by simp);refine We i ?_;congr 2;generalize e=x;induction x with|nil=>rfl|cons a r u=>simp only[Ny,Oy,u]
end
abbrev Bl:=List (Nat×List (Int×D))
structure Bx(l:Bl)(ac:Int->Int)(dm:Dm)(cf:Cf)(lc uc:On)(di:Int->Bool):Prop where
 hp:(gM l).plain=Nm
 gi:∃es,gL l 29=Nk es/\∀c∈ce,gL es c=(dm c).map λp=>.tup [.str p.1,it p.2]
 eT:∃es,gL l 42=Nk es/\∀c∈ce,(gL es c).getD (.int 0)=.int (ac c)
 gm:∃es,gL l 87=Nk es/\∀c∈ce,gL es c=(cf c).map cfD
 gh:∃es,gL l 107=Nk es/\∀c∈ce,gL es c=(lc c).map .int
 gf:∃es,gL l 108=Nk es/\∀c∈ce,gL es c=(uc c).map .int
 gj:∃es,gL l 111=Nk es/\∀c∈ce,(gL es c).isSome=di c
 da:∀c∈ce,∀g l,dm c=Nk (g,l)->l.length<4/\∀p∈l,p∈ce/\dm p=Nq
theorem zQ{O:aN}{m:Loc}{st:am}{l:Bl}{k:Nat}{es:List (Int×D)}(b:m.get 195=Nk (gM l))(a:gL l k=Nk es):ev tab O (.aj (.ab 195) (.str k)) m st=Nk (.ap (uE es),st):=ie (al b) j7 rfl (by simp only[gM,kQ,op,tK,a,Ok])
theorem rp{O:aN}{m:Loc}{st:am}{l:Bl}{k:Nat}{es:List (Int×D)}{e d:E}{c:Int}{v:D}(f:m.get 195=Nk (gM l))(b:gL l k=Nk es)(a:ev tab O e m st=Nk (.int c,st))(hd:ev tab O d m st=Nk (v,st)):ev tab O (.aH (.aj (.ab 195) (.str k)) e d) m st=Nk ((gL es c).getD v,st):=wJ (zQ f b) rfl a hd rfl (by simp only[vp,CL,rT])
noncomputable def iL(ac:Int->Int):Int->List Int->List Int×Bool|a,[]=>([a],Nl)|a,b::r=>if ac a>ac b/\ac b>0 then(b::(iL ac a r).1,Nm)else(a::(iL ac b r).1,(iL ac b r).2)
theorem zm{ac:Int->Int}{a:Int}:iL ac a []=([a],Nl):=rfl
theorem kO{ac:Int->Int}{a b:Int}{r:List Int}:iL ac a (b::r)=if ac a>ac b/\ac b>0 then(b::(iL ac a r).1,Nm)else(a::(iL ac b r).1,(iL ac b r).2):=rfl
noncomputable def yo(ac:Int->Int):List Int->List Int×Bool|[]=>([],Nl)|a::r=>iL ac a r
theorem G6{ac:Int->Int}:yo ac []=([],Nl):=rfl
theorem G5{ac:Int->Int}{a:Int}{r:List Int}:yo ac (a::r)=iL ac a r:=rfl
noncomputable def ru(ac:Int->Int):List Int->Nat|[]=>0|x::r=>r.countP (λy=>decide (ac x>ac y)&&decide (ac y>0))+ru ac r
theorem Cz{ac:Int->Int}:ru ac []=0:=rfl
theorem zG{ac:Int->Int}{x:Int}{r:List Int}:ru ac (x::r)=r.countP (λy=>decide (ac x>ac y)&&decide (ac y>0))+ru ac r:=rfl
theorem Cy(ac:Int->Int):∀l:List Int,ru ac l<=l.length*l.length
 |[]=>N4 _|x::r=>by
  have a:=Cy ac r;have b:=List.countP_le_length (p:=λy=>decide (ac x>ac y)&&decide (ac y>0)) (l:=r);have c:(r.length+1)*(r.length+1)=r.length*r.length+2*r.length+1:=by refine rG (Nat.add_mul _ _ _) (rG (Nat.mul_add _ _ _) ?_);lia
  simp only[Cz,zG,NU];lia
theorem j1(ac:Int->Int):∀(r:List Int)(a:Int),((iL ac a r).1).Perm (a::r)
 |[],a=>SD _|b::r,a=>by
  rw[kO];split
  ·exact(Rh b (j1 ac r a)).trans (PD.swap a b r)
  exact Rh a (j1 ac r b)
theorem oa(ac:Int->Int):∀(r:List Int)(a:Int),ru ac (iL ac a r).1<=ru ac (a::r)/\((iL ac a r).2=Nm->ru ac (iL ac a r).1<ru ac (a::r))
 |[],a=>⟨N4 _,λh=>by simp[zm,kO]at h⟩|b::r,a=>by
  rw[kO];split;rename_i h;have q:=(oa ac r a).1;have c:(decide (ac b>ac a)&&decide (ac a>0))=Nl:=by rw[Bool.and_eq_false_iff];left;exact decide_eq_false (by omega)
  have:ru ac (b::(iL ac a r).1)<ru ac (a::b::r):=by simp only[Cz,zG]at q⊢;refine rG ((j1 ac r a).countP_eq _:((iL ac a r).1).countP (λy=>decide (ac b>ac y)&&decide (ac y>0))=(a::r).countP (λy=>decide (ac b>ac y)&&decide (ac y>0))) (rG Vv (rG Vv (rG c (rG (by simp[h.1,h.2]:(decide (ac a>ac b)&&decide (ac b>0))=Nm) ?_))));simp only[OE,if_false,if_true];omega
  exact⟨OM this,λ_=>this⟩;have q:=oa ac r b;simp only;refine rG zG (rG ((j1 ac r b).countP_eq _) (rG (show ru ac (a::b::r)=(b::r).countP (λy=>decide (ac a>ac y)&&decide (ac y>0))+ru ac (b::r)from rfl) ?_));exact⟨by have:=q.1;omega,λd=>by have:=q.2 d;omega⟩
abbrev BS:=List Int×Bool
noncomputable def tB(ac:Int->Int)(s:BS):Option BS:=if s.2 then Nk (yo ac s.1)else Nq
noncomputable def yY(ac:Int->Int)(s:BS):Nat:=if s.2 then ru ac s.1+1 else 0
noncomputable def tA(ac:Int->Int)(f:List Int):List Int:=(nt (tB ac) (ru ac f+2) (f,Nm)).1
noncomputable def iS(k:Bool)(ac:Int->Int)(dm:Dm)(t:List Int):List Int:=tA ac (t.flatMap (jh k dm))
section
variable{n:Nat}{l:Bl}{ac:Int->Int}{dm:Dm}{cf:Cf}{lc uc:On}{di:Int->Bool}
noncomputable abbrev PB:Ss:=(.cons (.assign (.names [20,21]) (.tup (.cons (.aH (.aj (.ab 195) (.str 42)) (.aj (.ab 32) (.ab 82)) (.int 0)) (.cons (.aH (.aj (.ab 195) (.str 42)) (.aj (.ab 32) (.bin .add (.ab 82) (.int 1))) (.int 0)) .nil)))) (.cons (.ite (.bQ .gt .gt (.ab 20) (.ab 21) (.int 0)) (.cons (.assign (.slice (.ab 32) (.ab 82) (.bin .add (.ab 82) (.int 2))) (.ae Nl (.cons (.aj (.ab 32) (.bin .add (.ab 82) (.int 1))) (.cons (.aj (.ab 32) (.ab 82)) .nil)))) (.cons (.assign (.name 198) (.bool Nm)) .nil)) .nil) .nil))
noncomputable abbrev mA(l:Bl)(t:List Int)(k:Bool):Loc:=[(195,gM l),(40,il t),(26,.bool k),(32,.ag 0),(33,.ag 1)]
theorem yN(X:Bx l ac dm cf lc uc di){c:Int}(hc:c∈ce)(k:Bool):(jh k dm c).length<4/\∀p∈jh k dm c,p∈ce:=by unfold jh rI;cases e:dm c with|none=>exact⟨by simp,λp a=>by simp only[NC]at a;subst a;exact hc⟩|some p=>obtain⟨g,l⟩:=p;obtain⟨d,f⟩:=X.da c hc g l e;simp only;by_cases b:(g !=25&& !k)=Nm;refine rG (if_pos b) ?_;exact⟨by simp,λp a=>by simp only[NC]at a;subst a;exact hc⟩;refine rG (if_neg b) ?_;exact⟨d,λp a=>(f p a).1⟩
theorem sF(X:Bx l ac dm cf lc uc di){t:List Int}{k:Bool}:∀(rest a:List Int)(e:Int)(r:Loc)(b:Bool)(w:List D),(∀c∈a++e::rest,c∈ce)->(a++e::rest).length<900->Loc.get r 198=Nk (.bool b)->∃G,forLoop [82] Nm (exs tab (OP n) PB) (j3 a.length rest.length) (mA l t k++r) [.ae ((a++e::rest).map .int),.ae w]=Nk (.next,mA l t k++G,[.ae ((a++(iL ac e rest).1).map .int),.ae w])/\Loc.get G 198=Nk (.bool (b||(iL ac e rest).2))
 |[],a,e,r,b,w,L,P,S=>⟨r,rfl,by refine rG S ?_;simp[zm,kO]⟩|x::rest,a,e,r,b,w,L,P,S=>by
  refine hid λG9 k9=>?_;refine w12 (X.eT) λes V W=>?_;obtain⟨f,v⟩:∃f,f=a++e::x::rest:=⟨_,rfl⟩;obtain⟨i,z⟩:∃i,i=a.length:=⟨_,rfl⟩;have Q:(f.map D.int)[i]? =Nk (.int e):=by refine rG (Oc) (rG v (rG z ?_));simp
  have R:(f.map D.int)[i+1]? =Nk (.int x):=by refine rG (Oc) (rG v (rG z ?_));simp
  have a0:f.length<900:=by refine rG v ?_;exact P
  have a1:i+2<=f.length:=by refine rG v (rG z ?_);simp
  obtain⟨B,u⟩:∃y,y=((Loc.set r 82 (.int i)).set 20 (.int (ac e))).set 21 (.int (ac x)):=⟨_,rfl⟩;refine k9 ?_;let o:am:=[.ae (f.map .int),.ae w];have O:∀s,ev tab (OP n) (.ab 82) (mA l t k++Loc.set r 82 (.int i)) s=Nk (.int i,s):=λs=>al (gs5 (an _ _ _) rfl);have j:∀s,ev tab (OP n) (.ab 82) (mA l t k++B) s=Nk (.int i,s):=λs=>al (gs5 (by subst u;show Loc.get (Loc.set (Loc.set _ 20 _) 21 _) 82=_;refine rG (gI _ _ _ _ rfl) ?_;exact ig rfl) rfl);have E:∀s,ev tab (OP n) (.ab 20) (mA l t k++B) s=Nk (.int (ac e),s):=λs=>al (gs5 (by subst u;exact ig rfl) rfl);have F:∀s,ev tab (OP n) (.ab 21) (mA l t k++B) s=Nk (.int (ac x),s):=λs=>al (gs5 (by subst u;exact an _ _ _) rfl);have M:∀(m:Loc),m.get 32=Nk (.ag 0)->(∀s,ev tab (OP n) (.ab 82) m s=Nk (.int i,s))->ev tab (OP n) (.aj (.ab 32) (.ab 82)) m o=Nk (.int e,o):=λm C K=>ie (x:=.ag 0) (x':=il f) (al C) (K _) rfl (kR Q);have N:∀(m:Loc),m.get 32=Nk (.ag 0)->(∀s,ev tab (OP n) (.ab 82) m s=Nk (.int i,s))->ev tab (OP n) (.aj (.ab 32) (.bin .add (.ab 82) (.int 1))) m o=Nk (.int x,o):=λm C K=>ie (x:=.ag 0) (x':=il f) (y:=.int (i+1:Nat)) (al C) (kG (K _) ir rfl rfl rfl) rfl (kR R);have Y:ex tab (OP n) (.assign (.names [20,21]) (.tup (.cons (.aH (.aj (.ab 195) (.str 42)) (.aj (.ab 32) (.ab 82)) (.int 0)) (.cons (.aH (.aj (.ab 195) (.str 42)) (.aj (.ab 32) (.bin .add (.ab 82) (.int 1))) (.int 0)) .nil)))) (mA l t k++Loc.set r 82 (.int i)) o=Nk (.next,mA l t k++B,o):=by refine km (d:=.tup [.int (ac e),.int (ac x)]) (x:=.tup [.int (ac e),.int (ac x)]) (jz (ke (aa:=o) ?_ (ke (aa:=o) ?_ kZ)) (Nr rfl)) rfl (by refine rG u ?_;rfl);refine rL (W e (L _ (by simp))) ?_;exact rp rfl V (M _ rfl O) ir;refine rL (W x (L _ (by simp))) ?_;exact rp rfl V (N _ rfl O) ir
  refine rL v (rL z (rG NU (rG rC (rG (kT rfl) ?_))));by_cases g:ac e>ac x/\ac x>0
  ·obtain⟨U,J⟩:∃y,y=Loc.set B 198 (.bool Nm):=⟨_,rfl⟩;have H:exs tab (OP n) PB (mA l t k++Loc.set r 82 (.int i)) o=Nk (.next,mA l t k++U,[.ae ((a++x::e::rest).map .int),.ae w]):=by
    refine ad Y (jc (ah:=[.ae ((a++x::e::rest).map .int),.ae w]) (m₁:=mA l t k++U) (vy (E _) (F _) (by simp only[kq,kr,kt,ku];exact rG (decide_eq_true g.1) rfl) ir (by simp only[kq,kr,kt,ku];exact rG (decide_eq_true g.2) rfl)) rfl (ad (aa:=[.ae ((a++x::e::rest).map .int),.ae w]) (m₁:=mA l t k++B) (Jg (i:=0) (p:=i) (q:=(i+2:Nat)) (l:=f.map .int) (l':=[.int x,.int e]) (lM (ev2 (N _ rfl j) (M _ rfl j)) (Nr rfl)) (al rfl) (j _) (kG (j _) ir rfl rfl rfl) rfl (by lia) (by lia) (by simp only[Nu];lia) (by simp only[Nu];exact lW (by simp;lia)) ?_) (gR oB (by refine rG J ?_;rfl) (gl rfl))) (gl rfl));have Z:(f.map D.int).take ((i:Int)).toNat=a.map .int:=by refine rG (OK _) (rL R4 (rG v (rG z ?_)));simp
    have e4:(f.map D.int).drop (((i+2:Nat):Int)).toNat=rest.map .int:=by refine rG (OK _) (rL TF (rG v (rG z ?_)));simp[List.drop_append]
    refine rG Z (rG e4 ?_);simp[o]
   refine rG H ?_;obtain⟨G,A,T⟩:=sF X rest (a++[x]) e U Nm w (λc h=>L c (by simp only[NW,Nz,Ow,or_false]at h⊢;rcases h with(h|h)|h|h<;>simp[h])) (by simpa using P) (by exact rG J (rG (an _ _ _) rfl));refine i12 G ?_ ?_
   ·rw[show(a++[x]).length=i+1 by refine rG z ?_;simp]at A;refine rG kO (rG (if_pos g) ?_);simp only[OJ,RA]at A;exact A
   refine rG T (rG kO (rG (if_pos g) ?_));simp
  ·obtain⟨c,ec,I⟩:∃c,c=Nl/\ev tab (OP n) (.bQ .gt .gt (.ab 20) (.ab 21) (.int 0)) (mA l t k++B) o=Nk (.bool c,o):=by by_cases C:ac e>ac x;exact i12 Nl rfl (vy (E _) (F _) (by simp only[kq,kr,kt,ku];exact rG (decide_eq_true C) rfl) ir (by simp only[kq,kr,kt,ku];exact rG (decide_eq_false (λK=>g ⟨C,K⟩)) rfl));exact i12 Nl rfl (vz (E _) (F _) (by simp only[kq,kr,kt,ku];exact rG (decide_eq_false C) rfl))
   refine rG (ad Y (jl I ec (gl rfl))) ?_;obtain⟨G,A,T⟩:=sF X rest (a++[e]) x B b w (λc h=>L c (by simpa using h)) (by simpa using P) (by exact rG u (rG (gI _ _ _ _ rfl) (rG (gI _ _ _ _ rfl) (rG (gI _ _ _ _ rfl) (rG S rfl)))));refine i12 G ?_ ?_
   ·rw[show(a++[e]).length=i+1 by refine rG z ?_;simp]at A;refine rG kO (rG (if_neg g) ?_);simp only[OJ,RA]at A;rw[<-v]at A;exact A
   exact rG T (rG kO (rG (if_neg g) rfl))
end
section
variable{n:Nat}{l:Bl}{ac:Int->Int}{dm:Dm}{cf:Cf}{lc uc:On}{di:Int->Bool}
noncomputable abbrev WB:Ss:=(.cons (.assign (.name 6) (.pop (.ab 33))) (.cons (.assign (.name 30) (.aH (.aj (.ab 195) (.str 29)) (.ab 6) .none)) (.cons (.ite (.and (.cons (.bq Nm (.ab 30)) (.cons (.or (.cons (.ab 26) (.cons (.cmp .eq (.aj (.ab 30) (.int 0)) (.str 25)) .nil))) .nil))) (.cons (.expr (.extend (.ab 33) (.rev Nl (.list Nl (.aj (.ab 30) (.int 1)))))) .nil) (.cons (.expr (.append (.ab 32) (.ab 6))) .nil)) .nil)))
noncomputable abbrev WT:E:=(.cmp .ne (.ab 33) (.ae Nl .nil))
theorem wr(w:List Int):∀d∈w.map D.int,AK d=Nm:=λd a=>by obtain⟨x,_,rfl⟩:=Nx.mp a;rfl
theorem vO(X:Bx l ac dm cf lc uc di){t:List Int}{k:Bool}{c:Int}(hc:c∈ce){f w:List Int}{r:Loc}(hf:f.length<900)(N:w.length<900):∃M,exs tab (OP n) WB (mA l t k++r) [.ae (f.map .int),.ae ((w++[c]).map .int)]=Nk (.next,mA l t k++M,match rI k (dm c)with|none=>[.ae ((f++[c]).map .int),.ae (w.map .int)]|some p=>[.ae (f.map .int),.ae ((w++p.reverse).map .int)]):=by
 refine w12 (X.gi) λK I J=>?_;let u:am:=[.ae (f.map .int),.ae (w.map .int)];obtain⟨v,C⟩:∃v:D,v=(gL K c).getD .none:=⟨_,rfl⟩;obtain⟨A,B⟩:∃y,y=(Loc.set r 6 (.int c)).set 30 v:=⟨_,rfl⟩;have z:∀s,ev tab (OP n) (.ab 30) (mA l t k++A) s=Nk (v,s):=λs=>al (gs5 (by subst B;exact an _ _ _) rfl);have G:ex tab (OP n) (.assign (.name 6) (.pop (.ab 33))) (mA l t k++r) [.ae (f.map .int),.ae ((w++[c]).map .int)]=Nk (.next,mA l t k++Loc.set r 6 (.int c),u):=iD (va (i:=1) (w:=w.map .int) (d:=.int c) rfl (by simp)) rfl;have H:ex tab (OP n) (.assign (.name 30) (.aH (.aj (.ab 195) (.str 29)) (.ab 6) .none)) (mA l t k++Loc.set r 6 (.int c)) u=Nk (.next,mA l t k++A,u):=by refine iD (d:=v) ?_ (by refine rG B ?_;rfl);refine rG C ?_;exact rp rfl I (al (gs5 (an _ _ _) rfl)) gY
 have E:exs tab (OP n) (.cons (.expr (.append (.ab 32) (.ab 6))) .nil) (mA l t k++A) u=Nk (.next,mA l t k++A,[.ae ((f++[c]).map .int),.ae (w.map .int)]):=by have q:=iH (O:=OP n) (m:=mA l t k++A) (st:=u) (o:=.ab 32) (a:=.ab 6) (i:=0) (x:=.int c) (al rfl) rfl ((λs=>al (gs5 (by subst B;exact ig rfl) rfl)) _) (by simp only[Nu];lia);rw[kP]at q;exact ad q (gl rfl)
 rw[J c hc]at C;refine⟨A,?_⟩;cases e:dm c with
 |none=>rw[e]at C;subst C;exact ad G (ad H (l5 (c:=(Nm !=Nm)) (mx (lY (b:=(Nm !=Nm)) (kn (b:=Nm) (z _) rfl) rfl)) rfl E (gl rfl)))|some p=>
 obtain⟨g,p⟩:=p;rw[e]at C;have F:v=.tup [.str g,it p]:=C;subst F;have j:ev tab (OP n) (.and (.cons (.bq Nm (.ab 30)) (.cons (.or (.cons (.ab 26) (.cons (.cmp .eq (.aj (.ab 30) (.int 0)) (.str 25)) .nil))) .nil))) (mA l t k++A) u=Nk (.bool (!(g !=25&& !k)),u):=by refine rG (mx (w5 (b:=(Nm !=Nl)) (kn (b:=Nl) (z u) rfl) rfl (oV (Du (Dw (O:=OP n) (m:=mA l t k++A) (st:=u) (e:=.ab 26) (b:=k) (al rfl) λ_=>Dw (iA (x:=.str g) (x':=.str g) (ie (x:=.tup [.str g,it p]) (x':=.tup [.str g,it p]) (z _) ir rfl rfl) j7 rfl rfl AS) λ_=>mz)) λ_=>mz))) ?_;induction k using Nw<;>cases h:(g==25)<;>simp[bne,h]
 simp only[rI];cases hb:(g !=25&& !k)with|true=>rw[hb]at j;exact ad G (ad H (l5 j rfl E (gl rfl)))|false=>rw[hb]at j;have L:p.length<4:=(X.da c hc g p e).1;have q:=pY (O:=OP n) (m:=mA l t k++A) (st:=u) (o:=.ab 33) (a:=.rev Nl (.list Nl (.aj (.ab 30) (.int 1)))) (i:=1) (l:=w.map .int) (x:=.ae (p.map .int).reverse) (l':=(p.map .int).reverse) (al rfl) rfl (IP (x:=il p) (x':=il p) (d:=.ae (p.map .int).reverse) (jQ (x:=it p) (x':=it p) (ie (x:=.tup [.str g,it p]) (x':=.tup [.str g,it p]) (z _) ir rfl rfl) rfl rfl) rfl rfl rfl) rfl (by simp;lia);rw[(by simp:w.map D.int++(p.map D.int).reverse=(w++p.reverse).map .int)]at q;exact ad G (ad H (jc j rfl (ad q (gl rfl)) (gl rfl)))
theorem Bf(X:Bx l ac dm cf lc uc di){t:List Int}{k:Bool}{c:Int}(hc:c∈ce){f w:List Int}{r:Loc}{m':Nat}(hf:f.length<900)(d:w.length<900)(b:rI k (dm c)=Nq):∃a,gX (ev tab (OP n) WT) (exs tab (OP n) WB) (m'+1) (mA l t k++r) [.ae (f.map .int),.ae ((w++[c]).map .int)]=gX (ev tab (OP n) WT) (exs tab (OP n) WB) m' (mA l t k++a) [.ae ((f++[c]).map .int),.ae (w.map .int)]:=by obtain⟨a,q⟩:=vO (n:=n) X (t:=t) (k:=k) hc (f:=f) (w:=w) (r:=r) hf d;rw[b]at q;refine⟨a,ky ?_ (.inl q) rfl⟩;refine rG (kY (w:=(w++[c]).map .int) (i:=1) rfl rfl (wr _)) ?_;simp
theorem rZ(X:Bx l ac dm cf lc uc di){t:List Int}{k:Bool}{w:List Int}(g:w.length<800){m':Nat}:∀{p f:List Int}{r:Loc},(∀c∈p,c∈ce/\rI k (dm c)=Nq)->f.length+p.length<800/\p.length<10->∃m,gX (ev tab (OP n) WT) (exs tab (OP n) WB) (p.length+m') (mA l t k++r) [.ae (f.map .int),.ae ((w++p.reverse).map .int)]=gX (ev tab (OP n) WT) (exs tab (OP n) WB) m' (mA l t k++m) [.ae ((f++p).map .int),.ae (w.map .int)]|[],f,r,_,_=>⟨r,by simp⟩|c::p,f,r,h,hl=>by rw[NU]at hl;obtain⟨a,b⟩:=h c (.head _);obtain⟨o,i⟩:=Bf (n:=n) (m':=p.length+m') X (t:=t) (k:=k) a (f:=f) (w:=w++p.reverse) (r:=r) (by lia) (by simp;lia) b;obtain⟨q,j⟩:=rZ X g (m':=m') (p:=p) (f:=f++[c]) (r:=o) (λd e=>h d (.tail _ e)) (by simp;lia);refine⟨q,?_⟩;refine rG (show(c::p).length+m'=p.length+m'+1 by rw[NU];lia) (rG (show w++(c::p).reverse=(w++p.reverse)++[c]by simp) (rG i (rG j ?_)));simp
theorem Bg(X:Bx l ac dm cf lc uc di){t:List Int}{k:Bool}{c:Int}(hc:c∈ce){f w:List Int}{r:Loc}(hf:f.length<700)(z:w.length<700):∃s,s<=5/\∀m',∃v,gX (ev tab (OP n) WT) (exs tab (OP n) WB) (s+m') (mA l t k++r) [.ae (f.map .int),.ae ((w++[c]).map .int)]=gX (ev tab (OP n) WT) (exs tab (OP n) WB) m' (mA l t k++v) [.ae ((f++jh k dm c).map .int),.ae (w.map .int)]:=by
 cases e:rI k (dm c)with
 |none=>refine i12 1 (by lia) (λm'=>?_);refine rG (by simp only[jh,e]:jh k dm c=[c]) (rG (SB 1 m') ?_);exact Bf X hc (by lia) (by lia) e|some p=>
 have m:p.length<4/\∀d∈p,d∈ce/\rI k (dm d)=Nq:=by unfold rI at e;split at e;exact nS e;rename_i g A h;split at e;exact nS e;(refine sI e λo=>?_;subst o);obtain⟨j,a⟩:=X.da c hc g _ h;exact⟨j,λd b=>⟨(a d b).1,wk k (a d b).2⟩⟩
 refine i12 (p.length+1) (by lia) (λm'=>?_);obtain⟨x,q⟩:=vO (n:=n) X (t:=t) (k:=k) hc (f:=f) (w:=w) (r:=r) (by lia) (by lia);rw[e]at q;obtain⟨y,u⟩:=rZ (n:=n) X (t:=t) (k:=k) (w:=w) (by lia) (m':=m') (p:=p) (f:=f) (r:=x) m.2 (by lia);refine⟨y,?_⟩;refine rG (by simp only[jh,e]:jh k dm c=p) (rG (show p.length+1+m'=p.length+m'+1 by lia) ?_);refine ky ?_ (.inl q) u;refine rG (kY (w:=(w++[c]).map .int) (i:=1) rfl rfl (wr _)) ?_;simp
theorem y7(X:Bx l ac dm cf lc uc di){t:List Int}{k:Bool}:∀{u f:List Int}{r:Loc}{fu:Nat},(∀c∈u,c∈ce)->5*u.length<fu->f.length+4*u.length<600->∃h,gX (ev tab (OP n) WT) (exs tab (OP n) WB) fu (mA l t k++r) [.ae (f.map .int),.ae (u.reverse.map .int)]=Nk (.next,mA l t k++h,[.ae ((f++u.flatMap (jh k dm)).map .int),.ae []])
 |[],f,r,fu,_,a,_=>by refine⟨r,?_⟩;obtain⟨fu,rfl⟩:∃x,fu=x+1:=⟨fu-1,by lia⟩;refine rG (mn (kY (w:=[]) (i:=1) rfl rfl (by simp))) ?_;simp
 |c::u,f,r,fu,hc,a,hl=>by rw[NU]at a hl;refine w12 (Bg (n:=n) X (t:=t) (k:=k) (hc c (.head _)) (f:=f) (w:=u.reverse) (r:=r) (by lia) (by simp;lia)) λs o q=>?_;obtain⟨j,b⟩:=q (fu-s);have p:=(yN X (hc c (.head _)) k).1;obtain⟨m,g⟩:=y7 X (t:=t) (k:=k) (u:=u) (f:=f++jh k dm c) (r:=j) (fu:=fu-s) (λd e=>hc d (.tail _ e)) (by lia) (by simp;lia);refine⟨m,?_⟩;rw[show s+(fu-s)=fu by lia]at b;refine rG OU (rG b (rG g ?_));simp
theorem y3(X:Bx l ac dm cf lc uc di){t:List Int}{k:Bool}(ht:∀c∈t,c∈ce)(hl:t.length<100)(hl2:(t.flatMap (jh k dm)).length<30):(OP (n+1)).F 199 [gM l,il t,.bool k]=Nk (il (iS k ac dm t),Nm):=by
 obtain⟨r1,q1⟩:=y7 (n:=n) X (t:=t) (k:=k) (u:=t) (f:=[]) (r:=[]) (fu:=1000) ht (by lia) (by simp;lia);obtain⟨f,ef⟩:∃f,f=t.flatMap (jh k dm):=⟨_,rfl⟩;have hfc:∀c∈f,c∈ce:=λc hc=>by rw[ef,OG]at hc;refine w12 hc λd h1 h2=>?_;exact(yN X (ht d h1) k).2 c h2
 rw[NO,<-ef]at q1;have hfl:f.length<30:=by rw[ef];exact hl2
 have hinv:=Cy ac f;have hinv2:f.length*f.length<=29*29:=Nat.mul_le_mul (by lia) (by lia);let r2:=Loc.set r1 198 (.bool Nm);have W:=rY (test:=ev tab (OP n) (.ab 198)) (body:=exs tab (OP n) (.cons (.assign (.name 198) (.bool Nl)) (.cons (.bu [82] Nm .aL (.bin .sub (.len (.ab 32)) (.int 1)) .none PB) .nil))) (λ(s:BS)m st=>st=[.ae (s.1.map .int),.ae []]/\(∃r,m=mA l t k++r/\Loc.get r 198=Nk (.bool s.2))/\(∀c∈s.1,c∈ce)/\s.1.length=f.length) (yY ac) (tB ac) ?_ 1000 (ru ac f+2) (f,Nm) (mA l t k++r2) [.ae (f.map .int),.ae []] (by simp only[yY,if_true];lia) (by simp only[yY,if_true];lia) ⟨rfl,⟨r2,rfl,an _ _ _⟩,hfc,rfl⟩;refine w22 W λm' st' q2 L=>?_;refine w04 L λe1 z1 _ _=>?_;obtain⟨r3,rfl,_⟩:=z1;have e2:iS k ac dm t=(nt (tB ac) (ru ac f+2) (f,Nm)).1:=by rw[ef];rfl
 rw[<-e2]at e1;subst e1;refine lP (fn:=nP) (m:=[(195,gM l),(40,il t),(26,.bool k)]) (fl:=.ret (.ag 0)) (m':=mA l t k++r3) (st:=[.ae ((iS k ac dm t).map .int),.ae []]) rfl rfl ?_ rfl (gP rfl);delta nP;dsimp only;refine ad (m₁:=mA l t k++[]) (aa:=[.ae [],.ae (t.reverse.map .int)]) (km (d:=.tup [.ag 0,.ag 1]) (x:=.tup [.ag 0,.ag 1]) (jz (ke (aa:=[.ae []]) (i5 kZ (NX _) rfl) (ev1 (IP (x:=il t) (x':=il t) (d:=.ae (t.map .int).reverse) (al rfl) rfl rfl (by rw[Qs];rfl)))) (Nr rfl)) rfl rfl) (ad (mD q1) (gR oB rfl (ad (mD q2) (gN (al rfl) rfl))));rintro⟨g,b⟩ m st ⟨rfl,⟨r,rfl,hr⟩,hgc,hgl⟩;simp only at hgl;have test:ev tab (OP n) (.ab 198) (mA l t k++r) [.ae (g.map .int),.ae []]=Nk (.bool b,[.ae (g.map .int),.ae []]):=al (gs5 hr rfl);induction b using Nw with
 |false=>exact .inl ⟨rfl,test⟩|true=>
 right;have hlen:∀(r:Loc)(z:Int),z=(g.length:Int)-1->ev tab (OP n) (.bin .sub (.len (.ab 32)) (.int 1)) (mA l t k++r) [.ae (g.map .int),.ae []]=Nk (.int z,[.ae (g.map .int),.ae []]):=λr z hz=>by rw[hz];exact kG (x:=.int g.length) (x':=.int g.length) (vw (x:=.ag 0) (x':=il g) (al rfl) rfl yu) ir rfl rfl rfl
 obtain⟨r4,er4⟩:∃y,y=Loc.set r 198 (.bool Nl):=⟨_,rfl⟩;have hr4:Loc.get r4 198=Nk (.bool Nl):=by rw[er4,an]
 have s1:∀s,ex tab (OP n) (.assign (.name 198) (.bool Nl)) (mA l t k++r) s=Nk (.next,mA l t k++r4,s):=λs=>iD oB (by rw[er4];rfl);induction g using NA with
 |nil=>refine i38 ([],Nl) (mA l t k++r4) ([.ae [],.ae []]) rfl (by simp[yY]) test (.inl ?_) rfl ⟨r4,rfl,hr4⟩ hgc hgl;exact ad (s1 _) (ad (kX (x:=.int (-1)) (y:=.none) (l:=[]) (hlen r4 (-1) rfl) gY rfl rfl) (gl rfl))|cons a g=>
 refine w12 (sF (n:=n) X (t:=t) (k:=k) g [] a r4 Nl [] hgc (by show(a::g).length<900;lia) hr4) λr5 q5 g5=>?_;have hp:=j1 ac g a;refine i38 (yo ac (a::g)) (mA l t k++r5) ([.ae ((yo ac (a::g)).1.map .int),.ae []]) rfl ?_ test (.inl ?_) rfl ⟨r5,rfl,by rw[g5];rfl⟩ (λc hc=>hgc c (hp.mem_iff.mp hc)) ?_;show(if(iL ac a g).2=Nm then ru ac (iL ac a g).1+1 else 0)<ru ac (a::g)+1;cases hm:(iL ac a g).2 with|true=>have:=(oa ac g a).2 hm;rw[if_pos rfl];lia|false=>rw[if_neg (by simp)];lia
 refine ad (s1 _) (ad (kX (x:=.int g.length) (y:=.none) (l:=j3 0 g.length) (hlen r4 g.length (by simp)) gY ?_ q5) (gl rfl));rw[NU]at hgl;simp only[i9,i8,i7,i6,OK,show ry (g.length:Int)=Nm from oO (by lia) (by lia),F4 (show g.length<1000 by lia),Ox,if_true];rw[<-hgl];exact hp.length_eq
end
noncomputable def jg(ac:Int->Int)(t:List Int):Nat->Option Nat|0=>Nq|a+1=>if ac ((t[a]?).getD 0)=0 then Nk a else jg ac t a
theorem vu{ac:Int->Int}{t:List Int}:jg ac t 0=Nq:=rfl
theorem lu{ac:Int->Int}{t:List Int}{a:Nat}:jg ac t (a+1)=if ac ((t[a]?).getD 0)=0 then Nk a else jg ac t a:=rfl
abbrev DmR:=List t0
noncomputable abbrev vM(R:DmR):List (Int×D):=R.map λr=>(r.1,.tup [.str r.2.1,it r.2.2])
noncomputable def jy(R:DmR)(x y:Int):Option Int:=(R.find? λr=>r.2.1==25&&decide (r.2.2=[x,y])).map (·.1)
noncomputable def btw(ac:Int->Int)(t:List Int)(a b:Nat):List Int:=((t.take b).drop (a+1)).map ac
noncomputable def wh:List Int->Int|[]=>0|a::r=>vf a r
noncomputable def mI(ac:Int->Int)(R:DmR)(t:List Int)(b:Nat):Option (Nat×Int):=match jg ac t b with|none=>Nq|some a=>if btw ac t a b≠[]/\(ac ((t[b]?).getD 0)=0\/wh (btw ac t a b)>=ac ((t[b]?).getD 0))then Nq else(jy R ((t[a]?).getD 0) ((t[b]?).getD 0)).map λc=>(a,c)
noncomputable abbrev Ay:Option (Nat×Int)->D|none=>.none|some (a,c)=>.tup [.int a,.int c]
theorem pv{ac:Int->Int}{t:List Int}:∀{n a:Nat},jg ac t n=Nk a->a<n|0,_,h=>by simp[vu,lu]at h|n+1,a,h=>by simp only[vu,lu]at h;split at h;(refine sI h λb=>?_;subst b);lia;have:=pv h;lia
section
variable{n:Nat}{l:Bl}{ac:Int->Int}{dm:Dm}{cf:Cf}{lc uc:On}{di:Int->Bool}
theorem Mc(g:Nat)(p:List Int)(x y:Int):pB .eq (.tup [.str g,it p]) (.tup [.str 25,.tup [.int x,.int y]])=Nk (g==25&&decide (p=[x,y])):=by
 have a:tR 64 (.tup [.str g,it p])=Nm:=by show(Nm&&(shalL 62 (p.map .int)&&Nm))=Nm;refine rG (jn _ _) ?_;rfl
 refine(uL a rfl).trans (congrArg Nk ?_);refine rG rN (rG yP (rG rN ?_));refine rG (yO.trans (oh p [x,y])) (rG (yQ _) ?_);simp
theorem Ey(X:Bx l ac dm cf lc uc di){R:DmR}(hR:gL l 29=Nk (vM R))(hk:kh (vM R)=Nm){t:List Int}(ht:∀c∈t,c∈ce)(hl:t.length<900){f:Nat}(hp:f<t.length):(OP (n+1)).F 202 [gM l,il t,.int f]=Nk (Ay (mI ac R t f),Nl):=by
 refine w12 (X.eT) λes e1 e2=>?_;let m0:Loc:=[(195,gM l),(40,il t),(200,.int f)];have G:∀j,j<t.length->pU (il t) (.int j)=Nk (.int ((t[j]?).getD 0)):=λj P=>kR (by rw[Oc,NQ P];rfl);have I:∀(m:Loc)(s:am)(e:E)(j:Nat),j<t.length->m.get 195=Nk (gM l)->m.get 40=Nk (il t)->ev tab (OP n) e m s=Nk (.int j,s)->ev tab (OP n) (.aH (.aj (.ab 195) (.str 42)) (.aj (.ab 40) e) (.int 0)) m s=Nk (.int (ac ((t[j]?).getD 0)),s):=λm s e j P h1 h2 he=>by rw[<-e2 _ ((λj P=>ht _ (by rw[NQ P];exact PA _)) j P)];exact rp h1 e1 (ie (x:=il t) (x':=il t) (al h2) he rfl (G j P)) ir
 obtain⟨w,ew⟩:∃w,w=ac ((t[f]?).getD 0):=⟨_,rfl⟩;let N (z:Int):Loc:=[(195,gM l),(40,il t),(200,.int f),(41,.int w),(82,.int z)];have s1:ex tab (OP n) (.assign (.names [41,82]) (.tup (.cons (.aH (.aj (.ab 195) (.str 42)) (.aj (.ab 40) (.ab 200)) (.int 0)) (.cons (.bin .sub (.ab 200) (.int 1)) .nil)))) m0 []=Nk (.next,N (f-1),[]):=by refine km (d:=.tup [.int w,.int (f-1)]) (x:=.tup [.int w,.int (f-1)]) (jz (ke (aa:=[]) ?_ (ev1 (kG (x:=.int f) (x':=.int f) (al rfl) ir rfl rfl rfl))) (Nr rfl)) rfl rfl;rw[ew];exact I _ _ _ f hp rfl rfl (al rfl)
 have a0:∀(a fu:Nat),a<=t.length->a<fu->gX (ev tab (OP n) (.and (.cons (.cmp .ge (.ab 82) (.int 0)) (.cons (.cmp .ne (.aH (.aj (.ab 195) (.str 42)) (.aj (.ab 40) (.ab 82)) (.int 0)) (.int 0)) .nil)))) (exs tab (OP n) (.cons (.assign (.name 82) (.bin .sub (.ab 82) (.int 1))) .nil)) fu (N ((a:Int)-1)) []=Nk (.next,N (match jg ac t a with|some i=>(i:Int)|none=> -1),[]):=λa=>by
  induction a with
  |zero=>intro fu _ a8;obtain⟨fu,rfl⟩:∃x,fu=x+1:=⟨fu-1,by lia⟩;exact mn (mx (lY (b:=Nl) (iA (x:=.int (-1)) (x':=.int (-1)) (al rfl) ir rfl rfl rfl) rfl))
  |succ a Y=>intro fu ha a8;obtain⟨fu,rfl⟩:∃x,fu=x+1:=⟨fu-1,by lia⟩;rw[(by lia:((a+1:Nat):Int)-1=a)];have k:=mx (oV (iA (x:=.int a) (x':=.int a) (al rfl) ir rfl rfl (by simp only[kq,kr,kt,ku];rw[decide_eq_true (by lia)]):ev tab (OP n) (.cmp .ge (.ab 82) (.int 0)) (N a) []=Nk (.bool Nm,[])) λ_=>oV (iA (I _ _ _ a (by lia) rfl rfl (al rfl)) ir rfl rfl rfl:ev tab (OP n) (.cmp .ne (.aH (.aj (.ab 195) (.str 42)) (.aj (.ab 40) (.ab 82)) (.int 0)) (.int 0)) (N a) []=Nk (.bool (ac ((t[a]?).getD 0) !=0),[])) λ_=>(mz:evB tab (OP n) Nm .nil _ []=_));simp only[vu,lu];by_cases W:ac ((t[a]?).getD 0)=0;rw[if_pos W];refine mn ?_;rw[k];simp[W];rw[if_neg W];refine ky ?_ (.inl (ad (iD (d:=.int ((a:Int)-1)) (kG (x:=.int a) (x':=.int a) (al rfl) ir rfl rfl rfl) rfl) (gl rfl))) (Y fu (by lia) (by lia));rw[k];simp[W]
 have L:=a0 f 1000 (by lia) (by lia);obtain⟨z,H⟩:∃z:Int,z=(match jg ac t f with|some i=>(i:Int)|none=> -1):=⟨_,rfl⟩;rw[<-H]at L;have W: -1<=z/\z<f:=by rw[H];cases e:jg ac t f with|none=>simp only;lia|some i=>have:=pv e;simp only;lia
 obtain⟨u,a5⟩:∃u:Nat,z+1=u:=⟨(z+1).toNat,by lia⟩;obtain⟨B,eB⟩:∃B,B=((t.take f).drop u).map ac:=⟨_,rfl⟩;let o:Loc:=[(195,gM l),(40,il t),(200,.int f),(41,.int w),(82,.int z),(201,il B)];have s2:ex tab (OP n) (.assign (.name 201) (.comp Nl (.aH (.aj (.ab 195) (.str 42)) (.ab 6) (.int 0)) [6] [195] Nm .plain (.slice Nl (.ab 40) (.bin .add (.ab 82) (.int 1)) (.ab 200)) .none Nl .none)) (N z) []=Nk (.next,o,[]):=by
  have a9:sw (il t) (.ofNat u) (.ofNat f)=Nk (il ((t.take f).drop u)):=by refine(nh ⟨Qc u,Qc f,rM (by lia),rM (by lia)⟩:sw (il t) (.ofNat u) (.ofNat f)=_).trans ?_;show Nk (D.ae (((t.map D.int).take f).drop u))=_;simp[R4,TF]
  refine iD (d:=il B) (lv (x:=il ((t.take f).drop u)) (y:=.none) (l:=((t.take f).drop u).map .int) (aa:=[]) (IO (x:=il t) (x':=il t) (i:=.ofNat u) (j:=.ofNat f) (al rfl) (kG (x:=.int z) (x':=.int z) (al rfl) ir rfl rfl (by show Nk (D.int (z+1))=Nk (.int (u:Int));rw[a5])) (al rfl) rfl a9 rfl) gY rfl (by rw[Nu];exact lW (by simp;lia)) ?_) rfl;have M:=ja (step:=compTurn (OP n) (.aH (.aj (.ab 195) (.str 42)) (.ab 6) (.int 0)) [6] [195] Nm Nl .none (N z)) (st:=[]) (l:=((t.take f).drop u).map .int) (λd=>match d with|.int c=>Nk (.int (ac c))|_=>Nq) (λd hd=>by refine w12 (Nx.mp hd) λc hc z1=>?_;subst z1;refine FH (m':=[(195,gM l),(6,.int c)]) rfl ?_;rw[<-e2 c ((λc hc=>ht c (List.mem_of_mem_take (List.mem_of_mem_drop hc))) c hc)];exact rp rfl e1 (al rfl) ir);have a6:∀x:List Int,(x.map D.int).filterMap (λd=>match d with|D.int c=>Nk (D.int (ac c))|_=>Nq)=(x.map ac).map D.int:=λx=>by induction x with|nil=>rfl|cons a r Y=>simp only[Ny,Oy,Y]
  refine M.trans ?_;rw[a6,<-eB]
 suffices ∃m',exs tab (OP n) oP.body m0 []=Nk (.ret (Ay (mI ac R t f)),m',[])by obtain⟨m',q⟩:=this;refine lP rfl rfl q rfl (iJ ?_);cases mI ac R t f with|none=>rfl|some p=>rfl
 delta oP;dsimp only;have t1:ev tab (OP n) (.cmp .lt (.ab 82) (.int 0)) o []=Nk (.bool (decide (z<0)),[]):=iA (x:=.int z) (x':=.int z) (al rfl) ir rfl rfl rfl;cases e:jg ac t f with
 |none=>rw[e]at H;rw[(by simp only[mI,e]:mI ac R t f=Nq)];exact⟨o,ad s1 (ad (mD L) (ad s2 (j8 (Du (lY t1 (by rw[H];rfl))) (by rw[H];rfl) (gN gY rfl))))⟩|some a=>
 rw[e]at H;simp only at H;have ha:=pv e;have a4:B=btw ac t a f:=by rw[eB,(by lia:u=a+1)];rfl
 have a3:ev tab (OP n) (.cmp .lt (.ab 82) (.int 0)) o []=Nk (.bool Nl,[]):=by rw[t1];simp;lia
 have t2:ev tab (OP n) (.cmp .ne (.ab 201) (.ae Nl .nil)) o []=Nk (.bool (!decide (B=[])),[]):=iA (x:=il B) (x':=il B) (y:=il []) (y':=il []) (al rfl) (lM kZ (NX _)) (cr (ch _)) rfl (mM B []);obtain⟨b,eb,C⟩:∃b:Bool,(b=Nm↔(btw ac t a f≠[]/\(w=0\/wh (btw ac t a f)>=w)))/\ev tab (OP n) (.or (.cons (.cmp .lt (.ab 82) (.int 0)) (.cons (.and (.cons (.cmp .ne (.ab 201) (.ae Nl .nil)) (.cons (.or (.cons (.cmp .eq (.ab 41) (.int 0)) (.cons (.cmp .ge (.cM (.ab 201)) (.ab 41)) .nil))) .nil))) .nil))) o []=Nk (.bool b,[]):=by
  rw[<-a4];cases hB:B with
  |nil=>rw[hB]at t2;exact⟨Nl,by simp,Du (w5 a3 rfl (w5 (b:=Nl) (mx (lY t2 rfl)) rfl mz))⟩|cons J K=>
  have b1:ev tab (OP n) (.cmp .ne (.ab 201) (.ae Nl .nil)) o []=Nk (.bool Nm,[]):=by rw[t2,hB];simp
  have o1:=Du (Dw (iA (x:=.int w) (x':=.int w) (al rfl) ir rfl rfl rfl:ev tab (OP n) (.cmp .eq (.ab 41) (.int 0)) o []=Nk (.bool (w==0),[])) λ_=>Dw ((λJ K hb=>iA (x:=.int (vf J K)) (x':=.int (vf J K)) (y:=.int w) (y':=.int w) (KO (x:=il B) (l:=B.map .int) (al rfl) rfl (by rw[hb];exact oe _)) (al rfl) rfl rfl rfl:∀J K,B=J::K->ev tab (OP n) (.cmp .ge (.cM (.ab 201)) (.ab 41)) o []=Nk (.bool (decide (w<=vf J K)),[])) J K hB) λ_=>(mz:evB tab (OP n) Nl .nil _ []=_));have u:=mx (w5 b1 rfl (oV o1 λ_=>(mz:evB tab (OP n) Nm .nil _ []=_)));refine⟨_,?_,Du (w5 a3 rfl (Dw u λ_=>mz))⟩;simp[wh]
 obtain⟨v,U⟩:∃v,v=(t[f]?).getD 0:=⟨_,rfl⟩;obtain⟨A,V⟩:∃A,A=(t[a]?).getD 0:=⟨_,rfl⟩;have ep:mI ac R t f=if btw ac t a f≠[]/\(w=0\/wh (btw ac t a f)>=w)then Nq else(jy R A v).map λc=>(a,c):=by simp only[mI,e,ew,U,V]
 rw[ep];induction b using Nw with
 |true=>rw[if_pos (eb.mp rfl)];exact⟨o,ad s1 (ad (mD L) (ad s2 (j8 C rfl (gN gY rfl))))⟩|false=>
 rw[if_neg (λh=>by have:=eb.mpr h;exact fT this)];have a2:∀(Q:DmR)(r:Loc),(∀q∈Q,gL (vM R) q.1=Nk (.tup [.str q.2.1,it q.2.2]))->∃O,forLoop [6] Nm (exs tab (OP n) (.cons (.ite (.cmp .eq (.aj (.aj (.ab 195) (.str 29)) (.ab 6)) (.tup (.cons (.str 25) (.cons (.tup (.cons (.aj (.ab 40) (.ab 82)) (.cons (.aj (.ab 40) (.ab 200)) .nil))) .nil)))) (.cons (.ret (.tup (.cons (.ab 82) (.cons (.ab 6) .nil)))) .nil) .nil) .nil)) (Q.map λq=>.int q.1) (o++r) []=Nk (match jy Q A v with|some c=>.ret (.tup [.int a,.int c])|none=>.next,o++O,[]):=λQ=>by
  induction Q with
  |nil=>intro r _;exact⟨r,rfl⟩|cons q Q Y=>
  intro r hQ;obtain⟨c,g,p⟩:=q;obtain⟨S,T⟩:∃y,y=Loc.set r 6 (.int c):=⟨_,rfl⟩;have l6:ev tab (OP n) (.ab 6) (o++S) []=Nk (.int c,[]):=al (gs6 (by subst T;exact an _ _ _) rfl);have Z:ev tab (OP n) (.ab 82) (o++S) []=Nk (.int a,[]):=by rw[<-H];exact al rfl
  have k:ev tab (OP n) (.cmp .eq (.aj (.aj (.ab 195) (.str 29)) (.ab 6)) (.tup (.cons (.str 25) (.cons (.tup (.cons (.aj (.ab 40) (.ab 82)) (.cons (.aj (.ab 40) (.ab 200)) .nil))) .nil)))) (o++S) []=Nk (.bool (g==25&&decide (p=[A,v])),[]):=by refine iA (x:=.tup [.str g,it p]) (x':=.tup [.str g,it p]) (y:=.tup [.str 25,.tup [.int A,.int v]]) (y':=.tup [.str 25,.tup [.int A,.int v]]) (aa:=[]) (ie (x:=.ap (uE (vM R))) (x':=.ap (uE (vM R))) (zQ rfl hR) l6 rfl (by simp only[kQ,op,rT];exact hQ _ (.head _))) (jz (ev2 j7 (jz (ev2 (ie (x:=il t) (x':=il t) (al rfl) Z rfl (by rw[V];exact G a (by lia))) (ie (x:=il t) (x':=il t) (y:=.int f) (al rfl) (al rfl) rfl (by rw[U];exact G f hp))) (Nr rfl))) (Nr rfl)) (cr ?_) (cr rfl) (Mc g p A v);simp only[j0,jZ,jY,jX,jW,jV,jU,jT,jS,kK,kJ,lA,Ox]
  have hb:iz [6] Nm (D.int c) (o++r)=Nk (o++S):=by rw[T];rfl
  rw[Ny,kT hb];have ef:jy ((c,g,p)::Q) A v=if(g==25&&decide (p=[A,v]))=Nm then Nk c else jy Q A v:=by unfold jy;rw[Qw];cases hh:(g==25&&decide (p=[A,v]))<;>simp
  rw[ef];cases hh:(g==25&&decide (p=[A,v]))with|true=>rw[hh]at k;refine⟨S,?_⟩;rw[j8 (c:=Nm) k rfl (gN (jz (ev2 Z l6) (Nr rfl)) rfl)];rfl|false=>rw[hh]at k;obtain⟨O,q⟩:=Y S λq hq=>hQ q (.tail _ hq);refine⟨O,?_⟩;rw[jl k rfl (gl rfl)];exact q
 obtain⟨O,q⟩:=a2 R [] λq hq=>tJ hk (q.1,.tup [.str q.2.1,it q.2.2]) (Nx.mpr ⟨q,hq,rfl⟩);rw[OY]at q;have xf:∀fl,(match jy R A v with|some c=>Fl.ret (.tup [.int a,.int c])|none=>.next)=fl->ex tab (OP n) (.bu [6] Nm .plain (.aj (.ab 195) (.str 29)) .none (.cons (.ite (.cmp .eq (.aj (.aj (.ab 195) (.str 29)) (.ab 6)) (.tup (.cons (.str 25) (.cons (.tup (.cons (.aj (.ab 40) (.ab 82)) (.cons (.aj (.ab 40) (.ab 200)) .nil))) .nil)))) (.cons (.ret (.tup (.cons (.ab 82) (.cons (.ab 6) .nil)))) .nil) .nil) .nil)) o []=Nk (fl,o++O,[]):=λfl a7=>by rw[<-a7];exact kX (x:=.ap (uE (vM R))) (y:=.none) (l:=R.map λq=>.int q.1) (zQ rfl hR) gY (by simp only[i9,i8,i7,i6,nG,nF,nE,nD,uE,Pe];rfl) q
 cases hf:jy R A v with|some c=>rw[hf]at xf;exact⟨o++O,ad s1 (ad (mD L) (ad s2 (jl C rfl (jP (xf _ rfl) (λh=>nomatch h)))))⟩|none=>rw[hf]at xf;exact⟨o++O,ad s1 (ad (mD L) (ad s2 (jl C rfl (ad (xf _ rfl) (gN gY rfl)))))⟩
end
theorem wD{b c:Type}(f:b->c):∀(l:List b)(k:Nat),(l.map f).eraseIdx k=(l.eraseIdx k).map f|[],_=>rfl|a::r,0=>rfl|a::r,k+1=>by simp[List.eraseIdx_cons_succ,wD f r k]
abbrev TS:=List Int×Nat
noncomputable def pM(ac:Int->Int)(R:DmR)(s:TS):Option TS:=if s.2<s.1.length then(match mI ac R s.1 s.2 with|none=>Nk (s.1,s.2+1)|some (a,c)=>Nk ((s.1.set a c).eraseIdx s.2,s.2))else Nq
noncomputable def iK(ac:Int->Int)(R:DmR)(t:List Int):List Int:=(nt (pM ac R) (t.length+1) (t,1)).1
theorem zn{ac:Int->Int}{R:DmR}{t:List Int}{p a:Nat}{c:Int}(h:mI ac R t p=Nk (a,c)):a<p/\∃r∈R,r.1=c:=by unfold mI at h;split at h;exact nS h;rename_i b e;split at h;exact nS h;rw[Ol]at h;obtain⟨x,d,h⟩:=h;cases h;refine⟨pv e,?_⟩;unfold jy at d;rw[Ol]at d;obtain⟨r,f,rfl⟩:=d;exact i12 r (Tr f) rfl
section
variable{n:Nat}{l:Bl}{ac:Int->Int}{dm:Dm}{cf:Cf}{lc uc:On}{di:Int->Bool}
theorem Ah(X:Bx l ac dm cf lc uc di){R:DmR}(J:gL l 29=Nk (vM R))(N:kh (vM R)=Nm)(D:∀r∈R,r.1∈ce){t:List Int}(Q:∀c∈t,c∈ce)(Z:t.length<900):(OP (n+2)).F 203 [gM l,il t]=Nk (il (iK ac R t),Nm):=by
 let o (z:Nat) (r:Loc):Loc:=[(195,gM l),(40,il t),(32,.ag 0),(200,.int z)]++r;have W:=rY (test:=ev tab (OP (n+1)) (.cmp .lt (.ab 200) (.len (.ab 32)))) (body:=exs tab (OP (n+1)) (.cons (.assign (.name 59) (.call Nl 202 (.cons (.ab 195) (.cons (.ab 32) (.cons (.ab 200) .nil))))) (.cons (.ite (.bq Nl (.ab 59)) (.cons (.assign (.name 200) (.bin .add (.ab 200) (.int 1))) .nil) (.cons (.assign (.aj (.ab 32) (.aj (.ab 59) (.int 0))) (.aj (.ab 59) (.int 1))) (.cons (.expr (.cW (.ab 32) (.ab 200))) .nil))) .nil))) (λ(s:TS)m H=>H=[.ae (s.1.map .int)]/\(∃r,m=o s.2 r)/\(∀c∈s.1,c∈ce)/\s.1.length<=t.length) (λs=>s.1.length-s.2) (pM ac R) ?_ 1000 (t.length+1) (t,1) (o 1 []) [.ae (t.map .int)] (by simp only;lia) (by simp only;lia) ⟨rfl,⟨[],rfl⟩,Q,N4 _⟩;refine w22 W λm' T q L=>?_;refine w04 L λI U _ _=>?_;obtain⟨r,rfl⟩:=U;subst I;refine lP (fn:=lH) (m:=[(195,gM l),(40,il t)]) (fl:=.ret (.ag 0)) (m':=o (nt (pM ac R) (t.length+1) (t,1)).2 r) (st:=[.ae ((iK ac R t).map .int)]) rfl rfl ?_ rfl (gP rfl);delta lH;dsimp only;exact ad (m₁:=o 1 []) (aa:=[.ae (t.map .int)]) (km (d:=.tup [.ag 0,.int 1]) (x:=.tup [.ag 0,.int 1]) (jz (ev2 (zM (x:=il t) (x':=il t) (al rfl) rfl rfl rfl) ir) (Nr rfl)) rfl rfl) (ad (mD q) (gN (al rfl) rfl));rintro⟨f,z⟩ m H ⟨rfl,⟨r,rfl⟩,u,B⟩;simp only at B u;have k:∀b,decide (z<f.length)=b->ev tab (OP (n+1)) (.cmp .lt (.ab 200) (.len (.ab 32))) (o z r) [.ae (f.map .int)]=Nk (.bool b,[.ae (f.map .int)]):=λb K=>by refine iA (x:=.int z) (x':=.int z) (y:=.int f.length) (y':=.int f.length) (al rfl) (vw (x:=.ag 0) (x':=il f) (al rfl) rfl yu) rfl rfl ?_;simp only[kq,kr,kt,ku,<-K];congr 1;exact decide_eq_decide.mpr (by lia)
 by_cases h:z<f.length;right;obtain⟨w,A⟩:∃y,y=Loc.set r 59 (Ay (mI ac R f z)):=⟨_,rfl⟩;have O:(Ay (mI ac R f z)).plain=Nm:=by cases mI ac R f z with|none=>rfl|some p=>rfl
 have E:(Ay (mI ac R f z)).flat=Nm:=by cases mI ac R f z with|none=>rfl|some p=>rfl
 have G:ex tab (OP (n+1)) (.assign (.name 59) (.call Nl 202 (.cons (.ab 195) (.cons (.ab 32) (.cons (.ab 200) .nil))))) (o z r) [.ae (f.map .int)]=Nk (.next,o z w,[.ae (f.map .int)]):=iD (iO (ds:=[gM l,.ag 0,.int z]) (ds':=[gM l,il f,.int z]) (ev3 (al rfl) (al rfl) (al rfl)) (gW (cr (X.hp)) (gW (nk rfl) (sn1 rfl))) (Ey (n:=n) X J N u (by lia) h) (by rw[E,Qi])) (by rw[A];rfl);have g:∀s,ev tab (OP (n+1)) (.ab 59) (o z w) s=Nk (Ay (mI ac R f z),s):=λs=>al (gs4 (by subst A;exact an _ _ _) rfl);cases e:mI ac R f z with
  |none=>rw[e]at g;refine i38 (f,z+1) (o (z+1) w) ([.ae (f.map .int)]) (by simp only[pM,if_pos h,e]) (Nat.sub_succ_lt_self _ _ h) (k _ (by simp[h])) (.inl (ad G (jc (c:=(Nl !=Nm)) (kn (b:=Nm) (g _) rfl) rfl (gR (d:=.int (z+1:Nat)) (kG (x:=.int z) (x':=.int z) (al rfl) ir rfl rfl rfl) rfl (gl rfl)) (gl rfl)))) rfl ⟨w,rfl⟩ u B|some p=>
  refine hid λV S=>?_;obtain⟨a,c⟩:=p;rw[e]at g;obtain⟨Y,q,P,rfl⟩:=zn e;refine S ?_;have C:((f.set a q.1).eraseIdx z).length=f.length-1:=by exact rG List.length_eraseIdx (rG OX (rG (if_pos h) rfl))
  refine i38 ((f.set a q.1).eraseIdx z,z) (o z w) ([.ae (((f.set a q.1).eraseIdx z).map .int)]) (by simp only[pM,if_pos h,e]) (by show((f.set a q.1).eraseIdx z).length-z<f.length-z;rw[C];exact UK (RV h) (Nat.sub_lt (N6 (NX z) h) Nat.one_pos)) (k _ (by simp[h])) (.inl (ad G (l5 (c:=(Nl !=Nl)) (kn (b:=Nl) (x:=.tup [.int a,.int q.1]) (g _) rfl) rfl (ad (aa:=[.ae ((f.set a q.1).map .int)]) (rV (i:=0) (j:=a) (l:=f.map .int) (d:=.int q.1) (ie (x:=.tup [.int a,.int q.1]) (x':=.tup [.int a,.int q.1]) (g _) ir rfl rfl) (al rfl) (ie (x:=.tup [.int a,.int q.1]) (x':=.tup [.int a,.int q.1]) (g _) ir rfl rfl) rfl (by lia) (by simp only[Nu];lia) (by refine rG (OK _) (rL List.map_set ?_);rfl)) (ad (mm (KM (i:=0) (j:=z) (l:=(f.set a q.1).map .int) (d:=.int ((f[z]?).getD 0)) (al rfl) rfl (al rfl) rfl (by lia) ?_ rfl)) (gl ?_))) (gl rfl)))) rfl ⟨w,rfl⟩ (λd M=>?_) (by simp only;lia);refine rG (OK _) (rG (Oc) (rG (by exact rG (NM (by lia)) rfl:(f.set a q.1)[z]? =f[z]?) (rG (NQ h) ?_)));rfl;refine rG (OK _) (rG (wD _ _ _) ?_);rfl;have v:=TE M;rcases Po v with v|rfl
  exact u d v;exact D q P
 left;exact⟨by simp only[pM,if_neg h],k _ (by simp[h])⟩
theorem rK(X:Bx l ac dm cf lc uc di){t:List Int}(ht:∀c∈t,c∈ce)(g:List Nat)(hs:g.length<10)(hl:(t.flatMap (em g cf)).length<900):(OP (n+1)).F 205 [gM l,il t,jJ g]=Nk (il (t.flatMap (em g cf)),Nm):=by
 refine w12 (X.gm) λes e1 e2=>?_;have L:=jF (xs:=[6]) (single:=Nm) (f:=D.int) (body:=exs tab (OP n) (.cons (.assign (.name 24) (.aH (.aj (.ab 195) (.str 87)) (.ab 6) (.dict Nl .nil))) (.cons (.assign (.name 204) (.comp Nl (.ab 63) [63] [24] Nm .plain (.ab 86) .none Nm (.bz Nl (.ab 63) (.ab 24)))) (.cons (.expr (.extend (.ab 32) (.ite (.cmp .ne (.ab 204) (.ae Nl .nil)) (.aj (.ab 24) (.aj (.ab 204) (.int 0))) (.tup (.cons (.ab 6) .nil))))) .nil)))) (λK m st=>∃j,m=[(195,gM l),(40,il t),(86,jJ g),(32,.ag 0)]++j/\st=[.ae ((K.flatMap (em g cf)).map .int)]) t [] [(195,gM l),(40,il t),(86,jJ g),(32,.ag 0)] [.ae []] ⟨[],rfl,rfl⟩ ?_;refine w22 L λm' a7 q L=>?_;refine w12 L λj z2 z3=>?_;subst z2;subst z3;rw[NO]at q;refine lP (fn:=m4) (m:=[(195,gM l),(40,il t),(86,jJ g)]) (fl:=.ret (.ag 0)) (m':=[(195,gM l),(40,il t),(86,jJ g),(32,.ag 0)]++j) (st:=[.ae ((t.flatMap (em g cf)).map .int)]) rfl rfl ?_ rfl (gP rfl);delta m4;dsimp only;exact gR (i5 kZ (NX _) rfl) rfl (ad (kX (x:=il t) (y:=.none) (l:=t.map .int) (al rfl) gY rfl q) (gN (al rfl) rfl));rintro K c q m st R ⟨j,rfl,rfl⟩;rw[NO]at R;have hc:c∈t:=by rw[R];simp
 have V:(K.flatMap (em g cf)).length+(em g cf c).length<=(t.flatMap (em g cf)).length:=by rw[R];simp
 refine hid λG9 k9=>?_;obtain⟨v,S⟩:∃v:List (Nat×List Int),v=(cf c).getD []:=⟨_,rfl⟩;have a4:(gL es c).getD (.ap [])=cfD v:=by rw[e2 c (ht c hc),S];cases cf c<;>rfl
 obtain⟨A,J⟩:∃A,A=g.filter λs=>(gL v s).isSome:=⟨_,rfl⟩;obtain⟨M,C⟩:∃y,y=(Loc.set j 6 (.int c)).set 24 (cfD v):=⟨_,rfl⟩;obtain⟨H,I⟩:∃y,y=Loc.set M 204 (.ae (A.map .str)):=⟨_,rfl⟩;refine k9 ?_;let B:am:=[.ae ((K.flatMap (em g cf)).map .int)];let w (r:Loc):Loc:=[(195,gM l),(40,il t),(86,jJ g),(32,.ag 0)]++r;have s1:ex tab (OP n) (.assign (.name 24) (.aH (.aj (.ab 195) (.str 87)) (.ab 6) (.dict Nl .nil))) (w (Loc.set j 6 (.int c))) B=Nk (.next,w M,B):=by refine iD (d:=cfD v) ?_ (by rw[C];rfl);rw[<-a4];exact rp rfl e1 (al (gs4 (an _ _ _) rfl)) (E9 uu)
 have a1:∀r s,(r=M\/r=H)->ev tab (OP n) (.ab 24) (w r) s=Nk (cfD v,s):=λr s h=>by
  refine al (gs4 ?_ rfl);rcases h with rfl|rfl
  subst C;exact an _ _ _;subst I;show Loc.get (Loc.set M 204 _) 24=_;rw[gI _ _ _ _ rfl,C];exact an _ _ _
 have s2:ex tab (OP n) (.assign (.name 204) (.comp Nl (.ab 63) [63] [24] Nm .plain (.ab 86) .none Nm (.bz Nl (.ab 63) (.ab 24)))) (w M) B=Nk (.next,w H,B):=by
  obtain⟨G,U⟩:∃G,Loc.only [24] (w M)=G/\Loc.get G 24=Nk (cfD v):=by
   refine i12 _ rfl ?_;have:∀m:Loc,Loc.get (m.only [24]) 24=Loc.get m 24:=λm=>by
    induction m with
    |nil=>rfl|cons p r ih=>
    obtain⟨y,e⟩:=p;by_cases q:y=24;subst q;rfl;have e1:N0 y 24=Nl:=by rw[<-OH,PZ];exact q
    have e2:N0 24 y=Nl:=by rw[<-OH,PZ];exact λz=>q z.symm
    have e3:Loc.only [24] ((y,e)::r)=Loc.only [24] r:=by simp[Loc.only,PC,e1]
    rw[e3,ih,CJ];simp[e2]
   rw[this];refine lT rfl (gs3 ?_ rfl);subst C;exact an _ _ _
  have P:=ja (step:=compTurn (OP n) (.ab 63) [63] [24] Nm Nm (.bz Nl (.ab 63) (.ab 24)) (w M)) (st:=B) (l:=g.map .str) (λd=>match d with|.str s=>if(gL v s).isSome then Nk (.str s)else Nq|_=>Nq) (λd hd=>by refine w12 (Nx.mp hd) λs W z4=>?_;subst z4;refine JN (m':=Loc.set G 63 (.str s)) (c:=(gL v s).isSome) (by rw[U.1];rfl) ?_ λ_=>al (an _ _ _);have:=pZ (O:=OP n) (n:=Nl) (a:=.ab 63) (b:=.ab 24) (m:=Loc.set G 63 (.str s)) (st:=B) (x:=.str s) (y:=cfD v) (y':=cfD v) (c:=(gL v s).isSome) (al (an _ _ _)) (al (by rw[gI _ _ _ _ rfl];exact U.2)) rfl (by simp only[zJ,LH,rU,QS]);rw[this];cases (gL v s).isSome<;>rfl);refine iD (d:=.ae (A.map .str)) (lv (x:=jJ g) (y:=.none) (l:=g.map .str) (al rfl) gY rfl (by rw[Nu];exact lW (by omega)) ?_) (by rw[I];rfl);rw[P,kj D.str (λs=>(gL v s).isSome) _ g λs _=>rfl,<-J]
 have E:∀s,ev tab (OP n) (.ab 204) (w H) s=Nk (.ae (A.map .str),s):=λs=>al (gs4 (by subst I;exact an _ _ _) rfl);have l6:∀s,ev tab (OP n) (.ab 6) (w H) s=Nk (.int c,s):=λs=>al (gs4 (by subst I;show Loc.get (Loc.set M 204 _) 6=_;rw[gI _ _ _ _ rfl,C];exact ig rfl) rfl);have Z:D.ax (A.map .str)=Nm:=iG A;have a3:shalL 63 (A.map .str)=Nm:=by generalize A=x;induction x with|nil=>rfl|cons a r ih=>simp only[Ny,GP,GO,JU,JT,JS,JR,JQ,JP,ih,Ox]
 have u:ev tab (OP n) (.cmp .ne (.ab 204) (.ae Nl .nil)) (w H) B=Nk (.bool (!(A.map D.str).isEmpty),B):=iA (E _) (lM kZ (NX _)) (cr Z) rfl (FL a3);have Q:∃z,ev tab (OP n) (.ite (.cmp .ne (.ab 204) (.ae Nl .nil)) (.aj (.ab 24) (.aj (.ab 204) (.int 0))) (.tup (.cons (.ab 6) .nil))) (w H) B=Nk (it z,B)/\em g cf c=z:=by
  have a6:∀s,(gL v s).isSome=Nm\/(gL v s)=Nq:=λs=>by cases gL v s<;>simp
  cases hso:A with
  |nil=>
   rw[hso]at u;refine i12 ([c]) (nV u rfl (jz (ev1 (l6 _)) (Nr rfl))) ?_;have hn:∀s∈g,gL v s=Nq:=λs W=>by
    cases hh:gL v s with
    |none=>rfl|some x=>
    have:s∈A:=by rw[J,Pp];exact⟨W,by rw[hh];rfl⟩
    rw[hso]at this;exact iM this
   unfold em;cases N:cf c with|none=>rfl|some v'=>rw[N]at S;have:v=v':=S;subst this;simp only;rw[List.findSome?_eq_none_iff.mpr hn];rfl
  |cons T sr=>
  rw[hso]at u E;have Y:T∈A:=by rw[hso];simp
  obtain⟨x,hx⟩:∃x,gL v T=Nk x:=by rw[J,Pp]at Y;exact Om.mp Y.2
  have N:cf c=Nk v:=by cases hh:cf c with|none=>rw[hh]at S;subst S;simp[iw,iv,iu]at hx|some v'=>rw[hh]at S;rw[show v=v' from S]
  refine i12 x (m6 u rfl (ie (x:=cfD v) (x':=cfD v) (y:=.str T) (a1 H _ (.inr rfl)) (ie (x:=.ae ((T::sr).map .str)) (x':=.ae ((T::sr).map .str)) (E _) ir rfl (kR (k:=0) rfl)) rfl (by simp only[kQ,op,rU,hx,Ok]))) ?_;unfold em;rw[N];simp only;have:g.findSome? (λs=>gL v s)=Nk x:=by
   have a2:∀ss:List Nat,(ss.filter λs=>(gL v s).isSome)=T::sr->ss.findSome? (λs=>gL v s)=Nk x:=λss=>by
    induction ss with
    |nil=>intro h;cases h
    |cons a r ih=>intro h;rw[PC]at h;rw[R1];cases hh:gL v a with|none=>rw[hh]at h;exact ih h|some y=>rw[hh]at h;simp only[Uu,if_true,UB]at h;rw[h.1,hx]at hh;(refine sI hh λq0=>?_;subst q0);rfl
   exact a2 g (by rw[<-J,hso])
  rw[this];rfl
 refine w12 Q λz a5 a0=>?_;rw[a0]at V;have q:=og (O:=OP n) (m:=w H) (st:=B) (o:=.ab 32) (i:=0) (x:=it z) (l':=z.map .int) (al rfl) rfl a5 rfl (by simp only[Nu];omega);refine⟨_,w H,_,rfl,.inl (ad s1 (ad s2 (ad q (gl rfl)))),H,rfl,?_⟩;simp[a0,B]
end
noncomputable abbrev kC(ac:Int->Int)(dm:Dm)(R:DmR)(cf:Cf)(di:Int->Bool)(k:List Int):List Int:=(iK ac R (iS Nm ac dm (k.flatMap (em [92,93] cf)))).filter λc=> !di c
theorem B1{x:Nat}:∀{fv:List Nat}{m:Loc},fv.any (N0 x)=Nm->Loc.get (m.only fv) x=Loc.get m x:=λ{fv m}h=>by
 induction m with
 |nil=>rfl|cons p r b=>
 obtain⟨y,e⟩:=p;by_cases q:x=y;subst q;refine rG (by simp only[Loc.only,PC,h,if_true]:Loc.only fv ((x,e)::r)=(x,e)::Loc.only fv r) ?_;simp[ID,CJ];have a:N0 x y=Nl:=by refine rL (OH _) (rG PZ ?_);exact q
 refine rG (by simp[ID,CJ,a]:Loc.get ((y,e)::r) x=Loc.get r x) (rL b ?_);unfold Loc.only;refine rG PC ?_;split;simp[ID,CJ,a];rfl
theorem z0{ac:Int->Int}{f:List Int}:∀c,c∈tA ac f↔c∈f:=λc=>by
 have:=nr (go:=tB ac) (λs:BS=>s.1.Perm f) (λx y e b=>by
  simp only[tB]at e;split at e;(refine sI e λd=>?_;subst d);unfold yo;cases h:x.1 with|nil=>rw[h]at b;exact b|cons a r=>rw[h]at b;exact(j1 ac r a).trans b
  exact nS e) (ru ac f+2) (f,Nm) (SD _)
 exact this.mem_iff
theorem wV{ac:Int->Int}{f:List Int}:(tA ac f).length=f.length:=by
 have:=nr (go:=tB ac) (λs:BS=>s.1.Perm f) (λx y e b=>by
  simp only[tB]at e;split at e;(refine sI e λc=>?_;subst c);unfold yo;cases h:x.1 with|nil=>rw[h]at b;exact b|cons a r=>rw[h]at b;exact(j1 ac r a).trans b
  exact nS e) (ru ac f+2) (f,Nm) (SD _)
 exact this.length_eq
theorem yf{ac:Int->Int}{R:DmR}(b:∀r∈R,r.1∈ce){t:List Int}(m:∀c∈t,c∈ce):(∀c∈iK ac R t,c∈ce)/\(iK ac R t).length<=t.length:=nr (go:=pM ac R) (λs:TS=>(∀c∈s.1,c∈ce)/\s.1.length<=t.length) (λx y e g=>by
  simp only[pM]at e;split at e;split at e;(refine sI e λf=>?_;subst f);exact g;rename_i a c j;refine hid λp o=>?_;(refine sI e λf=>?_;subst f);obtain⟨u,q,k,rfl⟩:=zn j;refine o ?_;refine⟨λd i=>?_,?_⟩;rcases Po (TE i)with h|rfl
  exact g.1 d h;exact b q k;have:=TQ (x.1.set a q.1) x.2;simp only[OX]at this;simp only;lia;exact nS e) (t.length+1) (t,1) ⟨m,N4 _⟩
section
variable{n:Nat}{l:Bl}{ac:Int->Int}{dm:Dm}{cf:Cf}{lc uc:On}{di:Int->Bool}
theorem zB(X:Bx l ac dm cf lc uc di){R:DmR}(m:gL l 29=Nk (vM R))(o:kh (vM R)=Nm)(b:∀r∈R,r.1∈ce){t:List Int}(k:Bool)(j:∀c∈t,c∈ce)(p:t.length<100)(e:(t.flatMap (jh k dm)).length<30):(OP (n+2)).F 199 [gM l,il t,.bool k]=Nk (il (iS k ac dm t),Nm)/\(OP (n+2)).F 203 [gM l,il (iS k ac dm t)]=Nk (il (iK ac R (iS k ac dm t)),Nm)/\(∀c∈iS k ac dm t,c∈ce)/\(∀c∈iK ac R (iS k ac dm t),c∈ce)/\(iK ac R (iS k ac dm t)).length<30:=by
 have a:∀c∈iS k ac dm t,c∈ce:=λc h=>by rw[iS,z0,OG]at h;refine w12 h λd f g=>?_;exact(yN X (j d f) k).2 c g
 have i:(iS k ac dm t).length<30:=by rw[iS,wV];exact e
 obtain⟨f,g⟩:=yf (ac:=ac) b a;exact i05 (y3 X j p e) (Ah X m o b a (by lia)) a f (by lia)
theorem vk(X:Bx l ac dm cf lc uc di){R:DmR}(hR:gL l 29=Nk (vM R))(hk:kh (vM R)=Nm)(a0:∀r∈R,r.1∈ce)(a2:∀c∈ce,∀d∈em [92,93] cf c,d∈ce){c:Int}(hc:c∈ce)(j:lS (kC ac dm R cf di) (λk=>decide (k.length<20/\(k.flatMap (em [92,93] cf)).length<20/\((k.flatMap (em [92,93] cf)).flatMap (jh Nm dm)).length<30)) 8 [c]=Nm):(OP (n+3)).F 211 [gM l,.int c]=Nk (il (mt (kC ac dm R cf di) 8 [c]),Nl):=by
 have w:=X.hp;refine w12 (X.gj) λes e1 e2=>?_;let f (k:List Int) (r:Loc):Loc:=[(195,gM l),(6,.int c),(206,il k)]++r;have U:∀(k:List Int)(r:Loc),(∀d∈k,d∈ce)->(k.length<20/\(k.flatMap (em [92,93] cf)).length<20/\((k.flatMap (em [92,93] cf)).flatMap (jh Nm dm)).length<30)->∃T,exs tab (OP (n+2)) (.cons (.assign (.name 210) (.call Nl 205 (.cons (.ab 195) (.cons (.ab 206) (.cons (.tup (.cons (.str 92) (.cons (.str 93) .nil))) .nil))))) (.cons (.assign (.name 208) (.call Nl 203 (.cons (.ab 195) (.cons (.call Nl 199 (.cons (.ab 195) (.cons (.ab 210) (.cons (.bool Nm) .nil)))) .nil)))) (.cons (.assign (.name 207) (.comp Nl (.ab 209) [209] [195] Nm .plain (.ab 208) .none Nm (.bz Nm (.ab 209) (.aj (.ab 195) (.str 111))))) (.cons (.ite (.cmp .eq (.ab 207) (.ab 206)) (.cons (.ret (.ab 206)) .nil) .nil) (.cons (.assign (.name 206) (.ab 207)) .nil))))) (f k r) []=Nk (if kC ac dm R cf di k=k then(.ret (il k),f k T,[])else(.next,f (kC ac dm R cf di k) T,[]))/\∀d∈kC ac dm R cf di k,d∈ce:=λk r p⟨a6,a5,N⟩=>by
  have K:∀d∈k.flatMap (em [92,93] cf),d∈ce:=λd s=>by refine w12 (OG.mp s) λe h1 W=>?_;exact a2 e (p e h1) d W
  have F1:=rK (n:=n+1) X p [92,93] (by decide) (by lia);refine w05 (zB (n:=n) X hR hk a0 Nm K (by lia) N) λF2 F3 a4 o a3=>?_;obtain⟨g,E⟩:∃x,x=iK ac R (iS Nm ac dm (k.flatMap (em [92,93] cf))):=⟨_,rfl⟩;rw[<-E]at F3 o a3;have Z:kC ac dm R cf di k=g.filter λc=> !di c:=by rw[E]
  rw[Z];refine hid λG9 k9=>?_;obtain⟨A,G⟩:∃x,x=Loc.set r 210 (il (k.flatMap (em [92,93] cf))):=⟨_,rfl⟩;obtain⟨B,H⟩:∃x,x=Loc.set A 208 (il g):=⟨_,rfl⟩;obtain⟨Y,I⟩:∃x,x=Loc.set B 207 (il (g.filter λc=> !di c)):=⟨_,rfl⟩;have s1:ex tab (OP (n+2)) (.assign (.name 210) (.call Nl 205 (.cons (.ab 195) (.cons (.ab 206) (.cons (.tup (.cons (.str 92) (.cons (.str 93) .nil))) .nil))))) (f k r) []=Nk (.next,f k A,[]):=iD (gQ (ds:=[gM l,il k,jJ [92,93]]) (ev3 (al rfl) (al rfl) (jz (ev2 j7 j7) (Nr rfl))) (sn3 w (ch _) rfl) F1) (by rw[G];rfl);have S:ev tab (OP (n+2)) (.ab 210) (f k A) []=Nk (il (k.flatMap (em [92,93] cf)),[]):=al (gs3 (by subst G;exact an _ _ _) rfl);have s2:ex tab (OP (n+2)) (.assign (.name 208) (.call Nl 203 (.cons (.ab 195) (.cons (.call Nl 199 (.cons (.ab 195) (.cons (.ab 210) (.cons (.bool Nm) .nil)))) .nil)))) (f k A) []=Nk (.next,f k B,[]):=iD (gQ (ds:=[gM l,il (iS Nm ac dm (k.flatMap (em [92,93] cf)))]) (ev2 (al rfl) (gQ (ds:=[gM l,il (k.flatMap (em [92,93] cf)),.bool Nm]) (ev3 (al rfl) S oB) (sn3 w (ch _) rfl) F2)) (sn2 w (ch _)) F3) (by rw[H];rfl);have P:ev tab (OP (n+2)) (.ab 208) (f k B) []=Nk (il g,[]):=al (gs3 (by subst H;exact an _ _ _) rfl);have t:ev tab (OP (n+2)) (.ab 207) (f k Y) []=Nk (il (g.filter λc=> !di c),[]):=al (gs3 (by subst I;exact an _ _ _) rfl);obtain⟨u,C,J⟩:∃q,Loc.only [195] (f k B)=q/\Loc.get q 195=Nk (gM l):=⟨_,rfl,B1 (x:=195) (fv:=[195]) rfl⟩;refine k9 ?_;have z:=ja (step:=compTurn (OP (n+2)) (.ab 209) [209] [195] Nm Nm (.bz Nm (.ab 209) (.aj (.ab 195) (.str 111))) (f k B)) (st:=[]) (l:=g.map .int) (λd=>match d with|.int x=>if !di x then Nk (.int x)else Nq|_=>Nq) (λd s=>by refine w12 (Nx.mp s) λx hx z1=>?_;subst z1;refine JN (m':=Loc.set u 209 (.int x)) (c:= !di x) (by rw[C];rfl) ?_ λ_=>al (an _ _ _);have:=pZ (O:=OP (n+2)) (n:=Nm) (a:=.ab 209) (b:=.aj (.ab 195) (.str 111)) (m:=Loc.set u 209 (.int x)) (st:=[]) (x:=.int x) (y:=.ap (uE es)) (y':=.ap (uE es)) (c:=di x) (al (an _ _ _)) (zQ (by rw[gI _ _ _ _ rfl];exact J) e1) rfl (by simp only[zJ,LH,rT,e2 x (o x hx)]);rw[this];cases di x<;>rfl);have s3:ex tab (OP (n+2)) (.assign (.name 207) (.comp Nl (.ab 209) [209] [195] Nm .plain (.ab 208) .none Nm (.bz Nm (.ab 209) (.aj (.ab 195) (.str 111))))) (f k B) []=Nk (.next,f k Y,[]):=by refine iD (d:=il (g.filter λc=> !di c)) (lv (x:=il g) (y:=.none) (l:=g.map .int) P gY rfl (by rw[Nu];exact lW (by lia)) ?_) (by rw[I];rfl);rw[z,kj D.int (λx=> !di x) _ g λx _=>rfl]
  have v:ev tab (OP (n+2)) (.cmp .eq (.ab 207) (.ab 206)) (f k Y) []=Nk (.bool (decide ((g.filter λc=> !di c)=k)),[]):=iA t (al rfl) (cr (ch _)) (cr (ch _)) (tm _ _);refine i12 Y ?_ (λd s=>o d (Pp.mp s).1);by_cases h:(g.filter λc=> !di c)=k;rw[if_pos h];exact ad s1 (ad s2 (ad s3 (j8 v (by simp[h]) (gN (al rfl) rfl))));rw[if_neg h];exact ad s1 (ad s2 (ad s3 (jl v (by simp[h]) (ad (iD t rfl) (gl rfl)))))
 have L:∀(Q:Nat)(a:Int)(k:List Int)(r:Loc),(∀d∈k,d∈ce)->lS (kC ac dm R cf di) (λk=>decide (k.length<20/\(k.flatMap (em [92,93] cf)).length<20/\((k.flatMap (em [92,93] cf)).flatMap (jh Nm dm)).length<30)) Q k=Nm->∃T V,forLoop [110] Nm (exs tab (OP (n+2)) (.cons (.assign (.name 210) (.call Nl 205 (.cons (.ab 195) (.cons (.ab 206) (.cons (.tup (.cons (.str 92) (.cons (.str 93) .nil))) .nil))))) (.cons (.assign (.name 208) (.call Nl 203 (.cons (.ab 195) (.cons (.call Nl 199 (.cons (.ab 195) (.cons (.ab 210) (.cons (.bool Nm) .nil)))) .nil)))) (.cons (.assign (.name 207) (.comp Nl (.ab 209) [209] [195] Nm .plain (.ab 208) .none Nm (.bz Nm (.ab 209) (.aj (.ab 195) (.str 111))))) (.cons (.ite (.cmp .eq (.ab 207) (.ab 206)) (.cons (.ret (.ab 206)) .nil) .nil) (.cons (.assign (.name 206) (.ab 207)) .nil)))))) (j3 a Q) (f k r) []=Nk (V,f (mt (kC ac dm R cf di) Q k) T,[])/\(V=.next\/V=.ret (il (mt (kC ac dm R cf di) Q k))):=λQ=>by induction Q with|zero=>intro a k r _ _;exact i22 r .next rfl (.inl rfl)|succ Q ih=>intro a k r p j;simp only[po,pk,NI,decide_eq_true_eq]at j;refine w12 (U k (Loc.set r 110 (.int a)) p j.1) λA q M=>?_;have hb:iz [110] Nm (D.int a) (f k r)=Nk (f k (Loc.set r 110 (.int a))):=rfl;simp only[vh,vg,u8,rC,kT hb];rw[q];by_cases h:kC ac dm R cf di k=k;rw[if_pos h,if_pos h];exact i22 A (.ret (il k)) rfl (.inr rfl);have W:=j.2;rw[if_neg h]at W;rw[if_neg h,if_neg h];exact ih (a+1) (kC ac dm R cf di k) A M W
 refine w22 (L 8 0 [c] [] (λd s=>by rw[NC]at s;subst s;exact hc) j) λT V q a1=>?_;suffices ∃m',exs tab (OP (n+2)) mf.body [(195,gM l),(6,.int c)] []=Nk (.ret (il (mt (kC ac dm R cf di) 8 [c])),m',[])by obtain⟨m',q⟩:=this;exact lP rfl rfl q rfl (iJ (ch _))
 delta mf;dsimp only;have xf:=kX (O:=OP (n+2)) (xs:=[110]) (single:=Nm) (i:=.aL) (a:=.int 8) (b:=.none) (m:=f [c] []) (st:=[]) (x:=.int 8) (y:=.none) (l:=j3 0 8) ir gY rfl q;rcases a1 with rfl|rfl
 exact⟨_,gR (d:=il [c]) (lM (ev1 (al rfl)) (Nr rfl)) rfl (ad xf (gN (al rfl) rfl))⟩;exact⟨_,gR (d:=il [c]) (lM (ev1 (al rfl)) (Nr rfl)) rfl (jP xf (λh=>nomatch h))⟩
noncomputable abbrev j9(tl:List (Int×List Int)):List (Key×D):=tl.map λp=>(.i p.1,it p.2)
theorem r8(tl:List (Int×List Int))(c:Int):gL (j9 tl) (.i c)=(gL tl c).map λx=>it x:=by induction tl with|nil=>rfl|cons p r a=>simp only[j9,Ny,iw,iv,iu,Key.i.injEq];split;rfl;exact a
theorem oF(tl:List (Int×List Int)):D.aq (j9 tl)=Nm:=by induction tl with|nil=>rfl|cons p r a=>simp only[j9,Ny,n9,n8,n7,kf,Pg];exact a
noncomputable abbrev wY(tl:List (Int×List Int)):Nf:=λc=>gL tl c
theorem zu(X:Bx l ac dm cf lc uc di){R:DmR}(w:gL l 29=Nk (vM R))(A:kh (vM R)=Nm)(g:∀r∈R,r.1∈ce){tl:List (Int×List Int)}{t:List Int}(h:∀c∈t.flatMap (lj (wY tl)),c∈ce)(B:(t.flatMap (lj (wY tl))).length<100)(j:((t.flatMap (lj (wY tl))).flatMap (jh Nl dm)).length<30):(OP (n+3)).F 212 [.ap (j9 tl),gM l,il t]=Nk (il (iK ac R (iS Nl ac dm (t.flatMap (lj (wY tl))))),Nm):=by
 have d:=X.hp;refine w03 (zB (n:=n) X w A g Nl h B j) λu v _=>?_;have L:=jF (xs:=[6]) (single:=Nm) (f:=D.int) (body:=exs tab (OP (n+2)) (.cons (.expr (.extend (.ab 32) (.aH (.ab 24) (.ab 6) (.tup (.cons (.ab 6) .nil))))) .nil)) (λb m p=>∃a,m=[(24,.ap (j9 tl)),(195,gM l),(40,il t),(32,.ag 0)]++a/\p=[.ae ((b.flatMap (lj (wY tl))).map .int)]) t [] [(24,.ap (j9 tl)),(195,gM l),(40,il t),(32,.ag 0)] [.ae []] ⟨[],rfl,rfl⟩ ?_;refine w22 L λH C q L=>?_;refine w12 L λa E G=>?_;subst E;subst G;rw[NO]at q;refine lP (fn:=mZ) (m:=[(24,.ap (j9 tl)),(195,gM l),(40,il t)]) (fl:=.ret (.ag 1)) (m':=[(24,.ap (j9 tl)),(195,gM l),(40,il t),(32,.ag 0)]++a) (st:=[.ae ((t.flatMap (lj (wY tl))).map .int),.ae ((iK ac R (iS Nl ac dm (t.flatMap (lj (wY tl))))).map .int)]) rfl rfl ?_ rfl (gP rfl);delta mZ;dsimp only;exact gR (i5 kZ (NX _) rfl) rfl (ad (kX (x:=il t) (y:=.none) (l:=t.map .int) (al rfl) gY rfl q) (gN (jb (ds:=[gM l,il (iS Nl ac dm (t.flatMap (lj (wY tl))))]) (ev2 (al rfl) (gQ (ds:=[gM l,.ag 0,.bool Nl]) (ds':=[gM l,il (t.flatMap (lj (wY tl))),.bool Nl]) (ev3 (al rfl) (al rfl) oB) (gW (cr d) (gW (nk rfl) (sn1 rfl))) u)) (sn2 d (ch _)) v rfl) rfl));rintro b c q m p e ⟨a,rfl,rfl⟩;rw[NO]at e;have k:(b.flatMap (lj (wY tl))).length+(lj (wY tl) c).length<=(t.flatMap (lj (wY tl))).length:=by refine rG e ?_;simp
 have o:∀s,ev tab (OP (n+2)) (.ab 6) ([(24,.ap (j9 tl)),(195,gM l),(40,il t),(32,.ag 0)]++Loc.set a 6 (.int c)) s=Nk (.int c,s):=λs=>al (gs4 (an _ _ _) rfl);refine⟨_,_,_,rfl,.inl (ad (og (i:=0) (x:=it (lj (wY tl) c)) (l':=(lj (wY tl) c).map .int) (al rfl) rfl (wJ (x:=.ap (j9 tl)) (x':=.ap (j9 tl)) (y:=.int c) (z:=it [c]) (al rfl) rfl (o _) (jz (ev1 (o _)) (Nr rfl)) rfl ?_) rfl (by simp only[Nu];lia)) (gl rfl)),Loc.set a 6 (.int c),rfl,?_⟩;simp only[vp,CL,r8,lj,wY];cases gL tl c<;>rfl;simp
noncomputable def oE(lc uc:On)(c:Int):Int:=(lc c).getD ((uc c).getD c)
theorem y8(X:Bx l ac dm cf lc uc di){t:List Int}(h:∀c∈t,c∈ce)(z:t.length<900):(OP (n+1)).F 213 [gM l,il t]=Nk (il (t.map (oE lc uc)),Nm):=by
 refine w12 (X.gh) λu i j=>?_;refine w12 (X.gf) λw p q=>?_;have b:=ja (step:=compTurn (OP n) (.aH (.aj (.ab 195) (.str 107)) (.ab 6) (.aH (.aj (.ab 195) (.str 108)) (.ab 6) (.ab 6))) [6] [195] Nm Nl .none [(195,gM l),(40,il t)]) (st:=[]) (l:=t.map .int) (λd=>match d with|.int c=>Nk (.int (oE lc uc c))|_=>Nq) (λd k=>by refine w12 (Nx.mp k) λc g s=>?_;subst s;refine FH (m':=[(195,gM l),(6,.int c)]) rfl ?_;rw[(rp (O:=OP n) (m:=[(195,gM l),(6,.int c)]) (st:=[]) rfl i (e:=.ab 6) (c:=c) (al rfl) (rp (O:=OP n) (m:=[(195,gM l),(6,.int c)]) (st:=[]) rfl p (e:=.ab 6) (d:=.ab 6) (c:=c) (v:=.int c) (al rfl) (al rfl))),j c (h c g),q c (h c g)];unfold oE;cases lc c<;>cases uc c<;>rfl);refine lP (fn:=mY) (m:=[(195,gM l),(40,il t)]) (fl:=.ret (.ag 0)) (m':=[(195,gM l),(40,il t)]) (st:=[.ae ((t.map (oE lc uc)).map .int)]) rfl rfl ?_ rfl (gP rfl);delta mY;dsimp only;refine gN (rO (x:=il t) (y:=.none) (l:=t.map .int) (l':=(t.map (oE lc uc)).map .int) (aa:=[]) (ah:=[]) (au:=[]) (al rfl) gY rfl (by rw[Nu];exact lW (by lia)) ?_ rfl) rfl;refine b.trans ?_;have f:∀x:List Int,(x.map D.int).filterMap (λd=>match d with|D.int c=>Nk (D.int (oE lc uc c))|_=>Nq)=(x.map (oE lc uc)).map D.int:=λx=>by induction x with|nil=>rfl|cons a r o=>simp only[Ny,Oy,o]
 rw[f]
noncomputable def pt(cf:Cf)(a:List Nat)(c:Int):List Int:=kb (ce.filter λe=>decide (em a cf e=em a cf c))
theorem yx(X:Bx l ac dm cf lc uc di){c:Int}(hc:c∈ce)(a:List Nat)(hs:a.length<10)(p:∀e∈ce,(em a cf e).length<900):(OP (n+2)).F 215 [gM l,.int c,jJ a]=Nk (il (pt cf a c),Nm):=by
 have h:=X.hp;have i:=iG a;have j:∀e,[e].flatMap (em a cf)=em a cf e:=λe=>by simp
 have r:∀e∈ce,(OP (n+1)).F 205 [gM l,il [e],jJ a]=Nk (il (em a cf e),Nm):=λe o=>by have:=rK (n:=n) X (t:=[e]) (λd k=>by rw[NC]at k;subst k;exact o) a hs (by rw[j];exact p e o);rw[j]at this;exact this
 let q:Loc:=[(195,gM l),(6,.int c),(86,jJ a),(119,il (em a cf c))];obtain⟨b,f⟩:∃b,b=ce.filter λe=>decide (em a cf e=em a cf c):=⟨_,rfl⟩;have s:b.length<=19:=by rw[f];exact List.length_filter_le _ _
 have g:=ja (step:=compTurn (OP (n+1)) (.ab 209) [209] [119,195,86] Nm Nm (.cmp .eq (.call Nl 205 (.cons (.ab 195) (.cons (.ae Nl (.cons (.ab 209) .nil)) (.cons (.ab 86) .nil)))) (.ab 119)) q) (st:=[]) (l:=ce.map .int) (λd=>match d with|.int e=>if decide (em a cf e=em a cf c)then Nk (.int e)else Nq|_=>Nq) (λd k=>by obtain⟨e,o,rfl⟩:=Nx.mp k;exact JN (m':=[(195,gM l),(86,jJ a),(119,il (em a cf c)),(209,.int e)]) (c:=decide (em a cf e=em a cf c)) rfl (iA (gQ (ds:=[gM l,il [e],jJ a]) (ev3 (al rfl) (lM (ev1 (al rfl)) (Nr rfl)) (al rfl)) (sn3 h (ch [e]) i) (r e o)) (al rfl) (cr (ch _)) (cr (ch _)) (tm _ _)) λ_=>al rfl);refine lP (fn:=nQ) (m:=[(195,gM l),(6,.int c),(86,jJ a)]) (fl:=.ret (.ag 0)) (m':=q) (st:=[.ae ((pt cf a c).map .int)]) rfl rfl ?_ rfl (gP rfl);delta nQ;dsimp only;refine gR (d:=il (em a cf c)) (m₁:=q) (gQ (ds:=[gM l,il [c],jJ a]) (ev3 (al rfl) (lM (ev1 (al rfl)) (Nr rfl)) (al rfl)) (sn3 h (ch [c]) i) (r c hc)) rfl (gN (uF (x:=il b) (l:=b.map .int) (aa:=[]) (lv (x:=.tup (ce.map .int)) (y:=.none) (l:=ce.map .int) yU gY rfl (Nr rfl) ?_) rfl (by rw[Nu];lia) (oe b) (by rw[f];rfl)) rfl);rw[g,kj D.int (λe=>decide (em a cf e=em a cf c)) _ ce λx _=>rfl,<-f]
end
section
variable{n:Nat}
theorem yw{l:Bl}{ac:Int->Int}{r:Dm}{cf:Cf}{lc uc:On}{J:Int->Bool}(X:Bx l ac r cf lc uc J){t:List Int}(G:∀c∈t,c∈ce)(U:t.length<=4)(z:(t.flatMap (jh Nl r)).length<30){w k:Nat}{st:am}(h:lr w st k)(T:k+20<1000000):∃(o:List Int)(g:am),(OP (n+2)).S 217 [.ag w,gM l,il t] st=Nk (il o,g)/\(o=t.map (oE lc uc)\/o=iS Nl ac r t\/(o.length<=4/\∀c∈o,c∈ce))/\lr w g (k+20)/\(∀j,j≠w->g[j]? =st[j]?)/\g.length=st.length:=by have p:=X.hp;refine w25 (uH n h (by lia) (sz:=3) (by decide) (by decide)) λv f q V W C B=>?_;have e:∀{s:am}{a b:Nat},lr w s a->a<=b->lr w s b:=λh L=>w33 h λI x Q y R K=>⟨I,x,Q,y,by lia,K⟩;let i:Loc:=[(181,.ag w),(195,gM l),(20,il t),(216,.int v)];have D:ex tab (OP (n+1)) (.assign (.name 216) (.aC 184 (.cons (.ab 181) (.cons (.int 3) .nil)))) [(181,.ag w),(195,gM l),(20,il t)] st=Nk (.next,i,f):=iD (nU (ds:=[.ag w,.int 3]) (aa:=st) (ev2 (al rfl) ir) q) rfl;have d:∀(j:Int),ev tab (OP (n+1)) (.cmp .eq (.ab 216) (.int j)) i f=Nk (.bool ((v:Int)==j),f):=λj=>iA (x:=.int v) (x':=.int v) (al rfl) ir rfl rfl rfl;by_cases u:v=0;refine i25 _ f (Ae (fn:=jr) (m:=[(181,.ag w),(195,gM l),(20,il t)]) (fl:=.ret (il (t.map (oE lc uc)))) (m':=i) rfl rfl ?_ rfl) (.inl rfl) (e W (by lia)) C B;delta jr;dsimp only;exact ad D (j8 (d 0) (by refine rG u ?_;rfl) (gN (gQ (ds:=[gM l,il t]) (ev2 (al rfl) (al rfl)) (sn2 p (ch _)) (y8 (n:=n) X G (by lia))) rfl));by_cases y:v=1;refine i25 _ f (Ae (fn:=jr) (m:=[(181,.ag w),(195,gM l),(20,il t)]) (fl:=.ret (il (iS Nl ac r t))) (m':=i) rfl rfl ?_ rfl) (.inr (.inl rfl)) (e W (by lia)) C B;delta jr;dsimp only;exact ad D (jl (d 0) (by simp[u]) (j8 (d 1) (by refine rG y ?_;rfl) (gN (gQ (ds:=[gM l,il t,.bool Nl]) (ev3 (al rfl) (al rfl) oB) (sn3 p (ch _) rfl) (y3 (n:=n) X G (by lia) z)) rfl)));refine w26 (wK n (m:=i) rfl W (by lia)) λo E P M A H O N=>?_;refine i25 o E (Ae (fn:=jr) (m:=[(181,.ag w),(195,gM l),(20,il t)]) (fl:=.ret (il o)) (m':=i) rfl rfl ?_ rfl) (.inr (.inr ⟨M,A⟩)) (e H (by lia)) (λj F=>by exact rG (O j F) (rG (C j F) rfl)) (by exact rG N (rG B rfl));delta jr;dsimp only;exact ad D (jl (d 0) (by simp[u]) (jl (d 1) (by simp;lia) (gN P rfl)))
structure cS(n:Nat)(b dt tl:D)(t A K Fo Ca Tu:List Int):Prop where
 a:(OP n).F 199 [b,il t,.bool Nl]=Nk (il A,Nm)
 k:(OP n).F 212 [tl,b,il A]=Nk (il K,Nm)
 k':(OP n).F 100 [il t,dt]=Nk (il K,Nm)
 f:(OP n).F 205 [b,il A,jJ [92,93]]=Nk (il Fo,Nm)
 f':(OP n).F 103 [il t,dt]=Nk (.bool (!decide (Fo=A)),Nl)
 c:(OP n).F 212 [tl,b,il t]=Nk (il Ca,Nm)
 c':(OP n).F 104 [il t,dt]=Nk (.bool (!decide (Ca=t)),Nl)
 u:(OP n).F 213 [b,il t]=Nk (il Tu,Nm)
 u':(OP n).F 109 [il t,dt]=Nk (il Tu,Nm)
theorem zp(a:Bool):pB .ne (.bool a) (.bool a)=Nk Nl:=by induction a using Nw<;>rfl
theorem Cs{l:List D}{d:D}:pU (.ae (l++[d])) (.int (-1))=Nk d:=by show(idx (-1) (l++[d]).length).bind (λj=>(l++[d])[j]?)=_;simp only[idx,NG,Ov];refine rG (if_neg (by decide)) (rG (if_pos (by lia)) (rG (O2 _ _) ?_));refine rG (show((-1:Int)+((l.length+1:Nat):Int)).toNat=l.length by lia) ?_;simp
theorem Gn{b B tl:D}(hb:b.plain=Nm)(hd:B.plain=Nm)(X:tl.plain=Nm){g e A1 w F1 C1 U1 A2 H F2 C2 U2:List Int}(T1:cS n b B tl g A1 w F1 C1 U1)(T2:cS n b B tl e A2 H F2 C2 U2)(hm:(OP n).F 101 [il g,il e,B]=Nk (.bool (decide (w=H)),Nl)):(OP (n+1)).F 220 [b,B,tl,il g,il e]=Nk (.bool Nm,Nl):=by
 let j:Loc:=[(195,b),(27,B),(24,tl),(20,il g),(21,il e),(218,.ag 0)];have N:∀{t A K R Q M:List Int}(T:cS n b B tl t A K R Q M)(r:Loc)(C:List D),C.length<5->D.ax C=Nm->∃r',exs tab (OP n) (.cons (.assign (.name 219) (.call Nl 199 (.cons (.ab 195) (.cons (.ab 40) (.cons (.bool Nl) .nil))))) (.cons (.expr (.append (.ab 218) (.call Nl 212 (.cons (.ab 24) (.cons (.ab 195) (.cons (.ab 219) .nil)))))) (.cons (.ite (.cmp .ne (.list Nl (.call Nl 100 (.cons (.list Nl (.ab 40)) (.cons (.ab 27) .nil)))) (.aj (.ab 218) (.neg 1))) (.cons (.ret (.bool Nl)) .nil) .nil) (.cons (.ite (.cmp .ne (.call Nl 103 (.cons (.list Nl (.ab 40)) (.cons (.ab 27) .nil))) (.cmp .ne (.call Nl 205 (.cons (.ab 195) (.cons (.ab 219) (.cons (.tup (.cons (.str 92) (.cons (.str 93) .nil))) .nil)))) (.ab 219))) (.cons (.ret (.bool Nl)) .nil) .nil) (.cons (.ite (.cmp .ne (.call Nl 104 (.cons (.list Nl (.ab 40)) (.cons (.ab 27) .nil))) (.cmp .ne (.call Nl 212 (.cons (.ab 24) (.cons (.ab 195) (.cons (.ab 40) .nil)))) (.ab 40))) (.cons (.ret (.bool Nl)) .nil) .nil) (.cons (.ite (.cmp .ne (.list Nl (.call Nl 109 (.cons (.list Nl (.ab 40)) (.cons (.ab 27) .nil)))) (.call Nl 213 (.cons (.ab 195) (.cons (.ab 40) .nil)))) (.cons (.ret (.bool Nl)) .nil) .nil) .nil)))))) (j++Loc.set r 40 (il t)) [.ae C]=Nk (.next,j++r',[.ae (C++[il K])]):=λ{t A K R Q M}T r C a1 a0=>by
  obtain⟨p,P⟩:∃y,y=(Loc.set r 40 (il t)).set 219 (il A):=⟨_,rfl⟩;have v:=ch t;have V:=ch A;have I:∀s,ev tab (OP n) (.ab 40) (j++p) s=Nk (il t,s):=λs=>al (gs6 (by subst P;exact ig rfl) rfl);have E:∀s,ev tab (OP n) (.ab 219) (j++p) s=Nk (il A,s):=λs=>al (gs6 (by subst P;exact an _ _ _) rfl);have G:∀s,ev tab (OP n) (.list Nl (.ab 40)) (j++p) s=Nk (il t,s):=λs=>jQ (x:=il t) (x':=il t) (I s) rfl rfl;have s1:ex tab (OP n) (.assign (.name 219) (.call Nl 199 (.cons (.ab 195) (.cons (.ab 40) (.cons (.bool Nl) .nil))))) (j++Loc.set r 40 (il t)) [.ae C]=Nk (.next,j++p,[.ae C]):=iD (gQ (ds:=[b,il t,.bool Nl]) (ev3 (al rfl) (al (gs6 (an _ _ _) rfl)) oB) (sn3 hb v rfl) T.a) (by refine rG P ?_;rfl);let z:am:=[.ae (C++[il K])];have s2:ex tab (OP n) (.expr (.append (.ab 218) (.call Nl 212 (.cons (.ab 24) (.cons (.ab 195) (.cons (.ab 219) .nil)))))) (j++p) [.ae C]=Nk (.next,j++p,z):=iH (i:=0) (l:=C) (x:=il K) (al rfl) rfl (gQ (ds:=[tl,b,il A]) (ev3 (al rfl) (al rfl) (E _)) (sn3 X hb V) T.k) (by lia);have J:∀(f:Nat)(r:D)(U:Bool),(OP n).F f [il t,B]=Nk (r,U)->ev tab (OP n) (.call Nl f (.cons (.list Nl (.ab 40)) (.cons (.ab 27) .nil))) (j++p) z=Nk (r,z):=λf r U h=>by induction U using Nw;exact iO (ds:=[il t,B]) (ev2 (G _) (al rfl)) (sn2 v hd) h (tG (al2 v hd));exact gQ (ds:=[il t,B]) (ev2 (G _) (al rfl)) (sn2 v hd) h
  have c1:ev tab (OP n) (.cmp .ne (.list Nl (.call Nl 100 (.cons (.list Nl (.ab 40)) (.cons (.ab 27) .nil)))) (.aj (.ab 218) (.neg 1))) (j++p) z=Nk (.bool Nl,z):=by refine rG (iA (o:=.ne) (jQ (x:=il K) (x':=il K) (J 100 _ _ T.k') rfl rfl) (ie (x:=.ag 0) (x':=.ae (C++[il K])) (y:=.int (-1)) (d:=il K) (aa:=z) (ah:=z) (al (m:=j++p) (n:=218) rfl) E8 rfl Cs) (cr (ch K)) (cr (ch K)) (mM K K)) ?_;simp
  have c2:ev tab (OP n) (.cmp .ne (.call Nl 103 (.cons (.list Nl (.ab 40)) (.cons (.ab 27) .nil))) (.cmp .ne (.call Nl 205 (.cons (.ab 195) (.cons (.ab 219) (.cons (.tup (.cons (.str 92) (.cons (.str 93) .nil))) .nil)))) (.ab 219))) (j++p) z=Nk (.bool Nl,z):=iA (J 103 _ _ T.f') (iA (x:=il R) (gQ (ds:=[b,il A,jJ [92,93]]) (ev3 (al rfl) (E _) (jz (ev2 j7 j7) (Nr rfl))) (sn3 hb V rfl) T.f) (E _) (cr (ch _)) (cr V) (mM R A)) rfl rfl (zp _);have c3:ev tab (OP n) (.cmp .ne (.call Nl 104 (.cons (.list Nl (.ab 40)) (.cons (.ab 27) .nil))) (.cmp .ne (.call Nl 212 (.cons (.ab 24) (.cons (.ab 195) (.cons (.ab 40) .nil)))) (.ab 40))) (j++p) z=Nk (.bool Nl,z):=iA (J 104 _ _ T.c') (iA (x:=il Q) (gQ (ds:=[tl,b,il t]) (ev3 (al rfl) (al rfl) (I _)) (sn3 X hb v) T.c) (I _) (cr (ch _)) (cr v) (mM Q t)) rfl rfl (zp _);have c4:ev tab (OP n) (.cmp .ne (.list Nl (.call Nl 109 (.cons (.list Nl (.ab 40)) (.cons (.ab 27) .nil)))) (.call Nl 213 (.cons (.ab 195) (.cons (.ab 40) .nil)))) (j++p) z=Nk (.bool Nl,z):=by refine rG (iA (o:=.ne) (jQ (x:=il M) (x':=il M) (J 109 _ _ T.u') rfl rfl) (gQ (ds:=[b,il t]) (ev2 (al (m:=j++p) (n:=195) rfl) (I _)) (sn2 hb v) T.u) (cr (ch M)) (cr (ch M)) (mM M M)) ?_;simp
  exact⟨p,ad s1 (ad s2 (jl c1 rfl (jl c2 rfl (jl c3 rfl (jl c4 rfl (gl rfl))))))⟩
 obtain⟨p,q1⟩:=N T1 [] [] (by decide) rfl;obtain⟨W,q2⟩:=N T2 p [il w] (Nr rfl) (by show(D.plain (il w)&&Nm)=Nm;refine rG (ch _) ?_;rfl);suffices ∃Y Z,exs tab (OP n) kl.body [(195,b),(27,B),(24,tl),(20,il g),(21,il e)] []=Nk (.ret (.bool Nm),Y,Z)by refine w21 this λY Z q=>?_;exact lP rfl rfl q rfl rfl
 delta kl;dsimp only;have L:forLoop [40] Nm (exs tab (OP n) (.cons (.assign (.name 219) (.call Nl 199 (.cons (.ab 195) (.cons (.ab 40) (.cons (.bool Nl) .nil))))) (.cons (.expr (.append (.ab 218) (.call Nl 212 (.cons (.ab 24) (.cons (.ab 195) (.cons (.ab 219) .nil)))))) (.cons (.ite (.cmp .ne (.list Nl (.call Nl 100 (.cons (.list Nl (.ab 40)) (.cons (.ab 27) .nil)))) (.aj (.ab 218) (.neg 1))) (.cons (.ret (.bool Nl)) .nil) .nil) (.cons (.ite (.cmp .ne (.call Nl 103 (.cons (.list Nl (.ab 40)) (.cons (.ab 27) .nil))) (.cmp .ne (.call Nl 205 (.cons (.ab 195) (.cons (.ab 219) (.cons (.tup (.cons (.str 92) (.cons (.str 93) .nil))) .nil)))) (.ab 219))) (.cons (.ret (.bool Nl)) .nil) .nil) (.cons (.ite (.cmp .ne (.call Nl 104 (.cons (.list Nl (.ab 40)) (.cons (.ab 27) .nil))) (.cmp .ne (.call Nl 212 (.cons (.ab 24) (.cons (.ab 195) (.cons (.ab 40) .nil)))) (.ab 40))) (.cons (.ret (.bool Nl)) .nil) .nil) (.cons (.ite (.cmp .ne (.list Nl (.call Nl 109 (.cons (.list Nl (.ab 40)) (.cons (.ab 27) .nil)))) (.call Nl 213 (.cons (.ab 195) (.cons (.ab 40) .nil)))) (.cons (.ret (.bool Nl)) .nil) .nil) .nil))))))) [il g,il e] (j++[]) [.ae []]=Nk (.next,j++W,[.ae [il w,il H]]):=by refine rG (kT rfl) ?_;refine rG q1 ?_;show forLoop _ _ _ _ _ _=_;refine rG (kT rfl) ?_;refine rG (show([]:List D)++[il w]=[il w]from rfl) (rG q2 ?_);rfl
 have S:ev tab (OP n) (.cmp .eq (.call Nl 101 (.cons (.list Nl (.ab 20)) (.cons (.list Nl (.ab 21)) (.cons (.ab 27) .nil)))) (.cmp .eq (.aj (.ab 218) (.int 0)) (.aj (.ab 218) (.int 1)))) (j++W) [.ae [il w,il H]]=Nk (.bool Nm,[.ae [il w,il H]]):=by refine rG (iA (O:=OP n) (o:=.eq) (m:=j++W) (st:=[.ae [il w,il H]]) (iO (ag:=Nl) (f:=101) (ds:=[il g,il e,B]) (ev3 (jQ (x:=il g) (x':=il g) (al (n:=20) rfl) rfl rfl) (jQ (x:=il e) (x':=il e) (al (n:=21) rfl) rfl rfl) (al (n:=27) rfl)) (sn3 (ch _) (ch _) hd) hm (tG (al3 (ch _) (ch _) hd))) (iA (o:=.eq) (x:=il w) (ie (x:=.ag 0) (x':=.ae [il w,il H]) (al (n:=218) rfl) (ir (i:=0)) rfl rfl) (ie (x:=.ag 0) (x':=.ae [il w,il H]) (d:=il H) (al (n:=218) rfl) (ir (i:=1)) rfl rfl) (cr (ch _)) (cr (ch _)) (tm w H)) rfl rfl (zW _ _)) ?_;simp
 exact i21 _ _ (gR (i5 kZ (NX _) rfl) rfl (ad (kX (x:=.tup [il g,il e]) (y:=.none) (l:=[il g,il e]) (jz (ev2 (al rfl) (al rfl)) (Nr rfl)) gY rfl L) (gN S rfl)))
end
section
variable{n:Nat}
theorem CV(X:List (List Int)):eqA (X.map λx=>il x) (X.map λx=>il x)=Nm:=by induction X with|nil=>exact yQ []|cons x X a=>refine rG Ny (rG rN (rG a (rG vv (rG (oh _ _) ?_))));simp
theorem t9(X:List (List Int)):shalL 63 (X.map λx=>il x)=Nm:=by induction X with|nil=>rfl|cons x X a=>show(shalL 62 (x.map .int)&&shalL 63 (X.map λx=>il x))=Nm;refine rG a (rG (jn _ _) ?_);rfl
theorem E6(X:List (List Int)):pB .eq (.ae (X.map λx=>il x)) (.ae (X.map λx=>il x))=Nk Nm:=(uM (t9 X) (t9 X)).trans (congrArg Nk (CV X))
theorem sC(X:List (List Int)):(D.ae (X.map λx=>il x)).plain=Nm:=by show D.ax _=Nm;induction X with|nil=>rfl|cons a r b=>simp only[Ny,kK,kJ,ch,b,Ox]
theorem sD{b k:D}(hb:b.plain=Nm)(hd:k.plain=Nm){t e:List Int}(g:Bool)(i:Int->List Int){w:Bool}(hf:(OP n).F 205 [b,il t,jJ (bs Nm g)]=Nk (il e,Nm))(A:∀c∈e,(OP n).F 215 [b,.int c,jJ (bs Nl g)]=Nk (il (i c),Nm))(hp:(OP n).F 125 [il e,k,.bool g]=Nk (.ae ((e.map i).map λx=>il x),w))(J:e.length<900):(OP (n+1)).F 222 [b,k,il t,.bool g]=Nk (.bool Nm,Nl):=by
 let E:Loc:=[(195,b),(27,k),(40,il t),(89,.bool g)];let z:Loc:=[(195,b),(27,k),(40,il t),(89,.bool g),(210,il e)];let v:Loc:=[(195,b),(27,k),(40,il t),(89,.bool g),(210,il e),(221,.ae ((e.map i).map λx=>il x))];have q:∀(f:Bool)(m:Loc)(s:am),m.get 89=Nk (.bool g)->ev tab (OP n) (.ite (.ab 89) (.tup (.cons (.str 90) (.cons (.str (if f then 92 else 94)) (.cons (.str 93) .nil)))) (.tup (.cons (.str (if f then 92 else 94)) (.cons (.str 93) .nil)))) m s=Nk (jJ (bs f g),s):=λf m s h=>by induction g using Nw;induction f using Nw;exact nV (al h) rfl (jz (ev2 j7 j7) (Nr rfl));exact nV (al h) rfl (jz (ev2 j7 j7) (Nr rfl));induction f using Nw;exact m6 (al h) rfl (jz (ev3 j7 j7 j7) (Nr rfl));exact m6 (al h) rfl (jz (ev3 j7 j7 j7) (Nr rfl))
 have o:=ja (step:=compTurn (OP n) (.call Nl 215 (.cons (.ab 195) (.cons (.ab 6) (.cons (.ite (.ab 89) (.tup (.cons (.str 90) (.cons (.str 94) (.cons (.str 93) .nil)))) (.tup (.cons (.str 94) (.cons (.str 93) .nil)))) .nil)))) [6] [195,89] Nm Nl .none z) (st:=[]) (l:=e.map .int) (λd=>match d with|.int c=>Nk (il (i c))|_=>Nq) (λd p=>by refine w12 (Nx.mp p) λc B H=>?_;subst H;exact FH (m':=[(195,b),(89,.bool g),(6,.int c)]) rfl (gQ (ds:=[b,.int c,jJ (bs Nl g)]) (ev3 (al rfl) (al rfl) (q Nl _ _ rfl)) (sn3 hb rfl (iG _)) (A c B)));have j:=ja (step:=compTurn (OP n) (.list Nl (.ab 80)) [80] [] Nm Nl .none v) (st:=[]) (l:=(e.map i).map λx=>il x) (λd=>Nk d) (λd p=>by refine w12 (Nx.mp p) λx K I=>?_;subst I;exact FH (m':=[(80,il x)]) rfl (jQ (x:=il x) (x':=il x) (al rfl) rfl rfl));refine lP (fn:=jI) (m:=E) (fl:=.ret (.bool Nm)) (m':=v) (st:=[]) rfl rfl ?_ rfl rfl;delta jI;dsimp only;have G:((e.map i).map λx=>il x).length<=cap:=by rw[Nu,Nu];exact lW (by lia)
 refine gR (d:=il e) (m₁:=z) (gQ (ds:=[b,il t,jJ (bs Nm g)]) (ev3 (al rfl) (al rfl) (q Nm _ _ rfl)) (sn3 hb (ch _) (iG _)) hf) rfl (gR (d:=.ae ((e.map i).map λx=>il x)) (m₁:=v) (aa:=[]) (lv (x:=il e) (y:=.none) (l:=e.map .int) (aa:=[]) (al rfl) gY rfl (by rw[Nu];exact lW (by lia)) ?_) rfl (gN (d:=.bool Nm) (aa:=[]) (iA (x:=.ae ((e.map i).map λx=>il x)) (x':=.ae ((e.map i).map λx=>il x)) (aa:=[]) (lv (x:=.ae ((e.map i).map λx=>il x)) (y:=.none) (l:=(e.map i).map λx=>il x) (aa:=[]) (ah:=[]) ?_ gY rfl G ?_) (al rfl) (cr (sC _)) (cr (sC _)) (E6 _)) rfl));refine o.trans ?_;have u:∀x:List Int,(x.map D.int).filterMap (λd=>match d with|D.int c=>Nk (il (i c))|_=>Nq)=(x.map i).map λx=>il x:=λx=>by induction x with|nil=>rfl|cons a r C=>simp only[Ny,Oy,C]
 rw[u];induction w using Nw;exact iO (ds:=[il e,k,.bool g]) (ev3 (jQ (x:=il e) (x':=il e) (al rfl) rfl rfl) (al rfl) (al rfl)) (sn3 (ch _) hd rfl) hp (tG (al3 (ch _) hd rfl));exact gQ (ds:=[il e,k,.bool g]) (ev3 (jQ (x:=il e) (x':=il e) (al rfl) rfl rfl) (al rfl) (al rfl)) (sn3 (ch _) hd rfl) hp;refine j.trans ?_;rw[List.filterMap_some]
end
noncomputable def ju:List (Int×Int):=[(230,220),(230,230),(220,230),(1,202)]
noncomputable def gV(a:Int->List Int)(cs:List Int):List (Int×List Int):=cs.filterMap λc=>if a c=[c]then Nq else Nk (c,a c)
noncomputable abbrev uU(tl:List (Int×List Int)):List (Int×D):=tl.map λp=>(p.1,it p.2)
structure eJ(b:Bk)(mp:Int->List Int)(M0 M1:List (Nat×RM))(ac:Int->Int)(dm:Dm)(cf:Cf)(lc uc:On)(di:Int->Bool):Prop where
 bx:Bx (oj b) ac dm cf lc uc di
 dO:∀c∈ce,(OP 13).F 211 [gM (oj b),.int c]=Nk (il (mp c),Nl)
 fH:kB [] (oj b)=Nk M0
 fz:M0.length<100
 bC:jR 98 M0 (uU (gV mp ce))=Nk M1
 keys:kh (oj b)=Nm
 fp:∀p∈oj b,kh p.2=Nm
 pl:∀p∈oj b,∀q∈p.2,q.2.plain=Nm
 cnt:∀p q r,oj b=p++q::r->∀M',kB [] p=Nk M'->M'.length+q.2.length<1000
 fM:∀c∈ce,(jh Nl dm c).length<=2
 texts:∀one other,(∀c∈one,c∈ce)->one.length<=4->(other=one.map (oE lc uc)\/other=iS Nl ac dm one\/(other.length<=4/\∀c∈other,c∈ce))->(OP 13).F 220 [gM (oj b),bd (msD M1),.ap (j9 (gV mp ce)),il one,il other]=Nk (.bool Nm,Nl)
 ident:∀c∈ce,(OP 13).F 112 [.int c,bd (msD M1)]=Nk (it (mp c),Nl)
 fI:∀one tu,(∀c∈one,c∈ce)->one.length<=4->(OP 13).F 222 [gM (oj b),bd (msD M1),il one,.bool tu]=Nk (.bool Nm,Nl)
theorem mG(a:Int->List Int)(p:List Int)(c:Int):gV a (p++[c])=if a c=[c]then gV a p else gV a p++[(c,a c)]:=by unfold gV;refine rG RB (rG Oy (rG Sb ?_));split<;>rename_i h;split at h;rename_i b;exact rG (if_pos b) (rG (OY _) rfl);exact sN h;split at h;exact nS h;rename_i b;(refine sI h λd=>?_;subst d);exact rG (if_neg b) rfl
theorem Af{j:Int->List Int}{p:List Int}{c:Int}(h:¬c∈p):∀q∈j9 (gV j p),q.1≠Key.i c:=λq f e=>by
 refine hid λl g=>?_;obtain⟨x,a,rfl⟩:=Nx.mp f;refine g ?_;unfold gV at a;rw[QO]at a;obtain⟨d,b,a⟩:=a;split at a;exact nS a;(refine sI a λk=>?_;subst k);injection e with e
 exact h (e▸b)
theorem Dj{a:Int->List Int}{p:List Int}{c:Int}(h:¬c∈p)(x:List Int):jv (j9 (gV a p)) (.i c) (it x)=j9 (gV a p++[(c,x)]):=by refine rG (pE (Af h)) ?_;simp
theorem m7:ce.Nodup:=by decide
theorem o5(a:Int->List Int):∀{cs:List Int}{c:Int},c∈cs->cs.Nodup->(gL (gV a cs) c).getD [c]=a c
 |[],_,h,_=>iM h|d::cs,c,h,nd=>by
  rw[NZ]at nd;have b:∀{cs:List Int},¬c∈cs->gL (gV a cs) c=Nq:=λ{cs}j=>by cases e:gL (gV a cs) c with|none=>rfl|some x=>have:=lZ e;unfold gV at this;rw[QO]at this;obtain⟨y,k,f⟩:=this;split at f;exact nS f;(refine spI f λl m=>?_;subst l;subst m);exact absurd k j
  by_cases g:a d=[d];have e:gV a (d::cs)=gV a cs:=by unfold gV;refine rG Oy ?_;simp[g]
  refine rG e ?_;rcases Nz.mp h with rfl|h
  refine rG (b nd.1) (rG g ?_);rfl;exact o5 a h nd.2;have e:gV a (d::cs)=(d,a d)::gV a cs:=by unfold gV;refine rG Oy ?_;simp[g]
  refine rG e ?_;rcases Nz.mp h with rfl|h
  simp[iw,iv,iu];have i:¬c=d:=λq=>nd.1 (q▸h);simp only[iw,iv,iu,if_neg i];exact o5 a h nd.2
theorem Ag(a:Int->List Int)(cs:List Int):(gV a cs).length<=cs.length:=TG _ _
theorem yW{v:Nat}(g:v<4):∃a b,(a,b)∈ju/\∀{O:aN}{m:Loc}{st st':am}{e:E},ev tab O e m st=Nk (.int v,st')->ev tab O (.aj (.glob 224) e) m st=Nk (.tup [.int a,.int b],st'):=by
 have:∃a b,(a,b)∈ju/\pU (.tup [.tup [.int 230,.int 220],.tup [.int 230,.int 230],.tup [.int 220,.int 230],.tup [.int 1,.int 202]]) (.int v)=Nk (.tup [.int a,.int b]):=by
  induction v using NY with|zero=>exact i22 230 220 (by decide) rfl|succ v=>
  induction v using NY with|zero=>exact i22 230 230 (by decide) rfl|succ v=>
  induction v using NY with|zero=>exact i22 220 230 (by decide) rfl|succ v=>
  induction v using NY with|zero=>exact i22 1 202 (by decide) rfl|succ v=>exact absurd g (Pa.mpr (S9 4 v))
 refine w22 this λa b c d=>?_;exact i22 a b c (λf=>ie (zN rfl) f rfl d)
theorem L0(H:∀k<64,∀w∈ju,∃mp M0 M1 ac dm cf lc uc di,eJ (tC k w.1 w.2) mp M0 M1 ac dm cf lc uc di)(script:List Int)(hs:script.length<=63):(OP 14).F 226 [il script]=Nk (.bool Nm,Nl):=by
 obtain⟨cs,ecs⟩:∃cs,cs=(script.take 24).map λx=>OQ x 2305843009213693951:=⟨_,rfl⟩;let st0:am:=[.ae [il cs,.int 0,.int 90001]];have W0:lr 0 st0 0:=⟨cs,0,90001,rfl,N4 _,by decide,by decide,by rw[ecs];simp;lia⟩;have hcomp:=ja (step:=compTurn (OP 13) (.bin .mod (.ab 4) (.int 2305843009213693951)) [4] [] Nm Nl .none [(225,il script)]) (st:=[]) (l:=(script.take 24).map .int) (λd=>match d with|.int x=>Nk (.int (OQ x 2305843009213693951))|_=>Nq) (λd hd=>by refine w12 (Nx.mp hd) λx _ z1=>?_;subst z1;exact FH (m':=[(4,.int x)]) rfl (kG (x:=.int x) (x':=.int x) (al rfl) ir rfl rfl (ve rfl (by decide))));have w1:ev tab (OP 13) (.ae Nm (.cons (.comp Nl (.bin .mod (.ab 4) (.int 2305843009213693951)) [4] [] Nm .plain (.bG Nl (.ab 225) (.int 24)) .none Nl .none) (.cons (.int 0) (.cons (.int 90001) .nil)))) [(225,il script)] []=Nk (.ag 0,st0):=by
  refine i5 (l:=[il cs,.int 0,.int 90001]) (aa:=[]) (ke (aa:=[]) (lv (x:=il (script.take 24)) (y:=.none) (l:=(script.take 24).map .int) (aa:=[]) (CX (x:=il script) (x':=il script) (j:=.ofNat 24) (d:=il (script.take 24)) (al rfl) ir rfl ?_ rfl) gY rfl (by rw[Nu];exact lW (by simp;lia)) ?_) (ev2 ir ir)) (Nr rfl) rfl;rw[uS (by decide),<-R4];refine hcomp.trans ?_;have gen:∀x:List Int,(x.map D.int).filterMap (λd=>match d with|D.int x=>Nk (D.int (OQ x 2305843009213693951))|_=>Nq)=(x.map λx=>OQ x 2305843009213693951).map D.int:=λx=>by induction x with|nil=>rfl|cons a r ih=>simp only[Ny,Oy,ih]
  rw[gen,<-ecs]
 refine hid λG9 k9=>?_;refine w25 (uH 12 W0 (by decide) (sz:=64) (by decide) (by decide)) λk st1 q1 hk W1 _ l1=>?_;refine w25 (uH 12 W1 (by decide) (sz:=4) (by decide) (by decide)) λkc st2 q2 hkc W2 _ l2=>?_;refine w22 (yW hkc) λc1 c2 hcl hitem=>?_;obtain⟨mp,M0,M1,ac,dm,cf,lc,uc,di,X⟩:=H k hk (c1,c2) hcl;refine k9 ?_;generalize eb:tC k (c1,c2).1 (c1,c2).2=b at X;have BF:(OP 13).F 194 [.int k,.tup [.int c1,.int c2]]=Nk (gM (oj b),Nl):=by rw[<-eb];exact La 12 c1 c2 hk
 have hbp:=X.bx.hp;let mB (r:Loc):Loc:=[(225,il script),(181,.ag 0)]++r;have w2:ev tab (OP 13) (.call Nl 194 (.cons (.aC 184 (.cons (.ab 181) (.cons (.int 64) .nil))) (.cons (.aj (.glob 224) (.aC 184 (.cons (.ab 181) (.cons (.int 4) .nil)))) .nil))) (mB []) st0=Nk (gM (oj b),st2):=iO (ds:=[.int k,.tup [.int c1,.int c2]]) (ev2 (nU (ds:=[.ag 0,.int 64]) (aa:=st0) (ev2 (al rfl) ir) q1) (hitem (nU (ds:=[.ag 0,.int 4]) (aa:=st1) (ev2 (al rfl) ir) q2))) (sn2 rfl rfl) BF rfl;refine w26 (wK 12 (m:=mB [(195,gM (oj b))]) rfl W2 (by decide)) λone st3 q3 hone honec W3 _ l3=>?_;have hl3:st3.length=1:=by rw[l3,l2,l1];rfl
 refine w65 (AD 9 (st:=st3) (outs:=[0]) (by simp) (λj hj=>by rw[NC]at hj;lia) X.fH X.keys X.fp X.pl X.cnt) λst4 a kk k1 k2 ms q4 DA hms o4 l4=>?_;have W4:lr 0 st4 12:=by refine w32 W3 λx1 x2 x3 x4 x5=>?_;exact i32 x1 x2 x3 (by rw[o4 0 (by simp)];exact x4) x5
 obtain⟨td,etd⟩:∃td,td=st4.length:=⟨_,rfl⟩;have htd:0<td:=by lia
 let m5 (r:Loc):Loc:=[(225,il script),(181,.ag 0),(195,gM (oj b)),(20,il one),(27,.ag a),(24,.ag td)]++r;have D5:aI [0,td] (st4++[.ap []]) a kk k1 k2 ms:=DA.other (λj c _ h=>mR h) (by simp;lia) (λj hj=>by
  simp only[Nz,Ow,or_false]at hj;rcases hj with rfl|rfl
  left;simp;right;lia) (λj hj=>by
  simp only[Nz,Ow,or_false]at hj;rw[NG,Ov];rcases hj with rfl|rfl<;>omega)
 have W5:lr 0 (st4++[.ap []]) 12:=by refine hid λG9 k9=>?_;refine w32 W4 λx1 x2 x3 x4 x5=>?_;refine k9 ?_;exact i32 x1 x2 x3 (mR x4) x5
 have L:=jF (xs:=[6]) (single:=Nm) (f:=D.int) (body:=exs tab (OP 13) (.cons (.assign (.name 223) (.call Nl 211 (.cons (.ab 195) (.cons (.ab 6) .nil)))) (.cons (.ite (.cmp .ne (.ab 223) (.ae Nl (.cons (.ab 6) .nil))) (.cons (.assign (.aj (.ab 24) (.ab 6)) (.tuple (.ab 223))) (.cons (.expr (.ba (.ab 27) 113 (.cons (.str 98) (.cons (.ab 6) (.cons (.ab 6) (.cons (.aj (.ab 24) (.ab 6)) .nil)))))) .nil)) .nil) .nil))) (λpre m st=>∃r ms',m=m5 r/\lr 0 st 12/\st[td]? =Nk (.ap (j9 (gV mp pre)))/\aI [0,td] st a kk k1 k2 ms'/\jR 98 M0 (uU (gV mp pre))=Nk (jC ms')/\ms'.length<=M0.length+pre.length) ce [] (m5 []) (st4++[.ap []]) ⟨[],ms,rfl,W5,by rw[etd];simp[gV],D5,by rw[hms];rfl,by rw[<-hms];simp[jC]⟩ ?_;refine w22 L λm' st6 q6 L=>?_;refine w26 L λr ms' z2 W6 ht6 D6 hput hlen=>?_;subst z2;rw[NO]at ht6 hput;have hM:jC ms'=M1:=NE (hput.symm.trans X.bC);have hsd:=si D6;rw[hM]at hsd;have hst:tQ st6 (.ag td)=Nk (.ap (j9 (gV mp ce))):=jK ht6 (oF _);have hdp:(bd (msD M1)).plain=Nm:=by rw[<-hM];exact gK (BP D6.pl)
 have fl2:(one.flatMap (jh Nl dm)).length<30:=by
  have:∀t:List Int,(∀c∈t,c∈ce)->(t.flatMap (jh Nl dm)).length<=2*t.length:=λt=>by induction t with|nil=>intro _;simp|cons c t ih=>intro h;have:=ih λd hd=>h d (.tail _ hd);have h2:=X.fM c (h c (.head _));rw[O7,NG,NU];lia
  have:=this one honec;lia
 refine w25 (yw (n:=11) X.bx honec hone fl2 W6 (by decide)) λother st7 q7 hother W7 o7 l7=>?_;have ndD:=Oj.mp D6.nd;have k7:∀j c,j≠0->st6[j]? =Nk c->st7[j]? =Nk c:=λj c hj h=>by rw[o7 j hj,h]
 have D7:aI [0,td] st7 a kk k1 k2 ms':=D6.other (λj c hj h=>k7 j c (λe=>hj (by rw[e];simp)) h) (by simp;lia) (λj hj=>.inl hj) (λj hj=>by rw[l7];exact D6.lo j hj);have ht7:st7[td]? =Nk (.ap (j9 (gV mp ce))):=k7 _ _ (by lia) ht6;let m8 (r:Loc):Loc:=m5 r;obtain⟨r7,er7⟩:∃y,y=Loc.set r 21 (il other):=⟨_,rfl⟩;have l21:∀s,ev tab (OP 13) (.ab 21) (m5 r7) s=Nk (il other,s):=λs=>al (gs6 (by subst er7;exact an _ _ _) rfl);have hsd7:=si D7;rw[hM]at hsd7;have hst7:tQ st7 (.ag td)=Nk (.ap (j9 (gV mp ce))):=jK ht7 (oF _);have c1:ev tab (OP 13) (.not (.call Nl 220 (.cons (.ab 195) (.cons (.ab 27) (.cons (.ab 24) (.cons (.ab 20) (.cons (.ab 21) .nil))))))) (m5 r7) st7=Nk (.bool Nl,st7):=by have:=AN (iO (ag:=Nl) (f:=220) (ds:=[gM (oj b),.ag a,.ag td,il one,il other]) (ev5 (al (m:=m5 r7) (n:=195) (st:=st7) rfl) (al (n:=27) rfl) (al (n:=24) rfl) (al (n:=20) rfl) (l21 _)) (gW (cr hbp) (gW hsd7 (gW hst7 (sn2 (ch _) (ch _))))) (X.texts one other honec hone hother) (by rw[show(D.bool Nm).flat=Nm from rfl,Qi]));exact this
 refine w25 (wM 12 (m:=m5 r7) rfl W7 (by decide)) λc st8 q8 hc W8 o8 l8=>?_;refine w25 (uH 12 W8 (by decide) (sz:=2) (by decide) (by decide)) λtv st9 q9 htv W9 o9 l9=>?_;have k9:∀j c,j≠0->st7[j]? =Nk c->st9[j]? =Nk c:=λj c hj h=>by rw[o9 j hj,o8 j hj,h]
 have D9:aI [0,td] st9 a kk k1 k2 ms':=D7.other (λj c hj h=>k9 j c (λe=>hj (by rw[e];simp)) h) (by simp;lia) (λj hj=>.inl hj) (λj hj=>by rw[l9,l8];exact D7.lo j hj);have ht9:st9[td]? =Nk (.ap (j9 (gV mp ce))):=k9 _ _ (by lia) ht7;have hsd9:=si D9;rw[hM]at hsd9;obtain⟨tu,etu⟩:∃tu:Bool,((tv:Int)==1)=tu:=⟨_,rfl⟩;obtain⟨r9,er9⟩:∃y,y=(Loc.set r7 6 (.int c)).set 89 (.bool tu):=⟨_,rfl⟩;have s9:ex tab (OP 13) (.assign (.names [6,89]) (.tup (.cons (.aj (.glob 214) (.aC 184 (.cons (.ab 181) (.cons (.int 19) .nil)))) (.cons (.cmp .eq (.aC 184 (.cons (.ab 181) (.cons (.int 2) .nil))) (.int 1)) .nil)))) (m5 r7) st7=Nk (.next,m5 r9,st9):=by refine km (d:=.tup [.int c,.bool tu]) (x:=.tup [.int c,.bool tu]) (jz (ev2 q8 (iA (x:=.int tv) (x':=.int tv) (nU (ds:=[.ag 0,.int 2]) (aa:=st8) (ev2 (al rfl) ir) q9) ir rfl rfl ?_)) (Nr rfl)) rfl (by rw[er9];rfl);rw[<-etu];rfl
 obtain⟨r10,er10⟩:∃y,y=Loc.set r9 32 (it (mp c)):=⟨_,rfl⟩;have l6:∀s,ev tab (OP 13) (.ab 6) (m5 r9) s=Nk (.int c,s):=λs=>al (gs6 (by subst er9;exact ig rfl) rfl);have l6':∀s,ev tab (OP 13) (.ab 6) (m5 r10) s=Nk (.int c,s):=λs=>al (gs6 (by subst er10;show Loc.get (Loc.set r9 32 _) 6=_;rw[gI _ _ _ _ rfl];subst er9;exact ig rfl) rfl);have l89':∀s,ev tab (OP 13) (.ab 89) (m5 r10) s=Nk (.bool tu,s):=λs=>al (gs6 (by subst er10;show Loc.get (Loc.set r9 32 _) 89=_;rw[gI _ _ _ _ rfl];subst er9;exact an _ _ _) rfl);have l32:∀s,ev tab (OP 13) (.ab 32) (m5 r10) s=Nk (it (mp c),s):=λs=>al (gs6 (by subst er10;exact an _ _ _) rfl);have s10:ex tab (OP 13) (.assign (.name 32) (.call Nl 112 (.cons (.ab 6) (.cons (.ab 27) .nil)))) (m5 r9) st9=Nk (.next,m5 r10,st9):=iD (iO (ds:=[.int c,.ag a]) (ev2 (l6 _) (al rfl)) (gW (cr rfl) (gW hsd9 pa)) (X.ident c hc) (by
   have:(it (mp c)).flat=Nm:=by show((mp c).map D.int).all D.scalar=Nm;simp[u5,u4,u3,u2]
   rw[this,Qi])) (by rw[er10];rfl)
 have c2:ev tab (OP 13) (.cmp .ne (.ite (.bq Nm (.ab 32)) (.list Nl (.ab 32)) (.ae Nl (.cons (.ab 6) .nil))) (.list Nl (.aH (.ab 24) (.ab 6) (.tup (.cons (.ab 6) .nil))))) (m5 r10) st9=Nk (.bool Nl,st9):=by
  have g:ev tab (OP 13) (.aH (.ab 24) (.ab 6) (.tup (.cons (.ab 6) .nil))) (m5 r10) st9=Nk (it (mp c),st9):=by refine wJ (x:=.ag td) (x':=.ap (j9 (gV mp ce))) (y:=.int c) (z:=it [c]) (aa:=st9) (ah:=st9) (al rfl) (by delta sU;rw[gO ht9];rfl) (l6' _) (jz (ev1 (l6' _)) (Nr rfl)) (gO ht9) ?_;simp only[vp,CL,r8];have:=o5 mp hc m7;cases h:gL (gV mp ce) c with|none=>rw[h]at this;rw[<-this];rfl|some x=>rw[h]at this;rw[<-this];rfl
  have:=iA (o:=.ne) (m6 (c:=(Nm !=Nl)) (kn (b:=Nl) (n:=Nm) (x:=it (mp c)) (l32 st9) rfl) rfl (jQ (x:=it (mp c)) (x':=it (mp c)) (l:=(mp c).map .int) (l32 st9) rfl rfl) (b:=.ae Nl (.cons (.ab 6) .nil))) (jQ (x:=it (mp c)) (x':=it (mp c)) (l:=(mp c).map .int) g rfl rfl) (cr (ch _)) (cr (ch _)) (mM (mp c) (mp c));rw[this];simp
 have fin:ev tab (OP 13) (.call Nm 222 (.cons (.ab 195) (.cons (.ab 27) (.cons (.ab 20) (.cons (.ab 89) .nil))))) (m5 r10) st9=Nk (.bool Nm,st9):=iO (ds:=[gM (oj b),.ag a,il one,.bool tu]) (ev4 (al rfl) (al rfl) (al rfl) (l89' _)) (gW (cr hbp) (gW hsd9 (sn2 (ch _) rfl))) (X.fI one tu honec hone) (by rw[show(D.bool Nm).flat=Nm from rfl,Qi]);have s6:ex tab (OP 13) (.assign (.name 21) (.aC 217 (.cons (.ab 181) (.cons (.ab 195) (.cons (.ab 20) .nil))))) (m5 r) st6=Nk (.next,m5 r7,st7):=iD (nU (ds:=[.ag 0,gM (oj b),il one]) (aa:=st6) (ev3 (al rfl) (al rfl) (al rfl)) q7) (by rw[er7];rfl);suffices ∃m' st,exs tab (OP 13) IM.body [(225,il script)] []=Nk (.ret (.bool Nm),m',st)by refine w21 this λm' st q=>?_;exact lP rfl rfl q rfl rfl
 delta IM;dsimp only;exact i21 _ _ (gR w1 rfl (gR w2 rfl (gR q3 rfl (gR (m₁:=[(225,il script),(181,.ag 0),(195,gM (oj b)),(20,il one),(27,.ag a)]) (nU (ds:=[gM (oj b)]) (aa:=st3) (ev1 (al rfl)) q4) rfl (gR (m₁:=m5 []) (px uu (by rw[etd])) rfl (ad (kX (x:=.tup (ce.map .int)) (y:=.none) (l:=ce.map .int) yU gY rfl q6) (ad s6 (jl c1 rfl (ad s9 (ad s10 (jl c2 rfl (gN fin rfl))))))))))));rintro pre c q m st hsp ⟨r,ms',rfl,W,ht,D,hput,hlen⟩;rw[NO]at hsp;have hc:c∈ce:=by rw[hsp];simp
 have hn:¬c∈pre:=λh=>by have:=m7;rw[hsp]at this;exact(Oj.mp this).2.2 c h c (by simp) rfl
 have hpre:pre.length<19:=by have:=congrArg PG hsp;rw[NG,NU,show ce.length=19 from rfl]at this;lia
 obtain⟨r1,er1⟩:∃y,y=(Loc.set r 6 (.int c)).set 223 (il (mp c)):=⟨_,rfl⟩;have l6:∀s,ev tab (OP 13) (.ab 6) (m5 r1) s=Nk (.int c,s):=λs=>al (gs6 (by subst er1;exact ig rfl) rfl);have l223:∀s,ev tab (OP 13) (.ab 223) (m5 r1) s=Nk (il (mp c),s):=λs=>al (gs6 (by subst er1;exact an _ _ _) rfl);have s1:ex tab (OP 13) (.assign (.name 223) (.call Nl 211 (.cons (.ab 195) (.cons (.ab 6) .nil)))) (m5 (Loc.set r 6 (.int c))) st=Nk (.next,m5 r1,st):=iD (iO (ds:=[gM (oj b),.int c]) (ev2 (al rfl) (al (gs6 (an _ _ _) rfl))) (sn2 hbp rfl) (X.dO c hc) (tG (al2 hbp rfl))) (by rw[er1];rfl);have test:ev tab (OP 13) (.cmp .ne (.ab 223) (.ae Nl (.cons (.ab 6) .nil))) (m5 r1) st=Nk (.bool (!decide (mp c=[c])),st):=iA (y:=il [c]) (l223 _) (lM (ev1 (l6 _)) (Nr rfl)) (cr (ch _)) (cr (ch [c])) (mM _ _);by_cases hm:mp c=[c];exact⟨_,m5 r1,st,rfl,.inl (ad s1 (jl test (by simp[hm]) (gl rfl))),r1,ms',rfl,W,by rw[mG,if_pos hm,ht],D,by rw[mG,if_pos hm,hput],by rw[NG,Ov];lia⟩;have htl:=(Nv.mp ht).1;obtain⟨st1,e1⟩:∃y,y=st.set td (.ap (j9 (gV mp (pre++[c])))):=⟨_,rfl⟩;have ht1:st1[td]? =Nk (.ap (j9 (gV mp (pre++[c])))):=by rw[e1,NJ htl]
 have D1:aI [0,td] st1 a kk k1 k2 ms':=D.other (λj c hj h=>by rw[e1,NM (λz=>hj (by rw[<-z];simp)),h]) (by simp;lia) (λj hj=>.inl hj) (λj hj=>by rw[e1,OX];exact D.lo j hj);have hput2:∃rr,ub ((gL (jC ms') 98).getD ([0],[oC 98])) c (it (mp c))=Nk rr/\jR 98 M0 (uU (gV mp (pre++[c])))=Nk (jv (jC ms') 98 rr):=by
  have hall:=X.bC;rw[hsp,show pre++c::q=(pre++[c])++q by simp]at hall;have e2:uU (gV mp ((pre++[c])++q))=uU (gV mp pre)++(c,it (mp c))::uU (gV mp q):=by unfold gV;rw[RB,RB,Oy,Sb];simp[hm]
  rw[e2]at hall;refine hid λG9 k9=>?_;refine w23 (nJ hall) λN1 N2 f1 f2 f3=>?_;have:N1=jC ms':=NE (f1.symm.trans hput);subst this;rw[Ol]at f2;refine w12 f2 λrr hrr z3=>?_;subst z3;refine k9 ?_;refine i12 rr hrr ?_;rw[mG,if_neg hm];rw[show uU (gV mp pre++[(c,mp c)])=uU (gV mp pre)++[(c,it (mp c))]by simp];exact f3
 refine w12 hput2 λrr hrr hput3=>?_;have hfew:=X.fz;refine w26 (uJ 10 D1 (by lia) 98 (kf (mp c)) hrr) λst2 ms2 q2 D2 _ o2 e2 n2=>?_;refine⟨_,m5 r1,st2,rfl,.inl (ad s1 (jc test (by simp[hm]) (ad (aa:=st1) (m₁:=m5 r1) (vK (i:=td) (es:=j9 (gV mp pre)) (kk:=.i c) (y:=.int c) (d:=it (mp c)) (aa:=st) (ah:=st) (au:=st) (yR (x:=il (mp c)) (x':=il (mp c)) (l223 _) rfl rfl) (al rfl) (l6 _) ht rfl (AT (by have:=Ag mp pre;simp only[j9,Nu];lia)) ?_) (ad (mm (d:=.none) (tn (x:=.ag a) (c:=196) (g:=175) (ds:=[.str 98,.int c,.int c,it (mp c)]) (aa:=st1) (ah:=st1) (fs:=[(173,.ap gJ),(172,.ag kk),(171,.ag k1),(170,.ag k2)]) (al rfl) (gO D1.obj) rfl rfl (ev4 j7 (l6 _) (l6 _) (ie (x:=.ag td) (x':=.ap (j9 (gV mp (pre++[c])))) (y:=.int c) (d:=it (mp c)) (al rfl) (l6 _) (gO ht1) ?_)) q2)) (gl rfl))) (gl rfl))),r1,ms2,rfl,?_,by rw[o2 td (by simp),ht1],D2,by rw[hput3,e2],by rw[NG,Ov];lia⟩;rw[Dj hn,e1,mG,if_neg hm];simp only[kQ,op,r8];have:=o5 mp (cs:=pre++[c]) (c:=c) (by simp) (by have:=m7;rw[hsp,show pre++c::q=(pre++[c])++q by simp]at this;exact(Oj.mp this).1);cases h:gL (gV mp (pre++[c])) c with|none=>rw[h]at this;exact absurd this.symm hm|some x=>rw[h]at this;rw[<-this];rfl
 refine w31 W λx1 x2 x3 L=>?_;obtain⟨x4,x5⟩:=L;exact i32 x1 x2 x3 (by rw[o2 0 (by simp),e1,NM (by lia)];exact x4) x5
noncomputable def ow(ac:Int->Int)(x:Int):List Int->List Int|[]=>[x]|y::r=>if ac y>ac x/\ac x>0 then y::ow ac x r else x::y::r
theorem Kx{ac:Int->Int}{x:Int}:ow ac x []=[x]:=rfl
theorem lD{ac:Int->Int}{x y:Int}{r:List Int}:ow ac x (y::r)=if ac y>ac x/\ac x>0 then y::ow ac x r else x::y::r:=rfl
noncomputable def wT(ac:Int->Int)(b:List Int)(t:List Int):List Int:=t.foldl (λa x=>ow ac x a) b
theorem wx{ac:Int->Int}{a b:Int}(h:ac a>ac b)(hb:ac b>0):∀L:List Int,ow ac b (ow ac a L)=ow ac a (ow ac b L)
 |[]=>by simp only[Kx,lD];rw[if_pos ⟨h,hb⟩,if_neg (λq=>by have:=q.1;lia)]|y::r=>by
  by_cases c:ac y>ac a;have d:ow ac a (y::r)=y::ow ac a r:=by rw[lD,if_pos ⟨c,by lia⟩]
  rw[d,(by rw[lD,if_pos ⟨by lia,hb⟩]:ow ac b (y::r)=y::ow ac b r),lD,if_pos ⟨by lia,hb⟩,lD,if_pos ⟨c,by lia⟩,wx h hb r];have d:ow ac a (y::r)=a::y::r:=by rw[lD,if_neg (λq=>c q.1)]
  rw[d,show ow ac b (a::y::r)=a::ow ac b (y::r)by rw[lD,if_pos ⟨h,hb⟩]];by_cases e:ac y>ac b;rw[show ow ac b (y::r)=y::ow ac b r by rw[lD,if_pos ⟨e,hb⟩],lD,if_neg (λq=>c q.1)];rw[show ow ac b (y::r)=b::y::r by rw[lD,if_neg (λq=>e q.1)],lD,if_neg (λq=>by have:=q.1;lia)]
theorem tz{ac:Int->Int}:∀(r:List Int)(a:Int)(c:List Int),wT ac c (iL ac a r).1=wT ac c (a::r)|[],_,_=>rfl|b::r,a,c=>by refine rG kO ?_;split;rename_i h;show wT ac (ow ac b c) (iL ac a r).1=wT ac (ow ac b (ow ac a c)) r;refine rG (tz r a _) (rG (wx h.1 h.2 _) ?_);rfl;show wT ac (ow ac a c) (iL ac b r).1=wT ac (ow ac a c) (b::r);exact tz r b _
def Dp(ac:Int->Int):List Int->Prop|a::b::r=>¬(ac a>ac b/\ac b>0)/\Dp ac (b::r)|_=>True
theorem wb{ac:Int->Int}:∀(r:List Int)(a:Int),(iL ac a r).2=Nl->(iL ac a r).1=a::r/\Dp ac (a::r)|[],_,_=>⟨rfl,trivial⟩|b::r,a,h=>by rw[kO]at h⊢;split at h;exact tF h;rename_i c;refine rG (if_neg c) ?_;obtain⟨d,e⟩:=wb r b h;exact⟨by exact rG d rfl,c,e⟩
theorem uN{ac:Int->Int}:∀(t a:List Int),Dp ac t->(∀y r x s,a=y::r->t=x::s->¬(ac y>ac x/\ac x>0))->wT ac a t=t.reverse++a
 |[],a,_,_=>rfl|x::s,a,h,h2=>by
  have e:ow ac x a=x::a:=by induction a using NA with|nil=>rfl|cons y r=>exact rG lD (rG (if_neg (h2 y r x s rfl rfl)) rfl)
  show wT ac (ow ac x a) s=_;rw[e,uN s (x::a) (by induction s using NA with|nil=>trivial|cons z s=>exact h.2) (λy r z d b c=>by cases b;subst c;exact h.1)];simp
theorem v5{b:Type}{go:b->Option b}(a:b->Nat)(P:b->Prop)(h:∀x y,P x->go x=Nk y->a y<a x/\P y):∀n x,P x->a x<n->go (nt go n x)=Nq/\P (nt go n x)|0,_,_,c=>absurd c (Rz _)|n+1,x,d,c=>by refine rG u7 ?_;cases e:go x with|none=>exact⟨e,d⟩|some y=>obtain⟨g,f⟩:=h x y d e;exact v5 a P h n y f (by lia)
theorem AV(ac:Int->Int)(f:List Int):tA ac f=(wT ac [] f).reverse:=by
 have:=v5 (go:=tB ac) (yY ac) (λs:BS=>wT ac [] s.1=wT ac [] f/\(s.2=Nl->Dp ac s.1)) (λx y hx e=>by
  obtain⟨g,b⟩:=x;simp only[tB]at e;induction b using Nw with
  |false=>exact nS e|true=>
  simp only[if_true,Nk.injEq]at e;subst e;induction g using NA with
  |nil=>exact⟨by simp[yY,G6,G5,Cz,zG],hx.1,λ_=>trivial⟩|cons a g=>
  refine⟨?_,?_,λhm=>?_⟩;show(if(iL ac a g).2=Nm then ru ac (iL ac a g).1+1 else 0)<ru ac (a::g)+1;cases hm:(iL ac a g).2 with|true=>have:=(oa ac g a).2 hm;refine rG (if_pos rfl) ?_;lia|false=>refine rG (if_neg (by simp)) ?_;lia
  show wT ac [] (iL ac a g).1=_;refine rG (tz _ _ _) ?_;exact hx.1;obtain⟨h1,h2⟩:=wb g a hm;show Dp ac (iL ac a g).1;refine rG h1 ?_;exact h2) (ru ac f+2) (f,Nm) ⟨rfl,λh=>tF h⟩ (by simp only[yY,if_true];lia)
 obtain⟨h1,h2,h3⟩:=this;unfold tA;generalize nt (tB ac) (ru ac f+2) (f,Nm)=s at*;obtain⟨g,b⟩:=s;induction b using Nw with|true=>simp[tB]at h1|false=>simp only at h2 h3⊢;refine rL h2 (rG (uN g [] (h3 trivial) (λy r x s e=>nomatch e)) ?_);simp
abbrev uP(ac:Int->Int)(s:List Int):Prop:=s.Pairwise λa b=>ac a<=ac b
theorem sV{ac:Int->Int}{x:Int}:∀{s:List Int},uP ac s->uP ac (yD ac x s)
 |[],_=>OO _ _|y::r,h=>by
  have h:=O4.mp h;refine rG ux ?_;split;rename_i hlt;refine O4.mpr ⟨λz hz=>?_,O4.mpr h⟩;rcases Nz.mp hz with rfl|hz
  lia;have:=h.1 z hz;lia;rename_i hlt;refine O4.mpr ⟨λz hz=>?_,sV h.2⟩;rcases(vm ac x r z).mp hz with rfl|hz
  lia;exact h.1 z hz
theorem An(ac:Int->Int)(r:List Int)(x:Int):iI ac (r++[x])=yD ac x (iI ac r):=by simp only[iI,Pt,N5,QP]
theorem v0(ac:Int->Int)(r:List Int):uP ac (iI ac r):=by
 have:∀(r a:List Int),uP ac a->uP ac (r.foldl (λa x=>yD ac x a) a):=λr=>by induction r with|nil=>intro a h;exact h|cons x r b=>intro a h;exact b _ (sV h)
 exact this r [] VZ.nil
theorem wv{ac:Int->Int}{x:Int}(hx:ac x>0):∀{r g:List Int},(∀z∈r,ac z>ac x)->ow ac x (r++g)=r++ow ac x g|[],_,_=>rfl|y::r,g,h=>by refine rG P2 (rG lD (rG (if_pos ⟨h y (.head _),hx⟩) (rG (wv hx λz a=>h z (.tail _ a)) ?_)));rfl
theorem wu{ac:Int->Int}{x:Int}{g:List Int}(h:∀y r,g=y::r->¬ac y>ac x):ow ac x g=x::g:=by induction g using NA with|nil=>rfl|cons y r=>exact rG lD (rG (if_neg (λq=>h y r rfl q.1)) rfl)
theorem ww{ac:Int->Int}{x:Int}(hx:ac x>0):∀{s g:List Int},uP ac s->(∀y r,g=y::r->¬ac y>ac x)->ow ac x (s.reverse++g)=(yD ac x s).reverse++g
 |[],g,_,hg=>by refine rG List.reverse_nil (rG (NO _) (rG (wu hg) ?_));rfl|y::r,g,h,hg=>by
  have h:=O4.mp h;refine rG ux ?_;split;rename_i hlt;rw[wv hx (λz hz=>by
   rcases Nz.mp (SH.mp hz)with rfl|hz
   exact hlt;have:=h.1 z hz;omega),wu hg]
  simp;rename_i hlt;refine rG OU (rG (OJ _ _ _) (rG RA (rG (ww hx h.2 (λz r' e=>by cases e;omega)) ?_)));simp
theorem BY(ac:Int->Int){f:List Int}(l:∀c∈f,0<=ac c):pg ac f=(wT ac [] f).reverse:=by
 have i:∀(t:List Int)(s:List Int×List Int),(∀c∈t,0<=ac c)->(∀y r,s.1.reverse=y::r->ac y=0)->wT ac ((s.1++iI ac s.2).reverse) t=((t.foldl (λs c=>if ac c>0 then(s.1,s.2++[c])else(s.1++iI ac s.2++[c],[])) s).1++iI ac (t.foldl (λs c=>if ac c>0 then(s.1,s.2++[c])else(s.1++iI ac s.2++[c],[])) s).2).reverse:=λt=>by
  induction t with
  |nil=>intro s _ _;rfl|cons c t k=>
  intro s b j;rw[N5];show wT ac (ow ac c (s.1++iI ac s.2).reverse) t=_;by_cases a:ac c>0;rw[if_pos a,<-k (s.1,s.2++[c]) (λd g=>b d (.tail _ g)) j];congr 1;rw[RY,ww a (v0 ac s.2) (λy r e=>by rw[j y r e];lia),An,RY];rw[if_neg a,<-k (s.1++iI ac s.2++[c],[]) (λd g=>b d (.tail _ g)) (λy r e=>by rw[RY]at e;cases e;have:=b c (.head _);lia)];congr 1;have:ow ac c (s.1++iI ac s.2).reverse=c::(s.1++iI ac s.2).reverse:=by cases h:(s.1++iI ac s.2).reverse with|nil=>rfl|cons y r=>rw[lD,if_neg (λq=>a q.2)]
  rw[this];simp[iI]
 rw[lR];rw[show wT ac [] f=wT ac ((([]:List Int)++iI ac []).reverse) f from rfl,(i f ([],[]) l (λy r e=>nomatch e)),Uw];rfl
theorem tE{k:Bool}{ac:Int->Int}{a:Dm}{t:List Int}(h:∀c,0<=ac c):iS k ac a t=oU k ac a t:=by rw[iS,oU,AV,BY ac λc _=>h c]
theorem mU{ac:Int->Int}{f g:List Int}:∀{n:Nat},n<=f.length->jg ac (f++g) n=jg ac f n|0,_=>rfl|n+1,h=>by rw[lu,lu,NK (by lia),mU (n:=n) (by lia)]
theorem mT{ac:Int->Int}{f:List Int}:∀{n k:Nat},jg ac f n=Nk k->k<n/\ac ((f[k]?).getD 0)=0/\∀j,k<j->j<n->ac ((f[j]?).getD 0)≠0|0,_,h=>by exact nS h|n+1,k,h=>by rw[lu]at h;split at h;rename_i a;(refine sI h λi=>?_;subst i);exact⟨P3 _,a,λj d b=>by lia⟩;rename_i a;refine w03 (mT h) λd b e=>?_;refine⟨by lia,b,λj c l=>?_⟩;by_cases g:j=n;subst g;exact a;exact e j c (by lia)
theorem uC{ac:Int->Int}{f:List Int}{k:Nat}{x:Int}(hx:ac x=0)(b:ac ((f[k]?).getD 0)=0)(a:k<f.length):∀{n:Nat},jg ac (f.set k x) n=jg ac f n|0=>rfl|n+1=>by refine rG lu (rG lu (rG (uC hx b a) ?_));by_cases h:n=k;subst h;refine rG (NJ a) ?_;simp only[UX,hx,b];exact rG (NM (O9 h)) rfl
theorem wi(b:Int):∀(l:List Int)(a:Int),vf a (l++[b])=if b>vf a l then b else vf a l|[],a=>rfl|c::l,a=>by rw[P2,zs,zs,wi b l]
theorem zr:∀(l:List Int)(a:Int),0<a->0<vf a l|[],_,h=>h|c::l,a,h=>by rw[zs];apply zr;split<;>omega
structure CI(ac:Int->Int)(s:CS):Prop where
 st:s.2.1=jg ac s.1 s.1.length
 mo:∀k,s.2.1=Nk k->s.2.2=if(s.1.drop (k+1))=[]then-1 else wh ((s.1.drop (k+1)).map ac)
theorem drop_nil{f:List Int}{k:Nat}(h:k<f.length):f.drop (k+1)=[]↔k+1=f.length:=by rw[RL];lia
theorem vB{ac:Int->Int}{P:Int->Int->Option Int}{R:DmR}(D:∀c,0<=ac c)(hz:∀a b x,P a b=Nk x->ac x=0)(o:∀a b,a∈ce->b∈ce->P a b=jy R a b)(r:∀a b x,P a b=Nk x->x∈ce):∀(rest:List Int)(s:CS)(N:Nat),CI ac s->0<s.1.length->rest.length<N->(∀c∈s.1,c∈ce)->(∀c∈rest,c∈ce)->(nt (pM ac R) N (s.1++rest,s.1.length)).1=(rest.foldl (pJ ac P) s).1
 |[],s,N,_,_,O,_,_=>by obtain⟨N,rfl⟩:∃x,N=x+1:=⟨N-1,by lia⟩;rw[u7,(by simp[pM]:pM ac R (s.1++[],s.1.length)=Nq)];simp
 |c::rest,s,N,I,hs,O,hsc,hrc=>by
  rw[NU]at O;obtain⟨N,rfl⟩:∃x,N=x+1:=⟨N-1,by lia⟩;obtain⟨f,j,m⟩:=s;have Q:c∈ce:=hrc c (.head _);have g:j =jg ac f f.length:=I.st;have t:=I.mo;simp only at hs hsc t;have K:mI ac R (f++c::rest) f.length=lb ac P (f,j,m) c:=by
   unfold mI lb;rw[(by rw[mU (N4 _),g]:jg ac (f++c::rest) f.length=j),(by simp:((f++c::rest)[f.length]?).getD 0=c)];cases j with
   |none=>rfl|some k=>
   refine w03 (mT g.symm) λu G F=>?_;simp only;rw[(by simp[btw]:btw ac (f++c::rest) k f.length=(f.drop (k+1)).map ac),(by rw[NK u]:((f++c::rest)[k]?).getD 0=(f[k]?).getD 0),o _ _ (hsc _ (by rw[NQ u];exact PA _):(f[k]?).getD 0∈ce) Q];have B:=t k rfl;by_cases e:f.drop (k+1)=[];have z:=(drop_nil u).mp e;rw[if_neg (λq=>q.1 (by rw[e];rfl)),if_pos (.inl z)];have z:¬k+1=f.length:=λq=>e ((drop_nil u).mpr q);rw[if_neg e]at B;have S:0<wh ((f.drop (k+1)).map ac):=by
    cases hdd:f.drop (k+1)with
    |nil=>exact absurd hdd e|cons d C=>
    refine zr _ _ ?_;have:(f[k+1]?).getD 0=d:=by have:=congrArg (λl:List Int=>l[0]?) hdd;simp only[UY,List.getElem?_cons_zero,Nat.add_zero]at this;rw[this];rfl
    have V:=F (k+1) (by lia) (by lia);rw[this]at V;have:=D d;lia
   by_cases A:m<ac c;rw[if_neg (λq=>by rcases q.2 with h|h<;>omega),if_pos (.inr A)];rw[if_pos ⟨by simpa using e,.inr (by lia)⟩,if_neg (λq=>q.elim z A)]
  rw[N5];have L:pM ac R (f++c::rest,f.length)=Nk (match lb ac P (f,j,m) c with|none=>(f++c::rest,f.length+1)|some (a,x)=>(((f++c::rest).set a x).eraseIdx f.length,f.length)):=by unfold pM;simp only;rw[if_pos (by simp),K];cases lb ac P (f,j,m) c<;>rfl
  rw[u7];simp only[L];unfold pJ;cases n:lb ac P (f,j,m) c with
  |some p=>
   obtain⟨a,x⟩:=p;simp only;unfold lb at n;cases j with
   |none=>exact nS n|some k=>
   refine w03 (mT g.symm) λu G F=>?_;simp only at n;split at n;rw[Ol]at n;refine w12 n λy T n=>?_;simp only[QR]at n;obtain⟨rfl,rfl⟩:=n;have U:((f++c::rest).set k y).eraseIdx f.length=f.set k y++rest:=by rw[Ps _ _ u,List.eraseIdx_append_of_length_le (by simp)];simp
   rw[U];have:=vB D hz o r rest (f.set k y,Nk k,m) N ⟨by
    show Nk k=jg ac (f.set k y) (f.set k y).length;rw[OX,uC (hz _ _ _ T) G u];exact g,λw i=>by
    (refine sI i λM=>?_;subst M);show m=if(f.set k y).drop (k+1)=[]then-1 else wh (((f.set k y).drop (k+1)).map ac)
    rw[List.drop_set_of_lt (by lia)];exact t k rfl⟩ (by simpa using hs) (by lia) (λd e=>by
    rcases Po e with h|rfl
    exact hsc d h;exact r _ _ _ T) (λd e=>hrc d (.tail _ e))
   simp only[OX]at this;exact this;exact nS n
  |none=>
  simp only;have H:jg ac (f++[c]) (f.length+1)=if ac c=0 then Nk f.length else jg ac f f.length:=by rw[lu,show((f++[c])[f.length]?).getD 0=c by simp,mU (N4 _)]
  have v:∀d∈f++[c],d∈ce:=λd e=>by
   rcases NW.mp e with h|h
   exact hsc d h;rw[NC]at h;subst h;exact Q
  rw[(by simp:f++c::rest=(f++[c])++rest),show f.length+1=(f++[c]).length by simp];by_cases A:ac c=0;rw[if_pos A];refine vB D hz o r rest (f++[c],Nk f.length,-1) N ⟨?_,λw i=>?_⟩ (by simp) (by lia) v (λd e=>hrc d (.tail _ e));show Nk f.length=jg ac (f++[c]) (f++[c]).length;rw[NG,Ov,H,if_pos A];(refine sI i λM=>?_;subst M);show(-1:Int)=if(f++[c]).drop (f.length+1)=[]then-1 else _
  rw[if_pos (by rw[RL];simp)];rw[if_neg A];refine vB D hz o r rest (f++[c],j,if ac c>m then ac c else m) N ⟨?_,λw i=>?_⟩ (by simp) (by lia) v (λd e=>hrc d (.tail _ e));show j =jg ac (f++[c]) (f++[c]).length;rw[NG,Ov,H,if_neg A];exact g;have E:j =Nk w:=i;subst E;refine w03 (mT g.symm) λu _ _=>?_;show(if ac c>m then ac c else m)=if(f++[c]).drop (w+1)=[]then-1 else wh (((f++[c]).drop (w+1)).map ac)
  have J:¬(f++[c]).drop (w+1)=[]:=by rw[RL];simp;lia
  rw[if_neg J,List.drop_append_of_le_length (by lia)];have B:=t w rfl;have W:=D c;cases e:f.drop (w+1)with|nil=>rw[if_pos e]at B;rw[B,if_pos (by lia)];rfl|cons d C=>rw[if_neg (by rw[e];simp),e]at B;rw[B];show(if ac c>vf (ac d) (C.map ac)then ac c else vf (ac d) (C.map ac))=vf (ac d) ((C++[c]).map ac);rw[Pq];exact(wi (ac c) (C.map ac) (ac d)).symm
theorem vR{ac:Int->Int}{P:Int->Int->Option Int}{R:DmR}(m:∀c,0<=ac c)(hz:∀a b x,P a b=Nk x->ac x=0)(h:∀a b,a∈ce->b∈ce->P a b=jy R a b)(i:∀a b x,P a b=Nk x->x∈ce){t:List Int}(l:∀c∈t,c∈ce):iK ac R t=Jo ac P t:=by
 induction t using NA with
 |nil=>rfl|cons c t=>
 unfold iK Jo;have e:pJ ac P ([],Nq,-1) c=([c],if ac c=0 then Nk 0 else Nq,if ac c=0 then-1 else if ac c> -1 then ac c else-1):=by unfold pJ lb;simp only;split<;>rfl
 refine rG N5 (rG e ?_);refine vB m hz h i t ([c],if ac c=0 then Nk 0 else Nq,if ac c=0 then-1 else if ac c> -1 then ac c else-1) ((c::t).length+1) ⟨?_,λk n=>?_⟩ (by simp) (by refine rG NU ?_;lia) (λd g=>l d (by simp only[NC]at g;subst g;exact .head _)) (λd g=>l d (.tail _ g));show(if ac c=0 then Nk 0 else Nq)=jg ac [c] 1;rfl;have f:(if ac c=0 then Nk 0 else Nq)=Nk k:=n;split at f;rename_i j;(refine sI f λo=>?_;subst o);show(if ac c=0 then(-1:Int)else _)=if[c].drop (0+1)=[]then-1 else _
 refine rG (if_pos j) ?_;rfl;exact nS f
noncomputable def bb2{a:Type _}(f:Bool->a):a×a:=(f Nl,f Nm)
theorem iX{a:Type _}{f g:Bool->a}(x:Bool)(h:bb2 f=bb2 g):f x=g x:=by induction x using Nw;exact congrArg VM h;exact congrArg Prod.snd h
theorem LZ{a b:Type _}{f g:a->b}{l:List a}(h:l.map f=l.map g){x:a}(hx:x∈l):f x=g x:=Vf.mp h x hx
noncomputable def cfA(a b:Bool):List (Int×List (Nat×List Int)):=(65,[(93,[97])])::(75,[(93,[107])])::(90,[(93,[122])])::(73,[(93,[105]),(90,[305])])::(304,[(92,[105,769]),(90,[105])])::(8490,[(93,[107])])::(453,[(93,[122])])::(223,[(92,if b then[97,769]else[97,107])])::(if a then[(193,[(93,[225])])]else[])
noncomputable def lcA:List (Int×Int):=[(65,97),(75,107),(90,122),(73,105),(304,105),(193,225),(8490,107),(453,122)]
noncomputable def ucA:List (Int×Int):=[(97,65),(107,75),(122,90),(105,73),(305,73),(225,193),(453,90)]
noncomputable def dmA(a b c:Bool):DmR:=(13189,193,if c then[75,173,73]else[75,122])::((if a then[(193,25,[65,769]),(225,25,[97,769])]else[])++(if b then[(8490,25,[75])]else[]))
noncomputable abbrev lQ(a b:Bool):Cf:=λc=>gL (cfA a b) c
noncomputable abbrev A5:On:=λc=>gL lcA c
noncomputable abbrev A0:On:=λc=>gL ucA c
noncomputable abbrev mj(a b d:Bool):Dm:=λc=>gL (dmA a b d) c
noncomputable def IT(a:Bool)(c:Int):Bool:=a&&decide (c=173)
noncomputable def jL(a b c:Int):Int:=if c=769 then a else if c=803 then b else 0
noncomputable def A3(a:Bool):mC:=if a then[([65,769],193),([97,769],225)]else[]
theorem pC{b c a:Int}(h:0<jL b c a):(a=769/\jL b c a=b)\/(a=803/\jL b c a=c):=by unfold jL at h⊢;by_cases q:a=769;rw[if_pos q];exact .inl ⟨q,rfl⟩;rw[if_neg q]at h⊢;by_cases r:a=803;rw[if_pos r];exact .inr ⟨r,rfl⟩;rw[if_neg r]at h;exact absurd h (by decide)
theorem Gi(g i:Int):Two (jL g i):=by
 by_cases e:g=i;subst e;exact .inl λa b d f=>by rcases pC d with⟨_,h⟩|⟨_,h⟩<;>rcases pC f with⟨_,c⟩|⟨_,c⟩<;>exact h.trans c.symm
 exact .inr λa b d f q=>by
  rcases pC d with⟨x,h⟩|⟨x,h⟩<;>rcases pC f with⟨y,c⟩|⟨y,c⟩
  exact x.trans y.symm;exact absurd (h.symm.trans (q.trans c)) e;exact absurd (c.symm.trans (q.symm.trans h)) e;exact x.trans y.symm
noncomputable abbrev AX(b:Bk):List Int->List Int:=oH (jL b.w1 b.w2) (mj b.x0 b.x2 b.x5) (A3 b.x0) (lQ b.x1 b.x4) (IT b.x3)
noncomputable def mpF(b:Bk)(c:Int):List Int:=if c=65 then[97]else if c=75 then[107]else if c=90 then[122]else if c=73 then[105]else if c=304 then[105,769]else if c=8490 then[107]else if c=453 then[122]else
 if c=193 then(if b.x1 then[225]else[193])else if c=223 then(if b.x4 then(if b.x0 then[225]else[97,769])else[97,107])else
 if c=13189 then(if b.x5 then(if b.x3 then[107,105]else[107,173,105])else[107,122])else if c=173 then(if b.x3 then[]else[173])else[c]
noncomputable def bks:List Bk:=(Qr 64).flatMap λk=>ju.map λw=>tC k w.1 w.2
noncomputable def uo(step:List Int->List Int)(ok:List Int->Bool):Nat->List Int->Option (List Int)|0,k=>if ok k then Nk k else Nq|r+1,k=>if ok k then(if step k=k then Nk k else uo step ok r (step k))else Nq
theorem zz{step:List Int->List Int}{ok:List Int->Bool}{k:List Int}:uo step ok 0 k=if ok k then Nk k else Nq:=rfl
theorem zy{step:List Int->List Int}{ok:List Int->Bool}{k:List Int}{r:Nat}:uo step ok (r+1) k=if ok k then(if step k=k then Nk k else uo step ok r (step k))else Nq:=rfl
theorem sP{step:List Int->List Int}{ok:List Int->Bool}:∀{r:Nat}{k x:List Int},uo step ok r k=Nk x->lS step ok r k=Nm/\mt step r k=x|0,k,x,h=>by simp only[zz,zy]at h;split at h;rename_i b;(refine sI h λc=>?_;subst c);exact⟨b,rfl⟩;exact nS h|r+1,k,x,h=>by simp only[zz,zy]at h;split at h;rename_i b;simp only[po,pk,vh,vg,b,Pg];split at h;rename_i a;(refine sI h λc=>?_;subst c);rw[if_pos a,if_pos a];exact⟨rfl,rfl⟩;rename_i a;rw[if_neg a,if_neg a];exact sP h;exact nS h
noncomputable abbrev EC(a:Dm)(cf:Cf)(k:List Int):Bool:=decide (k.length<20/\(k.flatMap (em [92,93] cf)).length<20/\((k.flatMap (em [92,93] cf)).flatMap (jh Nm a)).length<30)
theorem Kf:(bks.all λb=>ce.all λc=>decide (uo (AX b) (EC (mj b.x0 b.x2 b.x5) (lQ b.x1 b.x4)) 8 [c]=Nk (mpF b c)))=Nm:=by decide+kernel
noncomputable def LC(nm:Nat)(es:List (Int×D)):Option RM:=es.foldlM (λr e=>ub r e.1 e.2) ([0],[oC nm])
noncomputable def rmG(nm:Nat)(es:List (Int×D)):RM:=(LC nm es).getD ([],[])
noncomputable def vn(r:RM)(c:Int):Option D:=if place r.1 c=0 then Nq else r.2[place r.1 c-1]?
noncomputable def nc(nm:Nat)(es:List (Int×D)):Bool:=(LC nm es).isSome&&Ka (rmG nm es)&&decide ((rmG nm es).1.length=(rmG nm es).2.length)&&decide (0<(rmG nm es).2.length)&& !es.isEmpty
theorem KY(a b:Bool):cfE a b=(cfA a b).map λp=>(p.1,cfD p.2):=by apply iX b;apply iX a;kernel_rfl
theorem C0(a b c:Bool):dmE a b c=vM (dmA a b c):=by apply iX c;apply iX b;apply iX a;kernel_rfl
theorem Kn:lcE=lcA.map λp=>(p.1,.int p.2):=rfl
theorem JK:ucE=ucA.map λp=>(p.1,.int p.2):=rfl
theorem vE(a b:Bool):nc 87 (cfE a b)=Nm:=by apply iX b;apply iX a;kernel_rfl
theorem KW(a b:Bool):ce.map (vn (rmG 87 (cfE a b)))=ce.map λc=>Nk (cfV (lQ a b c)):=by apply iX b;apply iX a;kernel_rfl
theorem yv:nc 107 lcE=Nm:=by kernel_rfl
theorem Km:ce.map (vn (rmG 107 lcE))=ce.map λc=>Nk (onV (A5 c)):=by kernel_rfl
theorem ye:nc 108 ucE=Nm:=by kernel_rfl
theorem JJ:ce.map (vn (rmG 108 ucE))=ce.map λc=>Nk (onV (A0 c)):=by kernel_rfl
theorem vA(a b c:Bool):nc 29 (dmE a b c)=Nm:=by apply iX c;apply iX b;apply iX a;kernel_rfl
theorem KQ(a b d:Bool):ce.map (vn (rmG 29 (dmE a b d)))=ce.map λc=>Nk (dmV (mj a b d c)):=by apply iX d;apply iX b;apply iX a;kernel_rfl
theorem CM:nc 167 gcE=Nm:=by kernel_rfl
theorem yV:nc 111 (diE Nm)=Nm:=by kernel_rfl
theorem KR:ce.map (vn (rmG 111 (diE Nm)))=ce.map λc=>Nk (.bool (IT Nm c)):=by kernel_rfl
noncomputable abbrev ccE(w:Int×Int):List (Int×D):=[(769,.int w.1),(803,.int w.2)]
theorem vG:∀w∈ju,nc 42 (ccE w)=Nm:=by intro w a;apply LZ (l:=ju) (hx:=a);kernel_rfl
theorem KZ:∀w∈ju,ce.map (vn (rmG 42 (ccE w)))=ce.map λc=>Nk (.int (jL w.1 w.2 c)):=by intro w a;apply LZ (l:=ju) (hx:=a);kernel_rfl
noncomputable abbrev tlE(b:Bk):List (Int×D):=uU (gV (mpF b) ce)
noncomputable abbrev nfF(b:Bk):Nf:=wY (gV (mpF b) ce)
theorem ys(b:Bk):nc 98 (tlE b)=Nm:=by obtain⟨a,c,i,d,e,f,g,h⟩:=b;apply iX f;apply iX e;apply iX d;apply iX c;apply iX a;kernel_rfl
theorem Kc(b:Bk):ce.map (vn (rmG 98 (tlE b)))=ce.map λc=>Nk (A4 (nfF b c)):=by obtain⟨a,d,j,e,f,g,h,i⟩:=b;apply iX g;apply iX f;apply iX e;apply iX d;apply iX a;kernel_rfl
noncomputable def uI(a b c:Bool):List t0:=(if a then[(193,25,[65,769]),(225,25,[97,769])]else[])++((if b then[(8490,25,[75])]else[])++[(13189,193,if c then[75,173,73]else[75,122])])
theorem IR(a b c:Bool):kz (oC 29) (rmG 29 (dmE a b c)).1 (rmG 29 (dmE a b c)).2=(uI a b c).map Fa:=by apply iX c;apply iX b;apply iX a;kernel_rfl
noncomputable def vj(nm:Nat)(es:List (Int×D)):Bool:=(rmG nm es).2.all λv=>(pq v (oC nm)).isSome
theorem IS(a b c:Bool):vj 29 (dmE a b c)=Nm:=by apply iX c;apply iX b;apply iX a;kernel_rfl
noncomputable def tt(a:Bool):List Int:=[65,73,75,90]++((if a then[193]else[])++[223,304,453,8490])
theorem I0(a b:Bool):kz (oC 87) (rmG 87 (cfE a b)).1 (rmG 87 (cfE a b)).2=(tt a).map λc=>(c,c,cfV (lQ a b c)):=by apply iX b;apply iX a;kernel_rfl
theorem I3(a b:Bool):vj 87 (cfE a b)=Nm:=by apply iX b;apply iX a;kernel_rfl
theorem Ff(a b c:Bool):∀w∈ju,nW (jL w.1 w.2) (uI a b c)=prD (A3 a):=by intro w d;apply LZ (l:=ju) (hx:=d);apply iX c;apply iX b;apply iX a;kernel_rfl
theorem k5{c d:Type}{f g:c->d}:∀{l:List c},l.map f=l.map g->∀a∈l,f a=g a
 |[],_,_,h=>iM h|b::l,e,a,h=>by
  rw[Ny,Ny,UB]at e;rcases Nz.mp h with rfl|h
  exact e.1;exact k5 e.2 a h
theorem lz{nm:Nat}{es:List (Int×D)}(h:nc nm es=Nm):LC nm es=Nk (rmG nm es)/\(rmG nm es).1.length<900/\(rmG nm es).2.length<900/\D.ax (rmG nm es).2=Nm/\(rmG nm es).1.length=(rmG nm es).2.length/\0<(rmG nm es).2.length/\es≠[]:=by simp only[nc,Ka,NI,decide_eq_true_eq]at h;refine hid λm l=>?_;obtain⟨⟨⟨⟨a,⟨c,d⟩,f⟩,g⟩,i⟩,j⟩:=h;refine l ?_;refine⟨?_,c,d,f,g,i,λe=>by subst e;simp at j⟩;obtain⟨r,k⟩:=Om.mp a;rw[rmG,k];rfl
theorem sB(nm:Nat):∀(es:List (Int×D))(M:List (Nat×RM))(a r:RM),gL M nm=Nq->es.foldlM (λr e=>ub r e.1 e.2) a=Nk r->jR nm (M++[(nm,a)]) es=Nk (M++[(nm,r)])
 |[],M,a,r,_,h=>by simp only[SO]at h;(refine sI h λk=>?_;subst k);rfl|e::es,M,a,r,hn,h=>by
  rw[Ph]at h;simp only[Pw,Og]at h;refine w12 h λc i j=>?_;have g:gL (M++[(nm,a)]) nm=Nk a:=by
   have:∀l:List (Nat×RM),gL l nm=Nq->gL (l++[(nm,a)]) nm=Nk a:=λl=>by induction l with|nil=>intro _;simp[iw,iv,iu]|cons p q d=>intro z;simp only[iw,iv,iu,P2]at z⊢;split at z;exact sN z;rename_i f;refine rG (if_neg f) ?_;exact d z
   exact this M hn
  have s:jv (M++[(nm,a)]) nm c=M++[(nm,c)]:=by
   have:∀l:List (Nat×RM),gL l nm=Nq->jv (l++[(nm,a)]) nm c=l++[(nm,c)]:=λl=>by induction l with|nil=>intro _;simp[j6,j5,j4]|cons p q d=>intro z;simp only[iw,iv,iu]at z;simp only[j6,j5,j4,P2];split at z;exact sN z;rename_i f;exact rG (if_neg f) (rG (d z) rfl)
   exact this M hn
  unfold jR;refine rG Ph (rG g (rG UX (rG i (rG (Ok _ _) (rG s ?_)))));exact sB nm es M c r hn j
theorem jx{nm:Nat}{es:List (Int×D)}{M:List (Nat×RM)}(c:gL M nm=Nq)(h:nc nm es=Nm):jR nm M es=Nk (M++[(nm,rmG nm es)]):=by refine w07 (lz h) λa _ _ _ _ _ d=>?_;induction es using NA with|nil=>exact absurd rfl d|cons e es=>unfold LC at a;rw[Ph]at a;simp only[Pw,Og]at a;refine w12 a λi f g=>?_;unfold jR;refine rG Ph (rG c (rG Option.getD_none (rG f (rG (Ok _ _) (rG (pE (pG c)) ?_)))));exact sB nm es M i _ c g
noncomputable abbrev diM(a:Bool):List (Nat×RM):=if a then[(111,rmG 111 (diE Nm))]else[]
noncomputable abbrev M0(b:Bk):List (Nat×RM):=(87,rmG 87 (cfE b.x1 b.x4))::(107,rmG 107 lcE)::(108,rmG 108 ucE)::(29,rmG 29 (dmE b.x0 b.x2 b.x5))::(167,rmG 167 gcE)::(diM b.x3++[(42,rmG 42 (ccE (b.w1,b.w2)))])
noncomputable abbrev M1(b:Bk):List (Nat×RM):=M0 b++[(98,rmG 98 (tlE b))]
theorem Ep(b:Bk)(hw:(b.w1,b.w2)∈ju):kB [] (oj b)=Nk (M0 b):=by
 have a:∀{M M' N:List (Nat×RM)}{p:Nat×List (Int×D)}{l:List (Nat×List (Int×D))},jR p.1 M p.2=Nk M'->kB M' l=Nk N->kB M (p::l)=Nk N:=λh i=>by unfold kB;refine rG Ph (rG h ?_);exact i
 obtain⟨c,d,e,j,f,g,w1,w2⟩:=b;refine a (jx rfl (vE d f)) (a (jx rfl yv) (a (jx rfl ye) (a (jx rfl (vA c e g)) (a (jx rfl CM) ?_))));induction j using Nw with|true=>exact a (jx rfl yV) (a (jx rfl (vG (w1,w2) hw)) rfl)|false=>exact a (M':=[(87,rmG 87 (cfE d f)),(107,rmG 107 lcE),(108,rmG 108 ucE),(29,rmG 29 (dmE c e g)),(167,rmG 167 gcE)]) rfl (a (jx rfl (vG (w1,w2) hw)) rfl)
theorem Jj(b:Bk):gL (M0 b) 98=Nq:=by obtain⟨c,d,e,a,f,g,w1,w2⟩:=b;apply iX a;kernel_rfl
theorem Eo(b:Bk):jR 98 (M0 b) (tlE b)=Nk (M1 b):=jx (Jj b) (ys b)
theorem kW(b:Bk)(hw:(b.w1,b.w2)∈ju):D.aq (msD (M1 b))=Nm:=by
 have a:∀{nm:Nat}{es:List (Int×D)},nc nm es=Nm->(rmD (oC nm) (rmG nm es).1 (rmG nm es).2).plain=Nm:=λh=>rF (my _) (lz h).2.2.2.1;have d:∀(M:List (Nat×RM)),(∀p∈M,(rmD (oC p.1) p.2.1 p.2.2).plain=Nm)->D.aq (msD M)=Nm:=λM=>by induction M with|nil=>intro _;rfl|cons p M f=>intro h;show(_&&_)=Nm;refine rG (h p (.head _)) (rG (Pg _) ?_);exact f λq e=>h q (.tail _ e)
 obtain⟨g,i,j,k,l,m,w1,w2⟩:=b;refine d _ λp c=>?_;simp only[M1,M0,NW,Nz,Ow,or_false]at c;rcases c with(rfl|rfl|rfl|rfl|rfl|c|rfl)|rfl
 exact a (vE i l);exact a yv;exact a ye;exact a (vA g j m);exact a CM;induction k using Nw with|true=>simp only[diM,if_true,NC]at c;subst c;exact a yV|false=>exact iM c
 exact a (vG (w1,w2) hw);exact a (ys _)
theorem rS{M:List (Nat×RM)}{k:Nat}:gL (msD M) (.s k)=(gL M k).map λr=>rmD (oC k) r.1 r.2:=by induction M with|nil=>rfl|cons p M a=>show gL ((Key.s p.1,rmD (oC p.1) p.2.1 p.2.2)::msD M) (.s k)=_;simp only[iw,iv,iu,Key.s.injEq];split;rename_i e;subst e;rfl;exact a
theorem sX{M:List (Nat×RM)}{k:Nat}{r:RM}(hp:D.aq (msD M)=Nm)(d:gL M k=Nk r)(e:r.1.length<900){c:Int}{v:D}(a:vn r c=Nk v):Get (msD M) k c v:=λn=>by unfold vn at a;split at a;exact nS a;rename_i f;exact Fd n hp (by refine rG rS (rG d ?_);rfl) e (by lia) a
theorem zK{M:List (Nat×RM)}{k:Nat}(hp:D.aq (msD M)=Nm)(a:gL M k=Nq){c:Int}{v:D}(d:gL gJ (.s k)=Nk v):Get (msD M) k c v:=λn=>rB n hp (by refine rG rS (rG a ?_);rfl) d
section
variable(b:Bk)(hw:(b.w1,b.w2)∈ju)
theorem Lk:gL (M1 b) 87=Nk (rmG 87 (cfE b.x1 b.x4)):=rfl
theorem Ln:gL (M1 b) 107=Nk (rmG 107 lcE):=rfl
theorem Lm:gL (M1 b) 108=Nk (rmG 108 ucE):=rfl
theorem Ll:gL (M1 b) 29=Nk (rmG 29 (dmE b.x0 b.x2 b.x5)):=rfl
theorem Mp:gL (M1 b) 42=Nk (rmG 42 (ccE (b.w1,b.w2))):=by obtain⟨c,d,e,a,f,g,w1,w2⟩:=b;apply iX a;kernel_rfl
theorem Mn:gL (M1 b) 98=Nk (rmG 98 (tlE b)):=by obtain⟨c,d,e,a,f,g,w1,w2⟩:=b;apply iX a;kernel_rfl
theorem Mo:gL (M1 b) 51=Nq:=by obtain⟨c,d,e,a,f,g,w1,w2⟩:=b;apply iX a;kernel_rfl
include hw
theorem g42:∀c∈ce,Get (msD (M1 b)) 42 c (.int (jL b.w1 b.w2 c)):=λc a=>sX (kW b hw) (Mp b) (lz (vG _ hw)).2.1 (k5 (KZ _ hw) c a)
theorem g29:∀c∈ce,Get (msD (M1 b)) 29 c (dmV (mj b.x0 b.x2 b.x5 c)):=λc a=>sX (kW b hw) (Ll b) (lz (vA _ _ _)).2.1 (k5 (KQ _ _ _) c a)
theorem g87:∀c∈ce,Get (msD (M1 b)) 87 c (cfV (lQ b.x1 b.x4 c)):=λc a=>sX (kW b hw) (Lk b) (lz (vE _ _)).2.1 (k5 (KW _ _) c a)
theorem M8:∀c∈ce,Get (msD (M1 b)) 107 c (onV (A5 c)):=λc a=>sX (kW b hw) (Ln b) (lz yv).2.1 (k5 Km c a)
theorem M7:∀c∈ce,Get (msD (M1 b)) 108 c (onV (A0 c)):=λc a=>sX (kW b hw) (Lm b) (lz ye).2.1 (k5 JJ c a)
theorem g98:∀c∈ce,Get (msD (M1 b)) 98 c (A4 (nfF b c)):=λc a=>sX (kW b hw) (Mn b) (lz (ys b)).2.1 (k5 (Kc b) c a)
theorem g51(c:Int):Get (msD (M1 b)) 51 c (.bool Nl):=zK (kW b hw) (Mo b) (by kernel_rfl)
theorem M6:∀c∈ce,Get (msD (M1 b)) 111 c (.bool (IT b.x3 c)):=λc d=>by have a:=kW b hw;obtain⟨f,g,h,e,i,j,w1,w2⟩:=b;induction e using Nw with|true=>exact sX a (r:=rmG 111 (diE Nm)) rfl (lz yV).2.1 (k5 KR c d)|false=>exact zK a rfl (by kernel_rfl)
end
theorem KP(x0 x2 x5:Bool):∀c∈ce,∀g l,mj x0 x2 x5 c=Nk (g,l)->l.length<4/\∀p∈l,p∈ce/\mj x0 x2 x5 p=Nq:=by
 have:(ce.all λc=>match mj x0 x2 x5 c with|none=>Nm|some (_,l)=>decide (l.length<4)&&l.all λp=>ce.contains p&&(mj x0 x2 x5 p).isNone)=Nm:=by apply iX x5;apply iX x2;apply iX x0;kernel_rfl
 intro c hc g l e;have h:=ND.mp this c hc;rw[e]at h;simp only[NI,decide_eq_true_eq,ND,Oh,QN]at h;exact h
theorem G2(d:Bool):∀a b x,Pof (A3 d) a b=Nk x->x∈ce/\(x=193\/x=225):=λa b x h=>by
 have c:=lZ h;induction d using Nw with
 |false=>exact iM c|true=>
 simp only[A3,if_true,Nz,Ow,or_false,QR]at c;rcases c with⟨_,rfl⟩|⟨_,rfl⟩
 exact⟨by decide,.inl rfl⟩;exact⟨by decide,.inr rfl⟩
theorem J5(x0 x2 x5:Bool):∀a b,a∈ce->b∈ce->Pof (A3 x0) a b=jy (dmA x0 x2 x5) a b:=by
 have:(ce.all λa=>ce.all λb=>decide (Pof (A3 x0) a b=jy (dmA x0 x2 x5) a b))=Nm:=by apply iX x5;apply iX x2;apply iX x0;kernel_rfl
 intro a b ha hb;exact of_decide_eq_true (ND.mp (ND.mp this a ha) b hb)
theorem yJ(x1 x4:Bool):∀c∈ce,∀d∈em [92,93] (lQ x1 x4) c,d∈ce:=by
 have:(ce.all λc=>(em [92,93] (lQ x1 x4) c).all λd=>ce.contains d)=Nm:=by apply iX x4;apply iX x1;kernel_rfl
 intro c hc d hd;exact Oh.mp (ND.mp (ND.mp this c hc) d hd)
theorem nL(x1 x4 t:Bool):∀c∈ce,(em (bs Nm t) (lQ x1 x4) c).length<=2/\∀d∈em (bs Nm t) (lQ x1 x4) c,d∈ce/\em (bs Nm t) (lQ x1 x4) d=[d]:=by
 have:(ce.all λc=>decide ((em (bs Nm t) (lQ x1 x4) c).length<=2)&&(em (bs Nm t) (lQ x1 x4) c).all λd=>ce.contains d&&decide (em (bs Nm t) (lQ x1 x4) d=[d]))=Nm:=by induction x1 using Nw<;>cases x4<;>cases t<;>decide+kernel
 intro c hc;have h:=ND.mp this c hc;simp only[NI,decide_eq_true_eq,ND,Oh]at h;exact h
theorem s0(x1 x4 t:Bool):∀c∈ce,(em (bs Nl t) (lQ x1 x4) c).length=1/\∀d∈em (bs Nl t) (lQ x1 x4) c,d∈ce:=by
 have:(ce.all λc=>decide ((em (bs Nl t) (lQ x1 x4) c).length=1)&&(em (bs Nl t) (lQ x1 x4) c).all λd=>ce.contains d)=Nm:=by induction x1 using Nw<;>cases x4<;>cases t<;>decide+kernel
 intro c hc;have h:=ND.mp this c hc;simp only[NI,decide_eq_true_eq,ND,Oh]at h;exact h
theorem uY{a b:List Int}(h:a.Perm b):kb a=kb b:=by
 have s:∀l:List Int,(kb l).Pairwise (· <= ·):=λl=>by exact(TP (le:=λa b:Int=>decide (a<=b)) (by intro a b c;simp;lia) (by intro a b;simp;lia) l).imp λh=>of_decide_eq_true h
 exact QJ (le:=(· <= ·)) (λa b _ _ d e=>Ta d e) (s a) (s b) (((RZ a _).trans h).trans (RZ b _).symm)
noncomputable def Lf(cf:Cf)(t:Bool)(T:Tp)(c:Int):List Int:=
 let g:=em (bs Nl t) cf c
 let f:=(gL T g).getD []
 let f:=if em (bs Nl t) cf (g.headD 0)=g/\¬g.headD 0∈f then f++[g.headD 0]else f
 if c∈f then f else f++[c]
theorem Fx(x1 x4 t:Bool):∀c∈ce,BU (lQ x1 x4) t (tt x1) c=pt (lQ x1 x4) (bs Nl t) c:=by
 have:(ce.all λc=>(Lf (lQ x1 x4) t ((tt x1).foldl (bC (lQ x1 x4) t) []) c).isPerm (ce.filter λe=>decide (em (bs Nl t) (lQ x1 x4) e=em (bs Nl t) (lQ x1 x4) c)))=Nm:=by induction x1 using Nw<;>cases x4<;>cases t<;>decide+kernel
 intro c hc
 exact uY (List.isPerm_iff.mp (ND.mp this c hc))
theorem Bh:∀c∈ce,tL A5 A0 c=oE A5 A0 c/\oE A5 A0 c∈ce:=by intro c a;have h:=ND.mp (by decide+kernel:(ce.all λc=>decide (tL A5 A0 c=oE A5 A0 c)&&ce.contains (oE A5 A0 c))=Nm) c a;simp only[NI,decide_eq_true_eq,Oh]at h;exact h
theorem Ke(b:Bk):∀c∈ce,(∀d∈mpF b c,d∈ce)/\((mpF b c).flatMap (jh Nl (mj b.x0 b.x2 b.x5))).length<=3/\(mpF b c).length<=3:=by
 obtain⟨x0,x1,x2,x3,x4,x5,w1,w2⟩:=b;have:(ce.all λc=>((mpF ⟨x0,x1,x2,x3,x4,x5,0,0⟩ c).all λd=>ce.contains d)&&decide (((mpF ⟨x0,x1,x2,x3,x4,x5,0,0⟩ c).flatMap (jh Nl (mj x0 x2 x5))).length<=3)&&decide ((mpF ⟨x0,x1,x2,x3,x4,x5,0,0⟩ c).length<=3))=Nm:=by apply iX x5;apply iX x4;apply iX x3;apply iX x2;apply iX x1;apply iX x0;kernel_rfl
 intro c hc;have h:=ND.mp this c hc;simp only[NI,decide_eq_true_eq,ND,Oh]at h;exact⟨h.1.1,h.1.2,h.2⟩
theorem yM(x0 x2 x5:Bool):∀c∈ce,(jh Nl (mj x0 x2 x5) c).length<=2/\∀d∈jh Nl (mj x0 x2 x5) c,d∈ce/\jh Nl (mj x0 x2 x5) d=[d]:=by
 have:(ce.all λc=>decide ((jh Nl (mj x0 x2 x5) c).length<=2)&&(jh Nl (mj x0 x2 x5) c).all λd=>ce.contains d&&decide (jh Nl (mj x0 x2 x5) d=[d]))=Nm:=by apply iX x5;apply iX x2;apply iX x0;kernel_rfl
 intro c hc;have h:=ND.mp this c hc;simp only[NI,decide_eq_true_eq,ND,Oh]at h;exact h
theorem vF{w:Int×Int}(hw:w∈ju)(c:Int):0<=jL w.1 w.2 c:=by simp only[ju,Nz,Ow,or_false]at hw;unfold jL;rcases hw with rfl|rfl|rfl|rfl<;>(simp only;split<;>first|decide|(split<;>decide))
theorem F0(b:Bk):∀c∈ce,lj (nfF b) c=mpF b c:=λc a=>by unfold lj nfF;exact o5 (mpF b) a m7
theorem pF{a c e:Type}[DecidableEq a](g:c->e)(l:List (a×c))(k:a):gL (l.map λp=>(p.1,g p.2)) k=(gL l k).map g:=by induction l with|nil=>rfl|cons p r d=>simp only[Ny,iw,iv,iu];split;rfl;exact d
theorem yZ(b:Bk):∀p∈oj b,(∀q∈p.2,q.2.plain=Nm)/\kh p.2=Nm:=by
 obtain⟨d,e,f,g,i,j,w1,w2⟩:=b;have a:∀l:List (Int×D),(l.all (λq=>q.2.plain)&&kh l)=Nm->(∀q∈l,q.2.plain=Nm)/\kh l=Nm:=λl h=>by rw[NI,ND]at h;exact h
 intro p c;simp only[oj,Nz,Ow,or_false]at c;rcases c with rfl|rfl|rfl|rfl|rfl|rfl|rfl
 exact a _ (by apply iX i;apply iX e;kernel_rfl);exact a _ (by kernel_rfl);exact a _ (by kernel_rfl);exact a _ (by apply iX j;apply iX f;apply iX d;kernel_rfl);exact a _ (by kernel_rfl);exact a _ (by apply iX g;kernel_rfl);exact a _ (by kernel_rfl)
theorem Dh(b:Bk):kh (oj b)=Nm:=by obtain⟨a,c,d,e,f,g,w1,w2⟩:=b;kernel_rfl
theorem p9(b:Bk):(gM (oj b)).plain=Nm:=by
 have:∀l:Bl,(∀p∈l,∀q∈p.2,q.2.plain=Nm)->D.aq (l.map λp=>(Key.s p.1,D.ap (uE p.2)))=Nm:=λl=>by
  induction l with
  |nil=>intro _;rfl|cons p l a=>
  intro h;have e:∀es:List (Int×D),(∀q∈es,q.2.plain=Nm)->D.aq (uE es)=Nm:=λes=>by induction es with|nil=>intro _;rfl|cons q es a=>intro h;show(_&&D.aq (uE es))=Nm;refine rG (h q (.head _)) (rG (a λz f=>h z (.tail _ f)) ?_);rfl
  show(D.aq (uE p.2)&&_)=Nm;refine rG (e _ (h p (.head _))) (rG (a λq d=>h q (.tail _ d)) ?_);rfl
 exact this (oj b) λp c=>(yZ b p c).1
noncomputable def tot(l:Bl):Nat:=(l.map λp=>p.2.length).sum
theorem ue(nm:Nat):∀(es:List (Int×D))(M M':List (Nat×RM)),jR nm M es=Nk M'->M'.length<=M.length+es.length|[],M,M',h=>by unfold jR at h;rw[SO]at h;(refine sI h λf=>?_;subst f);simp|e::es,M,M',h=>by unfold jR at h;rw[Ph]at h;simp only[Pw,Og]at h;refine hid λg d=>?_;obtain⟨N,a,c⟩:=h;rw[Ol]at a;obtain⟨r,_,rfl⟩:=a;refine d ?_;have:=ue nm es _ M' c;have:=rQ M nm r;refine rG NU ?_;lia
theorem sA:∀(l:Bl)(M M':List (Nat×RM)),kB M l=Nk M'->M'.length<=M.length+tot l
 |[],M,M',h=>by unfold kB at h;rw[SO]at h;(refine sI h λd=>?_;subst d);simp|p::l,M,M',h=>by
  unfold kB at h;rw[Ph]at h;simp only[Pw,Og]at h;refine w12 h λN a c=>?_;have:=ue _ _ _ _ a;have:=sA l N M' c;have e:tot (p::l)=p.2.length+tot l:=by simp[tot]
  lia
theorem Fk(b:Bk):tot (oj b)<=100:=by
 obtain⟨x0,x1,x2,x3,x4,x5,w1,w2⟩:=b;have:(tot (oj ⟨x0,x1,x2,x3,x4,x5,w1,w2⟩)).ble 100=Nm:=by apply iX x5;apply iX x4;apply iX x3;apply iX x2;apply iX x1;apply iX x0;kernel_rfl
 exact Nr this
theorem Fm(b:Bk):∀p q r,oj b=p++q::r->∀M',kB [] p=Nk M'->M'.length+q.2.length<1000:=λp q r h M' hM=>by
 have h1:=sA p [] M' hM;have h2:=Fk b;rw[h]at h2;have e:tot (p++q::r)=tot p+(q.2.length+tot r):=by simp[tot]
 rw[O8]at h1;lia
theorem K9(b:Bk):Bx (oj b) (jL b.w1 b.w2) (mj b.x0 b.x2 b.x5) (lQ b.x1 b.x4) A5 A0 (IT b.x3) where
 hp:=p9 b
 gi:=⟨_,rfl,λc _=>by refine rG (C0 _ _ _) ?_;exact pF (λp:Nat×List Int=>D.tup [.str p.1,it p.2]) _ c⟩
 eT:=⟨_,rfl,λc _=>by simp only[iw,iv,iu,jL];split;rfl;split<;>rfl⟩
 gm:=⟨_,rfl,λc _=>by refine rG (KY _ _) ?_;exact pF cfD _ c⟩
 gh:=⟨_,rfl,λc _=>by refine rG Kn ?_;exact pF D.int _ c⟩
 gf:=⟨_,rfl,λc _=>by refine rG JK ?_;exact pF D.int _ c⟩
 gj:=⟨_,rfl,λc _=>by cases h:b.x3 with|false=>rfl|true=>simp only[diE,IT,if_true,iw,iv,iu,Pg];split;rename_i e;simp[e];rename_i e;simp[e]⟩
 da:=KP _ _ _
section
variable(b:Bk)(hw:(b.w1,b.w2)∈ju)
theorem GU(x0 x2 x5:Bool):∀r∈uI x0 x2 x5,r.1∈ce/\∀p∈r.2.2,p∈ce:=by
 have:((uI x0 x2 x5).all λr=>ce.contains r.1&&r.2.2.all λp=>ce.contains p)=Nm:=by apply iX x5;apply iX x2;apply iX x0;kernel_rfl
 intro r hr;have h:=ND.mp this r hr;simp only[NI,ND,Oh]at h;exact h
theorem zh(a c d:Bool):0<(uI a c d).length/\(uI a c d).length<900:=by induction a using Nw<;>cases c<;>cases d<;>decide
theorem MS(x0 x2 x5:Bool):(∀r∈dmA x0 x2 x5,r.1∈ce)/\kh (vM (dmA x0 x2 x5))=Nm:=by
 have:((dmA x0 x2 x5).all λr=>ce.contains r.1)=Nm:=by apply iX x5;apply iX x2;apply iX x0;kernel_rfl
 refine⟨λr hr=>Oh.mp (ND.mp this r hr),?_⟩;apply iX x5;apply iX x2;apply iX x0;kernel_rfl
include hw
theorem Fe:Cx (msD (M1 b)) (jL b.w1 b.w2) (mj b.x0 b.x2 b.x5) (A3 b.x0) where
 hp:=kW b hw
 gc:=Gi _ _
 eR:=g42 b hw
 fL:=g29 b hw
 da:=KP _ _ _
 pairs:=λn=>by
  refine w07 (lz (vA b.x0 b.x2 b.x5)) λh1 h2 h3 h4 h5 h6 _=>?_;have hl:=IS b.x0 b.x2 b.x5;rw[vj,ND]at hl;have:=wP (n:=n) (kW b hw) (ac:=jL b.w1 b.w2) (by rw[rS,Ll];rfl) h5 h6 h3 hl (IR b.x0 b.x2 b.x5) (zh _ _ _).1 (zh _ _ _).2 λr hr=>by obtain⟨g1,g2⟩:=GU _ _ _ r hr;refine w03 (la g1) λl1 l2 _=>?_;exact i05 l1 l2 (g51 b hw _) (g42 b hw _ g1) (λp hp=>g42 b hw p (g2 p hp))
  rw[this,Ff b.x0 b.x2 b.x5 (b.w1,b.w2) hw]
 two:=by cases h:b.x0<;>decide
 fz:=by cases h:b.x0<;>decide
 eu:=λa c x h=>(G2 b.x0 a c x h).1
theorem yG(k:Bool){u:List Int}(d:∀c∈u,c∈ce):iK (jL b.w1 b.w2) (dmA b.x0 b.x2 b.x5) (iS k (jL b.w1 b.w2) (mj b.x0 b.x2 b.x5) u)=nfP k (jL b.w1 b.w2) (mj b.x0 b.x2 b.x5) (A3 b.x0) u:=by refine rG (tE λc=>vF hw c) ?_;exact vR (λc=>vF hw c) (λa c x h=>by rcases(G2 b.x0 a c x h).2 with rfl|rfl<;>rfl) (J5 _ _ _) (λa c x h=>(G2 b.x0 a c x h).1) ((Fe b hw).bX d k)
noncomputable abbrev Ks(b:Bk):List Int->List Int:=kC (jL b.w1 b.w2) (mj b.x0 b.x2 b.x5) (dmA b.x0 b.x2 b.x5) (lQ b.x1 b.x4) (IT b.x3)
theorem Gq{k:List Int}(h:∀c∈k,c∈ce):Ks b k=AX b k/\∀c∈AX b k,c∈ce:=by
 have e:∀c∈k.flatMap (em [92,93] (lQ b.x1 b.x4)),c∈ce:=λc a=>by refine w12 (OG.mp a) λd f g=>?_;exact yJ _ _ d (h d f) c g
 refine⟨?_,λc a=>(Fe b hw).eC e Nm c (Pp.mp a).1⟩;show UA _ (iK _ _ _)=UA _ (nfP _ _ _ _ _);rw[yG b hw Nm e]
omit hw in
theorem wj{c a:List Int->List Int}{ok:List Int->Bool}{Q:List Int->Prop}(h:∀k,Q k->c k=a k/\Q (a k)):∀(r:Nat)(k:List Int),Q k->lS c ok r k=lS a ok r k/\mt c r k=mt a r k|0,_,_=>⟨rfl,rfl⟩|r+1,k,d=>by obtain⟨e,q⟩:=h k d;obtain⟨f,g⟩:=wj h r (a k) q;simp only[po,pk,vh,vg];refine rG e (rG f (rG g ?_));exact⟨rfl,rfl⟩
omit hw in
theorem zx{s:List Int->List Int}{ok ok':List Int->Bool}(h:∀k,ok k=Nm->ok' k=Nm):∀(r:Nat)(k:List Int),lS s ok r k=Nm->lS s ok' r k=Nm|0,k,a=>h k a|r+1,k,a=>by simp only[po,pk,NI]at a⊢;refine⟨h k a.1,?_⟩;have c:=a.2;split at c;rename_i e;exact rG (if_pos e) rfl;rename_i e;refine rG (if_neg e) ?_;exact zx h r _ c
omit hw in
theorem Ld{k:Nat}(a:k<64){w:Int×Int}(hw:w∈ju):tC k w.1 w.2∈bks:=by unfold bks;rw[OG];exact⟨k,VN.mpr a,Nx.mpr ⟨w,hw,rfl⟩⟩
theorem vT(hb:b∈bks){t:List Int}(ht:∀c∈t,c∈ce)(hl:t.length<=8)(hx:(t.flatMap (jh Nl (mj b.x0 b.x2 b.x5))).length<=8):∃Fo Ca Tu,cS 12 (gM (oj b)) (bd (msD (M1 b))) (.ap (j9 (gV (mpF b) ce))) t (oU Nl (jL b.w1 b.w2) (mj b.x0 b.x2 b.x5) t) (Db (nfF b) (jL b.w1 b.w2) (mj b.x0 b.x2 b.x5) (A3 b.x0) (oU Nl (jL b.w1 b.w2) (mj b.x0 b.x2 b.x5) t)) Fo Ca Tu/\(OP 11).F 100 [il t,bd (msD (M1 b))]=Nk (il (Db (nfF b) (jL b.w1 b.w2) (mj b.x0 b.x2 b.x5) (A3 b.x0) (oU Nl (jL b.w1 b.w2) (mj b.x0 b.x2 b.x5) t)),Nm):=by
 have X:=K9 b;have C:=Fe b hw;have hR:gL (oj b) 29=Nk (vM (dmA b.x0 b.x2 b.x5)):=by refine rL (C0 _ _ _) ?_;rfl
 obtain⟨hRc,hk⟩:=MS b.x0 b.x2 b.x5;have hA:=C.bX ht Nl;have hAl:(oU Nl (jL b.w1 b.w2) (mj b.x0 b.x2 b.x5) t).length<=8:=by rw[oU,pS];exact hx
 have mp:∀{u:List Int},(∀c∈u,c∈ce)->(∀c∈u.flatMap (lj (nfF b)),c∈ce)/\(u.flatMap (lj (nfF b))).length<=3*u.length/\((u.flatMap (lj (nfF b))).flatMap (jh Nl (mj b.x0 b.x2 b.x5))).length<=3*u.length:=λ{u}=>by induction u with|nil=>intro _;exact i03 (λc hc=>(iM hc)) (N4 _) (N4 _)|cons d u ih=>intro hu;refine w03 (ih λc hc=>hu c (.tail _ hc)) λi1 i2 i3=>?_;refine w03 (Ke b d (hu d (.head _))) λm1 m2 m3=>?_;refine rG O7 (rG (F0 b d (hu d (.head _))) (rG List.flatMap_append (rG NG (rG NG (rG NU ?_)))));exact i03 (λc hc=>(NW.mp hc).elim (m1 c) (i1 c)) (by lia) (by lia)
 refine hid λG9 k9=>?_;refine w03 (mp hA) λa1 a2 a3=>?_;refine w03 (mp ht) λt1 t2 t3=>?_;refine k9 ?_;have fol:∀{u:List Int},(∀c∈u,c∈ce)->(u.flatMap (em [92,93] (lQ b.x1 b.x4))).length<=2*u.length:=λ{u}=>by induction u with|nil=>intro _;exact N4 _|cons d u ih=>intro hu;have i:=ih λc hc=>hu c (.tail _ hc);have m:(em [92,93] (lQ b.x1 b.x4) d).length<=2:=(nL b.x1 b.x4 Nl d (hu d (.head _))).1;refine rG O7 (rG NG (rG NU ?_));lia
 have fA:=fol hA;have K:∀n,(OP (n+11)).F 100 [il t,bd (msD (M1 b))]=Nk (il (Db (nfF b) (jL b.w1 b.w2) (mj b.x0 b.x2 b.x5) (A3 b.x0) (oU Nl (jL b.w1 b.w2) (mj b.x0 b.x2 b.x5) t)),Nm):=λn=>C.dQ ht (by lia) (g98 b hw) (λc hc d hd=>(Ke b c hc).1 d (by refine rL (F0 b c hc) ?_;exact hd)) (by lia) (by lia);refine i32 ((oU Nl (jL b.w1 b.w2) (mj b.x0 b.x2 b.x5) t).flatMap (em [92,93] (lQ b.x1 b.x4))) (nfP Nl (jL b.w1 b.w2) (mj b.x0 b.x2 b.x5) (A3 b.x0) (t.flatMap (lj (nfF b)))) (t.map (oE A5 A0)) ⟨?_,?_,K 1,?_,?_,?_,?_,?_,?_⟩ (K 0);refine rL (tE λc=>vF hw c) ?_;exact y3 (n:=11) X ht (by lia) (by lia);have:=zu (n:=9) X hR hk hRc (tl:=gV (mpF b) ce) (t:=oU Nl (jL b.w1 b.w2) (mj b.x0 b.x2 b.x5) t) a1 (by show(Qh (lj (nfF b)) _).length<100;lia) (by show(Qh _ (Qh (lj (nfF b)) _)).length<30;lia);rw[yG b hw Nl a1]at this;exact this;exact rK (n:=11) X hA [92,93] (by decide) (by lia);exact tX (n:=10) C.hp (C.fY (n:=2) ht (by lia)) (oN (n:=5) C.hp Nl (λc hc=>g87 b hw c (hA c hc)) (by show(Qh (em [92,93] _) _).length<900;lia) (.inr ⟨rfl,rfl⟩));have:=zu (n:=9) X hR hk hRc (tl:=gV (mpF b) ce) (t:=t) t1 (by show(Qh (lj (nfF b)) _).length<100;lia) (by show(Qh _ (Qh (lj (nfF b)) _)).length<30;lia);rw[yG b hw Nl t1]at this;exact this;exact tY (n:=10) C.hp (C.casefold (n:=1) (nf:=nfF b) (λc hc=>g98 b hw c (ht c hc)) t1 (by lia) (by lia));exact y8 (n:=11) X ht (by lia);have:=Bi (n:=8) C.hp (lc:=A5) (uc:=A0) (λc hc=>M8 b hw c (ht c hc)) (λc hc=>M7 b hw c (ht c hc)) (by lia:t.length<900);rw[R0 (λc hc=>(Bh c (ht c hc)).1)]at this;exact this
theorem Ko(hb:b∈bks):eJ b (mpF b) (M0 b) (M1 b) (jL b.w1 b.w2) (mj b.x0 b.x2 b.x5) (lQ b.x1 b.x4) A5 A0 (IT b.x3):=by
 have X:=K9 b;have C:=Fe b hw;have hR:gL (oj b) 29=Nk (vM (dmA b.x0 b.x2 b.x5)):=by rw[<-C0];rfl
 obtain⟨hRc,hk⟩:=MS b.x0 b.x2 b.x5;have mpo:∀c∈ce,lS (AX b) (EC (mj b.x0 b.x2 b.x5) (lQ b.x1 b.x4)) 8 [c]=Nm/\mt (AX b) 8 [c]=mpF b c:=λc hc=>sP (of_decide_eq_true (ND.mp (ND.mp Kf b hb) c hc));have one1:∀c∈ce,∀d∈[c],d∈ce:=λc hc d hd=>by rw[NC]at hd;subst hd;exact hc
 have flen:∀{u:List Int},(∀c∈u,c∈ce)->(u.flatMap (jh Nl (mj b.x0 b.x2 b.x5))).length<=2*u.length:=λ{u}=>by induction u with|nil=>intro _;exact N4 _|cons d u ih=>intro hu;have i:=ih λc hc=>hu c (.tail _ hc);have m:=(yM b.x0 b.x2 b.x5 d (hu d (.head _))).1;rw[O7,NG,NU];lia
 refine⟨X,λc hc=>?_,Ep b hw,?_,Eo b,Dh b,λp hp=>(yZ b p hp).2,λp hp=>(yZ b p hp).1,Fm b,λc hc=>(yM _ _ _ c hc).1,λone other h1 h2 h3=>?_,λc hc=>?_,λone tu h1 h2=>?_⟩;obtain⟨q1,q2⟩:=wj (ok:=EC (mj b.x0 b.x2 b.x5) (lQ b.x1 b.x4)) (Q:=λk=>∀c∈k,c∈ce) (λk hk=>Gq b hw hk) 8 [c] (one1 c hc);rw[(vk (n:=10) X hR hk hRc (yJ b.x1 b.x4) hc (q1.trans (mpo c hc).1))];show Nk (il (mt (Ks b) 8 [c]),Nl)=_;rw[q2,(mpo c hc).2];obtain⟨x0,x1,x2,x3,x4,x5,w1,w2⟩:=b;induction x3 using Nw<;>exact Nr rfl;have good:∀c∈other,c∈ce:=by
  rcases h3 with rfl|rfl|⟨_,h⟩
  intro c hc;refine w12 (Nx.mp hc) λd hd z1=>?_;subst z1;exact(Bh d (h1 d hd)).2;rw[tE λc=>vF hw c];exact C.bX h1 Nl;exact h
 have f1:=flen h1;have hol:other.length<=8/\(other.flatMap (jh Nl (mj b.x0 b.x2 b.x5))).length<=8:=by
  have f2:=flen good;rcases h3 with rfl|rfl|⟨h,_⟩
  rw[Nu]at f2⊢;lia;have el:(iS Nl (jL b.w1 b.w2) (mj b.x0 b.x2 b.x5) one).length<=8:=by rw[iS,wV];lia
  refine⟨el,?_⟩;have idem:∀{u:List Int},(∀d∈u,jh Nl (mj b.x0 b.x2 b.x5) d=[d])->u.flatMap (jh Nl (mj b.x0 b.x2 b.x5))=u:=λ{u}=>by induction u with|nil=>intro _;rfl|cons d u ih=>intro h;rw[O7,h d (.head _),ih λc hc=>h c (.tail _ hc)];rfl
  rw[idem λd hd=>?_];exact el;rw[iS,z0,OG]at hd;refine w12 hd λe g1 g2=>?_;exact((yM _ _ _ e (h1 e g1)).2 d g2).2;lia
 refine w32 (vT b hw hb h1 (by lia) (by lia)) λF1 C1 U1 T1 K1=>?_;refine w32 (vT b hw hb good hol.1 hol.2) λF2 C2 U2 T2 K2=>?_;exact Gn (n:=12) (p9 b) (gK C.hp) (show(D.ap (j9 (gV (mpF b) ce))).plain=Nm from oF _) T1 T2 (Cc (n:=10) C.hp K1 K2);have hok:=zx (ok':=ui (mj b.x0 b.x2 b.x5) (lQ b.x1 b.x4)) (λk hk=>by simp only[EC,ui,decide_eq_true_eq]at hk⊢;exact hk.2.1) 8 [c] (mpo c hc).1;rw[(C.ident (n:=3) (g87 b hw) (yJ b.x1 b.x4) (M6 b hw) hc hok)];show Nk (it (mt (AX b) 8 [c]),Nl)=_;rw[(mpo c hc).2];obtain⟨fo,efo⟩:∃fo,fo=one.flatMap (em (bs Nm tu) (lQ b.x1 b.x4)):=⟨_,rfl⟩;have hfo:∀c∈fo,c∈ce/\em (bs Nm tu) (lQ b.x1 b.x4) c=[c]:=λc hc=>by rw[efo,OG]at hc;refine w12 hc λd g1 g2=>?_;exact(nL _ _ tu d (h1 d g1)).2 c g2
 have fol:∀{u:List Int},(∀c∈u,c∈ce)->(u.flatMap (em (bs Nm tu) (lQ b.x1 b.x4))).length<=2*u.length:=λ{u}=>by induction u with|nil=>intro _;exact N4 _|cons d u ih=>intro hu;have i:=ih λc hc=>hu c (.tail _ hc);have m:=(nL b.x1 b.x4 tu d (hu d (.head _))).1;rw[O7,NG,NU];lia
 have fl:fo.length<=8:=by have:=fol h1;rw[<-efo]at this;lia
 have idem:fo.flatMap (em (bs Nm tu) (lQ b.x1 b.x4))=fo:=by
  have gen:∀{u:List Int},(∀d∈u,em (bs Nm tu) (lQ b.x1 b.x4) d=[d])->u.flatMap (em (bs Nm tu) (lQ b.x1 b.x4))=u:=λ{u}=>by induction u with|nil=>intro _;rfl|cons d u ih=>intro h;rw[O7,h d (.head _),ih λc hc=>h c (.tail _ hc)];rfl
  exact gen λd hd=>(hfo d hd).2
 refine w07 (lz (vE b.x1 b.x4)) λr1 r2 r3 r4 r5 r6 _=>?_;have hlk:=I3 b.x1 b.x4;rw[vj,ND]at hlk;have cfr:∀c∈tt b.x1,c∈ce/\(lQ b.x1 b.x4 c).isSome=Nm:=by
  have:((tt b.x1).all λc=>ce.contains c&&(lQ b.x1 b.x4 c).isSome)=Nm:=by cases b.x1<;>cases b.x4<;>decide+kernel
  intro c hc;have h:=ND.mp this c hc;simp only[NI,Oh]at h;exact h
 have IK:eK (msD (M1 b)) (lQ b.x1 b.x4) (rmG 87 (cfE b.x1 b.x4)).1 (rmG 87 (cfE b.x1 b.x4)).2 (oC 87) (tt b.x1):=⟨by rw[rS,Lk];rfl,r5,r6,r3,hlk,I0 b.x1 b.x4,by cases b.x1<;>decide,by cases b.x1<;>decide,λc hc=>by obtain⟨g1,g2⟩:=cfr c hc;refine w03 (la g1) λl1 l2 _=>?_;exact⟨l1,l2,Om.mp g2,g87 b hw c g1⟩⟩;obtain⟨fr,PF⟩:=BT (n:=5) C.hp tu IK (tx:=fo) (λc hc=>g87 b hw c (hfo c hc).1) (by rw[idem];lia) (λc hc=>by rw[idem]at hc;have hcc:=(hfo c hc).1;obtain⟨s1,s2⟩:=s0 b.x1 b.x4 tu c hcc;refine⟨g87 b hw c hcc,?_⟩;cases hf:em (bs Nl tu) (lQ b.x1 b.x4) c with|nil=>rw[hf]at s1;simp at s1|cons h0 gr=>exact i22 h0 gr rfl (g87 b hw h0 (s2 h0 (by rw[hf];exact .head _))));rw[idem]at PF;have e2:(fo.map λc=>il (BU (lQ b.x1 b.x4) tu (tt b.x1) c))=((fo.map (pt (lQ b.x1 b.x4) (bs Nl tu))).map λx=>il x):=by rw[Pe];exact R0 λc hc=>by rw[Fx b.x1 b.x4 tu c (hfo c hc).1];rfl
 rw[e2]at PF;have FF:=rK (n:=11) X h1 (bs Nm tu) (by induction tu using Nw<;>decide) (by rw[<-efo];lia);rw[<-efo]at FF;exact sD (n:=12) (p9 b) (gK C.hp) tu _ FF (λc hc=>yx (n:=10) X (hfo c hc).1 (bs Nl tu) (by induction tu using Nw<;>decide) λe he=>by rw[(s0 b.x1 b.x4 tu e he).1];decide) PF (by lia)
end
theorem EI(script:List Int)(hs:script.length<=63):(OP 14).F 226 [il script]=Nk (.bool Nm,Nl):=L0 (λk hk w hw=>⟨_,_,_,_,_,_,_,_,_,Ko (tC k w.1 w.2) hw (Ld hk hw)⟩) script hs
end Mine
end
section
namespace Mine.HD
open PySem PySem.W PyProof.Rows PySem.Calls
theorem Lq{l:U8}{a:NF}{o:Obj}(h:(l.filter λp=> !N0 p.1 112).lookup a=Nk o):a≠112:=by have:=(Pp.mp (ut h)).2;rw[OV,<-OH,PZ]at this;exact this
theorem Aj{l:U8}{a:NF}{o:Obj}(h:(l.filter λp=> !N0 p.1 112).lookup a=Nk o):l.lookup a=Nk o:=by
 induction l with
 |nil=>exact h|cons p r b=>
 obtain⟨k,x⟩:=p;rw[Os];rw[PC]at h;split at h;rw[Os]at h;revert h;induction (a==k)using Nw with|false=>exact b|true=>exact id
 rename_i e;have c:(a==k)=Nl:=by rw[beq_eq_false_iff_ne];intro q;subst q;rw[OH,Bool.not_eq_false']at e;exact((Lq h)) (O3 e)
 rw[c];exact b h
variable{w:Pi}
theorem Gb(P:Of):(K0 P).lookup 112=Nk (U7 #[]):=by kernel_rfl
theorem Gr{h:NV}(X:(K0 w.params).In h):(WW w).be h:=⟨λa o e=>X a o (Aj e),#[],X _ _ (Gb w.params),trivial,λp _ _=>.inl rfl⟩
theorem Lx:D.name=("law":OA):=by kernel_rfl
theorem FO(P:Of):(H7 P).nsMap OC ("law":OA)=Nk (.ref 561)/\Dt 226=561:=⟨by kernel_rfl,by kernel_rfl⟩
theorem Kb{h:NV}{a:NF}{m m':OA->Option No}(x:h.Ns a m)(y:h.Ns a m')(n:OA):m n=m' n:=by refine hid λl k=>?_;obtain⟨o,q,p,g,i,_,j⟩:=x;obtain⟨r,e,d,b,c,_,f⟩:=y;refine k ?_;rw[g]at b;cases b;rw[i]at c;cases c;rw[<-j,<-f]
theorem yA{B:gU}{h:NV}{P:Of}:∀{ns:List Int}{vs:List No},WellAll P h vs (ns.map .int)->RvL (WW w) B [] (ns.map .int) vs:=λ{ns}=>by
 induction ns with
 |nil=>intro vs x;cases x;exact .nil
 |cons i r c=>intro vs x;cases x with|cons a b=>cases a;exact .cons (.int _ _) (c b)
theorem Fb:aF callerA 460:=⟨rfl,by show 10*(1+300)+460<=9000;decide,by show 4+460<=9000;decide⟩
theorem MV:Ni:=by
 intro w gy aO mg mb G KX a o pm cd doc dV kV ho hd hcd hD hmg hg args vals as hpre hlay hrd hwl hlo;have S:(WW w).be aO.heap:=Gr KX;have ea:a=561:=by have e:=(Kb (DK S (a:=3) (by simp)) G.T.g D.name).trans hmg;rw[Lx]at e;have:=(FO w.params).1.symm.trans e;cases this;rfl
 subst ea;obtain⟨hsh,hcond⟩:=pre_splitW hpre;obtain⟨d,r,rfl,h1,h2⟩:=hasAllW_cons hsh;have:=hasAllW_nil h2;subst this;obtain⟨xs,rfl,hi⟩:=hasW_list h1;obtain⟨ns,rfl⟩:=items_int hi;have hlen:ns.length<=63:=by have q:=condW_of (holds_andW hcond).1 (by wtm_val);have q:=OV _▸q;have q:=of_decide_eq_false q;rw[Nu]at q;lia
 obtain⟨v,vs',rfl,hv,hn⟩:=wellAll_cons_inv hwl;cases hn;cases hv with
 |list hx hw=>
 rename_i x vs;obtain⟨X,rX⟩:∃X,X=x:=⟨_,rfl⟩;have x112:x≠112:=λq=>by subst q;obtain⟨ps,e,_⟩:=S.2;rw[hx]at e;cases e
 refine enter_call ?_;let B:gU:=λb=>if b=x then Nk {cls:=.type "list",data:=.seq vs.toArray}else(WW w).b0 b
 have hB:∀b o,B b=Nk o->aO.heap.get? b=Nk o/\b≠112:=λb o e=>by by_cases q:b=x;subst q;have e':B b=Nk {cls:=.type "list",data:=.seq vs.toArray}:=if_pos rfl;rw[e']at e;cases e;exact⟨hx,x112⟩;have e':B b=(WW w).b0 b:=if_neg q;rw[e']at e;exact⟨S.1 _ _ e,(Lr e).2⟩
 have H:Hs (WW w) B [] [] aO.heap:=⟨S,hB,λb o e=>by by_cases q:b=x;subst q;have:=S.1 _ _ e;rw[hx]at this;cases this;exact(if_pos rfl);exact(if_neg q:B b=(WW w).b0 b).trans e,rfl,λi c p h _=>by simp at h,λb q=>by simp[iU]at q,by simp[iU]⟩;have C:=(Bn (w:=w) 14).F 226 [il ns] (.bool Nm) Nl (EI ns hlen) callerA B aO [.ref x] Fb H (.cons (.ae (vs:=vs.toArray) (n:=0) (if_pos rfl) (by rw[Nu];unfold cap;lia) (yA hw)) .nil);rw[show(WW w).fa 226=561 from(FO w.params).2]at C;refine SV C λres s' q=>?_;rcases res with e|(v|_|_|_)<;>first|exact q.elim|skip
 obtain⟨B',St,hv,_⟩:=q;have hv:=hv rfl;cases hv;have hK:OldK aO.heap s'.heap:=by obtain⟨ps,e',_⟩:=St.hs.aK.2;refine⟨λb o e=>?_,λb o e=>St.live b o e (by simp)⟩;by_cases q:b=112;subst q;rw[(KX 112 _ (Gb w.params))]at e;cases e;refine .inr (.inl ⟨?_,rfl,#[],ps,rfl,by rw[Array.empty_append];exact e'⟩);refine hid λG9 k9=>?_;obtain⟨o',us,_,_,_,_,_,_,_,g1,g2,g3,g4,_⟩:=KC w.params;refine k9 ?_;exact⟨114,o',us,(zb S (a:=114) (by simp)).trans g1,g2,g3,g4⟩;exact .inl (St.keep b o e q (by simp[iU]) (by simp))
 refine⟨.inl ⟨_,.bool Nm,[],rfl,λ_=>rfl,.bool _,?_,λ_=>⟨.nil,λ_ h=>nomatch h⟩⟩,hK,?_,?_⟩;exact postW_of (X:=Nm) rfl (by wtm_val) rfl;rw[St.rest];rw[St.rest];exact .of_eq hg
end Mine.HD
end
section
namespace Mine.HD
open PySem PySem.W PyProof.Rows PySem.Calls
theorem row_holds(a:rw'.row.wellSaid=Nm):rw'.row.Holds:=holds_open (r:=rw'.row) (q:=Q) (loose:=loose) (Xt:=Xt) (XP:=XL Q []) (Yf:=Ds.obs) (Ya:=Ds.val) (YP:=Ds.says) (d:=D) (kwd:=[]) (N:=8000) left Ds.of Ds.keeps (λs e=>xl_of s (NH.mp e).1) XL.keeps (by kernel_rfl) (by kernel_rfl) (by kernel_rfl) (λs e=>recFacts_of (NH.mp e).2) (by rfl) a (by decide+kernel) ⟨rfl,rfl,rfl,rfl,rfl,by decide+kernel⟩ ⟨[.list []],by decide+kernel,by decide+kernel⟩ MV
theorem a2{a b:Bool}(h:a=Nm)(k:b=Nm):(a&&b)=Nm:=NH.mpr ⟨h,k⟩
set_option maxHeartbeats 0 in
theorem saidL:rw'.wellSaid=Nm:=by
 unfold OpenLaw.wellSaid;iterate 18 refine a2 ?_ (by decide+kernel)
 unfold OpenRow.wellSaid OpenRow.partSaid looksOpen;iterate 20 refine a2 ?_ (by decide+kernel)
 decide+kernel
end Mine.HD
open PySem PySem.W
end
end
theorem PySem.Challenge.cw_nt0054_01_holds : PySem.Challenge.rw_nt0054_01.Holds :=
 PySem.W.holds_law Mine.HD.saidL Mine.HD.row_holds
