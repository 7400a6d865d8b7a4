import PyProof.Rows.All
import Wide.All
import OpenK.AllK
import Wide.FinOn
import Lean
import PySem.Challenge.RW_oj0032_01
set_option Elab.async false
set_option maxRecDepth 100000
set_option maxHeartbeats 0
set_option linter.all false
set_option backward.match.sparseCases false
set_option tactic.hygienic false
set_option genSizeOf false
set_option genInjectivity false
set_option bootstrap.genMatcherCode false
set_option genCtorIdx false
namespace Oj.Internal
open PySem.Str renaming ofString→p',length→Pg,empty→Rv,cps→SS
open List renaming length→vc,mem_append_right→Pb,append_assoc→Pj,prefix_rfl→Pp,size_toArray→Pw,mem_append_left→Px,toArray→PE,map_append→PI,count_append→PL,length_map→PM,length_cons→PQ,length_append→PU,nil_prefix→P8,count_nil→Qa,all_cons→Qb,prefix_append→Qh,getElem?_eq_getElem→Qi,length_reverse→Qp,append_nil→Qt,not_mem_nil→Qv,drop_eq_getElem_cons→Qx,mem_cons→QB,reverse→QE,map_cons→QJ,getElem?_map→QL,getElem?_append_right→QM,getD_eq_getElem?_getD→QN,perm_append_comm_assoc→QV,any→QX,length_singleton→Q0,nil_append→Q1,sublist_append_left→Q8,takeWhile_cons→Rc,length_drop→Ri,take_append_of_le_length→Rk,mem_singleton→Rl,nodup_cons→Ru,count→RJ,length_take→RM,sublist_append_right→RO,mem_map_of_mem→RP,any_cons→RU,find?_cons→RW,mem_append→RX,zip_cons_cons→R2,eraseIdx_append_of_length_le→R5,map→R6,sublist_cons_self→Sb,reverse_cons→Se,drop_zero→Si,find?_cons_of_neg→Sk,perm_append_comm→Sp,drop_length→Sy,cons_ne_nil→Sz,getD_cons_succ→SM,nodup_nil→Tb,getElem?_append_left→Td,getElem?_eq_none_iff→Tf,mem_toArray→Tq,getElem_mem→Tz,foldl_cons→TM,range'→TN,take_succ→TQ
open PySem.Value renaming ref→Pa,none→Pt,str→Qn,builtin→Qu,isStrOf→Q5,isInt→RD
open Prod renaming snd→Pc,fst→Pn
open Option.some renaming inj→Pd
open Bool renaming and_eq_true→Pe,not_eq_true'→PZ,not_eq_false'→QZ,or_eq_true→Rt,or_eq_false_iff→SE
open Int renaming toNat→Pf,natCast_nonneg→PG,toNat_natCast→Qf,fmod→Sl,fdiv→Sm,toNat_of_nonneg→SK,le_trans→TK
open PySem.Txt renaming partition→Ph,lower→PA,slice→PC,item→Qm,find→Qw
open Nat renaming le_trans→Pk,lt_of_le_of_lt→Pr,eq_of_beq_eq_true→Pu,beq→PD,lt_trans→PF,le_succ_of_le→PK,le_of_ble_eq_true→PT,lt_of_lt_of_le→PV,le_add_right→PY,lt_succ_self→P0,le_refl→P5,sub_lt_sub_left→Qk,zero_le→Ql,succ_le_succ→Qo,le_of_lt→QD,add_sub_cancel_left→QG,sub_succ_lt_self→QH,add_le_add_left→QO,lt_irrefl→QW,le_succ→Q3,lt_succ_of_lt→Q4,le_of_eq→Rm,le_of_succ_le→RA,add_le_add→RF,add_comm→RL,not_lt_zero→RY,ble→R7,ne_of_lt→Sa,lt_or_ge→Sf,zero_add→Sh,add_le_add_right→SG,mul_le_mul_left→SN,sub_pos_of_lt→Tp,min_le_right→TB,sub_le→TL
open PySem renaming Shared→Pl,wpAny_bind→Po,PyData→Pz,wpAny_pure→PH,Params→PJ,OsState→PR,treeTable→PW,DictEntry→PX,codeAny→P9,compareOp→Qr,sizeLine→Qs,assignEach→Qy,starEach→QC,getMethod_builtin→QR,constantsAlone→QY,wpAny_holding→Q6,foldedForSure→Q7,compEnv→Rb,wpAny_field→Rj,wpAny_getItem_list→Rn,backTo→Ro,wpAny_standAt→Rw,wpAny_pyIter_list→Rz,mainGlobals→RB,newFunctionEnv→RG,assignInOrder→RT,valueAt→RZ,call→R0,wpAny_newObj_type→R8,cameBackBy→Sr,getMethod→Ss,findBy→Su,strKind_is→Sv,assign→Sw,IsPart→Sx,callWith→SD,unbindBehindTheSuite→SH,rawInt→SI,pyIter→SJ,standAt→SO,sysModules→SW,Around→SX,wpAny_setField→SY,wpAny_call→S',wpAny_loadPart→Ta,getAttr→Th,wpAny_truthy_bool→Ti,spliced→Tj,wpAny_loadPart_at→Tn,wpAny_assign_Name→To,Operator→Ts,binaryOp→Tt,IntMulOk→Tw,newList→TC,wpAny_mkText→TG,bindName→TP,noteFrame→TU
open PySem.W.Fast renaming te14364793385576792824→Pm,te10110043849684766642→Pq
open Array renaming size→Py,getElem_mem→QK,getElem?_eq_getElem→RN,not_mem_empty→RQ,size_append→Sj,getD_eq_getD_getElem?→SQ
open PySem.Heap renaming get?_push_of_some→PB,get?_push_size→P6,lt_size→Qd,get?_update_other→Qe,SameBut→Rq,size_push→RE,get?_update_self→So
open PyProof.Rows renaming subscriptTail→PN,IntsAre→Qz,assignInOrder_cons→Rp,tail_any→RC,call_abs_int→Te
open PySem.W renaming behindTheImports→PO,boot_drawn→P7,listOf→P',dictOf→Qj,piecesOf→Qq,segRunT→QI,piece_app→QP,segRun_of→QQ,instObj→QT,emptyDict→Q2,SharedT→Q9,findIn→Rf,handedIn→Rg,boot_heap→R3,hasDictIn→R4,InstAt→R9,looks_findIn→SP,plainGet→Tr
open PySem.PyData renaming keyHash→PS,int→Rr,list→RH,canLay0→Sn,strOk→SU,str→Tc
open List.Perm renaming append_left→P4,append_right→QU
open PySem.Builtin.Str renaming tooLong→Qc,occurrences→QF
open Eq renaming mp→Qg
open List.Sublist renaming refl→QA,append→TX
open PySem.F renaming plainAttrs_list→QS,slot_dict_get→Rx,slot_list_append→RR,type_list_append→RS,slot_list_pop→Sq,args_dict_get_3→Tv,plainAttrs_dict→Tx,entry_dict_get→TF
open PySem.Builtin.Range renaming small→Ra,rangeSize→Rh,rangeFitsLong→SR
open List.eraseDupsBy renaming loop→Ry
open PyProof.Rows.LSm renaming BoolsAre→RK
open PySem.Unicode renaming lowerAt→RV
open PySem.Obj renaming data_mapFields→R1
open PySem.Code renaming builtin→Sd
open List.cons renaming inj→SA
open Option renaming none→Tg
open PySem.Heap.UpToSlots renaming of_keeps→Tu,trans→TO
open PyProof renaming noPylong_small→TH
open PySem.Walks renaming list→TJ
open Subtype renaming val→TR
open PySem.EntryCells renaming newEntry→TV
open PySem PySem.W PySem.Calls PySem.Spec PyProof.Rows
local macro_rules | `(tactic| obtain $p := $e:term) => `(tactic| (refine Og fun hN0 => ?_; rcases $e:term with $p:rcasesPatMed <;> (refine hN0 ?_; clear hN0)))
noncomputable abbrev pw:Program:=PySem.Challenge.pw_oj0032_01
noncomputable abbrev kh (P:PJ)(x:Str):Int:=PS P x
noncomputable def aJ (i:Nat):Stmt:=(pw.main.body[i]?).getD (.Pass ⟨0,0,0,0⟩)
noncomputable def O6:Stmt→List Stmt
 |.ClassDef _ _ _ b _ _ _ _ _ _ _=>b
 |_=>[]
noncomputable def aI (i j:Nat):Stmt:=((O6 (aJ i))[j]?).getD (.Pass ⟨0,0,0,0⟩)
noncomputable def GQ:Stmt→Arguments
 |.FunctionDef _ a _ _ _ _ _ _ _ _=>a
 |_=>{posonlyargs:=[],args:=[],vararg:=none,kwonlyargs:=[],kw_defaults:=[],kwarg:=none,defaults:=[]}
noncomputable def bz:Stmt→List Stmt
 |.FunctionDef _ _ b _ _ _ _ _ _ _=>b
 |_=>[]
noncomputable def aK:Stmt→Scope
 |.FunctionDef _ _ _ _ _ _ s _ _ _=>s
 |_=>pw.main.scope
noncomputable def fO (st:Stmt)(nm qual:Str)(dV pm cd:Value):Obj:=
 {cls:=.type "function",data:=.func {name:=nm,qualname:=qual,params:=GQ st,body:=.stmts (bz st),scope:=aK st,globals:=3,closure:=[],defaults:=dV,kwdefaults:=.none,pyModule:=pm,code:=cd,builtins:=0}}
noncomputable def cS (st:Stmt)(nm qual:Str):Obj:=
 {cls:=.none,data:=.func {name:=nm,qualname:=qual,params:=GQ st,body:=.stmts (bz st),scope:=aK st,globals:=builtinsNs,closure:=[],defaults:=.none,kwdefaults:=.none}}
noncomputable def env:Env:={scope:=pw.main.scope,locals:=mainNs,globals:=mainNs,cells:=[],code:=.ref 13,frame:=some 14}
noncomputable abbrev cE:Code:=.body (PO pw) env
noncomputable abbrev B:List Frame:=[topFrame ⟨0,0,0,0⟩]
noncomputable abbrev fU:Option Value:=some (.ref 6)
noncomputable def eR:Life:={}
universe u
theorem mB {q:α}(h:(match b with|true=>p|false=>q)=r):b=true∧p=r∨b=false∧q=r:=by
 cases b with
 |true=>exact .inl ⟨rfl,h⟩
 |false=>exact .inr ⟨rfl,h⟩
theorem mT (h:match b with|true=>p|false=>False):b=true∧p:=by
 cases b with
 |true=>exact⟨rfl,h⟩
 |false=>exact h.elim
theorem Og {p:Prop}(h:(p→False)→False):p:=Classical.byContradiction h
theorem nS {C:Prop}(h:none=some a):C:=nomatch h
theorem O8 {C:Prop}(h:some a=none):C:=nomatch h
theorem bF {C:Prop}(h:false=true):C:=nomatch h
theorem bT {C:Prop}(h:true=false):C:=nomatch h
noncomputable abbrev sV:=@Qn
noncomputable abbrev iV:=@Value.int
noncomputable abbrev rV:=@Pa
noncomputable abbrev nV (n:Int):Value:=.int n 0
noncomputable def dE (P:PJ)(x:Str)(t:Tok)(v:Value):PX:=⟨kh P x,.str x t,v⟩
noncomputable def e3 (P:PJ):List PX:=[dE P "__name__" 165 (sV "law_oj0032_01" 1305),dE P "__doc__" 166 .none,dE P "__package__" 167 .none,dE P "__loader__" 168 (.builtin "__main__.__loader__#opaque"),dE P "__spec__" 169 .none,dE P "__annotations__" 170 (rV 6),dE P "__builtins__" 171 (rV 4),dE P "__file__" 173 (sV "/claim/cut.py" 172),dE P "__cached__" 174 .none,dE P "_wall" 193 (rV 21),dE P "EndOfText" 224 (rV 38),dE P "BadSyntax" 255 (rV 58),dE P "ALT" 261 (iV 4194304 260),dE P "SUPER" 265 (iV 8388608 264),dE P "HYPER" 269 (iV 16777216 268),dE P "SHIFT" 273 (iV 33554432 272),dE P "CONTROL" 277 (iV 67108864 276),dE P "META" 281 (iV 134217728 280),dE P "MODIFIERS" 288 (rV 68),dE P "ALL_BITS" 294 (iV 264241152 293),dE P "MOST_CODE" 296 (iV 4194303 295),dE P "bit_of" 305 (rV 75),dE P "with_control" 314 (rV 82),dE P "with_modifier" 322 (rV 89),dE P "BACKSLASH" 326 (iV 92 325),dE P "ENDINGS" 339 (rV 90),dE P "PLAIN_ESCAPES" 367 (rV 91),dE P "MODIFYING" 386 (rV 92),dE P "is_ending" 393 (rV 99),dE P "need_code" 401 (rV 106),dE P "figure_of" 408 (rV 113),dE P "figures_at" 420 (rV 120),dE P "numbered_at" 432 (rV 127),dE P "plain_escape" 441 (rV 134),dE P "modifiers_at" 452 (rV 141),dE P "escaped" 464 (rV 148),dE P "modified" 474 (rV 155),dE P "character_at" 486 (rV 162),dE P "escape_in_string" 499 (rV 169),dE P "SPACE" 503 (iV 32 502),dE P "NO_BREAK_SPACE" 505 (iV 160 504),dE P "PLAIN" 524 (rV 170),dE P "BREAKS" 535 (rV 171),dE P "DIGITS" 537 (sV "0123456789abcdefghijklmnopqrstuvwxyz" 536),dE P "is_break" 544 (rV 178),dE P "value_in" 556 (rV 185),dE P "integer_of" 563 (rV 192),dE P "are_figures" 569 (rV 197),dE P "is_power" 576 (rV 204),dE P "is_float" 590 (rV 211),dE P "sign_of" 598 (rV 218),dE P "Tokens" 734 (rV 313),dE P "Symbol" 767 (rV 334),dE P "NIL" 777 (rV 340),dE P "T" 787 (rV 343),dE P "Cons" 818 (rV 361),dE P "Text" 849 (rV 383),dE P "Vector" 878 (rV 404),dE P "ByteCode" 907 (rV 425),dE P "list_of" 917 (rV 437),dE P "is_whole" 924 (rV 444),dE P "CLOSERS" 939 (rV 445),dE P "PREFIXES" 955 (rV 446),dE P "Placeholder" 996 (rV 470),dE P "OpenForm" 1042 (rV 498),dE P "noted_list" 1053 (rV 509),dE P "noted_things" 1061 (rV 516),dE P "spans_rows" 1071 (rV 523),dE P "LispReader" 1199 (rV 604),dE P "read_all" 1209 (rV 615),dE P "Obarray" 1304 (rV 688),dE P "_law_pieces" 1321 (rV 693),dE P "_law_draw" 1331 (rV 700),dE P "_law_pick" 1339 (rV 707),dE P "_law_deck" 1345 (rV 712),dE P "_law_shape" 1351 (rV 717),dE P "_law_told" 1357 (rV 722),dE P "_law_tokens" 1367 (rV 729),dE P "_law_closed" 1379 (rV 736),dE P "_law_taken" 1389 (rV 743),dE P "_law_due" 1401 (rV 750),dE P "_law_text" 1414 (rV 757),dE P "law" 1426 (rV 764)]
noncomputable def N5:List Value:=[(nV 1),(nV 0),(rV 20),(nV 5),(nV 0),(rV 27),(nV 9),(nV 0),(rV 47),(nV 24),(nV 0),(rV 74),(nV 29),(nV 0),(rV 81),(nV 37),(nV 0),(rV 88),(nV 44),(nV 0),(rV 98),(nV 46),(nV 0),(rV 105),(nV 50),(nV 0),(rV 112),(nV 56),(nV 0),(rV 119),(nV 63),(nV 0),(rV 126),(nV 68),(nV 0),(rV 133),(nV 81),(nV 0),(rV 140),(nV 97),(nV 0),(rV 147),(nV 103),(nV 0),(rV 154),(nV 108),(nV 0),(rV 161),(nV 114),(nV 0),(rV 168),(nV 133),(nV 0),(rV 177),(nV 135),(nV 0),(rV 184),(nV 146),(nV 0),(rV 191),(nV 148),(nV 0),(rV 196),(nV 150),(nV 0),(rV 203),(nV 152),(nV 0),(rV 210),(nV 161),(nV 0),(rV 217),(nV 165),(nV 0),(rV 224),(nV 291),(nV 0),(rV 323),(nV 298),(nV 0),(rV 350),(nV 303),(nV 0),(rV 371),(nV 308),(nV 0),(rV 393),(nV 312),(nV 0),(rV 414),(nV 316),(nV 0),(rV 436),(nV 321),(nV 0),(rV 443),(nV 326),(nV 0),(rV 452),(nV 340),(nV 0),(rV 480),(nV 359),(nV 0),(rV 508),(nV 369),(nV 0),(rV 515),(nV 374),(nV 0),(rV 522),(nV 383),(nV 0),(rV 529),(nV 478),(nV 0),(rV 614),(nV 487),(nV 0),(rV 621),(nV 524),(nV 0),(rV 699),(nV 530),(nV 0),(rV 706),(nV 532),(nV 0),(rV 711),(nV 534),(nV 0),(rV 716),(nV 540),(nV 0),(rV 721),(nV 547),(nV 0),(rV 728),(nV 562),(nV 0),(rV 735),(nV 569),(nV 0),(rV 742),(nV 584),(nV 0),(rV 749),(nV 603),(nV 0),(rV 756),(nV 615),(nV 0),(rV 763)]
noncomputable def p3 (P:PJ)(x:Str)(t k:Nat):Obj:=⟨.type "dict",none,.dict (⟨kh P "__name__",.str "__name__" 165,.str x t⟩::((e3 P).drop 1).take (k-1)).toArray k,#[]⟩
noncomputable def o9 (k:Nat):Obj:=⟨.none,none,.fields (N5.take k).toArray,#[]⟩
noncomputable def bL (a1:Str)(a2:Nat)(a3:Str)(a7:Int)(a9:Int)(a17:Nat)(a24:Int)(a29:Nat):Obj:=⟨(.type "code"),none,(.fields #[(.str a1 a2),(.str a3 (a2+1)),(.str "/claim/cut.py" (a2+2)),(.int a7 0),(.int a9 0),(.int 0 0),(.int 0 0),(.int 3 0),(.ref a17),(.bool true),(.int 181 0),(.ref (a17+1)),.none,(.ref (a17+2)),(.ref (a17+3)),(.ref (a17+4)),(.int a24 0),(.int a7 0),(.str "/claim/cut.py" a29)]),#[]⟩
noncomputable def aD :Obj:=⟨(.type "tuple"),none,(.seq #[] 0),#[]⟩
noncomputable def su (a1:Str)(a2:Nat)(a7:Int)(a17:Nat)(a21:Int):Obj:=⟨(.type "code"),none,(.fields #[(.str a1 a2),(.str a1 (a2+1)),(.str "/claim/cut.py" (a2+2)),(.int a7 0),(.int 0 0),(.int 0 0),(.int 0 0),(.int 0 0),(.ref a17),(.bool false),(.int 181 0),(.ref (a17+1)),.none,.none,.none,.none,(.int a21 0),(.int a7 0),(.str "/claim/cut.py" (a2+4))]),#[]⟩
noncomputable def zr (a1:Str)(a3:Nat)(a5:Nat)(a8:Nat):Obj:=⟨(.type "type"),none,(.cls {name:=a1,bases:=[(.type "object")],mro:=[(.ref a3),(.type "object")],ns:=a5,qualname:=a1,hasDict:=true,slotNames:=[],subclasses:=[],abstract:=false,collection:=none,hasDel:=false}),#[none,none,(some (.str a1 a8)),(some (.str a1 (a8+8))),(some (.builtin "object.__new__")),(some (.bool true))]⟩
noncomputable def et (a0:Nat)(a1:Nat)(a2:Str)(a3:Str)(a4:Str)(a5:Nat)(a6:Nat):Obj:=fO (aI a0 a1) a2 a3 .none (.str a4 a5) (.ref a6)
noncomputable def eM (a0:Nat)(a1:Str)(a3:Str)(a4:Nat)(a5:Nat):Obj:=fO (aJ a0) a1 a1 .none (.str a3 a4) (.ref a5)
noncomputable def Fy (P:PJ)(a3:Nat)(a4:Str)(a5:Nat)(a9:Str)(a14:Int)(a18:Nat)(a19:Nat)(a22:Nat):Obj:=⟨(.type "dict"),none,(.dict #[⟨kh P "__module__",.str "__module__" a3,(.str a4 a5)⟩,⟨kh P "__qualname__",.str "__qualname__" (a3+2),(.str a9 (a3+1))⟩,⟨kh P "__firstlineno__",.str "__firstlineno__" (a3+4),(.int a14 (a3+3))⟩,⟨kh P "__init__",.str "__init__" a18,(.ref a19)⟩,⟨kh P "__static_attributes__",.str "__static_attributes__" a22,(.ref (a19+1))⟩] 5),#[]⟩
noncomputable def Jp (P:PJ)(a3:Nat)(a9:Int)(a13:Nat)(a14:Nat)(a17:Nat):Obj:=⟨(.type "dict"),none,(.dict #[⟨kh P "__module__",.str "__module__" a3,(.str "emacs.objects" 735)⟩,⟨kh P "__firstlineno__",.str "__firstlineno__" (a3+4),(.int a9 (a3+3))⟩,⟨kh P "__init__",.str "__init__" a13,(.ref a14)⟩,⟨kh P "__static_attributes__",.str "__static_attributes__" a17,(.ref (a14+1))⟩,⟨kh P "__dict__",.str "__dict__" (a17+2),(.ref (a14+4))⟩,⟨kh P "__weakref__",.str "__weakref__" (a17+4),(.ref (a14+5))⟩,⟨kh P "__doc__",.str "__doc__" (a17+5),.none⟩] 4),#[]⟩
noncomputable def sj (a1:Nat)(a3:Nat)(a4:Str)(a5:Nat):Obj:=⟨(.type "frame"),none,.plain,#[(some (.ref a1)),(some (.ref 3)),(some (.ref a3)),none,(some (.str a4 a5)),none,(some (.ref 0))]⟩
noncomputable def pU (a1:Str)(a2:Nat)(a3:Str)(a5:Str)(a7:Str):Obj:=⟨(.type "tuple"),none,(.seq #[(.str a1 a2),(.str a3 (a2+1)),(.str a5 (a2+2)),(.str a7 (a2+3))] 0),#[]⟩
noncomputable def bu (a0:Nat)(a1:Nat)(a2:Str)(a3:Str):Obj:=cS (aI a0 a1) a2 a3
noncomputable def fk (a1:Str)(a2:Nat)(a3:Str)(a5:Str):Obj:=⟨(.type "tuple"),none,(.seq #[(.str a1 a2),(.str a3 (a2+1)),(.str a5 (a2+2))] 0),#[]⟩
noncomputable def iH (a2:Nat)(a3:Nat):Obj:=⟨(.type "getset_descriptor"),none,(.fields #[(.str "__weakref__" a2),(.ref a3),(.builtin "ExceptionGroup.__weakref__"),.none]),#[]⟩
noncomputable def jZ (a1:Str)(a2:Nat)(a3:Str)(a5:Str)(a7:Str)(a9:Str)(a11:Str):Obj:=⟨(.type "tuple"),none,(.seq #[(.str a1 a2),(.str a3 (a2+1)),(.str a5 (a2+2)),(.str a7 (a2+3)),(.str a9 (a2+4)),(.str a11 (a2+5))] 0),#[]⟩
noncomputable def kj (a2:Nat)(a3:Nat):Obj:=⟨(.type "getset_descriptor"),none,(.fields #[(.str "__dict__" a2),(.ref a3),(.builtin "function.__dict__"),(.builtin "function.__dict__#set")]),#[]⟩
noncomputable def eS (a1:Str)(a2:Nat)(a3:Str):Obj:=⟨(.type "tuple"),none,(.seq #[(.str a1 a2),(.str a3 (a2+1))] 0),#[]⟩
noncomputable def bJ (a0:Nat)(a1:Str):Obj:=cS (aJ a0) a1 a1
noncomputable def iF (a2:Nat):Obj:=⟨(.type "builtin_function_or_method"),none,(.fields #[(.builtin "object.__init_subclass__"),(.ref a2)]),#[]⟩
noncomputable def iI :Obj:=⟨(.type "builtin_function_or_method"),none,(.fields #[(.builtin "type.__prepare__"),(.type "type")]),#[]⟩
noncomputable def BV (a1:Str)(a2:Nat)(a7:Int)(a9:Int)(a17:Nat)(a22:Int):Obj:=⟨(.type "code"),none,(.fields #[(.str a1 a2),(.str a1 (a2+1)),(.str "/claim/cut.py" (a2+2)),(.int a7 0),(.int a9 0),(.int 0 0),(.int 0 0),(.int 3 0),(.ref a17),(.bool true),(.int 181 0),(.ref (a17+1)),.none,.none,.none,(.ref (a17+2)),(.int a22 0),(.int a7 0),(.str "/claim/cut.py" (a2+4))]),#[]⟩
noncomputable def ff (a1:Str)(a2:Nat):Obj:=⟨(.type "tuple"),none,(.seq #[(.str a1 a2)] 0),#[]⟩
noncomputable def qI (a1:Str)(a2:Nat)(a3:Str)(a5:Str)(a7:Str)(a9:Str):Obj:=⟨(.type "tuple"),none,(.seq #[(.str a1 a2),(.str a3 (a2+1)),(.str a5 (a2+2)),(.str a7 (a2+3)),(.str a9 (a2+4))] 0),#[]⟩
noncomputable def G3 (a1:Str)(a3:Nat)(a7:Nat)(a9:Nat)(a11:Nat):Obj:=⟨(.type "type"),none,(.cls {name:=a1,bases:=[(.type "Exception")],mro:=[(.ref a3),(.type "Exception"),(.type "BaseException"),(.type "object")],ns:=a7,qualname:=a1,hasDict:=true,slotNames:=[],subclasses:=[],abstract:=false,collection:=none,hasDel:=false}),#[(some (.ref a9)),none,(some (.str a1 a11)),(some (.str a1 (a11+8))),(some (.builtin "Exception.__new__")),(some (.bool true))]⟩
noncomputable def iC (a1:Nat):Obj:=⟨(.type "super"),none,(.fields #[(.ref a1),(.ref a1),(.ref a1)]),#[]⟩
noncomputable def AL (a1:Str)(a2:Nat)(a3:Str)(a5:Str)(a7:Str)(a9:Str)(a11:Str)(a13:Str):Obj:=⟨(.type "tuple"),none,(.seq #[(.str a1 a2),(.str a3 (a2+1)),(.str a5 (a2+2)),(.str a7 (a2+3)),(.str a9 (a2+4)),(.str a11 (a2+5)),(.str a13 (a2+6))] 0),#[]⟩
noncomputable def pN (a0:Int)(a4:Nat):Obj:=⟨.none,none,(.fields #[(.int a0 0),(.int 4 0),(.ref a4)]),#[]⟩
noncomputable def tN (a1:Str)(a2:Nat)(a3:Int)(a4:Nat):Obj:=⟨(.type "tuple"),none,(.seq #[(.str a1 a2),(.int a3 a4)] 0),#[]⟩
noncomputable abbrev bN:=@BT.node
noncomputable def TA (P:PJ):BT:=(bN (PySem.W.boot_o_0 P) (bN (PySem.W.boot_o_1 P) (bN (⟨.type "dict",none,.dict (e3 P).toArray 83,#[]⟩) (bN (PySem.W.boot_o_7 P) (bN (aD) (bN (eS "self" 211 "place") (bN (tN "C" 283 67108864 276) (bN (eM 26 "numbered_at" "emacs.chartokens" 323 126) (bN (aD) (bN (⟨.none,none,(.fields #[]),#[]⟩) .nil .nil) .nil) (bN (zr "Text" 383 382 819) (bN (eS "self" 1243 "name") .nil .nil) .nil)) (bN (bL "integer_of" 557 "integer_of" 146 1 186 561 562) (bN (iI) (bN (⟨.none,none,(.fields #[]),#[]⟩) .nil .nil) .nil) (bN (aD) (bN (eS "deck" 1335 "items") .nil .nil) .nil))) (bN (ff "code" 390) (bN (aD) (bN (bu 46 8 "word" "Tokens.word") (bN (bu 65 1 "place" "LispReader.place") .nil .nil) .nil) (bN (sj 414 411 "emacs.objects" 735) (bN (et 68 6 "unintern" "Obarray.unintern" "emacs.obarray" 1210 670) .nil .nil) .nil)) (bN (⟨.none,none,(.fields #[(nV 167),(nV 4),(rV 231),(nV 171),(nV 4),(rV 239),(nV 175),(nV 4),(rV 246),(nV 179),(nV 4),(rV 253),(nV 188),(nV 4),(rV 260),(nV 207),(nV 4),(rV 267),(nV 213),(nV 4),(rV 274),(nV 228),(nV 4),(rV 281),(nV 241),(nV 4),(rV 288),(nV 254),(nV 4),(rV 295),(nV 271),(nV 4),(rV 302),(nV 278),(nV 4),(rV 309)]),#[]⟩) (bN (sj 350 347 "emacs.objects" 735) (bN (iC 604) .nil .nil) .nil) (bN (⟨.none,none,(.fields #[(nV 342),(nV 4),(rV 487),(nV 351),(nV 4),(rV 494)]),#[]⟩) (bN (bL "_law_closed" 1368 "_law_closed" 562 1 730 1377 1378) .nil .nil) .nil)))) (bN (su "BadSyntax" 227 9 45 230) (bN (aD) (bN (⟨.none,none,(.fields #[]),#[]⟩) (bN (pU "self" 666 "start" "found" "more") (bN (aD) .nil .nil) .nil) (bN (bu 53 0 "__init__" "Vector.__init__") (bN (bu 68 4 "by_number" "Obarray.by_number") .nil .nil) .nil)) (bN (⟨(.type "tuple"),none,(.seq #[(sV "words" 580),(sV "body" 581),(sV "head" 582),(sV "mark" 583),(sV "tail" 584),(sV "whole" 585),(sV "point" 586),(sV "part" 587)] 0),#[]⟩) (bN (kj 761 334) (bN (aD) .nil .nil) .nil) (bN (qI "self" 978 "datum" "cons" "things" "place") (bN (⟨.none,none,(.fields #[]),#[]⟩) .nil .nil) .nil))) (bN (bJ 24 "figure_of") (bN (aD) (bN (et 46 10 "in_radix" "Tokens.in_radix" "emacs.lisptokens" 500 302) (bN (et 65 3 "opened" "LispReader.opened" "emacs.lispreader" 925 558) .nil .nil) .nil) (bN (aD) (bN (⟨(.type "dict"),none,(.dict #[dE P "__module__" 1219 (sV "emacs.obarray" 1210),dE P "__firstlineno__" 1223 (iV 487 1222),dE P "__init__" 1230 (rV 629),dE P "intern" 1239 (rV 636),dE P "soft" 1247 (rV 643),dE P "fresh" 1256 (rV 650),dE P "by_number" 1264 (rV 657),dE P "is_interned" 1272 (rV 664),dE P "unintern" 1280 (rV 671),dE P "all_names" 1287 (rV 678),dE P "size" 1294 (rV 685),dE P "__static_attributes__" 1297 (rV 686),dE P "__dict__" 1299 (rV 689),dE P "__weakref__" 1301 (rV 690),dE P "__doc__" 1302 .none] 4),#[]⟩) .nil .nil) .nil)) (bN (bL "code" 621 "Tokens.code" 171 2 234 627 628) (bN (iI) (bN (aD) .nil .nil) .nil) (bN (et 61 1 "take" "OpenForm.take" "emacs.lispreader" 925 494) (bN (aD) .nil .nil) .nil))))) (bN (iI) (bN (iH 218 38) (bN (fk "letter" 300 "own" "bit") (bN (aD) (bN (⟨.none,none,(.fields #[]),#[]⟩) (bN (pU "things" 1065 "place" "found" "at") .nil .nil) .nil) (bN (aD) (bN (aD) .nil .nil) .nil)) (bN (⟨.none,none,(.fields #[]),#[]⟩) (bN (fk "self" 752 "number" "name") (bN (pU "self" 1160 "form" "codes" "rows") .nil .nil) .nil) (bN (⟨.none,none,(.fields #[]),#[]⟩) (bN (BV "_law_deck" 1340 532 2 708 1343) .nil .nil) .nil))) (bN (aD) (bN (bJ 32 "escape_in_string") (bN (bL "dispatched" 693 "Tokens.dispatched" 254 2 290 700 701) (bN (bL "read" 1103 "LispReader.read" 394 1 546 1113 1114) .nil .nil) .nil) (bN (ff "things" 899) (bN (aD) .nil .nil) .nil)) (bN (bL "__init__" 611 "Tokens.__init__" 167 3 226 617 618) (bN (eS "car" 809 "cdr") (bN (eM 66 "read_all" "emacs.lispreader" 925 614) .nil .nil) .nil) (bN (bL "__init__" 1009 "OpenForm.__init__" 342 4 482 1016 1017) (bN (eM 78 "_law_taken" "law_oj0032_01" 1305 742) .nil .nil) .nil)))) (bN (et 3 0 "__init__" "BadSyntax.__init__" "emacs.lisperrors" 194 54) (bN (bJ 16 "with_modifier") (bN (pU "letters" 468 "code" "found" "letter") (bN (aD) (bN (aD) .nil .nil) .nil) (bN (iC 404) (bN (bL "is_interned" 1265 "Obarray.is_interned" 511 2 658 1270 1271) .nil .nil) .nil)) (bN (aD) (bN (⟨(rV 334),(some 342),.plain,#[]⟩) (bN (bu 65 9 "labelled" "LispReader.labelled") .nil .nil) .nil) (bN (kj 990 470) (bN (bJ 76 "_law_tokens") .nil .nil) .nil))) (bN (bL "figures_at" 409 "figures_at" 56 4 114 418 419) (bN (bJ 40 "value_in") (bN (eS "codes" 725 "place") (bN (aD) .nil .nil) .nil) (bN (⟨.none,none,(.fields #[]),#[]⟩) (bN (⟨.none,none,(.fields #[]),#[]⟩) .nil .nil) .nil)) (bN (et 46 2 "skip_line" "Tokens.skip_line" "emacs.lisptokens" 500 246) (bN (⟨.none,none,(.fields #[]),#[]⟩) (bN (⟨.none,none,(.fields #[]),#[]⟩) .nil .nil) .nil) (bN (aD) (bN (⟨.none,none,(.fields #[]),#[]⟩) .nil .nil) .nil)))))) (bN (aD) (bN (bJ 0 "_wall") (bN (et 2 0 "__init__" "EndOfText.__init__" "emacs.lisperrors" 194 34) (bN (tN "s" 287 8388608 264) (bN (aD) (bN (bu 46 4 "token" "Tokens.token") (bN (bL "noted_things" 1054 "noted_things" 369 1 510 1059 1060) .nil .nil) .nil) (bN (iF 383) (bN (et 68 2 "soft" "Obarray.soft" "emacs.obarray" 1210 642) .nil .nil) .nil)) (bN (bJ 42 "are_figures") (bN (su "Symbol" 739 291 321 742) (bN (bL "closed" 1146 "LispReader.closed" 435 4 574 1154 1155) .nil .nil) .nil) (bN (⟨.none,none,(.fields #[(nV 328),(nV 4),(rV 459),(nV 333),(nV 4),(rV 466)]),#[]⟩) (bN (eM 72 "_law_pick" "law_oj0032_01" 1305 706) .nil .nil) .nil))) (bN (eM 22 "is_ending" "emacs.chartokens" 323 98) (bN (aD) (bN (⟨.none,none,(.fields #[]),#[]⟩) (bN (⟨.none,none,(.fields #[]),#[]⟩) .nil .nil) .nil) (bN (aD) (bN (aD) .nil .nil) .nil)) (bN (⟨.none,none,(.fields #[]),#[]⟩) (bN (aD) (bN (pU "codes" 1203 "obarray" "reader" "found") .nil .nil) .nil) (bN (⟨.none,none,(.fields #[]),#[]⟩) (bN (pU "opened_here" 1383 "data" "thing" "top") .nil .nil) .nil)))) (bN (fk "self" 240 "word" "place") (bN (aD) (bN (bL "escaped" 453 "escaped" 97 2 142 462 463) (bN (et 46 6 "string" "Tokens.string" "emacs.lisptokens" 500 274) (bN (⟨(.type "tuple"),none,(.seq #[(iV 0 1084),.none] 0),#[]⟩) .nil .nil) .nil) (bN (Jp P 857 308 869 401 871) (bN (⟨.none,none,(.fields #[]),#[]⟩) .nil .nil) .nil)) (bN (eM 44 "is_float" "emacs.lisptokens" 500 210) (bN (⟨(.type "dict"),none,(.dict #[dE P "number" 774 (iV 0 768),dE P "name" 776 (sV "nil" 769)] 2),#[]⟩) (bN (aD) .nil .nil) .nil) (bN (et 60 1 "settle" "Placeholder.settle" "emacs.lispreader" 925 466) (bN (aD) .nil .nil) .nil))) (bN (⟨.none,none,(.fields #[]),#[]⟩) (bN (aD) (bN (aD) (bN (aD) .nil .nil) .nil) (bN (bJ 55 "list_of") (bN (iC 688) .nil .nil) .nil)) (bN (ff "self" 633) (bN (su "Text" 821 303 369 824) (bN (bu 68 0 "__init__" "Obarray.__init__") .nil .nil) .nil) (bN (kj 1036 498) (bN (bJ 80 "_law_text") .nil .nil) .nil))))) (bN (su "EndOfText" 198 5 25 201) (bN (iI) (bN (eM 14 "bit_of" "emacs.charnames" 256 74) (bN (bJ 28 "modifiers_at") (bN (bL "character" 654 "Tokens.character" 207 2 262 660 661) (bN (eM 64 "spans_rows" "emacs.lispreader" 925 522) .nil .nil) .nil) (bN (aD) (bN (aD) .nil .nil) .nil)) (bN (bL "is_power" 570 "is_power" 150 1 198 574 575) (bN (et 48 0 "__init__" "Symbol.__init__" "emacs.objects" 735 330) (bN (et 65 7 "spanned" "LispReader.spanned" "emacs.lispreader" 925 586) .nil .nil) .nil) (bN (bL "__init__" 968 "Placeholder.__init__" 328 1 454 972 973) (bN (bJ 74 "_law_shape") .nil .nil) .nil))) (bN (aD) (bN (⟨(.type "tuple"),none,(.seq #[(iV 34 525),(iV 39 526),(iV 59 527),(iV 40 528),(iV 41 529),(iV 91 530),(iV 93 531),(iV 35 532),(iV 96 533),(iV 44 534)] 0),#[]⟩) (bN (jZ "self" 706 "radix" "start" "words" "is_quoted" "found") (bN (qI "self" 1119 "word" "value" "start" "form") .nil .nil) .nil) (bN (iH 903 425) (bN (bu 68 8 "size" "Obarray.size") .nil .nil) .nil)) (bN (⟨.none,none,(.fields #[]),#[]⟩) (bN (iH 814 361) (bN (aD) .nil .nil) .nil) (bN (fk "self" 1022 "datum" "place") (bN (aD) .nil .nil) .nil)))) (bN (iH 249 58) (bN (⟨(.type "dict"),none,(.dict #[⟨97,(iV 97 340),(iV 7 341)⟩,⟨98,(iV 98 342),(iV 8 343)⟩,⟨116,(iV 116 344),(iV 9 345)⟩,⟨110,(iV 110 346),(iV 10 347)⟩,⟨118,(iV 118 348),(iV 11 349)⟩,⟨102,(iV 102 350),(iV 12 351)⟩,⟨114,(iV 114 352),(iV 13 353)⟩,⟨101,(iV 101 354),(iV 27 355)⟩,⟨100,(iV 100 356),(iV 127 357)⟩] 9),#[]⟩) (bN (eM 30 "modified" "emacs.chartokens" 323 154) (bN (aD) (bN (aD) .nil .nil) .nil) (bN (Fy P 886 "emacs.objects" 735 "ByteCode" 312 898 422 900) (bN (eS "self" 1276 "name") .nil .nil) .nil)) (bN (aD) (bN (Fy P 795 "emacs.objects" 735 "Cons" 298 808 358 811) (bN (⟨(.type "dict"),none,(.dict #[dE P "__module__" 1079 (sV "emacs.lispreader" 925),dE P "__firstlineno__" 1083 (iV 383 1082),dE P "__init__" 1095 (rV 538),dE P "place" 1102 (rV 545),dE P "read" 1115 (rV 552),dE P "opened" 1126 (rV 559),dE P "atom" 1136 (rV 566),dE P "dotted" 1145 (rV 573),dE P "closed" 1156 (rV 580),dE P "spanned" 1166 (rV 587),dE P "given" 1178 (rV 594),dE P "labelled" 1187 (rV 601),dE P "__static_attributes__" 1192 (rV 602),dE P "__dict__" 1194 (rV 605),dE P "__weakref__" 1196 (rV 606),dE P "__doc__" 1197 .none] 4),#[]⟩) .nil .nil) .nil) (bN (aD) (bN (⟨.none,none,(.fields #[]),#[]⟩) .nil .nil) .nil))) (bN (jZ "codes" 424 "place" "most" "is_exact" "found" "end") (bN (⟨.none,none,(.fields #[]),#[]⟩) (bN (iH 730 313) (bN (bu 65 5 "dotted" "LispReader.dotted") .nil .nil) .nil) (bN (bL "is_whole" 918 "is_whole" 321 1 438 922 923) (bN (bL "_law_draw" 1322 "_law_draw" 524 2 694 1329 1330) .nil .nil) .nil)) (bN (aD) (bN (bL "__init__" 831 "Text.__init__" 305 3 374 837 838) (bN (bL "intern" 1231 "Obarray.intern" 493 2 630 1237 1238) .nil .nil) .nil) (bN (bJ 62 "noted_list") (bN (bL "law" 1415 "law" 615 1 758 1424 1425) .nil .nil) .nil))))))) (bN (PySem.W.boot_o_5 P) (bN (PySem.W.boot_o_9 P) (bN (ff "k" 190) (bN (bu 2 0 "__init__" "EndOfText.__init__") (bN (tN "M" 285 134217728 280) (bN (⟨.none,none,(.fields #[]),#[]⟩) (bN (pU "self" 647 "start" "code" "is_splice") (bN (aD) .nil .nil) .nil) (bN (iH 845 383) (bN (bu 68 2 "soft" "Obarray.soft") .nil .nil) .nil)) (bN (aD) (bN (aD) (bN (aD) .nil .nil) .nil) (bN (⟨(.type "dict"),none,(.dict #[dE P "__module__" 963 (sV "emacs.lispreader" 925),dE P "__qualname__" 965 (sV "Placeholder" 964),dE P "__firstlineno__" 967 (iV 326 966),dE P "__init__" 974 (rV 460),dE P "settle" 985 (rV 467),dE P "__static_attributes__" 989 (rV 468)] 6),#[]⟩) (bN (bJ 72 "_law_pick") .nil .nil) .nil))) (bN (bJ 22 "is_ending") (bN (bL "character_at" 475 "character_at" 108 2 156 484 485) (bN (et 46 8 "word" "Tokens.word" "emacs.lisptokens" 500 288) (bN (et 65 1 "place" "LispReader.place" "emacs.lispreader" 925 544) .nil .nil) .nil) (bN (⟨.none,none,(.fields #[]),#[]⟩) (bN (⟨.none,none,(.fields #[]),#[]⟩) .nil .nil) .nil)) (bN (sj 224 221 "emacs.lisptokens" 500) (bN (⟨.none,none,(.fields #[]),#[]⟩) (bN (aD) .nil .nil) .nil) (bN (sj 480 477 "emacs.lispreader" 925) (bN (aD) .nil .nil) .nil)))) (bN (aD) (bN (bL "with_control" 306 "with_control" 29 1 76 312 313) (bN (aD) (bN (bu 46 6 "string" "Tokens.string") (bN (su "LispReader" 1074 383 527 1077) .nil .nil) .nil) (bN (et 53 0 "__init__" "Vector.__init__" "emacs.objects" 735 400) (bN (et 68 4 "by_number" "Obarray.by_number" "emacs.obarray" 1210 656) .nil .nil) .nil)) (bN (bJ 44 "is_float") (bN (iC 334) (bN (bL "given" 1167 "LispReader.given" 454 4 588 1176 1177) .nil .nil) .nil) (bN (bu 60 1 "settle" "Placeholder.settle") (bN (BV "_law_told" 1352 540 1 718 1355) .nil .nil) .nil))) (bN (eM 24 "figure_of" "emacs.chartokens" 323 112) (bN (bL "is_break" 538 "is_break" 133 1 172 542 543) (bN (⟨.none,none,(.fields #[]),#[]⟩) (bN (⟨.none,none,(.fields #[]),#[]⟩) .nil .nil) .nil) (bN (pU "things" 911 "tail" "found" "place") (bN (kj 1298 688) .nil .nil) .nil)) (bN (aD) (bN (aD) (bN (ff "self" 1227) .nil .nil) .nil) (bN (⟨(.type "dict"),none,(.dict #[dE P "__module__" 1004 (sV "emacs.lispreader" 925),dE P "__firstlineno__" 1008 (iV 340 1007),dE P "__init__" 1018 (rV 488),dE P "take" 1027 (rV 495),dE P "__static_attributes__" 1035 (rV 496),dE P "__dict__" 1037 (rV 499),dE P "__weakref__" 1039 (rV 500),dE P "__doc__" 1040 .none] 4),#[]⟩) (bN (AL "deck" 1405 "many" "is_fair" "found" "opened_here" "turn" "piece") .nil .nil) .nil))))) (bN (aD) (bN (iF 38) (bN (bJ 14 "bit_of") (bN (qI "codes" 445 "place" "letters" "at" "code") (bN (aD) (bN (bJ 64 "spans_rows") .nil .nil) .nil) (bN (su "Vector" 852 308 391 855) (bN (bL "fresh" 1248 "Obarray.fresh" 503 2 644 1254 1255) .nil .nil) .nil)) (bN (aD) (bN (bu 48 0 "__init__" "Symbol.__init__") (bN (bu 65 7 "spanned" "LispReader.spanned") .nil .nil) .nil) (bN (aD) (bN (aD) .nil .nil) .nil))) (bN (bL "need_code" 394 "need_code" 46 2 100 399 400) (bN (eM 32 "escape_in_string" "emacs.chartokens" 323 168) (bN (aD) (bN (aD) .nil .nil) .nil) (bN (zr "ByteCode" 425 424 879) (bN (ff "self" 1291) .nil .nil) .nil)) (bN (⟨(.type "tuple"),none,(.seq #[(iV 0 620)] 0),#[]⟩) (bN (zr "Cons" 361 360 788) (bN (iI) .nil .nil) .nil) (bN (aD) (bN (⟨.none,none,(.fields #[]),#[]⟩) .nil .nil) .nil)))) (bN (⟨(.type "dict"),none,(.dict #[dE P "__module__" 232 (sV "emacs.lisperrors" 194),dE P "__firstlineno__" 236 (iV 9 235),dE P "__init__" 245 (rV 55),dE P "__static_attributes__" 248 (rV 56),dE P "__weakref__" 250 (rV 59),dE P "__doc__" 251 .none] 3),#[]⟩) (bN (eM 16 "with_modifier" "emacs.charnames" 256 88) (bN (bJ 30 "modified") (bN (bL "name" 673 "Tokens.name" 228 1 276 679 680) (bN (bL "__init__" 1085 "LispReader.__init__" 385 5 532 1093 1094) .nil .nil) .nil) (bN (aD) (bN (aD) .nil .nil) .nil)) (bN (bL "sign_of" 591 "sign_of" 161 2 212 596 597) (bN (aD) (bN (et 65 9 "labelled" "LispReader.labelled" "emacs.lispreader" 925 600) .nil .nil) .nil) (bN (iC 470) (bN (eM 76 "_law_tokens" "law_oj0032_01" 1305 728) .nil .nil) .nil))) (bN (aD) (bN (eM 40 "value_in" "emacs.lisptokens" 500 184) (bN (zr "Tokens" 313 312 599) (bN (fk "self" 1140 "forms" "start") .nil .nil) .nil) (bN (aD) (bN (aD) .nil .nil) .nil)) (bN (⟨.none,none,(.fields #[]),#[]⟩) (bN (aD) (bN (aD) .nil .nil) .nil) (bN (qI "things" 1046 "tail" "found" "at" "thing") (bN (aD) .nil .nil) .nil)))))) (bN (su "<module>" 182 1 11 185) (bN (eM 0 "_wall" "__main__" 164 20) (bN (⟨(.type "dict"),none,(.dict #[dE P "__module__" 203 (sV "emacs.lisperrors" 194),dE P "__firstlineno__" 207 (iV 5 206),dE P "__init__" 215 (rV 35),dE P "__static_attributes__" 217 (rV 36),dE P "__weakref__" 219 (rV 39),dE P "__doc__" 220 .none] 3),#[]⟩) (bN (aD) (bN (bL "plain_escape" 433 "plain_escape" 68 2 128 439 440) (bN (et 46 4 "token" "Tokens.token" "emacs.lisptokens" 500 260) (bN (aD) .nil .nil) .nil) (bN (iI) (bN (⟨.none,none,(.fields #[]),#[]⟩) .nil .nil) .nil)) (bN (eM 42 "are_figures" "emacs.lisptokens" 500 196) (bN (aD) (bN (aD) .nil .nil) .nil) (bN (sj 452 449 "emacs.lispreader" 925) (bN (⟨.none,none,(.fields #[]),#[]⟩) .nil .nil) .nil))) (bN (⟨.none,none,(.fields #[]),#[]⟩) (bN (AL "codes" 490 "place" "code" "letters" "plain" "end" "found") (bN (aD) (bN (aD) .nil .nil) .nil) (bN (bL "__init__" 891 "ByteCode.__init__" 314 2 416 896 897) (bN (bL "all_names" 1281 "Obarray.all_names" 517 1 672 1285 1286) .nil .nil) .nil)) (bN (aD) (bN (bL "__init__" 800 "Cons.__init__" 300 3 352 806 807) (bN (bJ 66 "read_all") .nil .nil) .nil) (bN (aD) (bN (bJ 78 "_law_taken") .nil .nil) .nil)))) (bN (bu 3 0 "__init__" "BadSyntax.__init__") (bN (eS "letter" 318 "number") (bN (aD) (bN (⟨.none,none,(.fields #[]),#[]⟩) (bN (⟨.none,none,(.fields #[]),#[]⟩) .nil .nil) .nil) (bN (kj 872 404) (bN (aD) .nil .nil) .nil)) (bN (⟨.none,none,(.fields #[]),#[]⟩) (bN (⟨(.type "frame"),none,(.dict #[dE P "self" 770 (rV 340),dE P "number" 771 (iV 0 768),dE P "name" 772 (sV "nil" 769)] 3),#[]⟩) (bN (fk "self" 1182 "form" "datum") .nil .nil) .nil) (bN (⟨(.type "dict"),none,(.dict #[dE P "__module__" 963 (sV "emacs.lispreader" 925),dE P "__firstlineno__" 967 (iV 326 966),dE P "__init__" 974 (rV 460),dE P "settle" 985 (rV 467),dE P "__static_attributes__" 989 (rV 468),dE P "__dict__" 991 (rV 471),dE P "__weakref__" 993 (rV 472),dE P "__doc__" 994 .none] 4),#[]⟩) (bN (pU "text" 1361 "found" "at" "begin") .nil .nil) .nil))) (bN (aD) (bN (jZ "words" 548 "radix" "body" "found" "sign" "figure") (bN (bL "numbered" 715 "Tokens.numbered" 278 2 304 722 723) (bN (bL "atom" 1127 "LispReader.atom" 417 4 560 1134 1135) .nil .nil) .nil) (bN (fO (aJ 55) "list_of" "list_of" (rV 430) (sV "emacs.objects" 735) (rV 436)) (bN (⟨(.type "list"),none,(.seq #[(sV "(" 1307),(sV ")" 1308),(sV "[" 1309),(sV "]" 1310),(sV "'" 1311),(sV "ab " 1312),(sV "c" 1313),(sV " . " 1314),(sV " " 1315),(sV "\n" 1316),(sV ";([\n" 1317),(sV "a " 1318),(sV " . b)" 1319),(sV "(a" 1320)] 0),#[]⟩) .nil .nil) .nil)) (bN (bu 46 2 "skip_line" "Tokens.skip_line") (bN (⟨(.type "tuple"),none,(.seq #[.none] 0),#[]⟩) (bN (et 68 0 "__init__" "Obarray.__init__" "emacs.obarray" 1210 628) .nil .nil) .nil) (bN (iC 498) (bN (eM 80 "_law_text" "law_oj0032_01" 1305 756) .nil .nil) .nil))))) (bN (aD) (bN (aD) (bN (⟨.none,none,(.fields #[]),#[]⟩) (bN (eM 28 "modifiers_at" "emacs.chartokens" 323 140) (bN (aD) (bN (iI) .nil .nil) .nil) (bN (eS "self" 865 "things") (bN (eS "self" 1260 "number") .nil .nil) .nil)) (bN (aD) (bN (Jp P 744 291 757 331 760) (bN (⟨.none,none,(.fields #[]),#[]⟩) .nil .nil) .nil) (bN (aD) (bN (eM 74 "_law_shape" "law_oj0032_01" 1305 716) .nil .nil) .nil))) (bN (ff "code" 405) (bN (⟨.none,none,(.fields #[]),#[]⟩) (bN (bu 46 10 "in_radix" "Tokens.in_radix") (bN (bu 65 3 "opened" "LispReader.opened") .nil .nil) .nil) (bN (iF 425) (bN (et 68 8 "size" "Obarray.size" "emacs.obarray" 1210 684) .nil .nil) .nil)) (bN (aD) (bN (iF 361) (bN (su "Obarray" 1214 487 619 1217) .nil .nil) .nil) (bN (bu 61 1 "take" "OpenForm.take") (bN (bL "_law_due" 1390 "_law_due" 584 1 744 1399 1400) .nil .nil) .nil)))) (bN (iF 58) (bN (aD) (bN (⟨.none,none,(.fields #[]),#[]⟩) (bN (qI "self" 685 "start" "words" "is_quoted" "number") (bN (ff "self" 1099) .nil .nil) .nil) (bN (pN 314 421) (bN (bu 68 6 "unintern" "Obarray.unintern") .nil .nil) .nil)) (bN (⟨(.type "dict"),none,(.dict #[dE P "__module__" 606 (sV "emacs.lisptokens" 500),dE P "__qualname__" 608 (sV "Tokens" 607),dE P "__firstlineno__" 610 (iV 165 609),dE P "__init__" 619 (rV 232),dE P "code" 629 (rV 240),dE P "skip_line" 636 (rV 247),dE P "skip_blanks" 643 (rV 254),dE P "token" 653 (rV 261),dE P "character" 662 (rV 268),dE P "string" 672 (rV 275),dE P "name" 681 (rV 282),dE P "word" 692 (rV 289),dE P "dispatched" 702 (rV 296),dE P "in_radix" 714 (rV 303),dE P "numbered" 724 (rV 310),dE P "__static_attributes__" 727 (rV 311)] 16),#[]⟩) (bN (pN 300 357) (bN (kj 1193 604) .nil .nil) .nil) (bN (⟨(.type "dict"),none,(.dict #[dE P "__module__" 1004 (sV "emacs.lispreader" 925),dE P "__qualname__" 1006 (sV "OpenForm" 1005),dE P "__firstlineno__" 1008 (iV 340 1007),dE P "__init__" 1018 (rV 488),dE P "take" 1027 (rV 495),dE P "__static_attributes__" 1035 (rV 496)] 6),#[]⟩) (bN (aD) .nil .nil) .nil))) (bN (bJ 26 "numbered_at") (bN (aD) (bN (iF 313) (bN (et 65 5 "dotted" "LispReader.dotted" "emacs.lispreader" 925 572) .nil .nil) .nil) (bN (⟨(.type "dict"),none,(.dict #[⟨kh P "(",.str "(" 927,(sV ")" 928)⟩,⟨kh P "spans",.str "spans" 929,(sV ")" 930)⟩,dE P "[" 931 (sV "]" 932),dE P "code" 933 (sV "]" 934)] 4),#[]⟩) (bN (aD) .nil .nil) .nil)) (bN (bL "skip_blanks" 637 "Tokens.skip_blanks" 179 1 248 641 642) (bN (eS "codes" 840 "spans") (bN (aD) .nil .nil) .nil) (bN (eM 62 "noted_list" "emacs.lispreader" 925 508) .nil .nil)))))))) (bN (⟨.none,none,(.dict #[dE P "type.__subclasses__.Exception.0" 221 (nV 38),dE P "type.__subclasses__.Exception.n" 222 (nV 2),dE P "type.__subclasses__.Exception.1" 252 (nV 58)] 3),#[]⟩) (bN (PySem.W.boot_o_4 P) (bN (PySem.W.boot_o_8 P) (bN (⟨.none,none,(.fields #[]),#[]⟩) (bN (aD) (bN (tN "H" 284 16777216 268) (bN (aD) (bN (⟨.none,none,(.fields #[]),#[]⟩) (bN (eS "things" 1057 "place") .nil .nil) .nil) (bN (kj 843 383) (bN (aD) .nil .nil) .nil)) (bN (eM 41 "integer_of" "emacs.lisptokens" 500 191) (bN (Fy P 744 "emacs.objects" 735 "Symbol" 291 757 331 760) (bN (qI "self" 1149 "forms" "word" "start" "form") .nil .nil) .nil) (bN (iI) (bN (aD) .nil .nil) .nil))) (bN (aD) (bN (bJ 31 "character_at") (bN (bL "word" 682 "Tokens.word" 241 2 283 690 691) (bN (bL "place" 1096 "LispReader.place" 391 1 539 1100 1101) .nil .nil) .nil) (bN (aD) (bN (aD) .nil .nil) .nil)) (bN (su "Tokens" 601 165 222 604) (bN (aD) (bN (iF 604) .nil .nil) .nil) (bN (su "OpenForm" 999 340 478 1002) (bN (eM 77 "_law_closed" "law_oj0032_01" 1305 735) .nil .nil) .nil)))) (bN (sj 47 44 "emacs.lisperrors" 194) (bN (bJ 15 "with_control") (bN (jZ "codes" 456 "place" "letters" "at" "code" "end") (bN (aD) (bN (⟨.none,none,(.fields #[(nV 385),(nV 4),(rV 537),(nV 391),(nV 4),(rV 544),(nV 394),(nV 4),(rV 551),(nV 411),(nV 4),(rV 558),(nV 417),(nV 4),(rV 565),(nV 430),(nV 4),(rV 572),(nV 435),(nV 4),(rV 579),(nV 447),(nV 4),(rV 586),(nV 454),(nV 4),(rV 593),(nV 471),(nV 4),(rV 600)]),#[]⟩) .nil .nil) .nil) (bN (bL "__init__" 862 "Vector.__init__" 310 2 395 867 868) (bN (bL "by_number" 1257 "Obarray.by_number" 508 2 651 1262 1263) .nil .nil) .nil)) (bN (aD) (bN (iH 763 334) (bN (bu 65 8 "given" "LispReader.given") .nil .nil) .nil) (bN (aD) (bN (bJ 75 "_law_told") .nil .nil) .nil))) (bN (bL "figure_of" 402 "figure_of" 50 1 107 406 407) (bN (bJ 39 "is_break") (bN (aD) (bN (aD) .nil .nil) .nil) (bN (⟨.none,none,(.fields #[]),#[]⟩) (bN (zr "Obarray" 688 687 1212) .nil .nil) .nil)) (bN (fO (aI 46 1) "code" "Tokens.code" (rV 233) (sV "emacs.lisptokens" 500) (rV 239)) (bN (Fy P 826 "emacs.objects" 735 "Text" 303 839 380 842) (bN (⟨.none,none,(.fields #[]),#[]⟩) .nil .nil) .nil) (bN (AL "dots" 1028 "holder" "number" "place" "tail" "things" "word") (bN (⟨.none,none,(.fields #[]),#[]⟩) .nil .nil) .nil))))) (bN (Fy P 203 "emacs.lisperrors" 194 "EndOfText" 5 215 35 217) (bN (iC 38) (bN (aD) (bN (⟨.none,none,(.fields #[]),#[]⟩) (bN (fk "self" 657 "start" "number") (bN (aD) .nil .nil) .nil) (bN (pN 310 400) (bN (bu 68 3 "fresh" "Obarray.fresh") .nil .nil) .nil)) (bN (ff "tail" 573) (bN (aD) (bN (aD) .nil .nil) .nil) (bN (ff "self" 971) (bN (eM 73 "_law_deck" "law_oj0032_01" 1305 711) .nil .nil) .nil))) (bN (bJ 23 "need_code") (bN (bL "escape_in_string" 487 "escape_in_string" 114 2 163 497 498) (bN (et 46 9 "dispatched" "Tokens.dispatched" "emacs.lisptokens" 500 295) (bN (et 65 2 "read" "LispReader.read" "emacs.lispreader" 925 551) .nil .nil) .nil) (bN (Jp P 886 312 898 422 900) (bN (⟨.none,none,(.fields #[]),#[]⟩) .nil .nil) .nil)) (bN (et 46 0 "__init__" "Tokens.__init__" "emacs.lisptokens" 500 231) (bN (Jp P 795 298 808 358 811) (bN (aD) .nil .nil) .nil) (bN (et 61 0 "__init__" "OpenForm.__init__" "emacs.lispreader" 925 487) (bN (aD) .nil .nil) .nil)))) (bN (eS "place" 246 "word") (bN (bL "with_modifier" 315 "with_modifier" 37 2 83 320 321) (bN (aD) (bN (bu 46 7 "name" "Tokens.name") (bN (bu 65 0 "__init__" "LispReader.__init__") .nil .nil) .nil) (bN (iF 404) (bN (et 68 5 "is_interned" "Obarray.is_interned" "emacs.obarray" 1210 663) .nil .nil) .nil)) (bN (bJ 45 "sign_of") (bN (⟨(.type "frame"),none,(.dict #[dE P "self" 780 (rV 343),dE P "number" 781 (iV 1 778),dE P "name" 782 (sV "t" 779)] 3),#[]⟩) (bN (bL "labelled" 1179 "LispReader.labelled" 471 3 595 1185 1186) .nil .nil) .nil) (bN (iH 992 470) (bN (bL "_law_tokens" 1358 "_law_tokens" 547 1 723 1365 1366) .nil .nil) .nil))) (bN (eM 25 "figures_at" "emacs.chartokens" 323 119) (bN (bL "value_in" 545 "value_in" 135 2 179 554 555) (bN (⟨(.type "dict"),none,(.dict #[dE P "__module__" 606 (sV "emacs.lisptokens" 500),dE P "__firstlineno__" 610 (iV 165 609),dE P "__init__" 619 (rV 232),dE P "code" 629 (rV 240),dE P "skip_line" 636 (rV 247),dE P "skip_blanks" 643 (rV 254),dE P "token" 653 (rV 261),dE P "character" 662 (rV 268),dE P "string" 672 (rV 275),dE P "name" 681 (rV 282),dE P "word" 692 (rV 289),dE P "dispatched" 702 (rV 296),dE P "in_radix" 714 (rV 303),dE P "numbered" 724 (rV 310),dE P "__static_attributes__" 727 (rV 311),dE P "__dict__" 729 (rV 314),dE P "__weakref__" 731 (rV 315),dE P "__doc__" 732 .none] 4),#[]⟩) (bN (⟨.none,none,(.fields #[]),#[]⟩) .nil .nil) .nil) (bN (ff "datum" 921) (bN (pU "deck" 1325 "many" "turn" "cell") .nil .nil) .nil)) (bN (aD) (bN (fk "self" 834 "codes" "spans") (bN (fk "self" 1234 "name" "found") .nil .nil) .nil) (bN (⟨.none,none,(.fields #[]),#[]⟩) (bN (jZ "script" 1418 "deck" "turn" "text" "fault" "far") .nil .nil) .nil)))))) (bN (⟨.none,none,.fields N5.toArray,#[]⟩) (bN (bL "_wall" 187 "_wall" 1 1 15 191 192) (bN (ff "place" 216) (bN (⟨(.type "tuple"),none,(.seq #[(rV 62),(rV 63),(rV 64),(rV 65),(rV 66),(rV 67)] 0),#[]⟩) (bN (bJ 27 "plain_escape") (bN (bL "token" 644 "Tokens.token" 188 1 255 651 652) (bN (eM 63 "noted_things" "emacs.lispreader" 925 515) .nil .nil) .nil) (bN (aD) (bN (aD) .nil .nil) .nil)) (bN (BV "are_figures" 564 148 1 193 567) (bN (sj 323 320 "emacs.objects" 735) (bN (et 65 6 "closed" "LispReader.closed" "emacs.lispreader" 925 579) .nil .nil) .nil) (bN (su "Placeholder" 958 326 450 961) (bN (aD) .nil .nil) .nil))) (bN (aD) (bN (⟨.none,none,(.fields #[]),#[]⟩) (bN (pU "self" 696 "start" "code" "radix") (bN (AL "self" 1106 "forms" "word" "value" "start" "datum" "found") .nil .nil) .nil) (bN (bu 54 0 "__init__" "ByteCode.__init__") (bN (bu 68 7 "all_names" "Obarray.all_names") .nil .nil) .nil)) (bN (fk "self" 614 "codes" "place") (bN (bu 51 0 "__init__" "Cons.__init__") (bN (aD) .nil .nil) .nil) (bN (pU "self" 1012 "word" "place" "number") (bN (aD) .nil .nil) .nil)))) (bN (aD) (bN (⟨.none,none,(.fields #[]),#[]⟩) (bN (eM 29 "escaped" "emacs.chartokens" 323 147) (bN (aD) (bN (aD) .nil .nil) .nil) (bN (zr "Vector" 404 403 850) (bN (eS "self" 1268 "symbol") .nil .nil) .nil)) (bN (aD) (bN (⟨(rV 334),(some 339),.plain,#[]⟩) (bN (⟨.none,none,(.fields #[]),#[]⟩) .nil .nil) .nil) (bN (fk "cells" 986 "conses" "tails") (bN (⟨.none,none,(.fields #[]),#[]⟩) .nil .nil) .nil))) (bN (jZ "codes" 412 "place" "radix" "most" "found" "at") (bN (⟨.none,none,(.fields #[]),#[]⟩) (bN (bu 46 11 "numbered" "Tokens.numbered") (bN (bu 65 4 "atom" "LispReader.atom") .nil .nil) .nil) (bN (bL "list_of" 908 "list_of" 316 2 431 915 916) (bN (iF 688) .nil .nil) .nil)) (bN (aD) (bN (sj 371 368 "emacs.objects" 735) (bN (bL "__init__" 1224 "Obarray.__init__" 489 1 623 1228 1229) .nil .nil) .nil) (bN (iH 1038 498) (bN (bL "_law_text" 1402 "_law_text" 603 3 751 1412 1413) .nil .nil) .nil))))) (bN (sj 27 24 "emacs.lisperrors" 194) (bN (Fy P 232 "emacs.lisperrors" 194 "BadSyntax" 9 245 55 248) (bN (aD) (bN (bL "modifiers_at" 442 "modifiers_at" 81 2 135 450 451) (bN (et 46 5 "character" "Tokens.character" "emacs.lisptokens" 500 267) (bN (aD) .nil .nil) .nil) (bN (⟨.none,none,(.fields #[]),#[]⟩) (bN (⟨.none,none,(.fields #[]),#[]⟩) .nil .nil) .nil)) (bN (eM 43 "is_power" "emacs.lisptokens" 500 203) (bN (eS "name" 758 "number") (bN (aD) .nil .nil) .nil) (bN (et 60 0 "__init__" "Placeholder.__init__" "emacs.lispreader" 925 459) (bN (BV "_law_shape" 1346 534 1 713 1349) .nil .nil) .nil))) (bN (⟨.none,none,(.fields #[]),#[]⟩) (bN (aD) (bN (aD) (bN (aD) .nil .nil) .nil) (bN (iC 425) (bN (bL "size" 1288 "Obarray.size" 520 1 679 1292 1293) .nil .nil) .nil)) (bN (fk "self" 624 "ahead" "at") (bN (iC 361) (bN (⟨.none,none,(.fields #[(nV 489),(nV 4),(rV 628),(nV 493),(nV 4),(rV 635),(nV 500),(nV 4),(rV 642),(nV 503),(nV 4),(rV 649),(nV 508),(nV 4),(rV 656),(nV 511),(nV 4),(rV 663),(nV 514),(nV 4),(rV 670),(nV 517),(nV 4),(rV 677),(nV 520),(nV 4),(rV 684)]),#[]⟩) .nil .nil) .nil) (bN (aD) (bN (bJ 79 "_law_due") .nil .nil) .nil)))) (bN (iC 58) (bN (⟨(.type "dict"),none,(.dict #[⟨65,(iV 65 368),(sV "A" 369)⟩,⟨67,(iV 67 370),(sV "C" 371)⟩,⟨72,(iV 72 372),(sV "H" 373)⟩,⟨77,(iV 77 374),(sV "M" 375)⟩,⟨83,(iV 83 376),(sV "S" 377)⟩,⟨115,(iV 115 378),(sV "s" 379)⟩] 6),#[]⟩) (bN (aD) (bN (⟨.none,none,(.fields #[]),#[]⟩) (bN (⟨.none,none,(.fields #[]),#[]⟩) .nil .nil) .nil) (bN (aD) (bN (aD) .nil .nil) .nil)) (bN (iI) (bN (aD) (bN (zr "LispReader" 604 603 1072) .nil .nil) .nil) (bN (iI) (bN (jZ "top" 1371 "word" "things" "dots" "tail" "thing") .nil .nil) .nil))) (bN (aD) (bN (ff "words" 560) (bN (iC 313) (bN (bL "dotted" 1137 "LispReader.dotted" 430 3 567 1143 1144) .nil .nil) .nil) (bN (eM 56 "is_whole" "emacs.objects" 735 443) (bN (eM 71 "_law_draw" "law_oj0032_01" 1305 699) .nil .nil) .nil)) (bN (bu 46 3 "skip_blanks" "Tokens.skip_blanks") (bN (fO (aI 52 0) "__init__" "Text.__init__" (rV 373) (sV "emacs.objects" 735) (rV 379)) (bN (et 68 1 "intern" "Obarray.intern" "emacs.obarray" 1210 635) .nil .nil) .nil) (bN (bL "noted_list" 1043 "noted_list" 359 2 503 1051 1052) (bN (eM 81 "law" "law_oj0032_01" 1305 763) .nil .nil) .nil))))))) (bN (PySem.W.boot_o_6 P) (bN (PySem.W.boot_o_10 P) (bN (aD) (bN (bL "__init__" 208 "EndOfText.__init__" 7 2 29 213 214) (bN (tN "S" 286 33554432 272) (bN (fk "codes" 436 "place" "code") (bN (aD) (bN (bJ 63 "noted_things") .nil .nil) .nil) (bN (iC 383) (bN (bL "soft" 1240 "Obarray.soft" 500 2 637 1245 1246) .nil .nil) .nil)) (bN (⟨.none,none,(.fields #[]),#[]⟩) (bN (pN 293 330) (bN (bu 65 6 "closed" "LispReader.closed") .nil .nil) .nil) (bN (aD) (bN (bL "_law_pick" 1332 "_law_pick" 530 2 701 1337 1338) .nil .nil) .nil))) (bN (bL "is_ending" 387 "is_ending" 44 1 93 391 392) (bN (eM 31 "character_at" "emacs.chartokens" 323 161) (bN (aD) (bN (aD) .nil .nil) .nil) (bN (eS "self" 894 "things") (bN (ff "self" 1284) .nil .nil) .nil)) (bN (aD) (bN (fk "self" 803 "car" "cdr") (bN (⟨.none,none,(.fields #[]),#[]⟩) .nil .nil) .nil) (bN (aD) (bN (⟨.none,none,(.fields #[]),#[]⟩) .nil .nil) .nil)))) (bN (⟨.none,none,(.fields #[]),#[]⟩) (bN (eM 15 "with_control" "emacs.charnames" 256 81) (bN (bJ 29 "escaped") (bN (bL "string" 663 "Tokens.string" 213 2 269 670 671) (bN (sj 529 526 "emacs.lispreader" 925) .nil .nil) .nil) (bN (ff "things" 870) (bN (aD) .nil .nil) .nil)) (bN (bL "is_float" 577 "is_float" 152 1 205 588 589) (bN (iF 334) (bN (et 65 8 "given" "LispReader.given" "emacs.lispreader" 925 593) .nil .nil) .nil) (bN (bL "settle" 975 "Placeholder.settle" 333 2 461 983 984) (bN (eM 75 "_law_told" "law_oj0032_01" 1305 721) .nil .nil) .nil))) (bN (aD) (bN (eM 39 "is_break" "emacs.lisptokens" 500 177) (bN (pU "self" 718 "start" "number" "code") (bN (pU "self" 1130 "word" "value" "start") .nil .nil) .nil) (bN (aD) (bN (iH 1300 688) .nil .nil) .nil)) (bN (⟨.none,none,(.fields #[]),#[]⟩) (bN (pN 305 379) (bN (aD) .nil .nil) .nil) (bN (zr "OpenForm" 498 497 997) (bN (aD) .nil .nil) .nil))))) (bN (pN 7 34) (bN (⟨(.type "tuple"),none,(.seq #[(.type "Exception")] 0),#[]⟩) (bN (bL "bit_of" 297 "bit_of" 24 1 69 303 304) (bN (aD) (bN (bu 46 5 "character" "Tokens.character") (bN (bL "spans_rows" 1062 "spans_rows" 374 2 517 1069 1070) .nil .nil) .nil) (bN (sj 393 390 "emacs.objects" 735) (bN (et 68 3 "fresh" "Obarray.fresh" "emacs.obarray" 1210 649) .nil .nil) .nil)) (bN (bJ 43 "is_power") (bN (bL "__init__" 749 "Symbol.__init__" 293 3 325 755 756) (bN (bL "spanned" 1157 "LispReader.spanned" 447 2 581 1164 1165) .nil .nil) .nil) (bN (bu 60 0 "__init__" "Placeholder.__init__") (bN (⟨.none,none,(.fields #[]),#[]⟩) .nil .nil) .nil))) (bN (eM 23 "need_code" "emacs.chartokens" 323 105) (bN (⟨(.type "dict"),none,(.dict #[⟨40,(iV 40 506),(sV "(" 507)⟩,⟨41,(iV 41 508),(sV ")" 509)⟩,⟨91,(iV 91 510),(sV "[" 511)⟩,⟨93,(iV 93 512),(sV "]" 513)⟩,⟨39,(iV 39 514),(sV "'" 515)⟩,⟨96,(iV 96 516),(sV "backquote" 517)⟩] 6),#[]⟩) (bN (⟨.none,none,(.fields #[]),#[]⟩) (bN (⟨.none,none,(.fields #[]),#[]⟩) .nil .nil) .nil) (bN (kj 901 425) (bN (aD) .nil .nil) .nil)) (bN (aD) (bN (kj 812 361) (bN (⟨(.type "dict"),none,(.dict #[dE P "__module__" 1219 (sV "emacs.obarray" 1210),dE P "__qualname__" 1221 (sV "Obarray" 1220),dE P "__firstlineno__" 1223 (iV 487 1222),dE P "__init__" 1230 (rV 629),dE P "intern" 1239 (rV 636),dE P "soft" 1247 (rV 643),dE P "fresh" 1256 (rV 650),dE P "by_number" 1264 (rV 657),dE P "is_interned" 1272 (rV 664),dE P "unintern" 1280 (rV 671),dE P "all_names" 1287 (rV 678),dE P "size" 1294 (rV 685),dE P "__static_attributes__" 1297 (rV 686)] 13),#[]⟩) .nil .nil) .nil) (bN (⟨.none,none,(.fields #[]),#[]⟩) (bN (jZ "text" 1393 "opened_here" "data" "word" "place" "thing") .nil .nil) .nil)))) (bN (G3 "BadSyntax" 58 57 42 225) (bN (⟨(.type "tuple"),none,(.seq #[(iV 34 327),(iV 39 328),(iV 59 329),(iV 40 330),(iV 41 331),(iV 91 332),(iV 93 333),(iV 35 334),(iV 63 335),(iV 96 336),(iV 44 337),(iV 46 338)] 0),#[]⟩) (bN (bL "modified" 465 "modified" 103 2 149 472 473) (bN (et 46 7 "name" "Tokens.name" "emacs.lisptokens" 500 281) (bN (fO (aI 65 0) "__init__" "LispReader.__init__" (rV 531) (sV "emacs.lispreader" 925) (rV 537)) .nil .nil) .nil) (bN (iI) (bN (⟨.none,none,(.fields #[]),#[]⟩) .nil .nil) .nil)) (bN (eM 45 "sign_of" "emacs.lisptokens" 500 217) (bN (iI) (bN (pU "labels" 1188 "obarray" "spans_of" "tokens") .nil .nil) .nil) (bN (iF 470) (bN (aD) .nil .nil) .nil))) (bN (⟨.none,none,(.fields #[]),#[]⟩) (bN (aD) (bN (kj 728 313) (bN (aD) .nil .nil) .nil) (bN (bJ 56 "is_whole") (bN (bJ 71 "_law_draw") .nil .nil) .nil)) (bN (ff "self" 640) (bN (bu 52 0 "__init__" "Text.__init__") (bN (bu 68 1 "intern" "Obarray.intern") .nil .nil) .nil) (bN (aD) (bN (bJ 81 "law") .nil .nil) .nil)))))) (bN (sj 13 3 "__main__" 164) (bN (⟨(.type "tuple"),none,(.seq #[(.type "Exception")] 0),#[]⟩) (bN (G3 "EndOfText" 38 37 22 196) (bN (⟨.none,none,(.fields #[]),#[]⟩) (bN (eM 27 "plain_escape" "emacs.chartokens" 323 133) (bN (aD) (bN (⟨.none,none,(.fields #[]),#[]⟩) .nil .nil) .nil) (bN (Fy P 857 "emacs.objects" 735 "Vector" 308 869 401 871) (bN (fk "self" 1251 "name" "found") .nil .nil) .nil)) (bN (aD) (bN (⟨.none,none,(.fields #[]),#[]⟩) (bN (⟨.none,none,(.fields #[]),#[]⟩) .nil .nil) .nil) (bN (aD) (bN (bJ 73 "_law_deck") .nil .nil) .nil))) (bN (eS "codes" 397 "place") (bN (aD) (bN (bu 46 9 "dispatched" "Tokens.dispatched") (bN (bu 65 2 "read" "LispReader.read") .nil .nil) .nil) (bN (et 54 0 "__init__" "ByteCode.__init__" "emacs.objects" 735 421) (bN (et 68 7 "all_names" "Obarray.all_names" "emacs.obarray" 1210 677) .nil .nil) .nil)) (bN (bu 46 0 "__init__" "Tokens.__init__") (bN (et 51 0 "__init__" "Cons.__init__" "emacs.objects" 735 357) (bN (bL "read_all" 1200 "read_all" 478 2 609 1207 1208) .nil .nil) .nil) (bN (bu 61 0 "__init__" "OpenForm.__init__") (bN (bL "_law_taken" 1380 "_law_taken" 569 3 737 1387 1388) .nil .nil) .nil)))) (bN (bL "__init__" 237 "BadSyntax.__init__" 11 3 49 243 244) (bN (aD) (bN (⟨.none,none,(.fields #[]),#[]⟩) (bN (fk "self" 676 "found" "is_quoted") (bN (qI "self" 1088 "codes" "obarray" "place" "spans_of") .nil .nil) .nil) (bN (iH 874 404) (bN (bu 68 5 "is_interned" "Obarray.is_interned") .nil .nil) .nil)) (bN (eS "code" 594 "place") (bN (⟨(.type "dict"),none,(.dict #[dE P "number" 784 (iV 1 778),dE P "name" 786 (sV "t" 779)] 2),#[]⟩) (bN (aD) .nil .nil) .nil) (bN (zr "Placeholder" 470 469 956) (bN (aD) .nil .nil) .nil))) (bN (bJ 25 "figures_at") (bN (aD) (bN (et 46 11 "numbered" "Tokens.numbered" "emacs.lisptokens" 500 309) (bN (et 65 4 "atom" "LispReader.atom" "emacs.lispreader" 925 565) .nil .nil) .nil) (bN (aD) (bN (aD) .nil .nil) .nil)) (bN (bL "skip_line" 630 "Tokens.skip_line" 175 1 241 634 635) (bN (aD) (bN (aD) .nil .nil) .nil) (bN (iF 498) (bN (aD) .nil .nil) .nil))))) (bN (⟨.none,none,(.fields #[]),#[]⟩) (bN (pN 11 54) (bN (fk "number" 309 "bits" "code") (bN (aD) (bN (⟨.none,none,(.fields #[]),#[]⟩) (bN (⟨(.type "dict"),none,(.dict #[dE P "__module__" 1079 (sV "emacs.lispreader" 925),dE P "__qualname__" 1081 (sV "LispReader" 1080),dE P "__firstlineno__" 1083 (iV 383 1082),dE P "__init__" 1095 (rV 538),dE P "place" 1102 (rV 545),dE P "read" 1115 (rV 552),dE P "opened" 1126 (rV 559),dE P "atom" 1136 (rV 566),dE P "dotted" 1145 (rV 573),dE P "closed" 1156 (rV 580),dE P "spanned" 1166 (rV 587),dE P "given" 1178 (rV 594),dE P "labelled" 1187 (rV 601),dE P "__static_attributes__" 1192 (rV 602)] 14),#[]⟩) .nil .nil) .nil) (bN (aD) (bN (aD) .nil .nil) .nil)) (bN (⟨.none,none,(.fields #[]),#[]⟩) (bN (zr "Symbol" 334 333 737) (bN (jZ "self" 1170 "forms" "datum" "start" "found" "form") .nil .nil) .nil) (bN (⟨.none,none,(.fields #[]),#[]⟩) (bN (aD) .nil .nil) .nil))) (bN (aD) (bN (ff "code" 541) (bN (bL "in_radix" 703 "Tokens.in_radix" 271 3 297 712 713) (bN (bL "opened" 1116 "LispReader.opened" 411 4 553 1124 1125) .nil .nil) .nil) (bN (⟨(.type "tuple"),none,(.seq #[(rV 340)] 0),#[]⟩) (bN (eS "names" 1295 "rows") .nil .nil) .nil)) (bN (bu 46 1 "code" "Tokens.code") (bN (aD) (bN (sj 621 618 "emacs.obarray" 1210) .nil .nil) .nil) (bN (bL "take" 1019 "OpenForm.take" 351 3 489 1025 1026) (bN (eM 79 "_law_due" "law_oj0032_01" 1305 749) .nil .nil) .nil)))) (bN (tN "A" 282 4194304 260) (bN (⟨.none,none,(.fields #[]),#[]⟩) (bN (jZ "codes" 478 "place" "code" "letters" "plain" "end") (bN (aD) (bN (aD) .nil .nil) .nil) (bN (su "ByteCode" 881 312 412 884) (bN (bL "unintern" 1273 "Obarray.unintern" 514 2 665 1278 1279) .nil .nil) .nil)) (bN (aD) (bN (su "Cons" 790 298 348 793) (bN (iH 1195 604) .nil .nil) .nil) (bN (aD) (bN (bJ 77 "_law_closed") .nil .nil) .nil))) (bN (bL "numbered_at" 421 "numbered_at" 63 4 121 430 431) (bN (bJ 41 "integer_of") (bN (aD) (bN (aD) .nil .nil) .nil) (bN (⟨(.type "dict"),none,(.dict #[dE P "'" 940 (sV "quote" 941),dE P "function" 942 (sV "function" 943),dE P "backquote" 944 (sV "`" 945),dE P "," 946 (sV "," 947),dE P ",@" 948 (sV ",@" 949)] 5),#[]⟩) (bN (⟨.none,none,(.fields #[]),#[]⟩) .nil .nil) .nil)) (bN (et 46 3 "skip_blanks" "Tokens.skip_blanks" "emacs.lisptokens" 500 253) (bN (Jp P 826 303 839 380 842) (bN (⟨.none,none,(.fields #[]),#[]⟩) .nil .nil) .nil) (bN (aD) .nil .nil)))))))))
noncomputable def fM (n:Nat)(t:BT):Nat→Nat→BT:=BT.rec (motive:=λ_=>Nat→Nat→BT) (λ_ _=>.nil) (λv _ _ l r i s=>cond (Nat.blt i n) (.node v (l (Nat.add i s) (Nat.mul 2 s)) (r (Nat.add i (Nat.mul 2 s)) (Nat.mul 2 s))) .nil) t
noncomputable def T0 (P:PJ):BT:=(bN (PySem.W.boot_o_0 P) (bN (PySem.W.boot_o_1 P) (bN (PySem.W.boot_o_3 P) (bN (PySem.W.boot_o_7 P) .nil .nil) (bN (aD) .nil .nil)) (bN (PySem.W.boot_o_5 P) (bN (PySem.W.boot_o_9 P) .nil .nil) (bN (su "<module>" 182 1 11 185) .nil .nil))) (bN (PySem.W.boot_o_2 P) (bN (PySem.W.boot_o_4 P) (bN (PySem.W.boot_o_8 P) .nil .nil) (bN (o9 0) .nil .nil)) (bN (PySem.W.boot_o_6 P) (bN (PySem.W.boot_o_10 P) .nil .nil) (bN (sj 13 3 "__main__" 164) .nil .nil))))
noncomputable def T1 (P:PJ):BT:=((fM 62 (TA P) 0 1).set 3 λ_=>p3 P "emacs.lisperrors" 194 12).set 12 λ_=>o9 9
noncomputable def T2 (P:PJ):BT:=((fM 91 (TA P) 0 1).set 3 λ_=>p3 P "emacs.chartokens" 323 26).set 12 λ_=>o9 18
noncomputable def T3 (P:PJ):BT:=((fM 93 (TA P) 0 1).set 3 λ_=>p3 P "emacs.chartokens" 323 28).set 12 λ_=>o9 18
noncomputable def T4 (P:PJ):BT:=((fM 170 (TA P) 0 1).set 3 λ_=>p3 P "emacs.lisptokens" 500 41).set 12 λ_=>o9 51
noncomputable def T5 (P:PJ):BT:=((fM 171 (TA P) 0 1).set 3 λ_=>p3 P "emacs.lisptokens" 500 42).set 12 λ_=>o9 51
noncomputable def T6 (P:PJ):BT:=((fM 219 (TA P) 0 1).set 3 λ_=>p3 P "emacs.lisptokens" 500 51).set 12 λ_=>o9 72
noncomputable def T7 (P:PJ):BT:=((fM 318 (TA P) 0 1).set 3 λ_=>p3 P "emacs.lisptokens" 500 52).set 12 λ_=>o9 75
noncomputable def T8 (P:PJ):BT:=((fM 345 (TA P) 0 1).set 3 λ_=>p3 P "emacs.objects" 735 55).set 12 λ_=>o9 78
noncomputable def T9 (P:PJ):BT:=((fM 388 (TA P) 0 1).set 3 λ_=>p3 P "emacs.objects" 735 57).set 12 λ_=>o9 84
noncomputable def OB (P:PJ):BT:=((fM 430 (TA P) 0 1).set 3 λ_=>p3 P "emacs.objects" 735 59).set 12 λ_=>o9 90
noncomputable def OZ (P:PJ):BT:=((fM 445 (TA P) 0 1).set 3 λ_=>p3 P "emacs.lispreader" 925 61).set 12 λ_=>o9 96
noncomputable def OE (P:PJ):BT:=((fM 447 (TA P) 0 1).set 3 λ_=>p3 P "emacs.lispreader" 925 63).set 12 λ_=>o9 96
noncomputable def Ow (P:PJ):BT:=((fM 503 (TA P) 0 1).set 3 λ_=>p3 P "emacs.lispreader" 925 65).set 12 λ_=>o9 102
noncomputable def OK (P:PJ):BT:=((fM 609 (TA P) 0 1).set 3 λ_=>p3 P "emacs.lispreader" 925 69).set 12 λ_=>o9 114
noncomputable def Ol (P:PJ):BT:=((fM 693 (TA P) 0 1).set 3 λ_=>p3 P "law_oj0032_01" 1305 71).set 12 λ_=>o9 120
noncomputable abbrev O4 (P:PJ):BT:=TA P
noncomputable abbrev S0 (w:World)(os:PR):Q9:=⟨T0 w.params,15,eR,#[],P7,187,os⟩
noncomputable abbrev S1 (w:World)(os:PR):Q9:=⟨T1 w.params,62,eR,#[],P7,256,os⟩
noncomputable def aq:List Stmt:=((PO pw).drop 0).take 4
theorem g1 (w:World)(os:PR):QI PW pw w 11 fU 1 497 (S0 w os) (Qq aq env cE ⟨0,0,0,0⟩ B)=some (.next,S1 w os,cE,⟨9,0,13,26⟩):=by
 rw[Pq,Pm]
 kernel_rfl
noncomputable abbrev S2 (w:World)(os:PR):Q9:=⟨T2 w.params,91,eR,#[],P7,340,os⟩
noncomputable def cg:List Stmt:=((PO pw).drop 4).take 16
theorem g2 (w:World)(os:PR):QI PW pw w 11 fU 1 326 (S1 w os) (Qq cg env cE ⟨9,0,13,26⟩ B)=some (.next,S2 w os,cE,⟨41,0,41,7⟩):=by
 rw[Pq,Pm]
 kernel_rfl
noncomputable abbrev S3 (w:World)(os:PR):Q9:=⟨T3 w.params,93,eR,#[],P7,387,os⟩
noncomputable def pa:List Stmt:=((PO pw).drop 20).take 2
theorem OT (w:World)(os:PR):QI PW pw (w.withFollow "special-get-raises" false) 11 fU 1 216 (S2 (w.withFollow "special-get-raises" false) os) (Qq pa env cE ⟨41,0,41,7⟩ B)=some (.next,S3 (w.withFollow "special-get-raises" false) os,cE,⟨43,0,43,9⟩):=by
 rw[Pq,Pm]
 kernel_rfl
theorem OP (w:World)(os:PR):QI PW pw (w.withFollow "special-get-raises" true) 11 fU 1 216 (S2 (w.withFollow "special-get-raises" true) os) (Qq pa env cE ⟨41,0,41,7⟩ B)=some (.next,S3 (w.withFollow "special-get-raises" true) os,cE,⟨43,0,43,9⟩):=by
 rw[Pq,Pm]
 kernel_rfl
theorem g3 (w:World)(os:PR):QI PW pw w 11 fU 1 216 (S2 w os) (Qq pa env cE ⟨41,0,41,7⟩ B)=some (.next,S3 w os,cE,⟨43,0,43,9⟩):=
 byRow2 (P:=λw=>QI PW pw w 11 fU 1 216 (S2 w os) (Qq pa env cE ⟨41,0,41,7⟩ B)=some (.next,S3 w os,cE,⟨43,0,43,9⟩)) "special-get-raises" (λw=>OT w os) (λw=>OP w os) w
noncomputable abbrev S4 (w:World)(os:PR):Q9:=⟨T4 w.params,170,eR,#[],P7,506,os⟩
noncomputable def LI:List Stmt:=((PO pw).drop 22).take 14
theorem g4 (w:World)(os:PR):QI PW pw w 11 fU 1 383 (S3 w os) (Qq LI env cE ⟨43,0,43,9⟩ B)=some (.next,S4 w os,cE,⟨129,0,129,14⟩):=by
 rw[Pq,Pm]
 kernel_rfl
noncomputable abbrev S5 (w:World)(os:PR):Q9:=⟨T5 w.params,171,eR,#[],P7,525,os⟩
noncomputable def LR:List Stmt:=((PO pw).drop 36).take 1
theorem Oz (w:World)(os:PR):QI PW pw (w.withFollow "special-get-raises" false) 11 fU 1 89 (S4 (w.withFollow "special-get-raises" false) os) (Qq LR env cE ⟨129,0,129,14⟩ B)=some (.next,S5 (w.withFollow "special-get-raises" false) os,cE,⟨130,0,130,5⟩):=by
 rw[Pq,Pm]
 kernel_rfl
theorem OO (w:World)(os:PR):QI PW pw (w.withFollow "special-get-raises" true) 11 fU 1 89 (S4 (w.withFollow "special-get-raises" true) os) (Qq LR env cE ⟨129,0,129,14⟩ B)=some (.next,S5 (w.withFollow "special-get-raises" true) os,cE,⟨130,0,130,5⟩):=by
 rw[Pq,Pm]
 kernel_rfl
theorem g5 (w:World)(os:PR):QI PW pw w 11 fU 1 89 (S4 w os) (Qq LR env cE ⟨129,0,129,14⟩ B)=some (.next,S5 w os,cE,⟨130,0,130,5⟩):=
 byRow2 (P:=λw=>QI PW pw w 11 fU 1 89 (S4 w os) (Qq LR env cE ⟨129,0,129,14⟩ B)=some (.next,S5 w os,cE,⟨130,0,130,5⟩)) "special-get-raises" (λw=>Oz w os) (λw=>OO w os) w
noncomputable abbrev S6 (w:World)(os:PR):Q9:=⟨T6 w.params,219,eR,#[],P7,599,os⟩
noncomputable def OQ:List Stmt:=((PO pw).drop 37).take 9
theorem g6 (w:World)(os:PR):QI PW pw w 11 fU 1 243 (S5 w os) (Qq OQ env cE ⟨130,0,130,5⟩ B)=some (.next,S6 w os,cE,⟨161,0,164,20⟩):=by
 rw[Pq,Pm]
 kernel_rfl
noncomputable abbrev S7 (w:World)(os:PR):Q9:=⟨T7 w.params,318,eR,#[],P7,735,os⟩
noncomputable def OG:List Stmt:=((PO pw).drop 46).take 1
theorem g7 (w:World)(os:PR):QI PW pw w 11 fU 1 595 (S6 w os) (Qq OG env cE ⟨161,0,164,20⟩ B)=some (.next,S7 w os,cE,⟨165,0,289,80⟩):=by
 rw[Pq,Pm]
 kernel_rfl
noncomputable abbrev S8 (w:World)(os:PR):Q9:=⟨T8 w.params,345,eR,#[],P7,788,os⟩
noncomputable def OW:List Stmt:=((PO pw).drop 47).take 4
theorem g8 (w:World)(os:PR):QI PW pw w 11 fU 1 508 (S7 w os) (Qq OW env cE ⟨165,0,289,80⟩ B)=some (.next,S8 w os,cE,⟨297,0,297,1⟩):=by
 rw[Pq,Pm]
 kernel_rfl
noncomputable abbrev S9 (w:World)(os:PR):Q9:=⟨T9 w.params,388,eR,#[],P7,850,os⟩
noncomputable def O1:List Stmt:=((PO pw).drop 51).take 2
theorem g9 (w:World)(os:PR):QI PW pw w 11 fU 1 450 (S8 w os) (Qq O1 env cE ⟨297,0,297,1⟩ B)=some (.next,S9 w os,cE,⟨303,0,307,26⟩):=by
 rw[Pq,Pm]
 kernel_rfl
noncomputable abbrev NR (w:World)(os:PR):Q9:=⟨OB w.params,430,eR,#[],P7,908,os⟩
noncomputable def Nc:List Stmt:=((PO pw).drop 53).take 2
theorem OI (w:World)(os:PR):QI PW pw w 11 fU 1 445 (S9 w os) (Qq Nc env cE ⟨303,0,307,26⟩ B)=some (.next,NR w os,cE,⟨312,0,315,28⟩):=by
 rw[Pq,Pm]
 kernel_rfl
noncomputable abbrev KN (w:World)(os:PR):Q9:=⟨OZ w.params,445,eR,#[],P7,927,os⟩
noncomputable def Mp:List Stmt:=((PO pw).drop 55).take 3
theorem Oi (w:World)(os:PR):QI PW pw w 11 fU 1 74 (NR w os) (Qq Mp env cE ⟨312,0,315,28⟩ B)=some (.next,KN w os,cE,⟨323,0,323,8⟩):=by
 rw[Pq,Pm]
 kernel_rfl
noncomputable abbrev Gy (w:World)(os:PR):Q9:=⟨OE w.params,447,eR,#[],P7,956,os⟩
noncomputable def zV:List Stmt:=((PO pw).drop 58).take 2
theorem MX (w:World)(os:PR):QI PW pw (w.withFollow "special-get-raises" false) 11 fU 1 156 (KN (w.withFollow "special-get-raises" false) os) (Qq zV env cE ⟨323,0,323,8⟩ B)=some (.next,Gy (w.withFollow "special-get-raises" false) os,cE,⟨325,0,325,8⟩):=by
 rw[Pq,Pm]
 kernel_rfl
theorem MY (w:World)(os:PR):QI PW pw (w.withFollow "special-get-raises" true) 11 fU 1 156 (KN (w.withFollow "special-get-raises" true) os) (Qq zV env cE ⟨323,0,323,8⟩ B)=some (.next,Gy (w.withFollow "special-get-raises" true) os,cE,⟨325,0,325,8⟩):=by
 rw[Pq,Pm]
 kernel_rfl
theorem O5 (w:World)(os:PR):QI PW pw w 11 fU 1 156 (KN w os) (Qq zV env cE ⟨323,0,323,8⟩ B)=some (.next,Gy w os,cE,⟨325,0,325,8⟩):=
 byRow2 (P:=λw=>QI PW pw w 11 fU 1 156 (KN w os) (Qq zV env cE ⟨323,0,323,8⟩ B)=some (.next,Gy w os,cE,⟨325,0,325,8⟩)) "special-get-raises" (λw=>MX w os) (λw=>MY w os) w
noncomputable abbrev NB (w:World)(os:PR):Q9:=⟨Ow w.params,503,eR,#[],P7,1043,os⟩
noncomputable def M7:List Stmt:=((PO pw).drop 60).take 2
theorem OF (w:World)(os:PR):QI PW pw w 11 fU 1 522 (Gy w os) (Qq M7 env cE ⟨325,0,325,8⟩ B)=some (.next,NB w os,cE,⟨340,0,358,70⟩):=by
 rw[Pq,Pm]
 kernel_rfl
noncomputable abbrev Nu (w:World)(os:PR):Q9:=⟨OK w.params,609,eR,#[],P7,1200,os⟩
noncomputable def M':List Stmt:=((PO pw).drop 62).take 4
theorem O0 (w:World)(os:PR):QI PW pw w 11 fU 1 634 (NB w os) (Qq M' env cE ⟨340,0,358,70⟩ B)=some (.next,Nu w os,cE,⟨383,0,477,20⟩):=by
 rw[Pq,Pm]
 kernel_rfl
noncomputable abbrev NN (w:World)(os:PR):Q9:=⟨Ol w.params,693,eR,#[],P7,1307,os⟩
noncomputable def M3:List Stmt:=((PO pw).drop 66).take 4
theorem OL (w:World)(os:PR):QI PW pw w 11 fU 1 529 (Nu w os) (Qq M3 env cE ⟨383,0,477,20⟩ B)=some (.next,NN w os,cE,⟨522,0,522,8⟩):=by
 rw[Pq,Pm]
 kernel_rfl
noncomputable abbrev NQ (w:World)(os:PR):Q9:=⟨O4 w.params,765,eR,#[],P7,1427,os⟩
noncomputable def L5:List Stmt:=((PO pw).drop 70).take 12
theorem Om (w:World)(os:PR):QI PW pw w 11 fU 1 366 (NN w os) (Qq L5 env cE ⟨522,0,522,8⟩ B)=some (.next,NQ w os,cE,⟨615,0,622,89⟩):=by
 rw[Pq,Pm]
 kernel_rfl
noncomputable def H1 (P:PJ):Heap:=absHeap (TA P) 765 eR
theorem pre (w:World)(os:PR):topGo PW pw w 11 fU 12 ⟨R3 w.params,#[],P7,boot_toks,os⟩ (topStub pw)=some ((S0 w os).abs,⟨denote PW cE,cE,⟨0,0,0,0⟩,B⟩):=by
 rw[PySem.W.Fast.te15667345088766844465,PySem.W.Fast.te11892475500146522536,Pm]
 kernel_rfl
theorem Iz (w:World)(os:PR):segRun PW pw w 11 fU 1 1 (S0 w os).abs (blockOf (PO pw) env cE ⟨0,0,0,0⟩ B)=some (.next,(S0 w os).abs,cE,⟨0,0,0,0⟩):=by
 rw[PySem.W.Fast.te14374325043358763698,Pm]
 kernel_rfl
theorem fin (w:World)(os:PR):topRun PW pw w 11 fU 2 (NQ w os).abs (restOf [] env cE ⟨615,0,622,89⟩ B)=some ⟨H1 w.params,#[],P7,1427,os⟩:=by
 rw[PySem.W.Fast.te14082659384304107361,Pm]
 kernel_rfl
noncomputable def Mw:Nat:=12+(1+(497+(326+(216+(383+(89+(243+(595+(508+(450+(445+(74+(156+(522+(634+(529+(366+2)))))))))))))))))
theorem OX (w:World)(os:PR):topRun PW pw w 11 fU Mw ⟨R3 w.params,#[],P7,boot_toks,os⟩ (topStub pw)=some ⟨H1 w.params,#[],P7,1427,os⟩:=by
 have h:=fin w os
 replace h:=QP (QQ (Om w os)) h
 replace h:=QP (QQ (OL w os)) h
 replace h:=QP (QQ (O0 w os)) h
 replace h:=QP (QQ (OF w os)) h
 replace h:=QP (QQ (O5 w os)) h
 replace h:=QP (QQ (Oi w os)) h
 replace h:=QP (QQ (OI w os)) h
 replace h:=QP (QQ (g9 w os)) h
 replace h:=QP (QQ (g8 w os)) h
 replace h:=QP (QQ (g7 w os)) h
 replace h:=QP (QQ (g6 w os)) h
 replace h:=QP (QQ (g5 w os)) h
 replace h:=QP (QQ (g4 w os)) h
 replace h:=QP (QQ (g3 w os)) h
 replace h:=QP (QQ (g2 w os)) h
 replace h:=QP (QQ (g1 w os)) h
 replace h:=piece_block (Iz w os) h
 exact go_top (pre w os) h
noncomputable def LM:List Addr:=TN 3 1++(TN 22 41++(TN 170 595))
noncomputable def Kf (P:PJ):Frag:=LM.map λa=>(a,((TA P).get a).getD default)
noncomputable def lo:List Str:=(["_wall","EndOfText","BadSyntax","ALT","SUPER","HYPER","SHIFT","CONTROL","META","MODIFIERS","ALL_BITS","MOST_CODE","bit_of","with_control","with_modifier","BACKSLASH","ENDINGS","PLAIN_ESCAPES","MODIFYING","is_ending","need_code","figure_of","figures_at","numbered_at","plain_escape"]:List Str)++(["modifiers_at","escaped","modified","character_at","escape_in_string","SPACE","NO_BREAK_SPACE","PLAIN","BREAKS","DIGITS","is_break","value_in","integer_of","are_figures","is_power","is_float","sign_of","Tokens","Symbol","NIL","T","Cons","Text","Vector","ByteCode"]:List Str)++(["list_of","is_whole","CLOSERS","PREFIXES","Placeholder","OpenForm","noted_list","noted_things","spans_rows","LispReader","read_all","Obarray","_law_pieces","_law_draw","_law_pick","_law_deck","_law_shape","_law_told","_law_tokens","_law_closed","_law_taken","_law_due","_law_text"]:List Str)
noncomputable def q:Program:={pw with main:={pw.main with body:=[aJ 81]}}
theorem qj:opening pw=plainProg pw.main.scope.names:=by kernel_rfl
theorem vD (s:Pl):fenceModules? pw s=some s:=by kernel_rfl
theorem Es (w:World):(fencedOpening PW pw w 12160).map (λs=>(s.heap,s.gens,s.drawn,s.toks))=some (R3 w.params,Array.mk [],P7,boot_toks):=boot_open (N:=12160) qj (by decide) vD w
theorem size (w:World):((R3 w.params).isNs RB&&(#[]:Array GenState).size==0,(R3 w.params).objs.size,(R3 w.params).nsMap RB "__annotations__")=(true,11,fU):=by kernel_rfl
theorem JG (w:World)(os:PR):(staticsOk (importedModules pw.main.body) (R3 w.params) (H1 w.params)&&namesBound pw (H1 w.params)&&gensDone ⟨H1 w.params,#[],P7,1427,os⟩&&laidKept (R3 w.params) (H1 w.params))=true:=by kernel_rfl
theorem Gx (w:World)(os:PR):openSeen q lo (importedModules pw.main.body) (λ_=>true) true ⟨H1 w.params,#[],P7,1427,os⟩=openGood q lo:=by
 rw[PySem.W.Fast.te4187177175401517315]
 kernel_rfl
theorem KG (w:World)(os:PR):LM.map (Shared.heap ⟨H1 w.params,#[],P7,1427,os⟩).get?=(Kf w.params).map λp=>some p.2:=by kernel_rfl
theorem HC (P:PJ):LM=(Kf P).map (·.1):=by kernel_rfl
theorem left:LeftO pw q lo (λ_=>true) (λs=>LM.map s.heap.get?) (λw=>(Kf w.params).map λp=>some p.2) 12160:=
 LeftO.of_pieces (H₀:=R3) (H₁:=H1) Es size OX (by decide +kernel) λw=>by
  funext os
  rw[JG,Gx,KG]
theorem Mq:PySem.Challenge.rw_oj0032_01.wellSaid=true:=by
 rw[PySem.W.Fast.te9446332074065402090];kernel_rfl
noncomputable def Ii:DefRec:={name:="law",params:=GQ (aJ 81),body:=bz (aJ 81),scope:=aK (aJ 81),pos:=⟨615,0,622,89⟩}
theorem head (call:WalkO q lo (λ_ _=>True) (InK Kf) PySem.Challenge.rw_oj0032_01.row.toRowW Ii [] λf vs=>R0 f vs):PySem.Challenge.rw_oj0032_01.Holds:=by
 refine holds_law Mq λk1=>?_
 refine holds_open (r:=PySem.Challenge.rw_oj0032_01.row) (q:=q) (loose:=lo) (YP:=InK Kf) (XP:=λ_ _=>True) (d:=Ii) (kwd:=[]) left (λw s e=>InK.of HC w s e) InK.keeps (λ_ _=>trivial) (λ_ _ _ _ _=>trivial) ?d ?p ?k (λs _=>recFacts_nil rfl) rfl k1 (by decide +kernel) ⟨rfl,rfl,rfl,rfl,rfl,by decide +kernel⟩ ?w call
 case d=>kernel_rfl
 case p=>kernel_rfl
 case k=>kernel_rfl
 case w=>w_witness2
noncomputable def ve (c:Nat):Bool:=c==46||c==97||c==98||c==99
def bG (x:Str):Prop:=∀c∈x.cps,ve c=true
theorem dq (h:ve c=true):c=46∨c=97∨c=98∨c=99:=by
 unfold ve at h
 simp only[Rt,beq_iff_eq]at h
 rw[or_assoc,or_assoc]at h
 exact h
theorem bG.slice (h:bG x)(l u:Option Int):bG (PC x l u):=by
 unfold PC
 split
 ·exact h
 ·intro c hc
  simp only[Tq,List.mem_filterMap]at hc
  obtain⟨i,_,hi⟩:=hc
  exact h c (Array.mem_of_getElem? hi)
theorem bG.app (h:bG x)(h2:bG y):bG (x++y):=by
 intro c hc
 have:c∈x.cps++y.cps:=hc
 rcases Array.mem_append.mp this with q|q
 ·exact h c q
 ·exact h2 c q
theorem bG.empty:bG Rv:=λc hc=>by
 have:c∈(#[]:Array Nat):=hc
 simp at this
theorem bG.sub (h:bG x)(i j:Nat):bG ⟨x.cps.extract i j⟩:=by
 intro c hc
 have:c∈x.cps.extract i j:=hc
 obtain⟨k,hk,e⟩:=Array.mem_extract_iff_getElem.mp this
 rw[←e];exact h _ (QK _)
theorem bG.part (h:bG x):bG (Ph x y).1∧bG (Ph x y).2.2:=by
 unfold Ph
 split
 ·exact⟨h.sub _ _,h.sub _ _⟩
 ·exact⟨h,bG.empty⟩
theorem lx (h:ve c=true):Unicode.lowerOf c=[c]:=by
 rcases dq h with rfl|rfl|rfl|rfl<;>kernel_rfl
theorem bG.lower (h:bG x):bG (PA x):=by
 intro c hc
 have hc:c∈placed x λi _=>RV x.cps i:=hc
 unfold placed at hc
 rw[Array.mem_flatten]at hc
 obtain⟨a,ha,hca⟩:=hc
 rw[Array.mem_mapIdx]at ha
 obtain⟨i,hi,rfl⟩:=ha
 simp only[Tq]at hca
 unfold RV at hca
 rw[RN hi]at hca
 have hw:=h _ (QK hi)
 dsimp only at hca
 have ne:(x.cps[i]==0x3A3)=false:=by
  rcases dq hw with e|e|e|e<;>rw[e]<;>rfl
 rw[ne,Bool.false_and]at hca
 rw[if_neg (by decide),lx hw]at hca
 simp only[Rl]at hca
 rw[hca];exact hw
theorem bG.ne (h:bG x)(hc:c∈y.cps)(hw:ve c=false):(y==x)=false:=by
 rw[beq_eq_false_iff_ne]
 rintro rfl
 rw[h c hc]at hw;cases hw
theorem bG.sign (h:bG x):(QX [p' "+",p' "-"] λy=>y==x)=false:=by
 have a:(p' "+"==x)=false:=h.ne (c:=43) (by decide +kernel) rfl
 have b:(p' "-"==x)=false:=h.ne (c:=45) (by decide +kernel) rfl
 simp[a,b]
theorem bG.at (h:bG x)(hj:j<x.cps.size):ve (x.cps.getD j 0)=true:=by
 have:x.cps.getD j 0=x.cps[j]:=by simp[hj]
 rw[this];exact h _ (QK hj)
theorem Em (h:ve c=true):Qw (p' "0123456789abcdefghijklmnopqrstuvwxyz") ⟨#[c]⟩<0∨Qw (p' "0123456789abcdefghijklmnopqrstuvwxyz") ⟨#[c]⟩≥10:=by
 rcases dq h with rfl|rfl|rfl|rfl
 ·have:Qw (p' "0123456789abcdefghijklmnopqrstuvwxyz") ⟨#[46]⟩=-1:=by kernel_rfl
  lia
 ·have:Qw (p' "0123456789abcdefghijklmnopqrstuvwxyz") ⟨#[97]⟩=10:=by kernel_rfl
  lia
 ·have:Qw (p' "0123456789abcdefghijklmnopqrstuvwxyz") ⟨#[98]⟩=11:=by kernel_rfl
  lia
 ·have:Qw (p' "0123456789abcdefghijklmnopqrstuvwxyz") ⟨#[99]⟩=12:=by kernel_rfl
  lia
theorem DP (h:bG x)(hx:(x !=p' "")=true):((R6 (λc=>!(QF (p' "0123456789") ⟨#[c]⟩ 0 (p' "0123456789").length 1).isEmpty) x.cps.toList).all λb=>b)=false:=by
 have hne:x.cps.toList≠[]:=by
  intro e
  rw[bne_iff_ne]at hx
  apply hx
  have:x.cps=#[]:=by rw[←Array.toList_eq_nil_iff];exact e
  cases x;simp only at this;subst this;rfl
 obtain⟨c,r,e⟩:=List.exists_cons_of_ne_nil hne
 have hc:ve c=true:=h c (by rw[←Array.mem_toList_iff,e];exact .head _)
 rw[e,QJ,Qb]
 have:(!(QF (p' "0123456789") ⟨#[c]⟩ 0 (p' "0123456789").length 1).isEmpty)=false:=by
  rcases dq hc with rfl|rfl|rfl|rfl<;>kernel_rfl
 rw[this];rfl
noncomputable abbrev ah:=List (Addr×Obj)
set_option genCtorIdx true in
inductive SV
 |none|lit (b:Bool)|bool (b:Bool)|num (i:Int)|int (i:Int)|txt (x:Str)|str (x:Str)
 |ref (k:Nat)|stk (k:Nat)|tmp (k:Nat)|top (a:Addr)|blt (id:String)|ty (n:String)|opq (v:Value)
structure Ad where
 hp:List Addr
 sk:List Addr
 tp:List Addr
structure Ad.le (D D':Ad):Prop where
 hp:D.hp <+: D'.hp
 tp:D.tp <+: D'.tp
structure Ad.ext (D D':Ad):Prop where
 hp:D.hp <+: D'.hp
 tp:D.tp <+: D'.tp
 sk:D.sk <+: D'.sk
theorem Ad.le.refl (D:Ad):D.le D:=⟨Pp,Pp⟩
theorem Ad.ext.refl (D:Ad):D.ext D:=⟨Pp,Pp,Pp⟩
theorem Ad.le.trans {a:Ad}(h:a.le b)(k:b.le c):a.le c:=⟨h.hp.trans k.hp,h.tp.trans k.tp⟩
theorem Ad.ext.trans {a:Ad}(h:a.ext b)(k:b.ext c):a.ext c:=⟨h.hp.trans k.hp,h.tp.trans k.tp,h.sk.trans k.sk⟩
theorem Ad.ext.le {a:Ad}(h:a.ext b):a.le b:=⟨h.hp,h.tp⟩
def SV.R (D:Ad):SV→Value→Prop
 |.none,v=>v=.none
 |.lit b,v=>v=.bool b
 |.bool b,v=>v=.bool b
 |.num i,v=>∃t,v=.int i t
 |.int i,v=>∃t,v=.int i t
 |.txt x,v=>∃t,v=.str x t
 |.str x,v=>∃t,v=.str x t
 |.ref k,v=>∃a,D.hp[k]?=some a∧v=.ref a
 |.stk k,v=>∃a,D.sk[k]?=some a∧v=.ref a
 |.tmp k,v=>∃a,D.tp[k]?=some a∧v=.ref a
 |.top a,v=>v=.ref a
 |.blt i,v=>v=.builtin i
 |.ty n,v=>v=.type n
 |.opq x,v=>v=x
noncomputable def SV.qw:SV→Bool
 |.stk _=>false
 |_=>true
theorem cW {α:Type}{l l':List α}(h:l <+: l'){k:Nat}{a:α}(e:l[k]?=some a):l'[k]?=some a:=by
 rcases h with⟨r,rfl⟩
 exact Td (by rcases List.getElem?_eq_some_iff.mp e with⟨h,_⟩;exact h)▸e
theorem SV.R.mono (h:D.ext D'){sv:SV}(r:sv.R D v):sv.R D' v:=by
 cases sv<;>first|exact r|(obtain⟨a,e,rfl⟩:=r;first|exact⟨a,cW h.hp e,rfl⟩|exact⟨a,cW h.tp e,rfl⟩|exact⟨a,cW h.sk e,rfl⟩)
theorem SV.R.over (h:D.le D'){sv:SV}(r:sv.R D v)(s:sv.qw=true):sv.R D' v:=by
 cases sv<;>first|exact r|(obtain⟨a,e,rfl⟩:=r;first|exact⟨a,cW h.hp e,rfl⟩|exact⟨a,cW h.tp e,rfl⟩|(cases s;done))
inductive FR (D:Ad):List (Str×SV)→List PX→Prop
 |nil:FR D [] []
 |cons {n:Str}{sv:SV}{h:Int}{t:Tok}{v:Value}{fs:List (Str×SV)}{es:List PX}:sv.R D v→FR D fs es→FR D ((n,sv)::fs) (⟨h,.str n t,v⟩::es)
inductive IR (D:Ad):List SV→List Value→Prop
 |nil:IR D [] []
 |cons {sv:SV}{v:Value}{xs:List SV}{vs:List Value}:sv.R D v→IR D xs vs→IR D (sv::xs) (v::vs)
set_option genCtorIdx true in
inductive HE
 |inst (a C d:Addr)(fs:List (Str×SV))
 |exc (a C d:Addr)(fs:List (Str×SV))(vs:Array Value)
 |list (a:Addr)(pre suf:List SV)
 |tup (a:Addr)(xs:List SV)
 |nlist (a:Addr)(cs:List Int)
 |slist (a:Addr)(ws:List Str)
 |vlist (a:Addr)(vs:List Value)
 |dict (a:Addr)(fs:List (Str×SV))
 |map (a:Addr)(w:World)(kvs:List (Str×Value))
 |raw (a:Addr)(o:Obj)
 |gone (a:Addr)
noncomputable def HE.addr:HE→Addr
 |.inst a _ _ _=>a
 |.exc a _ _ _ _=>a
 |.list a _ _=>a
 |.tup a _=>a
 |.nlist a _=>a
 |.slist a _=>a
 |.vlist a _=>a
 |.dict a _=>a
 |.map a _ _=>a
 |.raw a _=>a
 |.gone a=>a
noncomputable abbrev cZ (vs:List Value):Obj:={cls:=.type "tuple",data:=.seq vs.toArray}
noncomputable abbrev ba (C d:Addr)(vs:Array Value):Obj:={cls:=.ref C,dict:=some d,data:=.fields vs}
inductive HL (D:Ad):HE→ah→Prop
 |inst {a C d:Addr}{fs:List (Str×SV)}{es:List PX}{n:Nat}:FR D fs es→HL D (.inst a C d fs) [(a,QT C d),(d,Qj es n)]
 |exc {a C d:Addr}{fs:List (Str×SV)}{vs:Array Value}{es:List PX}{n:Nat}:FR D fs es→HL D (.exc a C d fs vs) [(a,ba C d vs),(d,Qj es n)]
 |list {a:Addr}{pre suf:List SV}{vs:List Value}{n:Nat}:IR D (pre++suf) vs→HL D (.list a pre suf) [(a,listOf vs.toArray n)]
 |tup {a:Addr}{xs:List SV}{vs:List Value}:IR D xs vs→HL D (.tup a xs) [(a,cZ vs)]
 |nlist {a:Addr}{cs:List Int}{vs:List Value}{n:Nat}:Qz vs cs→HL D (.nlist a cs) [(a,listOf vs.toArray n)]
 |slist {a:Addr}{ws:List Str}{vs:List Value}{n:Nat}:StrsAre vs ws→HL D (.slist a ws) [(a,listOf vs.toArray n)]
 |vlist {a:Addr}{vs:List Value}{n:Nat}:HL D (.vlist a vs) [(a,listOf vs.toArray n)]
 |dict {a:Addr}{fs:List (Str×SV)}{es:List PX}{n:Nat}:FR D fs es→HL D (.dict a fs) [(a,Qj es n)]
 |map {a:Addr}{w:World}{kvs:List (Str×Value)}{o:Obj}:o.IsDictOf (strKind pw w) kvs→(a==SW)=false→HL D (.map a w kvs) [(a,o)]
 |raw {a:Addr}{o:Obj}:HL D (.raw a o) [(a,o)]
 |gone {a:Addr}:HL D (.gone a) []
inductive OU (D:Ad)(a:Addr)(xs:List SV)(l:ah):Prop
 |mk (vs:List Value)(n:Nat)(ir:IR D xs vs)(e:l=[(a,listOf vs.toArray n)])
theorem HL.listI {pre:List SV}(h:HL D (.list a pre suf) l):OU D a (pre++suf) l:=by cases h;exact⟨_,_,‹_›,rfl⟩
inductive Of (a:Addr)(R:List Value→Prop)(l:ah):Prop
 |mk (vs:List Value)(n:Nat)(ir:R vs)(e:l=[(a,listOf vs.toArray n)])
theorem HL.Ez (h:HL D (.nlist a cs) l):Of a (Qz · cs) l:=by cases h;exact⟨_,_,‹_›,rfl⟩
theorem HL.pA (h:HL D (.slist a ws) l):Of a (StrsAre · ws) l:=by cases h;exact⟨_,_,‹_›,rfl⟩
theorem HL.dW (h:HL D (.vlist a vs) l):∃n,l=[(a,listOf vs.toArray n)]:=by cases h;exact⟨_,rfl⟩
theorem HL.tupI (h:HL D (.tup a xs) l):∃vs,IR D xs vs∧l=[(a,cZ vs)]:=by cases h;exact⟨_,‹_›,rfl⟩
inductive NA (D:Ad)(a:Addr)(o:Obj)(d:Addr)(fs:List (Str×SV))(l:ah):Prop
 |mk (es:List PX)(n:Nat)(fr:FR D fs es)(e:l=[(a,o),(d,Qj es n)])
theorem HL.yO (h:HL D (.inst a C d fs) l):NA D a (QT C d) d fs l:=by cases h;exact⟨_,_,‹_›,rfl⟩
theorem HL.E7 (h:HL D (.exc a C d fs vs) l):NA D a (ba C d vs) d fs l:=by cases h;exact⟨_,_,‹_›,rfl⟩
inductive O3 (a:Addr)(w:World)(kvs:List (Str×Value))(l:ah):Prop
 |mk (o:Obj)(io:o.IsDictOf (strKind pw w) kvs)(ha:(a==SW)=false)(e:l=[(a,o)])
theorem HL.Iu (h:HL D (.map a w kvs) l):O3 a w kvs l:=by cases h;exact⟨_,‹_›,‹_›,rfl⟩
inductive OJ (D:Ad)(x:SV)(xs:List SV)(vs:List Value):Prop
 |mk (v:Value)(us:List Value)(e:vs=v::us)(r:x.R D v)(h:IR D xs us)
theorem IR.NM (h:IR D (x::xs) vs):OJ D x xs vs:=by cases h;exact⟨_,_,rfl,‹_›,‹_›⟩
inductive LL (D:Ad):List HE→ah→Prop
 |nil:LL D [] []
 |cons {e:HE}{es:List HE}{l ls:ah}:HL D e l→LL D es ls→LL D (e::es) (l++ls)
theorem FR.mono (h1:D.ext D')(h:FR D fs es):FR D' fs es:=by
 induction h with
 |nil=>exact .nil
 |cons r _ ih=>exact .cons (r.mono h1) ih
theorem IR.mono (h1:D.ext D')(h:IR D xs vs):IR D' xs vs:=by
 induction h with
 |nil=>exact .nil
 |cons r _ ih=>exact .cons (r.mono h1) ih
theorem IR.over (h1:D.le D')(h:IR D xs vs)(s:xs.all SV.qw=true):IR D' xs vs:=by
 induction h with
 |nil=>exact .nil
 |cons r _ ih=>
  rw[Qb,Pe]at s
  exact .cons (r.over h1 s.1) (ih s.2)
theorem HL.mono (h1:D.ext D')(h:HL D e l):HL D' e l:=by
 cases h with
 |inst f=>exact .inst (f.mono h1)
 |exc f=>exact .exc (f.mono h1)
 |list i=>exact .list (i.mono h1)
 |tup i=>exact .tup (i.mono h1)
 |nlist i=>exact .nlist i
 |slist i=>exact .slist i
 |vlist=>exact .vlist
 |dict f=>exact .dict (f.mono h1)
 |map i j=>exact .map i j
 |raw=>exact .raw
 |gone=>exact .gone
theorem LL.mono (h1:D.ext D')(h:LL D es l):LL D' es l:=by
 induction h with
 |nil=>exact .nil
 |cons r _ ih=>exact .cons (r.mono h1) ih
noncomputable def Ad.low (D:Ad):Ad:=⟨D.hp,D.sk,[]⟩
noncomputable def Ad.bot (D:Ad):Ad:=⟨D.hp,[],[]⟩
theorem Ad.A2 (D:Ad):D.low.ext D:=⟨Pp,P8,Pp⟩
theorem Ad.BY (D:Ad):D.bot.ext D:=⟨Pp,P8,P8⟩
theorem Ad.A4 (D:Ad):D.bot.ext D.low:=⟨Pp,P8,P8⟩
noncomputable def Lz (l:List Addr)(k:Nat):SV:=match l[k]? with
 |some a=>.opq (.ref a)
 |none=>.none
noncomputable def SV.out (D:Ad):SV→SV
 |.stk k=>Lz D.sk k
 |.tmp k=>Lz D.tp k
 |sv=>sv
theorem SV.lp {sv:SV}(r:sv.R D v):(sv.out D).R D.bot v:=by
 cases sv<;>first
  |exact r
  |(obtain⟨a,e,rfl⟩:=r
    first
    |exact⟨a,e,rfl⟩
    |(show SV.R D.bot (Lz _ _) _;unfold Lz;rw[e];rfl))
theorem IR.out (h:IR D xs vs):IR D.bot (xs.map (SV.out D)) vs:=by
 induction h with
 |nil=>exact .nil
 |cons r _ ih=>exact .cons (SV.lp r) ih
theorem IR.append (h:IR D xs vs)(k:IR D ys us):IR D (xs++ys) (vs++us):=by
 induction h with
 |nil=>exact k
 |cons r _ ih=>exact .cons r ih
theorem IR.length (h:IR D xs vs):vs.length=xs.length:=by
 induction h with
 |nil=>rfl
 |cons _ _ ih=>simp[ih]
theorem IR.get (h:IR D xs vs){k:Nat}(e:xs[k]?=some sv):∃v,vs[k]?=some v∧sv.R D v:=by
 induction h generalizing k with
 |nil=>simp at e
 |cons r _ ih=>
  cases k with
  |zero=>simp at e;subst e;exact⟨_,rfl,r⟩
  |succ k=>simpa using ih (by simpa using e)
theorem IR.split:∀{xs ys:List SV}{vs:List Value},IR D (xs++ys) vs→∃v1 v2,vs=v1++v2∧IR D xs v1∧IR D ys v2
 |[],ys,vs,h=>⟨[],vs,rfl,.nil,h⟩
 |x::xs,ys,_,.cons r h=>by
  obtain⟨v1,v2,rfl,a,b⟩:=IR.split h
  exact⟨_::v1,v2,rfl,.cons r a,b⟩
noncomputable def look (x:Str):List (Str×SV)→Option SV
 |[]=>none
 |(y,v)::r=>match y==x with
  |true=>some v
  |false=>look x r
noncomputable def put (x:Str)(v:SV):List (Str×SV)→List (Str×SV)
 |[]=>[(x,v)]
 |(y,u)::r=>match y==x with
  |true=>(y,v)::r
  |false=>(y,u)::put x v r
theorem FR.look (h:FR D fs es)(e:Internal.look x fs=some sv):∃v,getL x es=some (some v)∧sv.R D v:=by
 induction h with
 |nil=>cases e
 |@cons n sv' hh t v fs es r _ ih=>
  change(match n==x with|true=>some sv'|false=>Internal.look x fs)=some sv at e
  unfold getL
  rw[RW]
  cases q:(n==x)with
  |true=>
   rw[q]at e;cases e
   have:(Qn n t).isStr x=true:=q
   simp only[this]
   exact⟨v,rfl,r⟩
  |false=>
   rw[q]at e
   have:(Qn n t).isStr x=false:=q
   obtain⟨u,hu,hr⟩:=ih e
   refine⟨u,?_,hr⟩
   unfold getL at hu
   simp only[this]
   exact hu
theorem FR.none {D:Ad}{fs:List (Str×SV)}{es:List PX}(h:FR D fs es){x:Str}(e:Internal.look x fs=Tg):getL x es=some none:=by
 induction h with
 |nil=>rfl
 |@cons n sv' hh t v fs es r _ ih=>
  change(match n==x with|true=>some sv'|false=>Internal.look x fs)=Tg at e
  unfold getL
  rw[RW]
  cases q:(n==x)with
  |true=>rw[q]at e;cases e
  |false=>
   rw[q]at e
   have:(Qn n t).isStr x=false:=q
   have hu:=ih e
   unfold getL at hu
   simp only[this]
   exact hu
theorem FR.isSome (h:FR D fs es)(x:Str):(getL x es).isSome=true:=by
 cases e:Internal.look x fs with
 |none=>rw[h.none e];rfl
 |some sv=>obtain⟨v,q,_⟩:=h.look e;rw[q];rfl
set_option tactic.hygienic true in
theorem FR.put (h:FR D fs es)(r:sv.R D v):FR D (Internal.put x sv fs) (putL x hh (.str x t) v es):=by
 induction h with
 |nil=>exact .cons r .nil
 |@cons n sv' h' t' v' fs es r' _ ih=>
  show FR D (match n==x with|true=>(n,sv)::fs|false=>(n,sv')::Internal.put x sv fs) _
  unfold putL
  cases q:(n==x)with
  |true=>
   have:(Qn n t').isStr x=true:=q
   simp only[this,if_true]
   rename_i hf
   exact .cons r hf
  |false=>
   have:(Qn n t').isStr x=false:=q
   simp only[this]
   exact .cons r' ih
theorem FR.length (h:FR D fs es):es.length=fs.length:=by
 induction h with
 |nil=>rfl
 |cons _ _ ih=>simp[ih]
def nZ {α:Type u}(o:Option α)(p:α→Prop)(r:Prop):Prop:=match o with
 |some a=>p a
 |none=>r
theorem cw {α:Type u}{o:Option α}{p:α→Prop}{r:Prop}(h:nZ o p r):(∃a,o=some a∧p a)∨o=none∧r:=by
 cases o with
 |none=>exact .inr ⟨rfl,h⟩
 |some a=>exact .inl ⟨a,rfl,h⟩
theorem mP {b:Bool}{p q:Prop}(h:match b with|true=>p|false=>q):b=true∧p∨b=false∧q:=by
 cases b with
 |true=>exact .inl ⟨rfl,h⟩
 |false=>exact .inr ⟨rfl,h⟩
theorem bO.{p,q} {α:Type p}{β:Type q}{o:Option α}{f:α→Option β}{b:β}(h:o.bind f=some b):∃a,o=some a∧f a=some b:=by
 cases o with
 |none=>exact nS h
 |some a=>exact⟨a,rfl,h⟩
noncomputable def gO.{q} {β:Type q}(c:Bool)(o:Option β):Option β:=match c with
 |true=>o
 |false=>none
theorem dM.{q} {β:Type q}{c:Bool}{o:Option β}{b:β}(h:gO c o=some b):c=true∧o=some b:=by
 cases c with
 |true=>exact⟨rfl,h⟩
 |false=>exact nS h
def ag {α:Type u}(o:Option α)(p:α→Prop):Prop:=match o with
 |some a=>p a
 |none=>False
theorem aa (h:ag o p):∃a,o=some a∧p a:=by
 cases o with
 |none=>exact h.elim
 |some a=>exact⟨a,rfl,h⟩
def eT (b:Bool)(p:Prop):Prop:=match b with
 |true=>p
 |false=>False
theorem aA (h:eT b p):b=true∧p:=by
 cases b with
 |true=>exact⟨rfl,h⟩
 |false=>exact h.elim
noncomputable def hY {α:Type}(l:List α):Option {a:α // l=[a]}:=match l with
 |[]=>none
 |a::r=>match r with
  |[]=>some ⟨a,rfl⟩
  |_::_=>none
noncomputable def iG {α:Type}(l:List α):Option {p:α×α // l=[p.1,p.2]}:=match l with
 |[]=>none
 |a::r=>(hY r).bind λq=>some ⟨(a,q.1),congrArg (a::·) q.2⟩
noncomputable def pz {α:Type}(l:List α):Option {p:α×α×α // l=[p.1,p.2.1,p.2.2]}:=match l with
 |[]=>none
 |a::r=>(iG r).bind λq=>some ⟨(a,q.1),congrArg (a::·) q.2⟩
theorem G7 (r:IR D [] vs):vs=[]:=by cases r;rfl
theorem Gp (r:IR D [a] vs):∃v,vs=[v]∧a.R D v:=by
 cases r with|cons ra r=>exact⟨_,congrArg _ (G7 r),ra⟩
theorem nJ (r:IR D [a,b] vs):∃v w,vs=[v,w]∧a.R D v∧b.R D w:=by
 cases r with|cons ra r=>obtain⟨w,rfl,rb⟩:=Gp r;exact⟨_,w,rfl,ra,rb⟩
theorem vf (r:IR D [a,b,c] vs):∃v w u,vs=[v,w,u]∧a.R D v∧b.R D w∧c.R D u:=by
 cases r with|cons ra r=>obtain⟨w,u,rfl,rb,rc⟩:=nJ r;exact⟨_,w,u,rfl,ra,rb,rc⟩
noncomputable def iu {α β:Type} [BEq α] (x:α)(l:List (α×β)):Option β:=match l with
 |[]=>none
 |p::r=>match p.1==x with
  |true=>some p.2
  |false=>iu x r
inductive jv {α β:Type}(P:α→β→Prop):List (α×β)→Prop
 |nil:jv P []
 |cons {a:α}{b:β}{l:List (α×β)}(h:P a b)(t:jv P l):jv P ((a,b)::l)
theorem jv.find [BEq α] [LawfulBEq α] {P:α→β→Prop}{l:List (α×β)}(h:jv P l){x:α}{b:β}(e:iu x l=some b):P x b:=by
 induction h with
 |nil=>exact absurd e nofun
 |@cons a c l h t ih=>
  rcases mB e with⟨q,e2⟩|⟨_,e⟩
  ·rcases beq_iff_eq.mp q with rfl
   cases e2
   exact h
  ·exact ih e
noncomputable def dB (e:Expr):Option {p:Str×Pos // e=.Name p.1 p.2}:=match e with
 |.Name x p=>some ⟨(x,p),rfl⟩
 |_=>none
noncomputable def mf (e:Expr):Option {p:Const×Nat×Pos // e=.Constant p.1 p.2.1 p.2.2}:=match e with
 |.Constant c k p=>some ⟨(c,k,p),rfl⟩
 |_=>none
noncomputable def Kk (c:Const):Option {x:Str // c=.str x}:=match c with
 |.str x=>some ⟨x,rfl⟩
 |_=>none
noncomputable def GN (c:Const):Option {x:Int // c=.int x}:=match c with
 |.int x=>some ⟨x,rfl⟩
 |_=>none
noncomputable def Lc (e:Expr):Option {p:Str×Nat×Pos // e=.Constant (.str p.1) p.2.1 p.2.2}:=(mf e).bind λq=>(Kk q.1.1).bind λx=>some ⟨(x.1,q.1.2),q.2.trans (congrArg (λc=>Expr.Constant c q.1.2.1 q.1.2.2) x.2)⟩
noncomputable def Gd (e:Expr):Option {p:Int×Nat×Pos // e=.Constant (.int p.1) p.2.1 p.2.2}:=(mf e).bind λq=>(GN q.1.1).bind λx=>some ⟨(x.1,q.1.2),q.2.trans (congrArg (λc=>Expr.Constant c q.1.2.1 q.1.2.2) x.2)⟩
noncomputable def xq (e:Expr):Option {p:Expr×List Expr×List Keyword×Pos // e=.Call p.1 p.2.1 p.2.2.1 p.2.2.2}:=match e with
 |.Call g as kws p=>some ⟨(g,as,kws,p),rfl⟩
 |_=>none
noncomputable def Lq (e:Expr):Option {p:Expr×List CmpOp×List Expr×Pos // e=.Compare p.1 p.2.1 p.2.2.1 p.2.2.2}:=match e with
 |.Compare l ops cs p=>some ⟨(l,ops,cs,p),rfl⟩
 |_=>none
noncomputable def HD (e:Expr):Option {p:Expr×Expr×Pos // e=.Subscript p.1 p.2.1 p.2.2}:=match e with
 |.Subscript o i p=>some ⟨(o,i,p),rfl⟩
 |_=>none
noncomputable def ON (e:Expr):Option {p:Expr×Str×Pos // e=.Attribute p.1 p.2.1 p.2.2}:=match e with
 |.Attribute o n p=>some ⟨(o,n,p),rfl⟩
 |_=>none
noncomputable def EF (e:Expr):Option {p:List Expr×Nat×Pos // e=.Tuple p.1 p.2.1 p.2.2}:=match e with
 |.Tuple es k p=>some ⟨(es,k,p),rfl⟩
 |_=>none
noncomputable def vG {α:Type}:List α→Bool
 |[]=>true
 |_::_=>false
theorem iW (h:vG l=true):l=[]:=by
 cases l with
 |nil=>rfl
 |cons _ _=>exact absurd h nofun
noncomputable def AK (o:CmpOp)(l:List CmpOp):Bool:=match hY l with
 |some q=>decide (q.1=o)
 |none=>false
theorem rK (h:AK o l=true):l=[o]:=by
 unfold AK at h
 cases hq:hY l with
 |none=>rw[hq]at h;exact bF h
 |some q=>rw[hq]at h;rw[q.2,of_decide_eq_true h]
noncomputable def AJ (v:Value):Option {a:Addr // v=.ref a}:=match v with
 |.ref a=>some ⟨a,rfl⟩
 |_=>none
noncomputable def ti (e:Option HE):Option {q:Addr×Addr×Addr×List (Str×SV) // e=some (.inst q.1 q.2.1 q.2.2.1 q.2.2.2)}:=match e with
 |some e=>match e with
  |.inst a C d fs=>some ⟨(a,C,d,fs),rfl⟩
  |_=>none
 |none=>none
noncomputable def DA {α:Type}(o:Option α):Bool:=match o with
 |some _=>false
 |none=>true
noncomputable def ph (b:SV):Option {u:Value // b=.opq u}:=match b with
 |.opq u=>some ⟨u,rfl⟩
 |_=>none
noncomputable def EU (b:SV):Option {u:Addr // b=.top u}:=match b with
 |.top u=>some ⟨u,rfl⟩
 |_=>none
noncomputable def Jz (o:Option HE):Option {q:Addr×SV×SV // o=some (.tup q.1 [q.2.1,q.2.2])}:=match o with
 |some e=>match e with
  |.tup a xs=>(iG xs).bind λq=>some ⟨(a,q.1),congrArg (λl=>some (HE.tup a l)) q.2⟩
  |_=>none
 |none=>none
structure Fx where
 w:World
 A:SX
 base:Heap
 h₀:Heap
 L:Addr
 cn:Str
 cs:Scope
 f:Addr
 cd:Value
 os:PR
 n:Nat
 scr:Addr
 sns:List Int
noncomputable abbrev Fx.env (X:Fx):Env:=envOf X.cn X.cs X.L X.f X.cd
structure Fx.Ok (X:Fx):Prop where
 kin:(Kf X.w.params).In X.h₀
 top:∃mean mg mb,Top q (looseW q lo) mean mg mb X.h₀
 kind:X.cs.kind=.function
 below:∃A₀ outer,Below A₀ X.base outer X.h₀∧X.A.frames=some (X.env::outer)
 room:X.A.depth+X.n<recursionLimit
 units:X.A.units+8*X.n+500<cLine
 scr:∃vs:List Value,X.h₀.IsList X.scr vs.toArray∧Qz vs X.sns∧X.sns.length≤63
structure St where
 loc:List (Str×SV)
 hp:List HE
 sk:List HE
 tp:List HE
 rst:ah
 fz:ah
noncomputable def St.rf (st:St):ah:=st.rst++st.fz
noncomputable abbrev St.ad (st:St):Ad:=⟨st.hp.map HE.addr,st.sk.map HE.addr,st.tp.map HE.addr⟩
def ao (l:ah):Prop:=(l.map (·.1)).Nodup
def K0 (loc:List (Str×SV))(D:Ad)(m:Str→Option Value):Prop:=∀x sv,look x loc=some sv→∃v,m x=some v∧sv.R D v
inductive Ov (X:Fx)(st:St)(h:Heap):Prop
 |mk (m:Str→Option Value)(l l':ah)(L1:LL st.ad.low (st.hp++st.sk) l)(L2:LL st.ad.bot st.tp l')(hl:K0 st.loc st.ad m)(F:Fr X.h₀ X.L h m)(N:News X.h₀ X.L h (l++(l'++st.rf))) (nd:ao (l++(l'++st.rf)))
structure Inv (X:Fx)(st:St)(s:Pl):Prop where
 ex:Ov X st s.heap
 gens:s.gens=#[]
 os:s.os=X.os
theorem Inv.aO {st:St}(I:Inv X st s)(t:Nat):Inv X st ⟨s.heap,s.gens,s.drawn,t,s.os⟩:=⟨I.ex,I.gens,I.os⟩
theorem Fx.Ok.read {X:Fx}(O:X.Ok):∃mg mb,TopRead q (looseW q lo) mg mb X.h₀:=let⟨_,mg,mb,T⟩:=O.top;⟨mg,mb,topRead_of T⟩
theorem Fx.Ok.dg {st:St}(O:X.Ok)(I:Inv X st s):(Kf X.w.params).In s.heap:=by
 obtain⟨m,l,l',_,_,_,F,_⟩:=I.ex
 exact O.kin.keeps F.keep
abbrev Wp {α:Type}(X:Fx)(t:Sem α)(Q:α→Pl→Prop)(E:Value→Pl→Prop)(s:Pl):Prop:=wpAny (model pw X.w) X.A t Q E s
section
variable {X:Fx}{st:St}{s:Pl}{E:Value→Pl→Prop}
theorem Ba (O:X.Ok)(I:Inv X st s)(e:look x st.loc=some sv)(hk:X.cs.names.lookup x=some .local)(hd:(x==("__debug__":Str))=false) (h:∀v,sv.R st.ad v→Q v s):Wp X (eval (.Name x pos) X.env) Q E s:=by
 obtain⟨m,l,l',_,_,hl,F,_⟩:=I.ex
 obtain⟨v,hv,r⟩:=hl x sv e
 exact ld F hv (h v r) O.kind hk hd
theorem nP (O:X.Ok)(I:Inv X st s)(e:nsIn (Kf X.w.params) RB x=some (some v))(hk:X.cs.names.lookup x=some .globalImplicit)(hd:(x==("__debug__":Str))=false) (h:Q v s):Wp X (eval (.Name x pos) X.env) Q E s:=by
 obtain⟨m,l,l',_,_,hl,F,_⟩:=I.ex
 obtain⟨mg,mb,T⟩:=O.read
 exact name_K F O.kin T e h O.kind hk hd
theorem uX (O:X.Ok)(I:Inv X st s)(e:nsIn (Kf X.w.params) RB x=some none)(hb:bootBuiltins x=some v)(hn:x≠"__name__") (hk:X.cs.names.lookup x=some .globalImplicit)(hd:(x==("__debug__":Str))=false) (h:Q v s):Wp X (eval (.Name x pos) X.env) Q E s:=by
 obtain⟨m,l,l',_,_,hl,F,_⟩:=I.ex
 obtain⟨mg,mb,T⟩:=O.read
 exact name_B F O.kin T e hb hn h O.kind hk hd
theorem oK:∀{l:List (Str×SV)},look y (put x sv l)=if y=x then some sv else look y l
 |[]=>by
  show(match(x==y)with|true=>some sv|false=>none)=_
  by_cases h:y=x
  ·subst h;simp
  ·have:(x==y)=false:=beq_eq_false_iff_ne.mpr (Ne.symm h)
   rw[this,if_neg h];rfl
 |(z,u)::r=>by
  show look y (match z==x with|true=>(z,sv)::r|false=>(z,u)::put x sv r)=_
  cases q:(z==x)with
  |true=>
   have:z=x:=beq_iff_eq.mp q
   subst this
   show(match(z==y)with|true=>some sv|false=>look y r)=_
   by_cases h:y=z
   ·subst h;simp
   ·have:(z==y)=false:=beq_eq_false_iff_ne.mpr (Ne.symm h)
    rw[this,if_neg h]
    show _=(match(z==y)with|true=>some u|false=>look y r)
    rw[this]
  |false=>
   show(match(z==y)with|true=>some u|false=>look y (put x sv r))=_
   cases q2:(z==y)with
   |true=>
    have:z=y:=beq_iff_eq.mp q2
    subst this
    have:¬z=x:=by simpa using q
    rw[if_neg this]
    show _=(match(z==z)with|true=>some u|false=>look z r)
    rw[q2]
   |false=>
    show look y (put x sv r)=_
    rw[oK]
    show _=if y=x then some sv else(match(z==y)with|true=>some u|false=>look y r)
    rw[q2]
theorem fm (O:X.Ok)(I:Inv X st s)(r:sv.R st.ad v)(hk:X.cs.names.lookup x=some .local)(h:∀s',Inv X {st with loc:=put x sv st.loc} s'→Q () s'):Wp X (storeName X.env x v) Q E s:=by
 obtain⟨m,l,l',L1,L2,hl,F,N,nd⟩:=I.ex
 refine stN F N (λh' F' N'=>h _ ⟨⟨_,l,l',L1,L2,λy sv' e=>?_,F',N',nd⟩,I.gens,I.os⟩) O.kind hk
 rw[oK]at e
 by_cases hy:y=x
 ·rw[if_pos hy]at e;cases e;exact⟨v,if_pos hy,r⟩
 ·rw[if_neg hy]at e
  obtain⟨u,hu,hr⟩:=hl y sv' e
  exact⟨u,by rw[if_neg hy];exact hu,hr⟩
theorem rm (I:Inv X st s)(h:∀v s',Inv X st s'→(SV.num i).R st.ad v→Q v s'):Wp X (eval (.Constant (.int i) k pos) X.env) Q E s:=
 wpAny_Constant_int (h _ _ (I.aO _) ⟨_,rfl⟩)
theorem y7 (I:Inv X st s)(h:∀v s',Inv X st s'→(SV.txt x).R st.ad v→Q v s'):Wp X (eval (.Constant (.str x) k pos) X.env) Q E s:=
 Calls.Constant_str (h _ _ (I.aO _) ⟨_,rfl⟩)
end
theorem ao.append (h:ao (l++l')):ao l∧ao l'∧∀a,a∈l.map (·.1)→a∉l'.map (·.1):=by
 unfold ao at *
 rw[PI,List.nodup_append]at h
 exact⟨h.1,h.2.1,λa ha hb=>h.2.2 a ha a hb rfl⟩
theorem ao.ne (nd:ao (P++(d,o)::Q)):(∀p∈P,p.1≠d)∧∀p∈Q,p.1≠d:=by
 obtain⟨_,n2,n3⟩:=nd.append
 exact⟨λp hp e=>n3 p.1 (RP hp) (e▸.head _),λp hp e=>(List.nodup_cons.mp n2).1 (e▸RP (f:=(·.1)) hp)⟩
theorem LL.get (h:LL D es l):∀{k:Nat}{e:HE},es[k]?=some e→∃le,HL D e le∧∀p∈le,p∈l:=by
 induction h with
 |nil=>intro k e q;simp at q
 |@cons e' es l ls hl _ ih=>
  intro k e q
  cases k with
  |zero=>simp at q;subst q;exact⟨l,hl,λp hp=>Px _ hp⟩
  |succ k=>
   obtain⟨le,a,b⟩:=ih (by simpa using q)
   exact⟨le,a,λp hp=>Pb _ (b p hp)⟩
theorem LL.cut (h:LL D es l):∀{k:Nat}{e:HE},es[k]?=some e →
  ∃pre le post,l=pre++(le++post)∧HL D e le∧∀e' le',HL D e' le'→LL D (es.set k e') (pre++(le'++post)):=by
 induction h with
 |nil=>intro k e q;simp at q
 |@cons e₀ es l ls hl hs ih=>
  intro k e q
  cases k with
  |zero=>
   simp at q;subst q
   exact⟨[],l,ls,rfl,hl,λe' le' h'=>(LL.cons h' hs:LL D (e'::es) (le'++ls))⟩
  |succ k=>
   obtain⟨pre,le,post,rfl,a,b⟩:=ih (by simpa using q)
   refine⟨l++pre,le,post,by rw[Pj],a,λe' le' h'=>?_⟩
   rw[Pj]
   exact .cons hl (b e' le' h')
theorem LL.append (h:LL D es l)(g:LL D fs k):LL D (es++fs) (l++k):=by
 induction h with
 |nil=>exact g
 |cons a _ ih=>rw[Pj];exact .cons a ih
theorem LL.one (h:HL D e l):LL D [e] l:=by
 have:=LL.cons h LL.nil
 rwa [Qt]at this
theorem LL.split:∀{es fs:List HE}{l:ah},LL D (es++fs) l→∃l1 l2,l=l1++l2∧LL D es l1∧LL D fs l2
 |[],fs,l,h=>⟨[],l,rfl,.nil,h⟩
 |e::es,fs,_,.cons a h=>by
  obtain⟨l1,l2,rfl,x,y⟩:=LL.split h
  exact⟨_++l1,l2,by rw[Pj],.cons a x,y⟩
theorem gZ:∀{P Q:ah},ao (P++(d,o)::Q)→Upd d o o' (P++(d,o)::Q) (P++(d,o')::Q)
 |[],Q,nd=>by
  unfold ao at nd
  rw[Q1,QJ,Ru]at nd
  exact .head λp' hp e=>nd.1 (by have z:=RP (f:=(·.1)) hp;rw[e]at z;exact z)
 |p::P,Q,nd=>by
  unfold ao at nd
  rw[List.cons_append,QJ,Ru]at nd
  refine .tail (λe=>nd.1 ?_) (gZ nd.2)
  rw[e]
  exact RP (f:=(·.1)) (a:=(d,o)) (Pb _ (.head _))
theorem bp (nd:ao (P++(d,o)::Q)):ao (P++(d,o')::Q):=by
 unfold ao at *
 simpa using nd
noncomputable def St.ent (st:St):SV→Option HE
 |.ref k=>st.hp[k]?
 |.stk k=>st.sk[k]?
 |.tmp k=>st.tp[k]?
 |_=>none
noncomputable def St.c4 (st:St)(sv:SV)(e:HE):St:=match sv with
 |.ref k=>{st with hp:=st.hp.set k e}
 |.stk k=>{st with sk:=st.sk.set k e}
 |.tmp k=>{st with tp:=st.tp.set k e}
 |_=>st
theorem bK {l:List HE}(h:l[k]?=some e)(a:e'.addr=e.addr):(l.set k e').map HE.addr=l.map HE.addr:=by
 rw[List.map_set]
 apply List.ext_getElem?
 intro i
 rw[List.getElem?_set]
 by_cases hi:k=i
 ·subst hi
  rw[if_pos rfl]
  rcases List.getElem?_eq_some_iff.mp h with⟨hl,he⟩
  rw[if_pos (by simpa using hl),QL,h,a];rfl
 ·rw[if_neg hi]
theorem FO {l:List HE}{k:Nat}{v:Value}(h:l[k]?=some e)(r:∃a,(l.map HE.addr)[k]?=some a∧v=.ref a):v=.ref e.addr:=by
 obtain⟨a,q,rfl⟩:=r
 rw[QL,h]at q
 cases q
 rfl
theorem St.aR {st:St}(h:st.ent sv=some e)(r:sv.R st.ad v):v=.ref e.addr:=by
 cases sv<;>first|exact nS h|exact FO h r
theorem St.iK {st:St}(h:st.ent sv=some e)(a:e'.addr=e.addr):(st.c4 sv e').ad=st.ad:=by
 cases sv<;>first|exact nS h|skip
 ·show Ad.mk ((st.hp.set _ e').map HE.addr) _ _=_;rw[bK h a];rfl
 ·show Ad.mk _ ((st.sk.set _ e').map HE.addr) _=_;rw[bK h a];rfl
 ·show Ad.mk _ _ ((st.tp.set _ e').map HE.addr)=_;rw[bK h a];rfl
theorem St.oS {st:St}:(st.c4 sv e').loc=st.loc:=by cases sv<;>rfl
theorem St.iJ {st:St}:(st.c4 sv e').rf=st.rf:=by cases sv<;>rfl
def OD (X:Fx)(st:St)(s:Pl)(sv:SV)(e:HE)(m:Str→Option Value)(P Q:ah)(D:Ad):Prop:=
 ∀e' le' s',e'.addr=e.addr→HL D e' le'→s'.gens=s.gens→s'.os=s.os→Fr X.h₀ X.L s'.heap m→News X.h₀ X.L s'.heap (P++(le'++Q))→ao (P++(le'++Q))→Inv X (st.c4 sv e') s'
inductive Km (X:Fx)(st:St)(s:Pl)(sv:SV)(e:HE):Prop
 |mk (m:Str→Option Value)(P le Q:ah)(D:Ad)(d1:st.ad.bot.ext D)(d2:D.ext st.ad)(H:HL D e le)(F:Fr X.h₀ X.L s.heap m)(N:News X.h₀ X.L s.heap (P++(le++Q))) (nd:ao (P++(le++Q))) (re:OD X st s sv e m P Q D)
set_option tactic.hygienic true in
theorem Inv.cut {st:St}(I:Inv X st s)(h:st.ent sv=some e):Km X st s sv e:=by
 obtain⟨m,l,l',L1,L2,hl,F,N,nd⟩:=I.ex
 have main:∀{k:Nat}(hk:(st.hp++st.sk)[k]?=some e)(hset:∀e',(st.c4 sv e').hp++(st.c4 sv e').sk=(st.hp++st.sk).set k e')(htp:∀e',(st.c4 sv e').tp=st.tp),Km X st s sv e:=by
  intro k hk hset htp
  obtain⟨pre,le,post,rfl,H,re⟩:=L1.cut hk
  refine⟨m,pre,le,post++(l'++st.rf),_,st.ad.A4,st.ad.A2,H,F,by simpa only[Pj]using N,by simpa only[Pj]using nd,λe' le' s' ha H' hg ho F' N' nd'=>?_⟩
  have ea:=St.iK h ha
  refine⟨⟨m,pre++(le'++post),l',?_,?_,?_,F',?_,?_⟩,hg.trans I.gens,ho.trans I.os⟩
  ·rw[ea,hset];exact re e' le' H'
  ·rw[ea,htp];exact L2
  ·rw[ea,St.oS];exact hl
  ·rw[St.iJ];simpa only[Pj]using N'
  ·rw[St.iJ];simpa only[Pj]using nd'
 cases sv<;>first|exact nS h|skip
 ·rename_i k
  have hl:=(List.getElem?_eq_some_iff.mp h).1
  exact main (k:=k) (by rw[Td hl];exact h) (λe'=>by show st.hp.set k e'++st.sk=_;rw[List.set_append_left _ _ hl]) λe'=>rfl
 ·rename_i k
  exact main (k:=st.hp.length+k) (by rw[QM (PY _ _),QG];exact h)
   (λe'=>by show st.hp++st.sk.set k e'=_;rw[List.set_append_right _ _ (PY _ _),QG]) λe'=>rfl
 ·rename_i k
  obtain⟨pre,le,post,rfl,H,re⟩:=L2.cut h
  refine⟨m,l++pre,le,post++st.rf,_,.refl _,st.ad.BY,H,F,by simpa only[Pj]using N,by simpa only[Pj]using nd,λe' le' s' ha H' hg ho F' N' nd'=>?_⟩
  have ea:=St.iK (sv:=.tmp k) h ha
  refine⟨⟨m,l,pre++(le'++post),?_,?_,?_,F',?_,?_⟩,hg.trans I.gens,ho.trans I.os⟩
  ·rw[ea];exact L1
  ·rw[ea];exact re e' le' H'
  ·rw[ea,St.oS];exact hl
  ·rw[St.iJ];simpa only[Pj]using N'
  ·rw[St.iJ];simpa only[Pj]using nd'
noncomputable def eu (K:Frag)(C:Addr)(n:Str):Bool:=Tr K C n&&R4 K C&&(Rf K (.ref C) n==some none) &&
 (Rf K (.ref C) "__setattr__"==some (some (.builtin "object.__setattr__")))&&plainOver K C&&(takerIn K C n==some none)
noncomputable def jw (sv:SV):Bool:=match sv with
 |.blt _=>false
 |.opq v=>Rg v
 |_=>true
theorem o5 (r:sv.R D v)(h:jw sv=true):Rg v=true:=by
 cases sv with
 |blt _=>exact bF h
 |opq u=>exact(show v=u from r)▸h
 |none=>rw[show v=_ from r];rfl
 |lit b=>rw[show v=_ from r];rfl
 |bool b=>rw[show v=_ from r];rfl
 |top b=>rw[show v=_ from r];rfl
 |ty b=>rw[show v=_ from r];rfl
 |num b=>rcases r with⟨_,rfl⟩;rfl
 |int b=>rcases r with⟨_,rfl⟩;rfl
 |txt b=>rcases r with⟨_,rfl⟩;rfl
 |str b=>rcases r with⟨_,rfl⟩;rfl
 |ref b=>obtain⟨_,_,rfl⟩:=r;rfl
 |stk b=>obtain⟨_,_,rfl⟩:=r;rfl
 |tmp b=>obtain⟨_,_,rfl⟩:=r;rfl
section
variable {X:Fx}{st:St}{s:Pl}{E:Value→Pl→Prop}
theorem eY {K:Frag}(h:eu K C n=true):Tr K C n=true∧R4 K C=true∧Rf K (.ref C) n=some none ∧
  Rf K (.ref C) "__setattr__"=some (some (.builtin "object.__setattr__"))∧plainOver K C=true∧takerIn K C n=some none:=by
 unfold eu at h
 simp only[Pe,beq_iff_eq]at h
 obtain⟨⟨⟨⟨⟨a,b⟩,c⟩,d⟩,e⟩,f⟩:=h
 exact⟨a,b,c,d,e,f⟩
noncomputable def HE.FP (e:HE):Option (Addr×Addr×List (Str×SV)):=match e with
 |.inst a C _ fs=>some (a,C,fs)
 |.exc a C _ fs _=>some (a,C,fs)
 |_=>none
noncomputable def HE.CS (e:HE)(fs':List (Str×SV)):HE:=match e with|.inst a C d _=>.inst a C d fs'|.exc a C d _ vs=>.exc a C d fs' vs|x=>x
inductive HQ (D:Ad)(e:HE)(le:ah)(a C:Addr)(fs:List (Str×SV)):Prop
 |mk (ha:e.addr=a)(ox:Obj)(d:Addr)(es:List PX)(n:Nat)(hd:ox.dict=some d)(fr:FR D fs es)(hle:le=[(a,ox),(d,Qj es n)])(at_:∀h₀ L h,News h₀ L h le→InstAt h a ox C (some (Qj es n)))
  (re:∀fs' es' n',FR D fs' es'→∃e':HE,e'.addr=e.addr∧HL D e' [(a,ox),(d,Qj es' n')]∧e'=e.CS fs')
theorem HL.g' (H:HL D e le)(q:e.FP=some (a,C,fs)):HQ D e le a C fs:=by
 cases e with
 |inst a' C' d fs0=>
  obtain⟨es,n,fr,rfl⟩:=H.yO
  cases(q:some (a',C',fs0)=some (a,C,fs))
  exact⟨rfl,_,d,es,n,rfl,fr,rfl,λh₀ L h N=>⟨(N _ (.head _)).1,rfl,rfl,(N _ (.tail _ (.head _))).1⟩,λfs' es' n' f=>⟨.inst a C d fs',rfl,.inst f,rfl⟩⟩
 |exc a' C' d fs0 vs=>
  obtain⟨es,n,fr,rfl⟩:=H.E7
  cases(q:some (a',C',fs0)=some (a,C,fs))
  exact⟨rfl,_,d,es,n,rfl,fr,rfl,λh₀ L h N=>⟨(N _ (.head _)).1,rfl,rfl,(N _ (.tail _ (.head _))).1⟩,λfs' es' n' f=>⟨.exc a C d fs' vs,rfl,.exc f,rfl⟩⟩
 |_=>exact nS q
theorem News.sub (N:News h₀ L h (P++(le++Q))):News h₀ L h le:=λp hp=>N p (Pb _ (Px _ hp))
theorem vF (O:X.Ok)(I:Inv X st s)(r:sv.R st.ad v)(he:st.ent sv=some e)(hb:e.FP=some (a,C,fs))(hf:eu (Kf X.w.params) C n=true)(hl:look n fs=some sv')(hh:jw sv'=true)(h:∀v' s',Inv X st s'→sv'.R st.ad v'→Q v' s'):Wp X (Th v n ex) Q E s:=by
 rcases St.aR he r with rfl
 obtain⟨m,P,le,Q',D,d1,d2,H,F,N,nd,_⟩:=I.cut he
 obtain⟨ha,ox,d,es,nn,hd,fr,rfl,at_,_⟩:=H.g' hb
 rw[ha]
 obtain⟨v',hv,hr⟩:=fr.look hl
 obtain⟨h1,h2,h3,_⟩:=eY hf
 exact get_own F O.kin (at_ _ _ _ (News.sub N)) h1 h2 h3 rfl hv (o5 hr hh) (h v' _ (I.aO _) (hr.mono d2))
theorem jJ (n:Str)(sx:SV):∀(l:List (Str×SV)),(put n sx l).length≤l.length+1:=by
 intro l
 induction l with
 |nil=>exact P5 _
 |cons p r ih=>
  rcases p with⟨y,u⟩
  show(match y==n with|true=>(y,sx)::r|false=>(y,u)::put n sx r).length≤_
  cases(y==n)with
  |true=>exact Q3 _
  |false=>exact Qo ih
theorem FV {sx:SV}(O:X.Ok)(I:Inv X st s)(r:sv.R st.ad v)(he:st.ent sv=some e)(hb:e.FP=some (a,C,fs))(hf:eu (Kf X.w.params) C n=true)(rx:sx.R st.ad vv)(hz:R7 fs.length 100=true)(h:∀s',Inv X (st.c4 sv (e.CS (put n (sx.out st.ad) fs))) s'→Q () s'):Wp X (setAttr v n vv) Q E s:=by
 rcases St.aR he r with rfl
 obtain⟨m,P,le,Q',D,d1,d2,H,F,N,nd,re⟩:=I.cut he
 obtain⟨ha,ox,d,es,nn,hd,fr,rfl,at_,mk⟩:=H.g' hb
 rw[ha]
 obtain⟨h1,h2,h3,h4,h5,h6⟩:=eY hf
 have N1:News X.h₀ X.L s.heap ((P++[(a,ox)])++(d,Qj es nn)::Q'):=by simpa using N
 have nd1:ao ((P++[(a,ox)])++(d,Qj es nn)::Q'):=by simpa using nd
 have fr':=fr.put (x:=n) (hh:=PS X.w.params n) (t:=s.toks+1) ((SV.lp rx).mono d1)
 have hlen:(putL n (PS X.w.params n) (.str n (s.toks+1)) vv es).length≤1000:=by
  have f1:=fr'.length
  exact Pk (Rm f1) (Pk (jJ n (sx.out st.ad) fs) (Pk (Qo (PT hz)) (by decide)))
 refine set_dict F O.kin N1 (at_ _ _ _ (News.sub N)) hd h4 h5 h6 h2 (fr.isSome n) rfl (gZ nd1) hlen λh' F' N'=>?_
 obtain⟨e',hea,H',rfl⟩:=mk _ _ (putN n es nn) fr'
 refine h _ (re _ _ _ hea H' rfl rfl F' (by simpa using N') ?_)
 have:=bp (o':=Qj (putL n (PS X.w.params n) (.str n (s.toks+1)) vv es) (putN n es nn)) nd1
 simpa using this
end
theorem e7 (nd:ao (L1++(L2++L3))) (lt:∀p∈L1++(L2++L3),p.1<l):ao (L1++((L2++[(l,o)])++L3)):=by
 unfold ao at *
 have h:(L1++((L2++[(l,o)])++L3)).Perm ((l,o)::(L1++(L2++L3))):=by
  have:L1++((L2++[(l,o)])++L3)=(L1++L2)++(l,o)::L3:=by simp
  rw[this,←Pj]
  exact List.perm_middle
 have h2:=h.map (·.1)
 rw[h2.nodup_iff,QJ,Ru]
 refine⟨λhm=>?_,nd⟩
 obtain⟨p,hp,e⟩:=List.mem_map.mp hm
 exact absurd (lt p hp) (e▸QW _)
noncomputable def St.dH (st:St)(e:HE):St:={st with tp:=st.tp++[e]}
theorem St.br (st:St)(e:HE):st.ad.ext (st.dH e).ad:=⟨Pp,by show st.tp.map HE.addr <+: (st.tp++[e]).map HE.addr;rw[PI];exact⟨_,rfl⟩,Pp⟩
theorem Inv.add {st:St}(I:Inv X st s)(he:HL st.ad.bot e [(e.addr,o)])(hh:∀m led,Fr X.h₀ X.L s.heap m→News X.h₀ X.L s.heap led→Fr X.h₀ X.L s'.heap m∧News X.h₀ X.L s'.heap ((e.addr,o)::led)∧∀p∈led,p.1<e.addr) (hg:s'.gens=s.gens)(ho:s'.os=s.os):Inv X (st.dH e) s':=by
 obtain⟨m,l,l',L1,L2,hl,F,N,nd⟩:=I.ex
 obtain⟨F',N',lt⟩:=hh m _ F N
 have le:=St.br st e
 refine⟨⟨m,l,l'++[(e.addr,o)],L1,L2.append (.one he),λx sv h=>?_,F',λp hp=>N' p ?_,e7 nd lt⟩,hg.trans I.gens,ho.trans I.os⟩
 ·obtain⟨v,a,b⟩:=hl x sv h
  exact⟨v,a,b.mono le⟩
 ·simp only[St.dH,RX,QB,Qv,or_false]at hp ⊢
  rcases hp with h|(h|h)|h
  ·exact .inr (.inl h)
  ·exact .inr (.inr (.inl h))
  ·exact .inl h
  ·exact .inr (.inr (.inr h))
theorem cC (st:St)(e:HE):(SV.tmp st.tp.length).R (st.dH e).ad (.ref e.addr):=by
 refine⟨e.addr,?_,rfl⟩
 show((st.tp++[e]).map HE.addr)[st.tp.length]?=_
 simp
section
variable {X:Fx}{st:St}{s:Pl}{E:Value→Pl→Prop}
theorem tC (I:Inv X st s)(r:IR st.ad xs vs)(hz:R7 xs.length 1000=true)(h:∀l s',Inv X (st.dH (.list l [] (xs.map (SV.out st.ad)))) s'→Q (.ref l) s'):Wp X (TC vs) Q E s:=by
 refine R8 (h s.heap.objs.size _ (I.add (e:=.list s.heap.objs.size [] (xs.map (SV.out st.ad))) (o:=listOf vs.toArray 0) (.list (by simpa using r.out)) (λm led F N=>⟨F.push _,N.push F _,λp hp=>Qd (N p hp).1⟩) rfl rfl)) ?_
 show vs.toArray.size≤Qs
 rw[Pw,r.length]
 have:=PT hz
 unfold Qs;lia
theorem xe (I:Inv X st s)(r:IR st.ad xs vs)(hz:R7 xs.length 1000=true)(h:∀l s',Inv X (st.dH (.tup l (xs.map (SV.out st.ad)))) s'→Q (.ref l) s'):Wp X (newTuple vs) Q E s:=by
 refine R8 (h s.heap.objs.size _ (I.add (e:=.tup s.heap.objs.size (xs.map (SV.out st.ad))) (o:=cZ vs) (.tup r.out) (λm led F N=>⟨F.push _,N.push F _,λp hp=>Qd (N p hp).1⟩) rfl rfl)) ?_
 show vs.toArray.size≤Qs
 rw[Pw,r.length]
 have:=PT hz
 unfold Qs;lia
theorem Inv.list {pre:List SV}(I:Inv X st s)(r:sv.R st.ad v)(he:st.ent sv=some (.list a pre suf)) :
  v=.ref a∧∃vs n,IR st.ad (pre++suf) vs∧s.heap.get? a=some (listOf vs.toArray n):=by
 refine⟨St.aR he r,?_⟩
 obtain⟨m,P,le,Q',D,d1,d2,H,F,N,nd,_⟩:=I.cut he
 obtain⟨vs,n,ir,rfl⟩:=H.listI
 exact⟨vs,n,ir.mono d2,(N _ (Pb _ (.head _))).1⟩
theorem Inv.wY (I:Inv X st s)(r:sv.R st.ad v)(he:st.ent sv=some (.tup a xs)) :
  v=.ref a∧∃vs,IR st.ad xs vs∧s.heap.get? a=some (cZ vs):=by
 refine⟨St.aR he r,?_⟩
 obtain⟨m,P,le,Q',D,d1,d2,H,F,N,nd,_⟩:=I.cut he
 obtain⟨vs,ir,rfl⟩:=H.tupI
 exact⟨vs,ir.mono d2,(N _ (Pb _ (.head _))).1⟩
theorem ay {h:Heap}{vs:List Value}(e:h.get? a=some (listOf vs.toArray n)):h.IsList a vs.toArray:=⟨_,e,rfl,n,rfl⟩
theorem J4 {pre:List SV}(I:Inv X st s)(r:sv.R st.ad v)(he:st.ent sv=some (.list a pre suf))(hz:pre.length+suf.length<2^60)(h:∀v' s',Inv X st s'→(SV.int (pre.length+suf.length:Nat)).R st.ad v'→Q v' s'):Wp X (call (.builtin "len") [v]) Q E s:=by
 obtain⟨rfl,vs,n,ir,hg⟩:=I.list r he
 have hl:=ir.length
 rw[PU]at hl
 refine len_list (ay hg) (by rw[Pw,hl];lia) (h _ _ (I.aO _) ?_)
 exact⟨s.toks+1,by rw[Pw,hl]⟩
theorem xC {sx:SV}{pre:List SV}(I:Inv X st s)(r:sv.R st.ad v)(rx:sx.R st.ad vx)(he:st.ent sv=some (.list a pre suf))(hz:pre.length+suf.length<2^20)(h:∀s',Inv X (st.c4 sv (.list a pre (suf++[sx.out st.ad]))) s'→Q .none s'):Wp X (call (.builtin "list.append") [v,vx]) Q E s:=by
 rcases St.aR he r with rfl
 obtain⟨m,P,le,Q',D,d1,d2,H,F,N,nd,re⟩:=I.cut he
 obtain⟨vs,n,ir,rfl⟩:=H.listI
 have hl:=ir.length
 rw[PU]at hl
 refine append_K F N (gZ nd) (λh' F' N'=>h _ (re (.list a pre (suf++[sx.out st.ad])) [(a,listOf (vs.toArray.push vx) (n+1))] _ rfl ?_ rfl rfl F' N' (bp nd))) ?_
 ·have:vs.toArray.push vx=(vs++[vx]).toArray:=by simp
  rw[this]
  refine .list ?_
  rw[←Pj]
  exact ir.append (.cons ((SV.lp rx).mono d1) .nil)
 ·rw[Pw,hl];unfold Qs;lia
theorem ef {α:Type}{l:List α}{a:α}(h:l.getLast?=some a):l=l.dropLast++[a]:=by
 rcases List.getLast?_eq_some_iff.mp h with⟨ys,rfl⟩
 simp
theorem HJ {pre:List SV}(I:Inv X st s)(r:sv.R st.ad v)(he:st.ent sv=some (.list a pre suf))(hs:suf.getLast?=some sx)(hz:pre.length+suf.length<2^20)(h:∀v' s',Inv X (st.c4 sv (.list a pre suf.dropLast)) s'→sx.R st.ad v'→Q v' s'):Wp X (SD pos (.builtin "list.pop") [v] [] []) Q E s:=by
 rcases St.aR he r with rfl
 obtain⟨m,P,le,Q',D,d1,d2,H,F,N,nd,re⟩:=I.cut he
 obtain⟨vs,n,ir,rfl⟩:=H.listI
 have hl:=ir.length
 rw[PU]at hl
 have e1:pre++suf=(pre++suf.dropLast)++[sx]:=by rw[Pj,←ef hs]
 rw[e1]at ir
 obtain⟨v1,v2,rfl,i1,i2⟩:=ir.split
 cases i2 with
 |@cons _ y _ v2' ry i3=>
  cases i3
  have hsz:(v1++[y]).toArray.size=v1.length+1:=by simp
  have h9:v1.length+1≤Qs:=by
   have h8:v1.length+1=pre.length+suf.length:=by rw[←hl];simp
   unfold Qs;lia
  have DD:=N (a,listOf (v1++[y]).toArray n) (Pb _ (.head _))
  have up:=news_upd (f:=Obj.mapSeq λxs=>xs.eraseIdxIfInBounds ((v1++[y]).toArray.size-1)) (o':=listOf v1.toArray (n+1)) F (pre:=P) (post:=Q') N
   (ao.ne nd).1 (ao.ne nd).2
   (by
    show Obj.mk _ _ _ _=Obj.mk _ _ _ _
    have e2:((v1++[y]).toArray).eraseIdxIfInBounds ((v1++[y]).toArray.size-1)=v1.toArray:=by
     rw[hsz,Nat.add_sub_cancel]
     apply Array.ext'
     simp[R5]
    simp only[e2]
    have:((v1.toArray.size==(v1++[y]).toArray.size))=false:=by
     rw[hsz];simp
    simp[this]) rfl
  refine PySem.P.pop_list (y:=y) DD.1 (by rw[hsz];simp) (h y _ (re (.list a pre suf.dropLast) [(a,listOf v1.toArray (n+1))] _ rfl (.list i1) rfl rfl up.1 up.2 ?_) (ry.mono d2)) (by rw[hsz];exact h9)
  exact bp nd
theorem xd {pre:List SV}{k:Nat}(I:Inv X st s)(r:sv.R st.ad v)(he:st.ent sv=some (.list a pre suf))(hk:(pre++suf)[k]?=some sx)(hz:k<2^60)(h:∀v',sx.R st.ad v'→Q v' s):Wp X (getItem v (.int k t)) Q E s:=by
 obtain⟨rfl,vs,n,ir,hg⟩:=I.list r he
 obtain⟨v',hv,hr⟩:=ir.get hk
 exact Rn (ay hg) (PG _) (by lia) (by simpa using hv) (h v' hr)
theorem Eg {pre:List SV}(I:Inv X st s)(r:sv.R st.ad v)(he:st.ent sv=some (.list a pre suf))(hs:suf.getLast?=some sx)(h:∀v',sx.R st.ad v'→Q v' s):Wp X (getItem v (.int (-1) t)) Q E s:=by
 obtain⟨rfl,vs,n,ir,hg⟩:=I.list r he
 have e1:pre++suf=(pre++suf.dropLast)++[sx]:=by rw[Pj,←ef hs]
 rw[e1]at ir
 obtain⟨v1,v2,rfl,i1,i2⟩:=ir.split
 cases i2 with
 |@cons _ y _ v2' ry i3=>
  cases i3
  have hsz:(v1++[y]).toArray.size=v1.length+1:=by simp
  refine wpAny_getItem_list_neg (ay hg) (by decide) (by rw[hsz];lia) (by decide) (x:=y) ?_ (h y ry)
  rw[hsz]
  have:((-1:Int)+((v1.length+1:Nat):Int)).toNat=v1.length:=by lia
  rw[this];simp
end
noncomputable def SV.int?:SV→Option Int
 |.num i=>some i
 |.int i=>some i
 |_=>Tg
noncomputable def SV.b7:SV→Option Str
 |.txt x=>some x
 |.str x=>some x
 |_=>Tg
noncomputable def SV.eO:SV→Bool
 |.num _=>true
 |.txt _=>true
 |_=>false
theorem SV.aX {a:SV}(h:a.int?=some i)(r:a.R D v):∃t,v=.int i t:=by
 cases a with
 |num j=>exact Pd h▸r
 |int j=>exact Pd h▸r
 |_=>exact absurd h nofun
theorem SV.bA {a:SV}(h:a.b7=some x)(r:a.R D v):∃t,v=.str x t:=by
 cases a with
 |txt j=>exact Pd h▸r
 |str j=>exact Pd h▸r
 |_=>exact absurd h nofun
noncomputable def D9 (lit:Bool)(b:Bool):SV:=match lit with
 |true=>.lit b
 |false=>.bool b
theorem jo:(D9 l b).R D (.bool b):=by cases l<;>exact rfl
noncomputable def GH (op:CmpOp)(i j:Int):Option Bool:=match op with
 |.Eq=>some (i==j)
 |.NotEq=>some (i !=j)
 |.Lt=>some (decide (i<j))
 |.LtE=>some (decide (i≤j))
 |.Gt=>some (decide (i>j))
 |.GtE=>some (decide (i≥j))
 |_=>none
noncomputable def aN (x y:Str):Bool:=!(QF y x 0 y.length 1).isEmpty
noncomputable def HU (op:CmpOp)(x y:Str):Option Bool:=match op with
 |.Eq=>some (x==y)
 |.NotEq=>some (x !=y)
 |.In=>some (aN x y)
 |.NotIn=>some (!aN x y)
 |_=>none
noncomputable def wb (v:Value):Option Bool:=match AJ v with
 |some _=>some false
 |none=>none
theorem y5 (h:wb v=some c):(v==Pt)=c:=by
 unfold wb at h
 cases hr:AJ v with
 |none=>rw[hr]at h;exact absurd h nofun
 |some q=>rw[hr]at h;rcases Pd h with rfl;rw[q.2];rfl
noncomputable def SV.isNone (a:SV):Option Bool:=match a with
 |.none=>some true
 |.opq v=>wb v
 |_=>some false
noncomputable def EA (op:CmpOp)(a:Bool):Option Bool:=match op with
 |.Is=>some a
 |.IsNot=>some (!a)
 |_=>none
noncomputable def both {α β:Type}(a:Option α)(b:Option β):Option (α×β):=match a with
 |some x=>match b with
  |some y=>some (x,y)
  |none=>none
 |none=>none
theorem dj (h:both a b=some p):a=some p.1∧b=some p.2:=by
 cases a with
 |none=>exact absurd h nofun
 |some x=>cases b with
  |none=>exact absurd h nofun
  |some y=>rcases Pd h with rfl;exact⟨rfl,rfl⟩
noncomputable def E0 (l:Bool)(o:Option Bool):Option SV:=match o with
 |some c=>some (D9 l c)
 |none=>none
theorem r5 (h:E0 l o=some c):∃b,o=some b∧D9 l b=c:=by
 cases o with
 |none=>exact absurd h nofun
 |some b=>exact⟨b,rfl,Pd h⟩
noncomputable def m8 (b:SV):Bool:=match b with
 |.none=>true
 |_=>false
noncomputable def yb (op:CmpOp)(b:SV)(o:Option Bool):Option SV:=match o with
 |some c=>match m8 b with
  |true=>match EA op c with
   |some r=>some (.lit r)
   |none=>none
  |false=>none
 |none=>none
noncomputable def uL (op:CmpOp)(a b:SV):Option SV:=match both a.int? b.int? with
 |some p=>E0 (a.eO&&b.eO) (GH op p.1 p.2)
 |none=>match both a.b7 b.b7 with
  |some p=>E0 (a.eO&&b.eO) (HU op p.1 p.2)
  |none=>yb op b a.isNone
theorem qN (h:m8 b=true)(r:b.R D v):v=.none:=by
 cases b with
 |none=>exact r
 |_=>exact absurd h nofun
theorem uk {a:SV}(h:a.isNone=some c)(r:a.R D v):(v==Pt)=c:=by
 cases a with
 |none=>rcases Pd h with rfl;cases r;rfl
 |opq u=>rw[show v=u from r];exact y5 h
 |lit b=>rcases Pd h with rfl;cases r;rfl
 |bool b=>rcases Pd h with rfl;cases r;rfl
 |top b=>rcases Pd h with rfl;cases r;rfl
 |blt b=>rcases Pd h with rfl;cases r;rfl
 |ty b=>rcases Pd h with rfl;cases r;rfl
 |num b=>rcases Pd h with rfl;rcases r with⟨_,rfl⟩;rfl
 |int b=>rcases Pd h with rfl;rcases r with⟨_,rfl⟩;rfl
 |txt b=>rcases Pd h with rfl;rcases r with⟨_,rfl⟩;rfl
 |str b=>rcases Pd h with rfl;rcases r with⟨_,rfl⟩;rfl
 |ref b=>rcases Pd h with rfl;obtain⟨_,_,rfl⟩:=r;rfl
 |stk b=>rcases Pd h with rfl;obtain⟨_,_,rfl⟩:=r;rfl
 |tmp b=>rcases Pd h with rfl;obtain⟨_,_,rfl⟩:=r;rfl
section
variable {X:Fx}{s:Pl}{E:Value→Pl→Prop}{op:CmpOp}{b:Bool}{t t':Tok}{Q:Value→Pl→Prop}
theorem Fb (h:GH op i j=some b)(k:Q (.bool b) s):Wp X (Qr op (.int i t) (.int j t')) Q E s:=by
 cases op with
 |Eq=>rcases Pd h with rfl;exact eq_int k
 |NotEq=>rcases Pd h with rfl;exact ne_int k
 |Lt=>rcases Pd h with rfl;exact lt_int k
 |LtE=>rcases Pd h with rfl;exact le_int k
 |Gt=>rcases Pd h with rfl;exact gt_int k
 |GtE=>rcases Pd h with rfl;exact ge_int k
 |_=>exact absurd h nofun
theorem E5 (h:HU op x y=some b)(k:Q (.bool b) s):Wp X (Qr op (.str x t) (.str y t')) Q E s:=by
 cases op with
 |Eq=>rcases Pd h with rfl;exact PyProof.Rows.eq_str k
 |NotEq=>rcases Pd h with rfl;exact PyProof.Rows.ne_str k
 |In=>rcases Pd h with rfl;exact P.in_str k
 |NotIn=>rcases Pd h with rfl;exact P.notIn_str k
 |_=>exact absurd h nofun
theorem D3 (hv:(v==Pt)=c)(h:EA op c=some b)(k:Q (.bool b) s):Wp X (Qr op v .none) Q E s:=by
 cases op with
 |Is=>rcases Pd h with rfl;exact is_none (hv.symm▸k)
 |IsNot=>rcases Pd h with rfl;exact isNot_none (hv.symm▸k)
 |_=>exact absurd h nofun
end
theorem xc (ra:a.R D v)(rb:b.R D u)(h:uL op a b=some c)(k:∀v',c.R D v'→Q v' s) :
  Wp X (Qr op v u) Q E s:=by
 unfold uL at h
 cases hi:both a.int? b.int? with
 |some p=>
  rw[hi]at h
  rcases dj hi with⟨ha,hb⟩
  rcases SV.aX ha ra with⟨_,rfl⟩
  rcases SV.aX hb rb with⟨_,rfl⟩
  obtain⟨r,h2,rfl⟩:=r5 h
  exact Fb h2 (k _ jo)
 |none=>
  rw[hi]at h
  cases hs:both a.b7 b.b7 with
  |some p=>
   rw[hs]at h
   rcases dj hs with⟨ha,hb⟩
   rcases SV.bA ha ra with⟨_,rfl⟩
   rcases SV.bA hb rb with⟨_,rfl⟩
   obtain⟨r,h2,rfl⟩:=r5 h
   exact E5 h2 (k _ jo)
  |none=>
   rw[hs]at h
   change yb op b a.isNone=some c at h
   unfold yb at h
   cases hc:a.isNone with
   |none=>rw[hc]at h;exact absurd h nofun
   |some c0=>
    rw[hc]at h
    dsimp only at h
    cases hb:m8 b with
    |false=>rw[hb]at h;exact absurd h nofun
    |true=>
     rw[hb]at h
     dsimp only at h
     cases hr:EA op c0 with
     |none=>rw[hr]at h;exact absurd h nofun
     |some r=>
      rw[hr]at h
      rcases Pd h with rfl
      rw[qN hb rb]
      exact D3 (uk hc ra) hr (k _ rfl)
noncomputable def AP (op:Ts)(i j:Int):Option Int:=match op with
 |.Add=>some (i+j)
 |.Sub=>some (i-j)
 |_=>none
theorem DF {st:St}{a b:SV}(I:Inv X st s)(ra:a.R st.ad v)(rb:b.R st.ad u)(ha:a.int?=some i)(hb:b.int?=some j)(h:AP op i j=some k)(hq:∀v' s',Inv X st s'→(SV.int k).R st.ad v'→Q v' s'):Wp X (Tt op v u) Q E s:=by
 rcases SV.aX ha ra with⟨t,rfl⟩
 rcases SV.aX hb rb with⟨t',rfl⟩
 cases op with
 |Add=>rcases Pd h with rfl;exact add_int (hq _ _ (I.aO _) ⟨_,rfl⟩)
 |Sub=>rcases Pd h with rfl;exact sub_int (hq _ _ (I.aO _) ⟨_,rfl⟩)
 |_=>exact absurd h nofun
noncomputable def eI:SV→Option SV
 |.lit b=>some (.lit b)
 |.bool b=>some (.bool b)
 |.none=>some (.lit false)
 |_=>none
theorem gD (ra:a.R D v)(h:eI a=some c)(k:∀b,c.R D (.bool b)→Q b s):Wp X (truthy v) Q E s:=by
 cases a with
 |none=>rcases Pd h with rfl;cases ra;exact truthy_none (k _ rfl)
 |lit b=>rcases Pd h with rfl;cases ra;exact Ti (k _ rfl)
 |bool b=>rcases Pd h with rfl;cases ra;exact Ti (k _ rfl)
 |_=>exact absurd h nofun
def NO (b:Bool)(y n:Prop):Prop:=match b with
 |true=>y
 |false=>n
def cG (c:SV)(y n:Prop):Prop:=match c with
 |.lit b=>NO b y n
 |.bool b=>(b=true→y)∧(b=false→n)
 |_=>False
theorem Fc (h:NO b y n):(b=true∧y)∨(b=false∧n):=by
 cases b with
 |true=>exact .inl ⟨rfl,h⟩
 |false=>exact .inr ⟨rfl,h⟩
theorem b8 (h:cG c y n)(r:c.R D (.bool b)):(b=true∧y)∨(b=false∧n):=by
 cases c with
 |lit l=>cases r;exact Fc h
 |bool l=>
  cases r
  cases b with
  |true=>exact .inl ⟨rfl,h.1 rfl⟩
  |false=>exact .inr ⟨rfl,h.2 rfl⟩
 |_=>exact h.elim
structure Flying (B h:Heap)(l:List Env)(e C d:Addr)(fl:Option Value):Prop where
 stays:B.StaysIn h
 new:B.get? e=none
 frames:h.FunFrames B l
 obj:∃vs,h.get? e=some (ba C d vs)∧1<vs.size∧match fl with
  |none=>vs[1]?=some .none
  |some f=>∃T oT ts,vs[1]?=some (.ref T)∧B.get? T=none∧T≠e∧h.get? T=some oT∧oT.data=.fields ts∧ts[3]?=some f
theorem Flying.pop {B:Heap}(x:Flying B h (v::l) e C d fl):Flying B h l e C d fl:=⟨x.stays,x.new,x.frames.2.2,x.obj⟩
section
variable {M:Model}{A:SX}{E:Value→Pl→Prop}{s:Pl}{B:Heap}{l:List Env}{e C d:Addr}{Q:Unit→Pl→Prop}
theorem cy {h:Heap}(ho:h.get? b=some o)(hd:o.data=.fields ws):h.UpToSlots (h.update b f):=λc oc hc hn=>by
 have hne:b≠c:=λq=>by
  rw[←q,ho]at hc;cases hc
  exact hn ws hd
 exact⟨oc.slots,by rw[Qe _ _ hne];exact hc⟩
theorem dN {h:Heap}(x:h.UpToSlots h')(hl:h.FunFrames B l):h'.FunFrames B l:=hl.of_keeps λb o hb hn=>by
 rcases x b o hb hn with⟨sl,e⟩
 exact⟨_,e,rfl⟩
theorem Ek (C d:Addr)(vs:Array Value)(f:Array Value→Array Value):Obj.mapFields f (ba C d vs)=ba C d (f vs):=rfl
theorem IW (F:Flying B s.heap l e C d (some f))(h:∀h',Flying B h' l e C d (some x)→s.heap.UpToSlots h'→Q () {s with heap:=h'}) :
  wpAny M A (do let tb ←field (.ref e) 1;setField tb 3 x) Q E s:=by
 obtain⟨vs,he,hz,T,oT,ts,h1,hn,hne,hT,hd,h3⟩:=F.obj
 have hz3:3<ts.size:=(Array.getElem?_eq_some_iff.mp h3).1
 refine Po (Rj he rfl h1 (SY hT hd hz3 (h _ ⟨?_,F.new,dN (cy hT hd) F.frames,?_⟩ (cy hT hd))))
 ·intro b o hb
  rw[Qe _ _ (λq:T=b=>by rw[←q,hn]at hb;cases hb)]
  exact F.stays b o hb
 ·refine⟨vs,by rw[Qe _ _ hne];exact he,hz,T,_,_,h1,hn,hne,So _ hT (Obj.isFreed_of_fields (R1 hd _)),R1 hd _,?_⟩
  simp[hz3]
theorem d5 (F:Flying B s.heap l e C d (some f))(h:∀h',Flying B h' l e C d (some (fr.elim .none λf=>SI f))→s.heap.UpToSlots h'→Q () {s with heap:=h'}) :
  wpAny M A (setFlight (.ref e) fr) Q E s:=by
 obtain⟨vs,he,hz,T,oT,ts,h1,hn,hne,hT,hd,h3⟩:=F.obj
 have hz3:3<ts.size:=(Array.getElem?_eq_some_iff.mp h3).1
 unfold setFlight
 refine Po (Rj he rfl h1 ?_)
 rw[if_pos (show(Pa T !=Pt)=true from by simp)]
 refine SY hT hd hz3 (h _ ⟨?_,F.new,dN (cy hT hd) F.frames,?_⟩ (cy hT hd))
 ·intro b o hb
  rw[Qe _ _ (λq:T=b=>by rw[←q,hn]at hb;cases hb)]
  exact F.stays b o hb
 ·refine⟨vs,by rw[Qe _ _ hne];exact he,hz,T,_,_,h1,hn,hne,So _ hT (Obj.isFreed_of_fields (R1 hd _)),R1 hd _,?_⟩
  simp[hz3]
theorem k8 {env:Env}{head:Value}(hfr:A.frames=some (env::outer))(hf:env.frame=some L)(hs:B.StaysIn s.heap)(hnew:B.get? e=none)(hl:s.heap.FunFrames B (env::outer))(he:s.heap.get? e=some (ba C d vs))(hz:1<vs.size)(h:∀h',Flying B h' (env::outer) e C d (some (SI L))→s.heap.UpToSlots h'→Q () {s with heap:=h'}) :
  wpAny M A (do let a ←frameOf env;let pl ←entryPlaceOf L hadNext;let b ←TV head a .none (SI L) .none pl;setField (.ref e) 1 b) Q E s:=by
 have hef:e∉(env::outer).filterMap (·.frame):=λhm=>by
  obtain⟨_,o,ho,hnf⟩:=hl.mem hm
  rw[he]at ho;cases ho
  exact hnf vs rfl
 refine Po (wpAny_frameOf_fun hfr hl hf λh₁ hs₁=>?_)
 refine Po (wpAny_entryPlaceOf λpl hpl=>?_)
 unfold TV newFields
 refine Po (R8 ?_ (hpl.sizeOk5 _ _ _ _ _))
 generalize hq:([head,Pa L,Pt,SI L,Pt]++(if pl.isEmpty then List.replicate 6 Pt else pl))=row
 have e1:h₁.get? e=some (ba C d vs):=(hs₁.2.1 e hef).trans he
 have e2:(h₁.push {cls:=.type "traceback",dict:=none,data:=.fields row.toArray}).get? e=some (ba C d vs):=PB _ e1
 have hT:h₁.objs.size≠e:=Nat.ne_of_gt (Qd e1)
 refine SY e2 rfl hz ?_
 have up:s.heap.UpToSlots ((h₁.push {cls:=.type "traceback",dict:=none,data:=.fields row.toArray}).update e (Obj.mapFields (·.setIfInBounds 1 (Pa h₁.objs.size)))):=
  TO (λb o hb _=>hs₁.2.2 b o hb) (TO (Tu λb o hb=>PB _ hb) (cy e2 rfl))
 refine h _ ⟨?_,hnew,dN up hl,?_⟩ up
 ·intro b o hb
  rw[Qe _ _ (λq:e=b=>by rw[←q,hnew]at hb;cases hb)]
  refine PB _ ((hs₁.2.1 b λhm=>?_).trans (hs b o hb))
  rw[(hl.mem hm).1]at hb;cases hb
 ·refine⟨_,So _ e2 rfl,by simpa using hz,h₁.objs.size,{cls:=.type "traceback",dict:=none,data:=.fields row.toArray},row.toArray,by simp[hz],?_,hT,?_,rfl,?_⟩
  ·cases q:B.get? h₁.objs.size with
   |none=>rfl
   |some o=>
    have:=Qd (hs _ _ q)
    rw[hs₁.1]at this
    exact absurd this (QW _)
  ·rw[Qe _ _ (Ne.symm hT)]
   exact P6 h₁ rfl
  ·rw[←hq];simp
theorem gy {env:Env}(hfr:A.frames=some (env::outer))(hf:env.frame=some L)(F:Flying B s.heap (env::outer) e C d fl)(hfl:fl=none∨fl=some .none∨fl=some (SI L))(h:∀h',Flying B h' (env::outer) e C d (some (SI L))→s.heap.UpToSlots h'→Q () {s with heap:=h'}):wpAny M A (TU (.ref e) env) Q E s:=by
 rcases hfl with rfl|rfl|rfl
 ·obtain⟨vs,he,hz,h1⟩:=F.obj
  unfold TU
  simp only[hf]
  refine Po (Rj he rfl h1 ?_)
  rw[if_neg (by decide)]
  exact k8 hfr hf F.stays F.new F.frames he hz h
 ·obtain⟨vs,he,hz,T,oT,ts,h1,hn,hne,hT,hd,h3⟩:=F.obj
  have hz3:3<ts.size:=(Array.getElem?_eq_some_iff.mp h3).1
  unfold TU
  simp only[hf]
  refine Po (Rj he rfl h1 ?_)
  rw[if_pos (show(Pa T !=Pt)=true from by simp)]
  refine Po (Rj hT hd h3 ?_)
  rw[if_neg (show ¬((Pt==SI L)=true)from by simp[SI])]
  refine Po (SY hT hd hz3 ?_)
  have up:s.heap.UpToSlots (s.heap.update T (Obj.mapFields (·.setIfInBounds 3 Pt))):=cy hT hd
  refine k8 (C:=C) (d:=d) hfr hf ?_ F.new (dN up F.frames) (by rw[Qe _ _ hne];exact he) hz λh' F' up'=>h h' F' (up.trans up')
  intro b o hb
  show(s.heap.update T _).get? b=_
  rw[Qe _ _ (λq:T=b=>by rw[←q,hn]at hb;cases hb)]
  exact F.stays b o hb
 ·obtain⟨vs,he,hz,T,oT,ts,h1,hn,hne,hT,hd,h3⟩:=F.obj
  unfold TU
  simp only[hf]
  refine Po (Rj he rfl h1 ?_)
  rw[if_pos (show(Pa T !=Pt)=true from by simp)]
  refine Po (Rj hT hd h3 ?_)
  rw[if_pos (show(SI L==SI L)=true from by simp)]
  exact PH (h _ F (Heap.UpToSlots.refl _))
theorem tO {env:Env}(hfr:A.frames=some (env::outer))(hf:env.frame=some L)(F:Flying B s.heap (env::outer) e C d fl)(hfl:fl=none∨fl=some .none∨fl=some (SI L))(h:∀h',Flying B h' outer e C d (some .none)→s.heap.UpToSlots h'→Q () {s with heap:=h'}):wpAny M A (leaving env (.ref e)) Q E s:=by
 unfold leaving
 refine Po (gy hfr hf F hfl λh' F' up=>?_)
 exact d5 (s:={s with heap:=h'}) F' λh'' F'' up'=>h h'' F''.pop (up.trans up')
theorem v7 {env:Env}(hf:env.frame=some L)(F:Flying B s.heap l e C d (some f))(h:∀h',Flying B h' l e C d (some (SI L))→s.heap.UpToSlots h'→E' (.ref e) {s with heap:=h'}):Sr M A env E' (.ref e) s:=by
 obtain⟨vs,he,hz,T,oT,ts,h1,hn,hne,hT,hd,h3⟩:=F.obj
 unfold Sr
 refine Po (Rj he rfl h1 ?_)
 rw[if_neg (show ¬((Pa T==Pt)=true)from by simp)]
 show wpAny M A (setFlight (.ref e) env.frame) _ _ _
 rw[hf]
 exact d5 F λh' F' up=>h h' F' up
end
noncomputable def LO:Flow→Value
 |.ret v=>v
 |_=>.none
noncomputable abbrev CL (st:Stmt)(nm qual:Str)(dV pm cd:Value):FuncData:=fnOf nm qual (GQ st) (bz st) (aK st) dV .none .none pm none cd .none
structure xH (st:Stmt):Prop where
 co:(aK st).isCoroutine=false
 gen:(aK st).isGenerator=false
 kind:(aK st).kind=.function
 cell:∀x∈(aK st).names,x.2≠.cell
noncomputable def xG (st:Stmt):Bool:=!(aK st).isCoroutine&&!(aK st).isGenerator&&decide ((aK st).kind=.function)&&(aK st).names.all λx=>decide (x.2≠.cell)
theorem au {st:Stmt}(h:xG st=true):xH st:=by
 unfold xG at h
 simp only[Pe,PZ,decide_eq_true_eq,List.all_eq_true]at h
 obtain⟨⟨⟨a,b⟩,c⟩,d⟩:=h
 exact⟨a,b,c,d⟩
inductive rP (X:Fx)(C:Addr)(fs:List (Str×SV))(e:Value)(s:Pl):Prop
 |mk (ea:Addr)(G:Heap)(m:Str→Option Value)(B:Heap)(d:Addr)(es:List PX)(n:Nat)(fl:Option Value)(outer:List Env)(he:e=.ref ea)(hA:X.A.frames=some (X.env::outer))(F:Fr X.h₀ X.L G m)(hB:X.base.StaysIn B)
  (hG:∀b o,G.get? b=some o→b∉(X.env::outer).filterMap (·.frame)→B.get? b=some o)(fly:Flying B s.heap (X.env::outer) ea C d fl)(hfl:fl=none∨fl=some .none∨fl=some (SI X.L))
  (hd:B.get? d=some (Qj es n))(hfr:FR ⟨[],[],[]⟩ fs es)(up:G.UpToSlots s.heap)(he0:X.h₀.get? ea=none)(hd0:X.h₀.get? d=none)(hg:s.gens=#[])(hos:s.os=X.os)
theorem sW (F:Fr g L h m):g.get? L=none:=by
 cases q:g.get? L with
 |none=>rfl
 |some o=>exact absurd (PV (Qd q) F.above) (QW _)
theorem lO {g h:Heap}(k:∀b o,g.get? b=some o→h.get? b=some o)(e:h.get? b=none):g.get? b=none:=by
 cases q:g.get? b with
 |none=>rfl
 |some o=>have:=k b o q;rw[e]at this;cases this
theorem cN (X:Fx):X.env.frame=some X.L:=rfl
theorem rP.leave (x:rP X' C fs e s)(hA:X.A.frames=some (X.env::outer))(hA':X'.A.frames=some (X'.env::X.env::outer))(hF:Fr X.h₀ X.L X'.h₀ m₀)(hb:X'.base=X.base)(ho:X'.os=X.os)(h:∀s',rP X C fs e s'→Q () s'):wpAny (model pw X'.w) X'.A (leaving X'.env e) Q E s:=by
 obtain⟨ea,G,m,B,d,es,n,fl,outer',rfl,hA'',F,hB,hG,fly,hfl,hd,hfr,up,he0,hd0,hg,hos⟩:=x
 obtain rfl:outer'=X.env::outer:=by rw[hA']at hA'';cases hA'';rfl
 refine tO hA' (cN X') fly hfl λh' fly' up'=>h _ ⟨ea,X'.h₀,m₀,B,d,es,n,_,outer,rfl,hA,hF,hb▸hB,λb o hbo hnm=>hG b o (F.keep b o hbo) λhm=>?_,fly',.inr (.inl rfl),hd,hfr,
  (Tu F.keep).trans (up.trans up'),lO hF.keep he0,lO hF.keep hd0,hg,hos.trans ho⟩
 obtain⟨env,hm,hf⟩:=List.mem_filterMap.mp hm
 rcases List.mem_cons.mp hm with rfl|hm
 ·rw[cN]at hf;cases hf
  rw[sW F]at hbo;cases hbo
 ·exact hnm (List.mem_filterMap.mpr ⟨env,hm,hf⟩)
theorem rP.note (x:rP X C fs e s)(h:∀s',rP X C fs e s'→E' e s'):notedBy (model pw X.w) X.A X.env E' e s:=by
 obtain⟨ea,G,m,B,d,es,n,fl,outer,rfl,hA,F,hB,hG,fly,hfl,hd,hfr,up,he0,hd0,hg,hos⟩:=x
 exact gy hA (cN X) fly hfl λh' fly' up'=>h _ ⟨ea,G,m,B,d,es,n,_,outer,rfl,hA,F,hB,hG,fly',.inr (.inr rfl),hd,hfr,up.trans up',he0,hd0,hg,hos⟩
theorem rP.xR (x:rP X C fs e s)(h:∀s',rP X C fs e s'→E' e s') :
  notedBy (model pw X.w) X.A X.env (Sr (model pw X.w) X.A X.env E') e s:=by
 obtain⟨ea,G,m,B,d,es,n,fl,outer,rfl,hA,F,hB,hG,fly,hfl,hd,hfr,up,he0,hd0,hg,hos⟩:=x
 exact gy hA (cN X) fly hfl λh' fly' up'=>v7 (s:={s with heap:=h'}) (cN X) fly' λh'' fly'' up''=>
  h _ ⟨ea,G,m,B,d,es,n,_,outer,rfl,hA,F,hB,hG,fly'',.inr (.inr rfl),hd,hfr,(up.trans up').trans up'',he0,hd0,hg,hos⟩
noncomputable abbrev KV:=SV→St→Prop
noncomputable abbrev KX:=Addr→List (Str×SV)→Prop
noncomputable abbrev cK:=List SV→St→KV→KX→Prop
def av (X:Fx)(ke:KX)(E:Value→Pl→Prop):Prop:=∀C fs e s,ke C fs→rP X C fs e s→E e s
structure tG (X:Fx)(A:SX)(n:Nat:=1):Prop where
 fr:A.frames=X.A.frames
 dp:A.depth≤X.A.depth+n
 un:A.units≤X.A.units+n
 hd:A.handled=none
def az (X:Fx)(f:Addr)(c:cK):Prop:=∀A s st args vals k ke (R:Result→Pl→Prop),tG X A→Inv X st s→IR st.ad args vals→c args st k ke →
 (∀sv st' v s',Inv X st' s'→st.ad.le st'.ad→sv.R st'.ad v→k sv st'→R (.ok (.ret v)) s')→av X ke (λe s'=>R (.error e) s')→P9 (model pw X.w) A (.call (.ref f) ⟨vals,[]⟩) R s
noncomputable def SV.shift (n:Nat):SV→SV
 |.tmp k=>.tmp (n+k)
 |sv=>sv
def Ni (st st₂:St)(loc':List (Str×SV)):Prop:=∀x sv',look x loc'=some sv'→∃sv0,look x st.loc=some sv0∧∀v,sv0.R st.ad v→sv'.R ⟨st₂.ad.hp,st₂.ad.sk,st.ad.tp++st₂.ad.tp⟩ v
inductive ED (st:St)(tl:ah)(k:KV)(sv:SV)(st₂:St):Prop
 |mk (loc':List (Str×SV))(hr:st₂.rst=tl++st.rst)(hp:st.ad.hp <+: st₂.ad.hp)(hl:Ni st st₂ loc')(hk:k (sv.shift st.tp.length) {loc:=loc',hp:=st₂.hp,sk:=st₂.sk,tp:=st.tp++st₂.tp,rst:=st.rst,fz:=st₂.fz})
theorem nc {sv:SV}(r:sv.R D v):(sv.shift tp0.length).R ⟨D.hp,D.sk,tp0++D.tp⟩ v:=by
 cases sv<;>first|exact r|skip
 obtain⟨a,e,rfl⟩:=r
 refine⟨a,?_,rfl⟩
 show(tp0++D.tp)[tp0.length+_]?=_
 rw[QM (PY _ _),QG];exact e
theorem ao.perm (h:ao l)(p:l.Perm l'):ao l':=by unfold ao at *;exact(p.map (·.1)).nodup_iff.mp h
structure Sub (X X':Fx)(st:Stmt)(n:Nat):Prop where
 ok:X'.Ok
 w:X'.w=X.w
 os:X'.os=X.os
 scr:X'.scr=X.scr
 sns:X'.sns=X.sns
 cs:X'.cs=aK st
 n:X'.n=n
 hd:X'.A.handled=none
inductive OY (X:Fx)(st:St)(tq:List HE)(h:Heap):Prop
 |mk (m:Str→Option Value)(l l' l2:ah)(L1:LL st.ad.low (st.hp++st.sk) l)(L2:LL st.ad.bot st.tp l')(L3:LL st.ad.bot tq l2)(hl:K0 st.loc st.ad m)(F:Fr X.h₀ X.L h m)(N:News X.h₀ X.L h (l++((l'++l2)++st.rf))) (nd:ao (l++((l'++l2)++st.rf)))
structure xQ (X:Fx)(st:St)(tq:List HE)(s:Pl):Prop where
 ex:OY X st tq s.heap
 gens:s.gens=#[]
 os:s.os=X.os
theorem Inv.q {st:St}(I:Inv X st s):xQ X st [] s:=by
 obtain⟨m,l,l',L1,L2,hl,F,N,nd⟩:=I.ex
 exact⟨⟨m,l,l',[],L1,L2,.nil,hl,F,by simpa using N,by simpa using nd⟩,I.gens,I.os⟩
theorem LA (h1:n+d+1≤N)(h2:x+N<L)(h3:a≤x+d):a+1+n<L:=by lia
theorem NU (h1:n+d+1≤N)(h2:x+8*N+500<L)(h3:a≤x+d):a+3+8*n+500<L:=by lia
theorem mD {X:Fx}{A:SX}{s:Pl}{st:St}{n d:Nat}{fd:Stmt}{nm qual:Str}{dV pm cd:Value}{f:Addr}{vals:List Value}{binds:List (Str×Value)}{bs:List (Str×SV)}{k:KV}{ke:KX}{R:Result→Pl→Prop}{tq:List HE}
  (O:X.Ok)(hA:tG X A d)(hn:n+d+1≤X.n)(I:xQ X st tq s)
  (hf:(Kf X.w.params).lookup f=some (fO fd nm qual dV pm cd))(hcd:codeIn (Kf X.w.params) cd qual=true)(D:xH fd)(hb:BindsTo s (CL fd nm qual dV pm cd) ⟨vals,[]⟩ binds)
  (hl:(binds.all λx=>decide ((aK fd).names.lookup x.1=some .local))=true)
  (hbs:∀x sv,look x bs=some sv→∃v,binds.reverse.lookup x=some v∧sv.R ⟨st.ad.hp,st.ad.sk,tq.map HE.addr⟩ v)
  (ret:∀sv st' v s',Inv X st' s'→st.ad.le st'.ad→sv.R st'.ad v→k sv st'→R (.ok (.ret v)) s') (exc:av X ke (λe s'=>R (.error e) s'))
  (h:∀X' s₁ tl,Sub X X' fd n→Inv X' {loc:=bs,hp:=st.hp,sk:=st.sk,tp:=tq,rst:=tl++st.rst,fz:=st.fz} s₁ →
   Wp X' (execs (bz fd) X'.env) (λfl s'=>∃sv st₂,Inv X' st₂ s'∧sv.R st₂.ad (LO fl)∧ED st tl k sv st₂) (λe s'=>∃C fs,ke C fs∧rP X' C fs e s') s₁) :
  P9 (model pw X.w) A (.call (.ref f) ⟨vals,[]⟩) R s:=by
 obtain⟨mean,mg,mb,T⟩:=O.top
 obtain⟨A₀,outer,B,hAX⟩:=O.below
 obtain⟨m,l,l',l2,L1,L2,L3,hloc,F,N,nd⟩:=I.ex
 have pq:(l++((l'++l2)++(st.rst++st.fz))).Perm (l++(l2++((l'++st.rst)++st.fz))):=by
  refine P4 _ ?_
  have e2:l2++((l'++st.rst)++st.fz)=(l2++l')++(st.rst++st.fz):=by simp
  rw[e2]
  exact QU _ Sp
 have h1:=O.room
 have h2:=O.units
 have h3:=hA.dp
 have h4:=hA.un
 refine code_def (prog:=pw) (env:=X.env) (outer:=outer) (name:=nm) (qual:=qual) (params:=GQ fd) (body:=bz fd) (scope:=aK fd) (dV:=dV) (kV:=.none) (doc:=.none) (pm:=pm) (cdv:=cd) (ct:=.none) (an:=none) (oc:=.type "function") (od:=none) (osl:=#[]) B F O.kin N T (hA.fr.trans hAX) rfl O.kind hf hcd (Pr (Pk (PY _ 1) (PY _ n)) (LA hn h1 h3)) hb (locs hl) (λg L' h₁ FG F' N' B' K' T'=>?_) D.co D.gen D.kind D.cell
 let X2:Fx:={w:=X.w,A:=A.deeper (envOf qual (aK fd) L' f cd),base:=X.base,h₀:=g,L:=L',cn:=qual,cs:=aK fd,f:=f,cd:=cd,os:=X.os,n:=n,scr:=X.scr,sns:=X.sns}
 have hfr:X2.A.frames=some (X2.env::X.env::outer):=by
  show A.frames.map _=_
  rw[hA.fr,hAX];rfl
 have O2:X2.Ok:=by
  refine⟨K',⟨mean,mg,mb,T'⟩,D.kind,⟨A,X.env::outer,B',hfr⟩,?_,?_,?_⟩
  ·exact LA hn h1 h3
  ·exact NU hn h2 h4
  ·obtain⟨vs,h1,h2⟩:=O.scr
   exact⟨vs,h1.at λo e=>FG.keep _ o e,h2⟩
 have I2:Inv X2 {loc:=bs,hp:=st.hp,sk:=st.sk,tp:=tq,rst:=l'++st.rst,fz:=st.fz} {s with heap:=h₁,toks:=s.toks+binds.length}:=
  ⟨⟨_,l,l2,L1,L3,λx sv q=>by
   obtain⟨v,a,b⟩:=hbs x sv q
   exact⟨v,a,b⟩,F',λp hp=>N' p (pq.mem_iff.mpr hp),nd.perm pq⟩,I.gens,I.os⟩
 refine wpAny_mono (h X2 _ l' ⟨O2,rfl,rfl,rfl,rfl,rfl,rfl,hA.hd⟩ I2) (λfl s' hr=>?_) (λe s' he=>?_)
 ·obtain⟨sv,st₂,I3,r,loc',hrst,hpre,hlo,hk⟩:=hr
  obtain⟨m2,k1,k2,M1,M2,_,F2,N2,nd2⟩:=I3.ex
  have go:Fr X.h₀ X.L s'.heap m→News X.h₀ X.L s'.heap (k1++(k2++st₂.rf))→R (.ok (.ret (LO fl))) s':=λF3 N3=>by
   have perm:(k1++(k2++st₂.rf)).Perm (k1++((l'++k2)++(st.rst++st₂.fz))):=by
    unfold St.rf
    rw[hrst]
    refine P4 _ ?_
    have e1:k2++((l'++st.rst)++st₂.fz)=k2++(l'++(st.rst++st₂.fz)):=by simp
    rw[e1,←Pj]
    exact QU _ Sp
   refine ret _ {loc:=loc',hp:=st₂.hp,sk:=st₂.sk,tp:=st.tp++st₂.tp,rst:=st.rst,fz:=st₂.fz} _ _ ⟨⟨m,k1,l'++k2,M1,?_,?_,F3,λp hp=>N3 p (perm.mem_iff.mpr hp),nd2.perm perm⟩,I3.gens,I3.os⟩ ⟨hpre,?_⟩ ?_ hk
   ·exact(L2.mono (show st.ad.bot.ext st₂.ad.bot from⟨hpre,P8,P8⟩)).append M2
   ·intro x sv' q
    obtain⟨sv0,q0,rr⟩:=hlo x sv' q
    obtain⟨v,a,b⟩:=hloc x sv0 q0
    refine⟨v,a,?_⟩
    have:=rr v b
    simpa[St.ad,PI]using this
   ·show st.tp.map _ <+: (st.tp++st₂.tp).map _
    rw[PI];exact Qh _ _
   ·have:=nc (tp0:=st.ad.tp) r
    simpa[St.ad,PI]using this
  have:=leaveK_ (R:=R) (v:=LO fl) F2 N2 go
  cases fl<;>exact this
 ·obtain⟨C,fs,hk,fx⟩:=he
  exact fx.leave hAX hfr FG rfl rfl λs'' fx'=>exc C fs e s'' hk fx'
inductive r8|next|ret (sv:SV)|cont|brk
def r8.R (D:Ad):r8→Flow→Prop
 |.next,f=>f=.next
 |.cont,f=>f=.cont
 |.brk,f=>f=.brk
 |.ret sv,f=>∃v,f=.ret v∧sv.R D v
noncomputable abbrev KF:=r8→St→Prop
structure af where
 ι:Type
 S:ι→St
 μ:ι→Nat
 split:(ι→Prop)→Prop:=λP=>∀i,P i
 ok:∀P:ι→Prop,split P→∀i,P i
structure eg where
 ι:Type
 n:Nat
 items:Nat→List SV
 S:Nat→ι→St
 J:Nat→ι→Prop
 split:(ι→Prop)→Prop:=λP=>∀i,P i
 ok:∀P:ι→Prop,split P→∀i,P i
structure CompI where
 ι:Type
 n:Nat
 S:Nat→ι→St
 out:Nat→ι→List Value
 J:Nat→ι→Prop
structure bt where
 ev:Expr→St→KV→Prop
 tr:Expr→St→KV→Prop
 ex:Stmt→St→KF→Prop
structure bc where
 cs:Scope
 call:Addr→Option cK
 ke:KX
 inv:Nat→St→Option af:=λ_ _=>none
 fors:Nat→Option (St→eg):=λ_=>none
 comps:Nat→St→Option CompI:=λ_ _=>none
 hkS:Nat→Option (Stmt→bt→St→KF→Prop):=λ_=>none
noncomputable def St.fr (st:St)(f:ah):St:={st with rst:=f++st.rst}
structure Ent (st:St)(P:St→Prop):Prop where
 h:∀X s f,Inv X (st.fr f) s→∃st',P st'∧Inv X (st'.fr f) s
theorem Ent.go {st:St}(h:Ent st P)(I:Inv X st s):∃st',P st'∧Inv X st' s:=h.h X s [] I
noncomputable def Gw:Value→Option SV
 |.int i _=>some (.num i)
 |.str x _=>some (.txt x)
 |.ref a=>some (.top a)
 |.builtin id=>some (.blt id)
 |.type n=>some (.ty n)
 |_=>none
theorem wo (h:Gw v=some sv)(D:Ad):sv.R D v:=by
 cases v<;>first|exact nS h|(rcases Pd h with rfl;first|rfl|exact⟨_,rfl⟩)
noncomputable def aU:List (Str×Bool×Value):=([("EndOfText",true,Pa 38),("BadSyntax",true,Pa 58),("SPACE",true,Value.int 32 502),("NO_BREAK_SPACE",true,Value.int 160 504),("PLAIN",true,Pa 170),("BREAKS",true,Pa 171),("DIGITS",true,Qn "0123456789abcdefghijklmnopqrstuvwxyz" 536),("is_break",true,Pa 178),("value_in",true,Pa 185),("integer_of",true,Pa 192),("are_figures",true,Pa 197),("is_float",true,Pa 211),("sign_of",true,Pa 218),("Tokens",true,Pa 313),("Symbol",true,Pa 334),("NIL",true,Pa 340)]:List (Str×Bool×Value))++([("T",true,Pa 343),("Cons",true,Pa 361),("Vector",true,Pa 404),("list_of",true,Pa 437),("CLOSERS",true,Pa 445),("PREFIXES",true,Pa 446),("Placeholder",true,Pa 470),("OpenForm",true,Pa 498),("noted_list",true,Pa 509),("noted_things",true,Pa 516),("LispReader",true,Pa 604),("read_all",true,Pa 615),("Obarray",true,Pa 688),("_law_pieces",true,Pa 693),("_law_draw",true,Pa 700),("_law_pick",true,Pa 707)]:List (Str×Bool×Value))++([("_law_deck",true,Pa 712),("_law_shape",true,Pa 717),("_law_told",true,Pa 722),("_law_tokens",true,Pa 729),("_law_closed",true,Pa 736),("_law_taken",true,Pa 743),("_law_due",true,Pa 750),("_law_text",true,Pa 757),("len",false,Qu "len"),("isinstance",false,Qu "isinstance"),("ord",false,Qu "ord"),("chr",false,Qu "chr"),("all",false,Qu "all"),("abs",false,Qu "abs"),("min",false,Qu "min"),("range",false,Value.type "range")]:List (Str×Bool×Value))
theorem fR (P:PJ):(aU.map λp=>nsIn (Kf P) RB p.1)=aU.map λp=>if p.2.1 then some (some p.2.2)else some none:=by kernel_rfl
theorem kQ:(aU.all λp=>p.2.1||(decide (bootBuiltins p.1=some p.2.2)&&(p.1 !="__name__")))=true:=by kernel_rfl
noncomputable def cm (x:Str):List (Str×Bool×Value)→Option (Bool×Value)
 |[]=>none
 |(y,r)::l=>match y==x with
  |true=>some r
  |false=>cm x l
theorem fu:∀{l:List (Str×Bool×Value)},cm x l=some r→(x,r)∈l
 |(y,r')::l,h=>by
  change(match y==x with|true=>some r'|false=>cm x l)=some r at h
  cases q:(y==x)with
  |true=>rw[q]at h;cases h;rw[beq_iff_eq.mp q];exact .head _
  |false=>rw[q]at h;exact .tail _ (fu h)
noncomputable def vV (c:Const):Option SV:=match c with
 |.int i=>some (.num i)
 |.str x=>some (.txt x)
 |.none=>some .none
 |.bool b=>some (.lit b)
 |_=>none
noncomputable def Ct (o:Option (Bool×Value)):Option SV:=match o with
 |some r=>Gw r.2
 |none=>none
noncomputable def Il (st:St)(x:Str)(o:Option NameKind):Option SV:=match o with
 |some k=>match k with
  |.local=>look x st.loc
  |.globalImplicit=>Ct (cm x aU)
  |_=>none
 |none=>none
noncomputable def x8 (Γ:bc)(x:Str)(st:St):Option SV:=match x==("__debug__":Str)with
 |true=>none
 |false=>Il st x (Γ.cs.names.lookup x)
noncomputable def cz (Γ:bc)(e:Expr)(st:St):Option SV:=match mf e with
 |some q=>vV q.1.1
 |none=>match dB e with
  |some q=>x8 Γ q.1.1 st
  |none=>none
section
variable {X:Fx}{Γ:bc}{st:St}{s:Pl}{E:Value→Pl→Prop}
theorem wV (O:X.Ok)(I:Inv X st s)(h:Ct (cm x aU)=some sv)(hk:X.cs.names.lookup x=some .globalImplicit)(hd:(x==("__debug__":Str))=false) (k:∀v s',Inv X st s'→sv.R st.ad v→Q v s'):Wp X (eval (.Name x pos) X.env) Q E s:=by
 cases hr:cm x aU with
 |none=>rw[hr]at h;exact absurd h nofun
 |some r=>
  rw[hr]at h
  have hm:=fu hr
  have e2:=List.map_inj_left.mp (fR X.w.params) _ hm
  rcases r with⟨b,v⟩
  cases b with
  |true=>exact nP O I e2 hk hd (k _ _ I (wo h _))
  |false=>
   have e3:=List.all_eq_true.mp kQ _ hm
   rw[Bool.false_or,Pe]at e3
   exact uX O I e2 (of_decide_eq_true e3.1) (bne_iff_ne.mp e3.2) hk hd (k _ _ I (wo h _))
theorem xb (O:X.Ok)(hc:X.cs=Γ.cs)(I:Inv X st s)(h:x8 Γ x st=some sv)(k:∀v s',Inv X st s'→sv.R st.ad v→Q v s'):Wp X (eval (.Name x pos) X.env) Q E s:=by
 unfold x8 at h
 cases hd:x==("__debug__":Str)with
 |true=>rw[hd]at h;exact absurd h nofun
 |false=>
  rw[hd,←hc]at h
  cases hk:X.cs.names.lookup x with
  |none=>rw[hk]at h;exact absurd h nofun
  |some n=>
   rw[hk]at h
   cases n with
   |«local»=>exact Ba O I h hk hd λv r=>k v s I r
   |globalImplicit=>exact wV O I h hk hd k
   |_=>exact absurd h nofun
theorem tg (I:Inv X st s)(h:vV c=some sv)(k:∀v s',Inv X st s'→sv.R st.ad v→Q v s'):Wp X (eval (.Constant c n pos) X.env) Q E s:=by
 cases c with
 |int i=>cases h;exact rm I k
 |str i=>cases h;exact y7 I k
 |none=>cases h;exact Constant_none (k _ _ I rfl)
 |bool b=>cases h;exact Constant_bool (k _ _ I rfl)
 |_=>exact absurd h nofun
theorem cq (O:X.Ok)(hc:X.cs=Γ.cs)(I:Inv X st s)(h:cz Γ e st=some sv)(k:∀v s',Inv X st s'→sv.R st.ad v→Q v s'):Wp X (eval e X.env) Q E s:=by
 unfold cz at h
 cases h1:mf e with
 |some q=>rw[h1]at h;rw[q.2];exact tg I h k
 |none=>
  rw[h1]at h
  cases h2:dB e with
  |some q=>rw[h2]at h;rw[q.2];exact xb O hc I h k
  |none=>rw[h2]at h;exact absurd h nofun
end
noncomputable def dY:List (Addr×Str):=([(313,"codes"),(313,"place"),(334,"number"),(334,"name"),(361,"car"),(361,"cdr"),(404,"things"),(470,"conses"),(470,"tails"),(470,"cells"),(498,"word"),(498,"place"),(498,"number")]:List (Addr×Str)) ++
 ([(498,"things"),(498,"tail"),(498,"dots"),(498,"holder"),(604,"tokens"),(604,"obarray"),(604,"spans_of"),(604,"labels"),(688,"rows"),(688,"names")]:List (Addr×Str))
noncomputable def qp:List Addr:=[313,334,361,404,470,498,604,688]
noncomputable def sQ (K:Frag)(C:Addr):Bool:=Tr K C "__init__"&&R4 K C&&(Rf K (.ref C) "__setattr__"==some (some (.builtin "object.__setattr__")))&&plainOver K C
theorem lA (P:PJ):(qp.all λC=>sQ (Kf P) C)=true:=by kernel_rfl
theorem t8:(dY.all λp=>qp.contains p.1)=true:=by kernel_rfl
theorem t5 (P:PJ):(dY.map λp=>Rf (Kf P) (.ref p.1) p.2)=dY.map λ_=>some none:=by kernel_rfl
theorem xg {K:Frag}(h:sQ K C=true)(e:Rf K (.ref C) n=some none):eu K C n=true:=by
 unfold sQ at h
 simp only[Pe]at h
 obtain⟨⟨⟨a,b⟩,c⟩,d⟩:=h
 unfold eu takerIn
 rw[e,b,c,d,show Tr K C n=true from a];rfl
noncomputable def el (C:Addr)(n:Str):List (Addr×Str)→Bool
 |[]=>false
 |(D,m)::l=>match PD D C&&(m==n)with
  |true=>true
  |false=>el C n l
theorem gU:∀{l:List (Addr×Str)},el C n l=true→(C,n)∈l
 |(D,m)::l,h=>by
  rcases mB h with⟨q,_⟩|⟨_,h⟩
  ·rw[Pe]at q
   rw[←Pu q.1,←beq_iff_eq.mp q.2];exact .head _
  ·exact .tail _ (gU h)
theorem lZ (h:el C n dY=true)(P:PJ):eu (Kf P) C n=true:=by
 have hm:=gU h
 have h1:=List.all_eq_true.mp t8 _ hm
 exact xg (List.all_eq_true.mp (lA P) _ (List.contains_iff_mem.mp h1)) (List.map_inj_left.mp (t5 P) _ hm)
noncomputable def mH:List (Addr×Str×Addr):=[(313,"code",240),(313,"skip_line",247),(313,"skip_blanks",254),(313,"token",261),(313,"name",282),(313,"word",289),(498,"take",495),(604,"read",552),(604,"opened",559),(604,"atom",566),(604,"dotted",573),(604,"closed",580),(604,"given",594),(688,"intern",636),(688,"fresh",650)]
noncomputable def yH (K:Frag)(C:Addr)(n:Str)(f:Addr):Bool:=qp.contains C&&(Rf K (.ref C) n==some (some (.ref f)))&&isFn K (.ref f)&&keepIn K (.ref f)
theorem qJ (P:PJ):(mH.all λp=>yH (Kf P) p.1 p.2.1 p.2.2)=true:=by kernel_rfl
noncomputable def sG (C:Addr)(n:Str):List (Addr×Str×Addr)→Option Addr
 |[]=>none
 |(D,m,f)::l=>match PD D C&&(m==n)with
  |true=>some f
  |false=>sG C n l
theorem kY:∀{l:List (Addr×Str×Addr)},sG C n l=some f→(C,n,f)∈l
 |(D,m,g)::l,h=>by
  rcases mB h with⟨q,h⟩|⟨_,h⟩
  ·rw[Pe]at q
   cases h
   rw[←Pu q.1,←beq_iff_eq.mp q.2];exact .head _
  ·exact .tail _ (kY h)
theorem Bm (h:sG C n mH=some f)(P:PJ):Tr (Kf P) C n=true∧Rf (Kf P) (.ref C) n=some (some (.ref f))∧isFn (Kf P) (.ref f)=true∧keepIn (Kf P) (.ref f)=true:=by
 have:=List.all_eq_true.mp (qJ P) _ (kY h)
 unfold yH at this
 simp only[Pe,beq_iff_eq]at this
 obtain⟨⟨⟨a,b⟩,c⟩,d⟩:=this
 have h2:=List.all_eq_true.mp (lA P) _ (List.contains_iff_mem.mp a)
 unfold sQ at h2
 simp only[Pe]at h2
 exact⟨h2.1.1.1,b,c,d⟩
noncomputable def eJ:List Addr:=[38,58,178,185,192,197,211,218,313,334,361,404,437,470,498,509,516,604,615,688,700,707,712,717,722,729,736,743,750,757]
theorem qQ (P:PJ):(eJ.all λa=>keepIn (Kf P) (.ref a))=true:=by kernel_rfl
noncomputable def eD (a:Addr):List Addr→Bool
 |[]=>false
 |b::l=>match PD b a with
  |true=>true
  |false=>eD a l
theorem eo:∀{l:List Addr},eD a l=true→a∈l
 |b::l,h=>by
  rcases mB h with⟨q,_⟩|⟨_,h⟩
  ·rw[←Pu q];exact .head _
  ·exact .tail _ (eo h)
theorem rX (h:eD a eJ=true)(P:PJ):keepIn (Kf P) (.ref a)=true:=List.all_eq_true.mp (qQ P) _ (eo h)
noncomputable def aM:Expr→Bool
 |.Starred _ _=>false
 |_=>true
theorem bQ {env:Env}(h:aM e=true):QC (e::r) env=(false,eval e env)::QC r env:=by
 cases e<;>first|rfl|cases h
theorem de {env:Env}:∀{es:List Expr},es.all aM=true→(Ro pos (QC es env)).any (·.1)=false
 |[],_=>rfl
 |e::r,h=>by
  rw[Qb,Pe]at h
  rw[bQ h.1]
  show(false||(Ro pos (QC r env)).any (·.1))=false
  rw[de h.2];rfl
structure Ext where
 meth:SV→Str→St→Option String
 call:String→List SV→St→KV→Prop
 cmp:CmpOp→SV→SV→St→KV→Prop
 bin:Ts→SV→SV→St→KV→Prop
 item:SV→SV→St→KV→Prop
 getA:SV→Str→St→KV→Prop
 setA:SV→Str→SV→St→(St→Prop)→Prop
 expr:bc→bt→Expr→St→KV→Prop
 stmt:bc→bt→Stmt→St→KF→Prop
def aj (X:Fx)(st:St)(k:KV)(Q:Value→Pl→Prop):Prop:=∀sv st' v s',Inv X st' s'→st.ad.le st'.ad→sv.R st'.ad v→k sv st'→Q v s'
structure Sound (X:Fx)(Γ:bc)(F:bt):Prop where
 ev:∀e st s k Q E,F.ev e st k→Inv X st s→av X Γ.ke E→aj X st k Q→Wp X (eval e X.env) Q E s
 tr:∀e st s k Q E,F.tr e st k→Inv X st s→av X Γ.ke E→(∀sv st' b s',Inv X st' s'→st.ad.le st'.ad→sv.R st'.ad (.bool b)→k sv st'→Q b s')→Wp X (isTrue e X.env (eval e X.env)) Q E s
 ex:∀c st s k Q E,F.ex c st k→Inv X st s→av X Γ.ke E→(∀fl st' f s',Inv X st' s'→fl.R st'.ad f→k fl st'→Q f s')→Wp X (exec c X.env) Q E s
noncomputable def aQ:Expr→Bool
 |.Slice _ _ _ _=>false
 |_=>true
structure aH (X:Fx)(Γ:bc)(T:Ext):Prop where
 cs:X.cs=Γ.cs
 fn:∀a c,Γ.call a=some c→X.A.handled=none∧az X a c
 meth:∀rv n st id s v pl Q E,T.meth rv n st=some id→Inv X st s→rv.R st.ad v→Q (Qu id,[v]) s→Wp X (Ss v n pl) Q E s
 call:∀id as vs st s k Q E,T.call id as st k→Inv X st s→IR st.ad as vs→aj X st k Q→Wp X (R0 (.builtin id) vs) Q E s
 cmp:∀op a b v u st s k Q E,T.cmp op a b st k→Inv X st s→a.R st.ad v→b.R st.ad u→aj X st k Q→Wp X (Qr op v u) Q E s
 bin:∀op a b v u st s k Q E,T.bin op a b st k→Inv X st s→a.R st.ad v→b.R st.ad u→aj X st k Q→Wp X (Tt op v u) Q E s
 item:∀a b v u st s k Q E e1 e2,T.item a b st k→aQ e2=true→Inv X st s→a.R st.ad v→b.R st.ad u→aj X st k Q→Wp X (PN e1 e2 v u) Q E s
 getA:∀a n v st s k Q E ex,T.getA a n st k→Inv X st s→a.R st.ad v→aj X st k Q→Wp X (Th v n ex) Q E s
 setA:∀a n b v u st s k Q E,T.setA a n b st k→Inv X st s→a.R st.ad v→b.R st.ad u→(∀st' s',Inv X st' s'→k st'→Q () s')→Wp X (setAttr v n u) Q E s
 expr:∀F e st s k Q E,Sound X Γ F→T.expr Γ F e st k→Inv X st s→av X Γ.ke E→aj X st k Q→Wp X (eval e X.env) Q E s
 hS:∀n p,Γ.hkS n=some p→∀F c st s k Q E,Sound X Γ F→p c F st k→Inv X st s→av X Γ.ke E→(∀fl st' f s',Inv X st' s'→fl.R st'.ad f→k fl st'→Q f s')→Wp X (exec c X.env) Q E s
 stmt:∀F c st s k Q E,Sound X Γ F→T.stmt Γ F c st k→Inv X st s→av X Γ.ke E→(∀fl st' f s',Inv X st' s'→fl.R st'.ad f→k fl st'→Q f s')→Wp X (exec c X.env) Q E s
noncomputable def cL:Expr→Bool
 |.Call (.Attribute _ _ _) _ _ _=>true
 |.Call _ _ _ _=>false
 |_=>true
set_option tactic.hygienic true in
theorem i6 {env:Env}(h:cL o=true):attributeBase o n env w=w:=by cases o<;>first|rfl|cases h|(rename_i f _ _ _;cases f<;>first|rfl|cases h)
theorem kP {env:Env}(h:cL o=true):eval (.Attribute o n pos) env=(do
   let v ←eval o env
   SO pos.atName
   let r ←holding [v] (Th v n true)
   letTemporaryGo o v r
   pure r):=by
 have e:eval (.Attribute o n pos) env=(do
   let v ←attributeBase o n env (eval o env)
   SO pos.atName
   let r ←holding [v] (Th v n true)
   letTemporaryGo o v r
   pure r):=rfl
 rw[e,i6 h]
noncomputable def Dl (e:HE)(n:Str):Option SV:=match e with
 |.inst _ C _ fs=>match el C n dY with
  |true=>(look n fs).bind λsv=>match jw sv with
   |true=>some sv
   |false=>none
  |false=>none
 |_=>none
noncomputable def J0 (o:Option HE)(n:Str):Option SV:=o.bind λe=>Dl e n
noncomputable def C8 (Γ:bc)(o:Expr)(n:Str)(st:St):Option SV:=match cL o with
 |true=>(cz Γ o st).bind λov=>J0 (st.ent ov) n
 |false=>none
noncomputable def DE (Γ:bc)(e:Expr)(st:St):Option SV:=match e with
 |.Attribute o n _=>C8 Γ o n st
 |_=>none
def zt (Γ:bc)(F:bt)(hold:List SV)(e:Expr)(st:St)(k:KV):Prop:=nZ (cz Γ e st) (λsv=>k sv st) (nZ (DE Γ e st) (λsv=>k sv st) (eT (hold.all SV.qw) (F.ev e st k)))
noncomputable def u' (Γ:bc)(F:bt):List SV→List Expr→St→(List SV→St→Prop)→Prop
 |_,[],st,k=>k [] st
 |hold,e::r,st,k=>match aM e with
  |true=>zt Γ F hold e st λsv aq=>u' Γ F (sv::hold) r aq λsvs cg=>k (sv::svs) cg
  |false=>False
def Cq (Γ:bc)(T:Ext)(F:bt)(f:SV)(args:List Expr)(st:St)(k:KV):Prop:=match f with
 |.top a=>eT (eD a eJ) (ag (Γ.call a) λc=>u' Γ F [] args st λas aq=>c as aq k Γ.ke)
 |.blt id=>u' Γ F [] args st λas aq=>T.call id as aq k
 |_=>False
def wH (Γ:bc)(T:Ext)(F:bt)(rv:SV)(n:Str)(args:List Expr)(st:St)(k:KV):Prop:=ag (T.meth rv n st) λid=>u' Γ F [rv] args st λas cg=>T.call id (rv::as) cg k
def JI (Γ:bc)(F:bt)(c:Option cK)(rv:SV)(args:List Expr)(st:St)(k:KV):Prop:=ag c λc=>u' Γ F [rv] args st λas cg=>c (rv::as) cg k Γ.ke
def Dx (Γ:bc)(F:bt)(C:Addr)(fs:List (Str×SV))(rv:SV)(n:Str)(args:List Expr)(st:St)(k:KV):Prop:=nZ (look n fs) (λ_=>False) (ag (sG C n mH) λf=>JI Γ F (Γ.call f) rv args st k)
def MF (a:Addr)(pre suf:List SV)(rv:SV)(args:List Expr)(st:St)(k:KV):Prop:=match args with
 |[]=>ag suf.getLast? λx=>pre.length+suf.length<2^20∧k x (st.c4 rv (.list a pre suf.dropLast))
 |_=>False
def IH (rv:SV)(x:SV)(st:St)(k:KV):Option HE→Prop
 |some e=>match e with
  |.list a pre suf=>pre.length+suf.length<2^20∧k .none (st.c4 rv (.list a pre (suf++[x.out st.ad])))
  |_=>False
 |none=>False
def GP (rv:SV)(as:List SV)(st:St)(k:KV):Prop:=match as with
 |[]=>False
 |x::r=>match r with
  |[]=>IH rv x st k (st.ent rv)
  |_::_=>False
def DB (Γ:bc)(F:bt)(a:Addr)(pre suf:List SV)(rv:SV)(n:Str)(args:List Expr)(st:St)(k:KV):Prop:=match n==("pop":Str)with
 |true=>MF a pre suf rv args st k
 |false=>match n==("append":Str)with
  |true=>u' Γ F [rv] args st λas cg=>GP rv as cg k
  |false=>False
def KY (Γ:bc)(T:Ext)(F:bt)(rv:SV)(n:Str)(args:List Expr)(st:St)(k:KV):Option HE→Prop
 |some e=>match e with
  |.inst _ C _ fs=>Dx Γ F C fs rv n args st k
  |.list a pre suf=>DB Γ F a pre suf rv n args st k
  |_=>wH Γ T F rv n args st k
 |none=>wH Γ T F rv n args st k
def yR (Γ:bc)(T:Ext)(F:bt)(rv:SV)(n:Str)(args:List Expr)(st:St)(k:KV):Prop:=KY Γ T F rv n args st k (st.ent rv)
def MJ (C:Addr)(fs:List (Str×SV))(n:Str)(st:St)(k:KV):Prop:=eT (el C n dY) (ag (look n fs) λsv=>eT (jw sv) (k sv st))
def Ex (T:Ext)(o:SV)(n:Str)(st:St)(k:KV):Prop:=match ti (st.ent o)with
 |some q=>MJ q.1.2.1 q.1.2.2.2 n st k
 |none=>T.getA o n st k
def Fn (T:Ext)(o:SV)(n:Str)(sv:SV)(st:St)(k:St→Prop):Prop:=match ti (st.ent o)with
 |some q=>eT (el q.1.2.1 n dY&&R7 q.1.2.2.2.length 100) (k (st.c4 o (.inst q.1.1 q.1.2.1 q.1.2.2.1 (put n (sv.out st.ad) q.1.2.2.2))))
 |none=>T.setA o n sv st k
def GL (T:Ext)(op:Ts)(a b:SV)(st:St)(k:KV)(o:Option Int):Prop:=match o with
 |some r=>k (.int r) st
 |none=>T.bin op a b st k
def D5 (T:Ext)(op:Ts)(a b:SV)(st:St)(k:KV):Prop:=match both a.int? b.int? with
 |some p=>GL T op a b st k (AP op p.1 p.2)
 |none=>T.bin op a b st k
def DX (T:Ext)(op:CmpOp)(a b:SV)(st:St)(k:KV):Prop:=nZ (uL op a b) (λc=>k c st) (T.cmp op a b st k)
def y9 (T:Ext)(o i:SV)(j:Nat)(pre suf:List SV)(st:St)(k:KV):Prop:=match pre with
 |[]=>ag (suf[j]?) λx=>match R7 j 1000 with
  |true=>k x st
  |false=>False
 |_::_=>T.item o i st k
def yQ (suf:List SV)(st:St)(k:KV):Prop:=ag suf.getLast? λx=>k x st
def Dk (T:Ext)(o i:SV)(z:Int)(pre suf:List SV)(st:St)(k:KV):Prop:=match z with
 |.ofNat j=>y9 T o i j pre suf st k
 |.negSucc m=>match m with
  |0=>yQ suf st k
  |_+1=>T.item o i st k
noncomputable def KO (e:Option HE):Option {q:Addr×List SV×List SV // e=some (.list q.1 q.2.1 q.2.2)}:=match e with
 |some e=>match e with
  |.list a pre suf=>some ⟨(a,pre,suf),rfl⟩
  |_=>none
 |none=>none
noncomputable def IB (i:SV):Option {z:Int // i=.num z}:=match i with
 |.num z=>some ⟨z,rfl⟩
 |_=>none
def xm (T:Ext)(o i:SV)(st:St)(k:KV):Prop:=match KO (st.ent o)with
 |some q=>match IB i with
  |some z=>Dk T o i z.1 q.1.2.1 q.1.2.2 st k
  |none=>T.item o i st k
 |none=>T.item o i st k
noncomputable def BI:SV→SV
 |.lit b=>.lit (!b)
 |.bool b=>.bool (!b)
 |sv=>sv
noncomputable def dT:Expr→Bool
 |.Set _ _ _=>false
 |_=>true
noncomputable def rN (F:bt)(op:BoolOp):List Expr→St→KV→Prop
 |[],_,_=>False
 |[e],st,k=>F.ev e st k
 |e::r,st,k=>F.ev e st λa aq=>ag (eI a) λc=>match op with
  |.And=>cG c (rN F op r aq k) (k a aq)
  |.Or=>cG c (k a aq) (rN F op r aq k)
def gK (Γ:bc)(T:Ext)(F:bt)(e:Expr)(st:St)(k:KV):Prop:=nZ (cz Γ e st) (λsv=>k sv st) (T.expr Γ F e st k)
def Du (T:Ext)(F:bt)(o:Expr)(n:Str)(st:St)(k:KV):Prop:=match cL o with
 |true=>F.ev o st λsv aq=>Ex T sv n aq k
 |false=>False
def CH (Γ:bc)(T:Ext)(F:bt)(o:Expr)(n:Str)(ap:Pos)(args:List Expr)(pos:Pos)(st:St)(k:KV):Prop:=match cL o&&args.all aM&&Nat.blt args.length 30&&ap.endLine==pos.line with
 |true=>F.ev o st λrv aq=>yR Γ T F rv n args aq k
 |false=>False
def Dp (Γ:bc)(T:Ext)(F:bt)(fv:Option SV)(args:List Expr)(st:St)(k:KV):Prop:=match args.all aM with
 |true=>ag fv λfv=>Cq Γ T F fv args st k
 |false=>False
def Fd (Γ:bc)(T:Ext)(F:bt)(e f:Expr)(args:List Expr)(pos:Pos)(st:St)(k:KV):Prop:=match f with
 |.Attribute o n ap=>CH Γ T F o n ap args pos st k
 |.Name _ _=>Dp Γ T F (cz Γ f st) args st k
 |_=>gK Γ T F e st k
def C2 (Γ:bc)(T:Ext)(F:bt)(e f:Expr)(args:List Expr)(kw:List Keyword)(pos:Pos)(st:St)(k:KV):Prop:=match kw with
 |[]=>Fd Γ T F e f args pos st k
 |_::_=>gK Γ T F e st k
def CZ (Γ:bc)(T:Ext)(F:bt)(l:Expr)(op:CmpOp)(r:Expr)(st:St)(k:KV):Prop:=match dT r with
 |true=>F.ev l st λa aq=>zt Γ F [a] r aq λb cg=>DX T op a b cg k
 |false=>False
def JN (Γ:bc)(T:Ext)(F:bt)(e l:Expr)(ops:List CmpOp)(rs:List Expr)(st:St)(k:KV):Prop:=match ops with
 |[]=>gK Γ T F e st k
 |op::ops=>match ops with
  |_::_=>gK Γ T F e st k
  |[]=>match rs with
   |[]=>gK Γ T F e st k
   |r::rs=>match rs with
    |[]=>CZ Γ T F l op r st k
    |_::_=>gK Γ T F e st k
def LV (F:bt)(x:Expr)(st:St)(k:KV):Prop:=F.ev x st λa aq=>ag (eI a) λc=>k (BI c) aq
def Mx (a:SV)(st:St)(k:KV):Prop:=match a with
 |.num i=>k (.num (-i)) st
 |.int i=>k (.int (-i)) st
 |_=>False
def Oe (Γ:bc)(T:Ext)(F:bt)(e:Expr)(op:UnaryOp)(x:Expr)(st:St)(k:KV):Prop:=match op with
 |.Not=>LV F x st k
 |.USub=>F.ev x st λa aq=>Mx a aq k
 |_=>gK Γ T F e st k
def NC (as:List SV)(st:St)(k:KV):Prop:=match R7 as.length 1000 with
 |true=>∀a,k (.tmp st.tp.length) (st.dH (.list a [] (as.map (SV.out st.ad))))
 |false=>False
def Oa (as:List SV)(st:St)(k:KV):Prop:=match R7 as.length 1000 with
 |true=>∀a,k (.tmp st.tp.length) (st.dH (.tup a (as.map (SV.out st.ad))))
 |false=>False
def Lj (Γ:bc)(T:Ext)(F:bt)(e v i:Expr)(st:St)(k:KV):Prop:=match aQ i with
 |true=>F.ev v st λo aq=>zt Γ F [o] i aq λj cg=>xm T o j cg k
 |false=>T.expr Γ F e st k
def y0 (Γ:bc)(T:Ext)(F:bt)(e:Expr)(st:St)(k:KV):Prop:=match e with
 |.Attribute o n _=>Du T F o n st k
 |.Call f args kw pos=>C2 Γ T F e f args kw pos st k
 |.BinOp l op r _=>F.ev l st λa aq=>zt Γ F [a] r aq λb cg=>D5 T op a b cg k
 |.Compare l ops rs _=>JN Γ T F e l ops rs st k
 |.BoolOp op es _=>rN F op es st k
 |.UnaryOp op x _=>Oe Γ T F e op x st k
 |.IfExp t b o _=>F.tr t st λc aq=>cG c (F.ev b aq k) (F.ev o aq k)
 |.List es _=>u' Γ F [] es st λas aq=>NC as aq k
 |.Tuple es _ _=>u' Γ F [] es st λas aq=>Oa as aq k
 |.Subscript v i _=>Lj Γ T F e v i st k
 |_=>gK Γ T F e st k
section
variable {X:Fx}{Γ:bc}{T:Ext}{F:bt}{st:St}{s:Pl}{E:Value→Pl→Prop}
theorem aj.of_eq (p:aj X st k Q)(I:Inv X st s)(r:sv.R st.ad v)(h:k sv st):Q v s:=p sv st v s I (.refl _) r h
theorem aj.trans (p:aj X st k Q)(l:st.ad.le st₁.ad)(h:∀sv st',k₁ sv st'→k sv st'):aj X st₁ k₁ Q:=λsv st' v s' I le r hk=>p sv st' v s' I (l.trans le) r (h _ _ hk)
theorem wq (h:Dl e n=some sv):∃a C d fs,e=.inst a C d fs∧el C n dY=true∧look n fs=some sv∧jw sv=true:=by
 cases e with
 |inst a C d fs=>
  rcases dM h with⟨hf,h⟩
  obtain⟨_,hl,h⟩:=bO h
  rcases dM h with⟨hh,h⟩
  cases h
  exact⟨a,C,d,fs,rfl,hf,hl,hh⟩
 |_=>cases h
theorem xF (h:C8 Γ o n st=some sv):cL o=true∧∃ov a C d fs,cz Γ o st=some ov∧st.ent ov=some (.inst a C d fs)∧el C n dY=true∧look n fs=some sv∧jw sv=true:=by
 rcases dM h with⟨hb,h⟩
 obtain⟨ov,ha,h⟩:=bO h
 obtain⟨e,he,h⟩:=bO h
 obtain⟨a,C,d,fs,rfl,h1⟩:=wq h
 exact⟨hb,ov,a,C,d,fs,ha,he,h1⟩
theorem AW (O:X.Ok)(hc:X.cs=Γ.cs)(I:Inv X st s)(h:DE Γ e st=some sv)(k:∀v s',Inv X st s'→sv.R st.ad v→Q v s'):Wp X (eval e X.env) Q E s:=by
 cases e with
 |Attribute o n p=>
  obtain⟨hb,ov,a,C,d,fs,ha,he,hf,hl,hh⟩:=xF h
  exact Attribute_any_ (cq O hc I ha λv s' I' r'=>vF O I' r' he rfl (lZ hf _) hl hh λv' s'' I'' r''=>k v' s'' I'' r'') (kP hb)
 |_=>cases h
theorem sg (O:X.Ok)(hc:X.cs=Γ.cs)(S:Sound X Γ F)(h:zt Γ F hold e st k)(I:Inv X st s)(hx:av X Γ.ke E)(r:IR st.ad hold hv)(q:∀sv st' v s',Inv X st' s'→st.ad.le st'.ad→IR st'.ad hold hv→sv.R st'.ad v→k sv st'→Q v s'):Wp X (eval e X.env) Q E s:=by
 rcases cw h with⟨sv,ha,h⟩|⟨_,h⟩
 ·exact cq O hc I ha λv s' I' r'=>q sv st v s' I' (.refl _) r r' h
 ·rcases cw h with⟨sv,ha,h⟩|⟨_,h⟩
  ·exact AW O hc I ha λv s' I' r'=>q sv st v s' I' (.refl _) r r' h
  rcases aA h with⟨hs,h⟩
  exact S.ev e st s k Q E h I hx λsv st' v s' I' le r' hk=>q sv st' v s' I' le (r.over le hs) r' hk
theorem vO:∀{es:List Expr}{hold:List SV}{hv:List Value}{st:St}{s:Pl}{k:List SV→St→Prop}{Q:List Value→Pl→Prop}(O:X.Ok)(hc:X.cs=Γ.cs)(S:Sound X Γ F)(h:u' Γ F hold es st k)(I:Inv X st s)
  (hx:av X Γ.ke E)(r:IR st.ad hold hv)(q:∀svs st' vs s',Inv X st' s'→st.ad.le st'.ad→IR st'.ad hold hv→IR st'.ad svs vs→k svs st'→Q vs s'),Wp X (Tj (Ro pos (QC es X.env))) Q E s
 |[],hold,hv,st,s,k,Q,O,hc,S,h,I,hx,r,q=>spliced_none (q [] st [] s I (.refl _) r .nil h)
 |e::es,hold,hv,st,s,k,Q,O,hc,S,h,I,hx,r,q=>by
  rcases mT h with⟨hn,h⟩
  refine spliced_more ?_ (bQ hn)
  refine sg O hc S h I hx r λsv st' v s' I' le r' rv hk=>?_
  refine vO O hc S hk I' hx (.cons rv r') λsvs cg vs s2 I2 le2 r2 rs hk2=>?_
  cases r2 with
  |cons rv2 r2=>exact q (sv::svs) cg (v::vs) s2 I2 (le.trans le2) r2 (.cons rv2 rs) hk2
theorem jR (O:X.Ok)(G:aH X Γ T)(S:Sound X Γ F)(h:zt Γ F hold e st k)(I:Inv X st s)(hx:av X Γ.ke E)(r:IR st.ad hold hv)(q:∀sv st' v s',Inv X st' s'→st.ad.le st'.ad→IR st'.ad hold hv→sv.R st'.ad v→k sv st'→Q v s'):Wp X (eval e X.env) Q E s:=sg O G.cs S h I hx r q
theorem fQ {st:St}(O:X.Ok)(G:aH X Γ T)(S:Sound X Γ F)(h:u' Γ F hold es st k)(I:Inv X st s)(hx:av X Γ.ke E)(r:IR st.ad hold hv)(q:∀svs st' vs s',Inv X st' s'→st.ad.le st'.ad→IR st'.ad hold hv→IR st'.ad svs vs→k svs st'→Q vs s'):Wp X (Tj (Ro pos (QC es X.env))) Q E s:=vO O G.cs S h I hx r q
theorem o3 (O:X.Ok)(I:Inv X st s)(hk:keepIn (Kf X.w.params) (.ref a)=true)(hn:es.all aM=true)(h:Wp X (Tj (Ro pos (QC es X.env))) (λvs s₁=>(Kf X.w.params).In s₁.heap∧Wp X (call (.ref a) (first++vs)) Q E s₁) E s):Wp X (SD pos (.ref a) first (Ro pos (QC es X.env)) []) Q E s:=by
 cases es with
 |nil=>
  refine callWith_K0 (O.dg I) hk ?_
  have h2:Wp X (Tj []) (λvs s₁=>(Kf X.w.params).In s₁.heap∧Wp X (call (.ref a) (first++vs)) Q E s₁) E s:=h
  unfold Tj at h2
  exact(λΓ' p hΓ=>((h2 Γ' p hΓ).2 Γ' p hΓ))
 |cons e r=>
  rw[Qb,Pe]at hn
  exact callWith_K O.kin hk h (bQ hn.1) (de hn.2)
theorem jy {id:String}(hn:es.all aM=true)(h:Wp X (Tj (Ro pos (QC es X.env))) (λvs s₁=>Wp X (call (.builtin id) (first++vs)) Q E s₁) E s):Wp X (SD pos (.builtin id) first (Ro pos (QC es X.env)) []) Q E s:=by
 cases es with
 |nil=>
  refine callWith_method0 ?_
  have h2:Wp X (Tj []) (λvs s₁=>Wp X (call (.builtin id) (first++vs)) Q E s₁) E s:=h
  unfold Tj at h2
  exact(λΓ' p hΓ=>by have:=(h2 Γ' p hΓ) Γ' p hΓ;rwa [Qt]at this)
 |cons e r=>
  rw[Qb,Pe]at hn
  exact callWith_method1 h (bQ hn.1) (de hn.2)
theorem yK (G:aH X Γ T)(hc:Γ.call a=some c)(h:c as st k Γ.ke)(I:Inv X st s)(r:IR st.ad as vs)(hx:av X Γ.ke E)(q:aj X st k Q) :
  Wp X (call (.ref a) vs) Q E s:=by
 have hh:X.A.handled=none:=(G.fn a c hc).1
 exact S' ((G.fn a c hc).2 X.A s st as vs k Γ.ke _ ⟨rfl,Q3 _,Q3 _,hh⟩ I r h (λsv st' v s' I' le rv hk=>q sv st' v s' I' le rv hk) (λC fs e s' hke fx=>hx C fs e s' hke fx))
theorem yj (O:X.Ok)(G:aH X Γ T)(S:Sound X Γ F)(hn:es.all aM=true)(h:Cq Γ T F f es st k)(I:Inv X st s)(hx:av X Γ.ke E)(r:f.R st.ad fv)(q:aj X st k Q):Wp X (SD pos fv [] (Ro pos (QC es X.env)) []) Q E s:=by
 cases f with
 |top a=>
  cases r
  rcases aA (show eT _ _ from h)with⟨hm,h⟩
  obtain⟨c,hc,h⟩:=aa h
  exact o3 O I (rX hm _) hn (fQ O G S h I hx .nil λsvs st' vs s' I' le _ rs hk=>⟨O.dg I',yK G hc hk I' rs hx (q.trans le λ_ _ z=>z)⟩)
 |blt id=>
  cases r
  exact jy hn (fQ O G S h I hx .nil λsvs st' vs s' I' le _ rs hk=>G.call _ _ _ _ _ _ _ _ hk I' rs (q.trans le λ_ _ z=>z))
 |_=>exact h.elim
theorem gN (h:st.ent sv=some e)(a:e'.addr=e.addr):st.ad.le (st.c4 sv e').ad:=by rw[St.iK h a];exact .refl _
theorem LH {K:Frag}(h:isFn K (.ref f)=true):typeIn K (.ref f)=some (.type "function"):=beq_iff_eq.mp h
theorem oU (O:X.Ok)(G:aH X Γ T)(S:Sound X Γ F)(hn:es.all aM=true)(h:wH Γ T F rv n es st k)(I:Inv X st s)(hx:av X Γ.ke E)(r:rv.R st.ad v)(q:aj X st k Q):Wp X (Ss v n pl) (λfx s₂=>Wp X (SD pos fx.1 fx.2 (Ro pos (QC es X.env)) []) Q E s₂) E s:=by
 obtain⟨id,hm,h⟩:=aa h
 refine G.meth _ _ _ _ _ _ _ _ _ hm I r ?_
 refine jy hn (fQ O G S h I hx (.cons r .nil) λsvs st' vs s' I' le rh rs hk=>?_)
 cases rh with
 |cons r' _=>exact G.call _ _ _ _ _ _ _ _ hk I' (.cons r' rs) (q.trans le λ_ _ z=>z)
theorem vY (O:X.Ok)(G:aH X Γ T)(S:Sound X Γ F)(hn:es.all aM=true)(he:st.ent rv=some (.inst a C d fs))(h:Dx Γ F C fs rv n es st k)(I:Inv X st s)(hx:av X Γ.ke E)(r:rv.R st.ad v)(q:aj X st k Q):Wp X (Ss v n pl) (λfx s₂=>Wp X (SD pos fx.1 fx.2 (Ro pos (QC es X.env)) []) Q E s₂) E s:=by
 rcases cw h with⟨_,_,h⟩|⟨hl,h⟩
 ·exact h.elim
 ·obtain⟨f,hf,h⟩:=aa h
  obtain⟨c,hc,hb⟩:=aa h
  obtain⟨h1,h2,h3,h4⟩:=Bm hf X.w.params
  rcases St.aR he r with rfl
  obtain⟨m,P,le,Q',D,d1,d2,H,F',N,nd,_⟩:=I.cut he
  obtain⟨ha,ox,dd,es',nn,hd,fr,rfl,at_,_⟩:=H.g' rfl
  refine method_inst F' O.kin (at_ _ _ _ (News.sub N)) h1 h2 h3 (fr.none hl) ?_
  exact o3 O I h4 hn (fQ O G S hb I hx (.cons r .nil) λsvs st' vs s' I' le rh rs hk=>⟨O.dg I',by
   cases rh with
   |cons r' _=>exact yK G hc hk I' (.cons r' rs) hx (q.trans le λ_ _ z=>z)⟩)
theorem z4 (h:GP rv as st k)(I:Inv X st s)(r:rv.R st.ad v)(rs:IR st.ad as vs)(q:aj X st k Q):Wp X (call (.builtin "list.append") (v::vs)) Q E s:=by
 cases rs with
 |nil=>exact h.elim
 |@cons x vx as vs rx rs=>
  cases rs with
  |cons=>exact h.elim
  |nil=>
   have h1:IH rv x st k (st.ent rv):=h
   cases he:st.ent rv with
   |none=>rw[he]at h1;exact h1.elim
   |some e=>
    rw[he]at h1
    cases e with
    |list a pre suf=>exact xC I r rx he h1.1 λs2 I2=>q .none _ _ _ I2 (gN he rfl) rfl h1.2
    |_=>exact h1.elim
theorem vP {pre:List SV}(O:X.Ok)(G:aH X Γ T)(S:Sound X Γ F)(hn:es.all aM=true)(he:st.ent rv=some (.list a pre suf))(h:DB Γ F a pre suf rv n es st k)(I:Inv X st s)(hx:av X Γ.ke E)(r:rv.R st.ad v)(q:aj X st k Q):Wp X (Ss v n pl) (λfx s₂=>Wp X (SD pos fx.1 fx.2 (Ro pos (QC es X.env)) []) Q E s₂) E s:=by
 obtain⟨rfl,vs,nn,ir,hg⟩:=I.list r he
 have hT:s.TypeIs (.ref a) "list":=⟨_,hg,rfl⟩
 have hnd:∀b,Pa a=.ref b→∃o,s.heap.get? b=some o∧o.dict=none:=λb e=>by cases e;exact⟨_,hg,rfl⟩
 rcases mP h with⟨hp,h⟩|⟨_,h⟩
 ·rcases beq_iff_eq.mp hp with rfl
  cases es with
  |cons=>exact h.elim
  |nil=>
   obtain⟨x,hs,h⟩:=aa h
   refine QR hT QS Sq PySem.F.type_list_pop hnd ?_
   exact HJ I r he hs h.1 λv' s' I' rv'=>q x _ v' s' I' (gN he rfl) (by rw[St.iK (e':=.list a pre suf.dropLast) he rfl];exact rv') h.2
 ·rcases aA h with⟨hp,h⟩
  rcases beq_iff_eq.mp hp with rfl
  refine QR hT QS RR RS hnd ?_
  refine jy hn (fQ O G S h I hx (.cons r .nil) λsvs st' vs s' I' le rh rs hk=>?_)
  cases rh with
  |cons r' _=>exact z4 hk I' r' rs (q.trans le λ_ _ z=>z)
theorem xM (O:X.Ok)(G:aH X Γ T)(S:Sound X Γ F)(hn:es.all aM=true)(h:yR Γ T F rv n es st k)(I:Inv X st s)(hx:av X Γ.ke E)(r:rv.R st.ad v)(q:aj X st k Q) :
  Wp X (Ss v n pl) (λfx s₂=>Wp X (SD pos fx.1 fx.2 (Ro pos (QC es X.env)) []) Q E s₂) E s:=by
 unfold yR at h
 cases he:st.ent rv with
 |none=>rw[he]at h;exact oU O G S hn h I hx r q
 |some e=>
  rw[he]at h
  cases e with
  |inst a C d fs=>exact vY O G S hn he h I hx r q
  |list a pre suf=>exact vP O G S hn he h I hx r q
  |_=>exact oU O G S hn h I hx r q
theorem AB (O:X.Ok)(G:aH X Γ T)(h:Ex T o n st k)(I:Inv X st s)(r:o.R st.ad v)(q:aj X st k Q):Wp X (Th v n ex) Q E s:=by
 unfold Ex at h
 cases hq:ti (st.ent o)with
 |none=>rw[hq]at h;exact G.getA _ _ _ _ _ _ _ _ _ h I r q
 |some w=>
  rw[hq]at h
  rcases aA h with⟨hf,h⟩
  obtain⟨sv,hl,h⟩:=aa h
  rcases aA h with⟨hh,h⟩
  exact vF O I r w.2 rfl (lZ hf _) hl hh λv' s' I' r'=>q.of_eq I' r' h
theorem Am (O:X.Ok)(G:aH X Γ T)(h:Fn T o n sv st k)(I:Inv X st s)(r:o.R st.ad v)(ru:sv.R st.ad u)(q:∀st' s',Inv X st' s'→k st'→Q () s'):Wp X (setAttr v n u) Q E s:=by
 unfold Fn at h
 cases hq:ti (st.ent o)with
 |none=>rw[hq]at h;exact G.setA _ _ _ _ _ _ _ _ _ _ h I r ru q
 |some w=>
  rw[hq]at h
  rcases aA h with⟨hf,h⟩
  rw[Pe]at hf
  exact FV O I r w.2 rfl (lZ hf.1 _) ru hf.2 λs' I'=>q _ s' I' h
theorem A9 (G:aH X Γ T)(h:D5 T op a b st k)(I:Inv X st s)(ra:a.R st.ad v)(rb:b.R st.ad u)(q:aj X st k Q):Wp X (Tt op v u) Q E s:=by
 unfold D5 at h
 cases hi:both a.int? b.int? with
 |none=>rw[hi]at h;exact G.bin _ _ _ _ _ _ _ _ _ _ h I ra rb q
 |some p=>
  rw[hi]at h
  change GL T op a b st k (AP op p.1 p.2)at h
  cases hr:AP op p.1 p.2 with
  |none=>rw[hr]at h;exact G.bin _ _ _ _ _ _ _ _ _ _ h I ra rb q
  |some r=>
   rw[hr]at h
   exact DF I ra rb (dj hi).1 (dj hi).2 hr λv' s' I' r'=>q.of_eq I' r' h
theorem rB (G:aH X Γ T)(h:DX T op a b st k)(I:Inv X st s)(ra:a.R st.ad v)(rb:b.R st.ad u)(q:aj X st k Q):Wp X (Qr op v u) Q E s:=by
 rcases cw h with⟨c,hc,h⟩|⟨_,h⟩
 ·exact xc ra rb hc λv' r'=>q.of_eq I r' h
 ·exact G.cmp _ _ _ _ _ _ _ _ _ _ h I ra rb q
theorem aT (h:aQ i=true):subscripted i false o iv=operate [o,iv] (getItem o iv):=by cases i<;>first|rfl|cases h
theorem yE {pre:List SV}(G:aH X Γ T)(hs:aQ e2=true)(h:Dk T o (.num z) z pre suf st k)(he:st.ent o=some (.list a pre suf))(I:Inv X st s)(ra:o.R st.ad v)(rb:(SV.num z).R st.ad u)(q:aj X st k Q):Wp X (PN e1 e2 v u) Q E s:=by
 obtain⟨rfl,vs,nn,ir,hg⟩:=I.list ra he
 have hT:s.TypeIs (.ref a) "list":=⟨_,hg,rfl⟩
 cases z with
 |negSucc m=>
  cases m with
  |succ m=>exact G.item _ _ _ _ _ _ _ _ _ _ _ h hs I ra rb q
  |zero=>
   change yQ suf st k at h
   unfold yQ at h
   cases hx:suf.getLast? with
   |none=>rw[hx]at h;exact h.elim
   |some x=>
    rw[hx]at h
    rcases rb with⟨t,rfl⟩
    exact RC hT slot_list_getitem.lookup (Eg I ra he hx λv' r'=>q.of_eq I r' h) (aT hs)
 |ofNat j=>
  cases pre with
  |cons=>exact G.item _ _ _ _ _ _ _ _ _ _ _ h hs I ra rb q
  |nil=>
   change y9 T o (.num (.ofNat j)) j [] suf st k at h
   unfold y9 at h
   dsimp only at h
   cases hx:suf[j]? with
   |none=>rw[hx]at h;exact h.elim
   |some x=>
    rw[hx]at h
    cases hj:R7 j 1000 with
    |false=>rw[hj]at h;exact h.elim
    |true=>
     rw[hj]at h
     rcases rb with⟨t,rfl⟩
     exact RC hT slot_list_getitem.lookup (xd I ra he (by simpa using hx) (Pr (PT hj) (by decide)) λv' r'=>q.of_eq I r' h) (aT hs)
theorem zj (G:aH X Γ T)(hs:aQ e2=true)(h:xm T o i st k)(I:Inv X st s)(ra:o.R st.ad v)(rb:i.R st.ad u)(q:aj X st k Q):Wp X (PN e1 e2 v u) Q E s:=by
 unfold xm at h
 cases hq:KO (st.ent o)with
 |none=>rw[hq]at h;exact G.item _ _ _ _ _ _ _ _ _ _ _ h hs I ra rb q
 |some w=>
  rw[hq]at h
  dsimp only at h
  cases hz:IB i with
  |none=>rw[hz]at h;exact G.item _ _ _ _ _ _ _ _ _ _ _ h hs I ra rb q
  |some z=>
   rw[hz]at h
   rcases z with⟨z,rfl⟩
   exact yE G hs h w.2 I ra rb q
end
section
variable {X:Fx}{Γ:bc}{T:Ext}{F:bt}{st:St}{s:Pl}{E:Value→Pl→Prop}
theorem lP {env:Env}:∀{es:List Expr},es.all aM=true→(Ro pos (QC es env)).all (!·.1)=true
 |[],_=>rfl
 |e::r,h=>by
  rw[Qb,Pe]at h
  rw[bQ h.1]
  show(true&&(Ro pos (QC r env)).all (!·.1))=true
  rw[lP h.2];rfl
theorem oo {env:Env}(h:cL o=true)(hn:es.all aM=true)(hl:Nat.blt es.length 30=true)(hp:(ap.endLine==pos.line)=true) :
  eval (.Call (.Attribute o n ap) es [] pos) env=(do
   let ov ←eval o env
   SO ap.atName
   let(f,first) ←holding [ov] (Ss ov n (do return (←importBound o env).getD true))
   SD pos f first (Ro pos (QC es env)) []):=by
 have e:eval (.Call (.Attribute o n ap) es [] pos) env=(do
   let ov ←attributeBase o n env (eval o env)
   SO ap.atName
   methodCall o n ap pos env ov (es.length+0) (Ro pos (QC es env)) (backToKw pos (keywordEach [] env))):=rfl
 have hl':es.length<30:=by have:=PT hl;lia
 have hf:methodCallForm (es.length+0) (Ro pos (QC es env)) (backToKw pos (keywordEach [] env))=true:=by
  unfold methodCallForm
  rw[lP hn]
  show(true&&true&&decide (es.length+0+0<30))=true
  exact decide_eq_true hl'
 rw[e,i6 h]
 delta methodCall methodCallPos calleeOf
 rw[hf]
 show _=_
 rw[hp]
 rfl
noncomputable def DJ:UnaryOp→Bool
 |.Not=>false
 |_=>true
noncomputable def wI:Expr→Bool
 |.UnaryOp op _ _=>DJ op
 |.BoolOp _ _ _=>false
 |.IfExp _ _ _ _=>false
 |.Compare _ _ _ _=>false
 |_=>true
theorem ka {env:Env}(h:wI e=true) :
  isTrue e env w=(do let v ←w;SO e.pos;holding [v] (truthy v)):=by
 cases e with
 |UnaryOp op x pos=>
  cases op with
  |Not=>exact absurd h nofun
  |_=>rfl
 |BoolOp=>exact absurd h nofun
 |IfExp=>exact absurd h nofun
 |Compare=>exact absurd h nofun
 |_=>rfl
theorem jh:∀{es:List Expr}{st:St}{s:Pl}{k:KV}{Q:Value→Pl→Prop}(S:Sound X Γ F)(h:rN F op es st k)(I:Inv X st s)(hx:av X Γ.ke E)(q:aj X st k Q),Wp X (eval (.BoolOp op es pos) X.env) Q E s
 |[],st,s,k,Q,S,h,I,hx,q=>h.elim
 |[e],st,s,k,Q,S,h,I,hx,q=>BoolOp_one (S.ev e st s k Q E h I hx q)
 |e::e2::r,st,s,k,Q,S,h,I,hx,q=>by
  cases op with
  |And=>
   refine BoolOp_and (S.ev e st s _ _ E h I hx λa aq v s1 I1 le ra hk=>?_)
   obtain⟨c,hc,hk⟩:=aa hk
   ·refine gD ra hc λb rb=>?_
    rcases b8 hk rb with⟨rfl,hy⟩|⟨rfl,hy⟩
    ·exact jh S hy I1 hx (q.trans le λ_ _ z=>z)
    ·exact q a aq v s1 I1 le ra hy
  |Or=>
   refine BoolOp_or (S.ev e st s _ _ E h I hx λa aq v s1 I1 le ra hk=>?_)
   obtain⟨c,hc,hk⟩:=aa hk
   ·refine gD ra hc λb rb=>?_
    rcases b8 hk rb with⟨rfl,hy⟩|⟨rfl,hy⟩
    ·exact q a aq v s1 I1 le ra hy
    ·exact jh S hy I1 hx (q.trans le λ_ _ z=>z)
theorem eG (h:dT r=true):behindInMarks op r=false:=by cases r<;>first|rfl|cases h
theorem FF (h:c.R D (.bool b)):(BI c).R D (.bool (!b))∨∀x,c≠.lit x∧c≠.bool x:=by
 cases c<;>first|(left;cases h;rfl)|(right;intro x;constructor<;>(intro e;cases e))
theorem o6 (h:eI a=some c):∃x,c=.lit x∨c=.bool x:=by
 cases a<;>first|exact nS h|(rcases Pd h with rfl;first|exact⟨_,.inl rfl⟩|exact⟨_,.inr rfl⟩)
theorem sH (h:eI a=some c)(r:c.R D (.bool b)):(BI c).R D (.bool (!b)):=by
 rcases FF r with z|z
 ·exact z
 ·rcases o6 h with⟨x,rfl|rfl⟩
  ·exact absurd rfl (z x).1
  ·exact absurd rfl (z x).2
theorem c6 (O:X.Ok)(G:aH X Γ T)(S:Sound X Γ F)(h:gK Γ T F e st k)(I:Inv X st s)(hx:av X Γ.ke E)(q:aj X st k Q):Wp X (eval e X.env) Q E s:=by
 rcases cw h with⟨sv,ha,h⟩|⟨_,h⟩
 ·exact cq O G.cs I ha λv s' I' r=>q.of_eq I' r h
 ·exact G.expr F _ _ _ _ _ E S h I hx q
theorem xY (O:X.Ok)(G:aH X Γ T)(S:Sound X Γ F)(h:Du T F o n st k)(I:Inv X st s)(hx:av X Γ.ke E)(q:aj X st k Q):Wp X (eval (.Attribute o n p) X.env) Q E s:=by
 rcases aA h with⟨hb,h⟩
 exact Attribute_any_ (S.ev _ _ _ _ _ E h I hx λsv aq v s1 I1 le r hk=>AB O G hk I1 r (q.trans le λ_ _ z=>z)) (kP hb)
theorem xS (O:X.Ok)(G:aH X Γ T)(S:Sound X Γ F)(h:CH Γ T F o n ap args pos st k)(I:Inv X st s)(hx:av X Γ.ke E)(q:aj X st k Q):Wp X (eval (.Call (.Attribute o n ap) args [] pos) X.env) Q E s:=by
 rcases aA h with⟨hc,h⟩
 simp only[Pe]at hc
 obtain⟨⟨⟨h1,h2⟩,h3⟩,h4⟩:=hc
 exact MethodCall_ (S.ev _ _ _ _ _ E h I hx λsv aq v s1 I1 le r hk=>xM O G S h2 hk I1 hx r (q.trans le λ_ _ z=>z)) (oo h1 h2 h3 h4)
theorem vq (O:X.Ok)(G:aH X Γ T)(S:Sound X Γ F)(h:Dp Γ T F (cz Γ (.Name x p) st) args st k) (I:Inv X st s)(hx:av X Γ.ke E)(q:aj X st k Q):Wp X (eval (.Call (.Name x p) args [] pos) X.env) Q E s:=by
 rcases aA h with⟨hn,h⟩
 obtain⟨fv,hf,h⟩:=aa h
 exact Call_ (cq O G.cs I hf λv s' I' r=>yj O G S hn h I' hx r q)
theorem x6 (O:X.Ok)(G:aH X Γ T)(S:Sound X Γ F)(h:C2 Γ T F (.Call f args kw pos) f args kw pos st k)(I:Inv X st s)(hx:av X Γ.ke E)(q:aj X st k Q):Wp X (eval (.Call f args kw pos) X.env) Q E s:=by
 cases kw with
 |cons=>exact c6 O G S h I hx q
 |nil=>
  cases f with
  |Attribute o n ap=>exact xS O G S h I hx q
  |Name x p=>exact vq O G S h I hx q
  |_=>exact c6 O G S h I hx q
theorem v8 (O:X.Ok)(G:aH X Γ T)(S:Sound X Γ F)(h:CZ Γ T F l op r st k)(I:Inv X st s)(hx:av X Γ.ke E)(q:aj X st k Q):Wp X (eval (.Compare l [op] [r] p) X.env) Q E s:=by
 rcases aA h with⟨hr,h⟩
 exact wpAny_Compare1 (S.ev _ _ _ _ _ E h I hx λa aq v s1 I1 le ra hk=>jR O G S hk I1 hx (.cons ra .nil) λb cg u s2 I2 le2 ra2 rb hk2=>by
  cases ra2 with
  |cons ra' _=>exact rB G hk2 I2 ra' rb (q.trans (le.trans le2) λ_ _ z=>z)) (eG hr)
theorem zT (O:X.Ok)(G:aH X Γ T)(S:Sound X Γ F)(h:JN Γ T F (.Compare l ops rs p) l ops rs st k)(I:Inv X st s)(hx:av X Γ.ke E)(q:aj X st k Q):Wp X (eval (.Compare l ops rs p) X.env) Q E s:=by
 cases ops with
 |nil=>exact c6 O G S h I hx q
 |cons op ops=>
  cases ops with
  |cons=>exact c6 O G S h I hx q
  |nil=>
   cases rs with
   |nil=>exact c6 O G S h I hx q
   |cons r rs=>
    cases rs with
    |cons=>exact c6 O G S h I hx q
    |nil=>exact v8 O G S h I hx q
theorem EM (O:X.Ok)(G:aH X Γ T)(S:Sound X Γ F)(h:Oe Γ T F (.UnaryOp op x p) op x st k)(I:Inv X st s)(hx:av X Γ.ke E)(q:aj X st k Q):Wp X (eval (.UnaryOp op x p) X.env) Q E s:=by
 cases op with
 |Not=>
  refine UnaryOp_ (S.ev _ _ _ _ _ E h I hx λa aq v s1 I1 le ra hk=>?_)
  obtain⟨c,hc,hk⟩:=aa hk
  exact not_of (gD ra hc λb rb=>q _ _ _ _ I1 le (sH hc rb) hk)
 |USub=>
  refine UnaryOp_ (S.ev _ _ _ _ _ E h I hx λa aq v s1 I1 le ra hk=>?_)
  cases a with
  |num i=>
   rcases ra with⟨t,rfl⟩
   exact neg_int (q (.num (-i)) _ _ _ (I1.aO _) le ⟨_,rfl⟩ hk)
  |int i=>
   rcases ra with⟨t,rfl⟩
   exact neg_int (q (.int (-i)) _ _ _ (I1.aO _) le ⟨_,rfl⟩ hk)
  |_=>exact hk.elim
 |_=>exact c6 O G S h I hx q
theorem DG (O:X.Ok)(G:aH X Γ T)(S:Sound X Γ F)(h:F.tr t st λc aq=>cG c (F.ev b aq k) (F.ev o aq k))(I:Inv X st s)(hx:av X Γ.ke E)(q:aj X st k Q):Wp X (eval (.IfExp t b o p) X.env) Q E s:=by
 refine IfExp_ (S.tr _ _ _ _ _ E h I hx λc aq b s1 I1 le rc hk=>?_)
 rcases b8 hk rc with⟨rfl,hy⟩|⟨rfl,hy⟩
 ·rw[if_pos rfl]
  exact S.ev _ _ _ _ _ E hy I1 hx (q.trans le λ_ _ z=>z)
 ·rw[if_neg nofun]
  exact S.ev _ _ _ _ _ E hy I1 hx (q.trans le λ_ _ z=>z)
theorem DO (h:NC as st k)(I:Inv X st s)(rs:IR st.ad as vs)(q:aj X st k Q):Wp X (TC vs) Q E s:=by
 rcases aA h with⟨hz,h⟩
 exact tC I rs hz λl s2 I2=>q _ _ _ _ I2 (St.br _ _).le (cC _ _) (h l)
theorem Ea (h:Oa as st k)(I:Inv X st s)(rs:IR st.ad as vs)(q:aj X st k Q):Wp X (newTuple vs) Q E s:=by
 rcases aA h with⟨hz,h⟩
 exact xe I rs hz λl s2 I2=>q _ _ _ _ I2 (St.br _ _).le (cC _ _) (h l)
theorem zP (O:X.Ok)(G:aH X Γ T)(S:Sound X Γ F)(h:Lj Γ T F (.Subscript v i p) v i st k)(I:Inv X st s)(hx:av X Γ.ke E)(q:aj X st k Q):Wp X (eval (.Subscript v i p) X.env) Q E s:=by
 rcases mP h with⟨hs,h⟩|⟨_,h⟩
 ·exact Subscript_ (S.ev _ _ _ _ _ E h I hx λa aq v s1 I1 le ra hk=>jR O G S hk I1 hx (.cons ra .nil) λb cg u s2 I2 le2 ra2 rb hk2=>by
   cases ra2 with
   |cons ra' _=>exact zj G hs hk2 I2 ra' rb (q.trans (le.trans le2) λ_ _ z=>z))
 ·exact G.expr F _ _ _ _ _ E S h I hx q
theorem oe (O:X.Ok)(G:aH X Γ T)(S:Sound X Γ F)(h:y0 Γ T F e st k)(I:Inv X st s)(hx:av X Γ.ke E)(q:aj X st k Q):Wp X (eval e X.env) Q E s:=by
 cases e with
 |Attribute o n p=>exact xY O G S h I hx q
 |Call f args kw pos=>exact x6 O G S h I hx q
 |BinOp l op r p=>
  exact wpAny_BinOp (S.ev _ _ _ _ _ E h I hx λa aq v s1 I1 le ra hk=>jR O G S hk I1 hx (.cons ra .nil) λb cg u s2 I2 le2 ra2 rb hk2=>by
   cases ra2 with
   |cons ra' _=>exact A9 G hk2 I2 ra' rb (q.trans (le.trans le2) λ_ _ z=>z))
 |Compare l ops rs p=>exact zT O G S h I hx q
 |BoolOp op es p=>exact jh S h I hx q
 |UnaryOp op x p=>exact EM O G S h I hx q
 |IfExp t b o p=>exact DG O G S h I hx q
 |List es p=>exact List_ (fQ O G S h I hx .nil λsvs aq vs s1 I1 le _ rs hk=>DO hk I1 rs (q.trans le λ_ _ z=>z))
 |Tuple es p=>exact Tuple_ (fQ O G S h I hx .nil λsvs aq vs s1 I1 le _ rs hk=>Ea hk I1 rs (q.trans le λ_ _ z=>z))
 |Subscript v i p=>exact zP O G S h I hx q
 |_=>exact c6 O G S h I hx q
end
noncomputable def LJ (F:bt)(op:BoolOp):List Expr→St→KV→Prop
 |[],st,k=>k (.lit (match op with|.And=>true|.Or=>false)) st
 |e::r,st,k=>F.tr e st λc aq=>match op with
  |.And=>cG c (LJ F op r aq k) (k (.lit false) aq)
  |.Or=>cG c (k (.lit true) aq) (LJ F op r aq k)
def m9 (a:SV)(st:St)(k:KV):Prop:=ag (eI a) λc=>k c st
def Lu (F:bt)(x:Expr)(st:St)(k:KV):Prop:=F.tr x st λc aq=>ag (eI c) λc=>k (BI c) aq
def CW (Γ:bc)(T:Ext)(F:bt)(l:Expr)(op:CmpOp)(r:Expr)(st:St)(k:KV):Prop:=match dT r with
 |true=>F.ev l st λa aq=>zt Γ F [a] r aq λb cg=>DX T op a b cg λv pa=>m9 v pa k
 |false=>False
def xD (o2:CmpOp)(b c:SV)(st:St)(k:KV):Prop:=ag (uL o2 b c) λy=>m9 y st k
def Lk (x:Option SV)(o2:CmpOp)(b c:SV)(st:St)(k:KV):Prop:=ag x λx=>cG x (xD o2 b c st k) (k (.lit false) st)
def Mi (o1 o2:CmpOp)(a b c:SV)(st:St)(k:KV):Prop:=ag (uL o1 a b) λx=>Lk (eI x) o2 b c st k
def Di (Γ:bc)(o1 o2:CmpOp)(r1 r2:Expr)(a:SV)(st:St)(k:KV):Prop:=ag (cz Γ r1 st) λb=>ag (cz Γ r2 st) λc=>Mi o1 o2 a b c st k
def Dj (Γ:bc)(F:bt)(l:Expr)(o1 o2:CmpOp)(r1 r2:Expr)(st:St)(k:KV):Prop:=match dT r2 with
 |true=>F.ev l st λa aq=>Di Γ o1 o2 r1 r2 a aq k
 |false=>False
def GO (Γ:bc)(T:Ext)(F:bt)(l:Expr)(ops:List CmpOp)(rs:List Expr)(st:St)(k:KV):Prop:=match ops with
 |[]=>False
 |op::ops=>match ops with
  |[]=>match rs with
   |[]=>False
   |r::rs=>match rs with
    |[]=>CW Γ T F l op r st k
    |_::_=>False
  |o2::ops=>match ops with
   |_::_=>False
   |[]=>match rs with
    |[]=>False
    |r::rs=>match rs with
     |[]=>False
     |r2::rs=>match rs with
      |[]=>Dj Γ F l op o2 r r2 st k
      |_::_=>False
def qZ (Γ:bc)(T:Ext)(F:bt)(e:Expr)(st:St)(k:KV):Prop:=y0 Γ T F e st λa aq=>m9 a aq k
def OC (Γ:bc)(T:Ext)(F:bt)(e:Expr)(op:UnaryOp)(x:Expr)(st:St)(k:KV):Prop:=match op with
 |.Not=>Lu F x st k
 |_=>qZ Γ T F e st k
def Dw (Γ:bc)(T:Ext)(F:bt)(e:Expr)(st:St)(k:KV):Prop:=match e with
 |.UnaryOp op x _=>OC Γ T F e op x st k
 |.BoolOp op es _=>LJ F op es st k
 |.IfExp t b o _=>F.tr t st λc aq=>cG c (F.tr b aq k) (F.tr o aq k)
 |.Compare l ops rs _=>GO Γ T F l ops rs st k
 |_=>qZ Γ T F e st k
section
variable {X:Fx}{Γ:bc}{T:Ext}{F:bt}{st:St}{s:Pl}{E:Value→Pl→Prop}
def dO (X:Fx)(st:St)(k:KV)(Q:Bool→Pl→Prop):Prop:=∀sv st' b s',Inv X st' s'→st.ad.le st'.ad→sv.R st'.ad (.bool b)→k sv st'→Q b s'
theorem dO.trans (p:dO X st k Q)(l:st.ad.le st₁.ad)(h:∀sv st',k₁ sv st'→k sv st'):dO X st₁ k₁ Q:=λsv st' v s' I le r hk=>p sv st' v s' I (l.trans le) r (h _ _ hk)
theorem qz:∀{es:List Expr}{st:St}{s:Pl}{k:KV}{Q:Bool→Pl→Prop}(S:Sound X Γ F)(h:LJ F op es st k)(I:Inv X st s)(hx:av X Γ.ke E)(q:dO X st k Q),Wp X (isTrue (.BoolOp op es pos) X.env w) Q E s
 |[],st,s,k,Q,S,h,I,hx,q=>by
  cases op with
  |And=>exact isTrue_and_nil (q (.lit true) _ _ _ I (.refl _) rfl h)
  |Or=>exact isTrue_or_nil (q (.lit false) _ _ _ I (.refl _) rfl h)
 |e::r,st,s,k,Q,S,h,I,hx,q=>by
  cases op with
  |And=>
   refine isTrue_and (S.tr e st s _ _ E h I hx λc aq b s1 I1 le rc hk=>?_)
   rcases b8 hk rc with⟨rfl,hy⟩|⟨rfl,hy⟩
   ·rw[if_pos rfl];exact qz S hy I1 hx (q.trans le λ_ _ z=>z)
   ·rw[if_neg (by decide)];exact q (.lit false) _ _ _ I1 le rfl hy
  |Or=>
   refine isTrue_or (S.tr e st s _ _ E h I hx λc aq b s1 I1 le rc hk=>?_)
   rcases b8 hk rc with⟨rfl,hy⟩|⟨rfl,hy⟩
   ·rw[if_pos rfl];exact q (.lit true) _ _ _ I1 le rfl hy
   ·rw[if_neg (by decide)];exact qz S hy I1 hx (q.trans le λ_ _ z=>z)
theorem ib (h:m9 a st k)(I:Inv X st s)(r:a.R st.ad v)(q:dO X st k Q):Wp X (truthy v) Q E s:=by
 obtain⟨c,hc,h⟩:=aa h
 exact gD r hc λb rb=>q _ _ _ _ I (.refl _) rb h
theorem lI (O:X.Ok)(G:aH X Γ T)(S:Sound X Γ F)(hp:wI e=true)(h:qZ Γ T F e st k)(I:Inv X st s)(hx:av X Γ.ke E)(q:dO X st k Q):Wp X (isTrue (e) X.env (eval (e) X.env)) Q E s:=
 isTrue_plain (oe O G S h I hx λa aq v s1 I1 le ra hk=>ib hk I1 ra (q.trans le λ_ _ z=>z)) (ka hp)
theorem Az (O:X.Ok)(G:aH X Γ T)(S:Sound X Γ F)(h:Lu F x st k)(I:Inv X st s)(hx:av X Γ.ke E)(q:dO X st k Q):Wp X (isTrue (.UnaryOp .Not x p) X.env (eval (.UnaryOp .Not x p) X.env)) Q E s:=by
 refine isTrue_not (S.tr _ _ _ _ _ E h I hx λc aq b s1 I1 le rc hk=>?_)
 obtain⟨c',hc,hk2⟩:=aa hk
 have:c'=c:=by cases c<;>first|(cases hc;first|rfl|exact absurd rc nofun)|exact absurd hc nofun
 subst this
 exact q _ _ _ _ I1 le (sH hc rc) hk2
theorem vz (O:X.Ok)(G:aH X Γ T)(S:Sound X Γ F)(h:CW Γ T F l op r st k)(I:Inv X st s)(hx:av X Γ.ke E)(q:dO X st k Q):Wp X (isTrue (.Compare l [op] [r] p) X.env (eval (.Compare l [op] [r] p) X.env)) Q E s:=by
 rcases aA h with⟨hr,h⟩
 exact wpAny_isTrue_Compare1 (S.ev _ _ _ _ _ E h I hx λa aq v s1 I1 le ra hk=>jR O G S hk I1 hx (.cons ra .nil) λb cg u s2 I2 le2 ra2 rb hk2=>by
  cases ra2 with
  |cons ra' _=>exact rB G hk2 I2 ra' rb λc pa v' s3 I3 le3 rc hk3=>ib hk3 I3 rc (q.trans (le.trans (le2.trans le3)) λ_ _ z=>z)) (eG hr)
theorem vL (h:xD o2 b c st k)(I:Inv X st s)(rb:b.R st.ad v)(rc:c.R st.ad u)(q:dO X st k Q):Wp X (Qr o2 v u) (λr s=>Wp X (truthy r) Q E s) E s:=by
 obtain⟨y,hy,h⟩:=aa h
 exact xc rb rc hy λv2 r2=>ib h I r2 q
theorem wa {l r1 r2:Expr}{o1 o2:CmpOp}{p:Pos}{a:SV}{v:Value}{k:KV}{Q:Bool→Pl→Prop}(O:X.Ok)(G:aH X Γ T)(h:Di Γ o1 o2 r1 r2 a st k)(I:Inv X st s)(ra:a.R st.ad v)(q:dO X st k Q) :
  ∃b c x x',cz Γ r1 st=some b∧cz Γ r2 st=some c∧uL o1 a b=some x∧eI x=some x'∧cG x' (xD o2 b c st k) (k (.lit false) st):=by
 obtain⟨b,hb,h⟩:=aa h
 obtain⟨c,hc,h⟩:=aa h
 obtain⟨x,hx,h⟩:=aa h
 obtain⟨x',hx',h⟩:=aa h
 exact⟨b,c,x,x',hb,hc,hx,hx',h⟩
theorem vm {r1 r2:Expr}(O:X.Ok)(G:aH X Γ T)(S:Sound X Γ F)(h:Dj Γ F l o1 o2 r1 r2 st k)(I:Inv X st s)(hx:av X Γ.ke E)(q:dO X st k Q):Wp X (isTrue (.Compare l [o1,o2] [r1,r2] p) X.env (eval (.Compare l [o1,o2] [r1,r2] p) X.env)) Q E s:=by
 rcases aA h with⟨hr,h⟩
 refine isTrue_chain (S.ev _ _ _ _ _ E h I hx λa aq v s1 I1 le ra hk=>?_) (eG hr)
 obtain⟨b,c,x,x',hb,hc,hx1,hx2,hk⟩:=wa (l:=l) (p:=p) O G hk I1 ra (q.trans le λ_ _ z=>z)
 refine test_link (cq O G.cs I1 hb λvb s2 I2 rb=>xc ra rb hx1 λv1 r1=>gD r1 hx2 λt rt=>?_)
 rcases b8 hk rt with⟨rfl,hy⟩|⟨rfl,hy⟩
 ·rw[if_pos rfl]
  exact test_last (cq O G.cs I2 hc λvc s3 I3 rc=>vL hy I3 rb rc (q.trans le λ_ _ z=>z))
 ·rw[if_neg nofun]
  exact q (.lit false) _ _ _ I2 le rfl hy
theorem BN (O:X.Ok)(G:aH X Γ T)(S:Sound X Γ F)(h:GO Γ T F l ops rs st k)(I:Inv X st s)(hx:av X Γ.ke E)(q:dO X st k Q):Wp X (isTrue (.Compare l ops rs p) X.env (eval (.Compare l ops rs p) X.env)) Q E s:=by
 cases ops with
 |nil=>exact h.elim
 |cons op ops=>
  cases ops with
  |nil=>
   cases rs with
   |nil=>exact h.elim
   |cons r rs=>
    cases rs with
    |nil=>exact vz O G S h I hx q
    |cons=>exact h.elim
  |cons o2 ops=>
   cases ops with
   |cons=>exact h.elim
   |nil=>
    cases rs with
    |nil=>exact h.elim
    |cons r rs=>
     cases rs with
     |nil=>exact h.elim
     |cons r2 rs=>
      cases rs with
      |nil=>exact vm O G S h I hx q
      |cons=>exact h.elim
theorem EY (O:X.Ok)(G:aH X Γ T)(S:Sound X Γ F)(h:F.tr t st λc aq=>cG c (F.tr b aq k) (F.tr o aq k))(I:Inv X st s)(hx:av X Γ.ke E)(q:dO X st k Q):Wp X (isTrue (.IfExp t b o p) X.env (eval (.IfExp t b o p) X.env)) Q E s:=by
 refine isTrue_IfExp (S.tr _ _ _ _ _ E h I hx λc aq b s1 I1 le rc hk=>?_)
 rcases b8 hk rc with⟨rfl,hy⟩|⟨rfl,hy⟩
 ·rw[if_pos rfl];exact S.tr _ _ _ _ _ E hy I1 hx (q.trans le λ_ _ z=>z)
 ·rw[if_neg nofun];exact S.tr _ _ _ _ _ E hy I1 hx (q.trans le λ_ _ z=>z)
theorem xT (O:X.Ok)(G:aH X Γ T)(S:Sound X Γ F)(h:Dw Γ T F e st k)(I:Inv X st s)(hx:av X Γ.ke E)(q:dO X st k Q):Wp X (isTrue (e) X.env (eval (e) X.env)) Q E s:=by
 cases e with
 |UnaryOp op x p=>
  cases op with
  |Not=>exact Az O G S h I hx q
  |_=>exact lI O G S rfl h I hx q
 |BoolOp op es p=>exact qz S h I hx q
 |IfExp t b o p=>exact EY O G S h I hx q
 |Compare l ops rs p=>exact BN O G S h I hx q
 |_=>exact lI O G S rfl h I hx q
end
noncomputable def dk:Expr→Bool
 |.ListComp _ _ _ _=>false
 |.SetComp _ _ _ _=>false
 |.DictComp _ _ _ _ _=>false
 |_=>true
theorem eW {env:Env}(h:dk v=true):swapsWith v t l env=pure false:=by
 cases v with
 |ListComp _ _ _ _=>exact absurd h nofun
 |SetComp _ _ _ _=>exact absurd h nofun
 |DictComp _ _ _ _ _=>exact absurd h nofun
 |_=>rfl
theorem jP (X:Fx)(O:X.Ok):interactive X.env=false:=by
 unfold interactive
 simp[envOf,O.kind]
def M0 (r:St→Prop)(k:KF)(fl:r8)(st:St):Prop:=match fl with
 |.next=>r st
 |.ret sv=>k (.ret sv) st
 |.cont=>k .cont st
 |.brk=>k .brk st
noncomputable def bw (F:bt):List Stmt→St→KF→Prop
 |[],st,k=>k .next st
 |c::r,st,k=>F.ex c st (M0 (λaq=>bw F r aq k) k)
def pL (L:af)(n:Nat)(st:St):Prop:=Ent st λst'=>∃j,L.μ j<n∧st'=L.S j
def Kg (L:af)(k:KF)(n:Nat)(fl:r8)(st:St):Prop:=match fl with
 |.next=>pL L n st
 |.cont=>pL L n st
 |.brk=>k .next st
 |.ret sv=>k (.ret sv) st
def GB (F:bt)(L:af)(b:List Stmt)(k:KF)(n:Nat)(c:SV)(st:St):Prop:=cG c (bw F b st (Kg L k n)) (k .next st)
def CB (F:bt)(L:af)(t:Expr)(b:List Stmt)(st:St)(k:KF):Prop:=
 Ent st (λst'=>∃i,st'=L.S i)∧L.split λi=>F.tr t (L.S i) (GB F L b k (L.μ i))
def Co (Γ:bc)(T:Ext)(F:bt)(c:Stmt)(x:Str)(e:Expr)(st:St)(k:KF):Prop:=match dk e&&decide (Γ.cs.names.lookup x=some .local)with
 |true=>F.ev e st λsv aq=>k .next {aq with loc:=put x sv aq.loc}
 |false=>T.stmt Γ F c st k
def Cz (Γ:bc)(T:Ext)(F:bt)(o:Expr)(n:Str)(e:Expr)(st:St)(k:KF):Prop:=match dk e with
 |true=>F.ev e st λsv aq=>zt Γ F [sv] o aq λov cg=>Fn T ov n sv cg λpa=>k .next pa
 |false=>False
def Kr (Γ:bc)(T:Ext)(F:bt)(c:Stmt)(t e:Expr)(st:St)(k:KF):Prop:=match t with
 |.Name x _=>Co Γ T F c x e st k
 |.Attribute o n _=>Cz Γ T F o n e st k
 |_=>T.stmt Γ F c st k
def JJ (Γ:bc)(T:Ext)(F:bt)(c:Stmt)(ts:List Expr)(e:Expr)(st:St)(k:KF):Prop:=match ts with
 |[]=>T.stmt Γ F c st k
 |t::r=>match r with
  |[]=>Kr Γ T F c t e st k
  |_::_=>T.stmt Γ F c st k
def Cf (F:bt)(e:Expr)(st:St)(k:KF):Prop:=match dk e with
 |true=>F.ev e st λ_ aq=>k .next aq
 |false=>False
def Nj (F:bt)(o:Option Expr)(st:St)(k:KF):Prop:=match o with
 |some e=>F.ev e st λsv aq=>k (.ret sv) aq
 |none=>k (.ret .none) st
def CT (F:bt)(o:Option af)(t:Expr)(b:List Stmt)(st:St)(k:KF):Prop:=ag o λL=>CB F L t b st k
def xa (Γ:bc)(T:Ext)(F:bt)(c:Stmt)(t:Expr)(b o:List Stmt)(pos:Pos)(st:St)(k:KF):Prop:=match o with
 |[]=>CT F (Γ.inv pos.line st) t b st k
 |_::_=>T.stmt Γ F c st k
def C5 (Γ:bc)(T:Ext)(F:bt)(c:Stmt)(st:St)(k:KF):Prop:=match c with
 |.Assign ts e _=>JJ Γ T F c ts e st k
 |.Expr e _=>Cf F e st k
 |.Return o _=>Nj F o st k
 |.If t b o _=>F.tr t st λc aq=>cG c (bw F b aq k) (bw F o aq k)
 |.Continue _=>k .cont st
 |.Pass _=>k .next st
 |.While t b o pos=>xa Γ T F c t b o pos st k
 |_=>T.stmt Γ F c st k
section
variable {X:Fx}{Γ:bc}{T:Ext}{F:bt}{st:St}{s:Pl}{E:Value→Pl→Prop}
def bh (X:Fx)(k:KF)(Q:Flow→Pl→Prop):Prop:=∀fl st' f s',Inv X st' s'→fl.R st'.ad f→k fl st'→Q f s'
theorem dG:∀{cs:List Stmt}{st:St}{s:Pl}{k:KF}{Q:Flow→Pl→Prop}(S:Sound X Γ F)(h:bw F cs st k)(I:Inv X st s)(hx:av X Γ.ke E)(q:bh X k Q),Wp X (execs cs X.env) Q E s
 |[],st,s,k,Q,S,h,I,hx,q=>wpAny_execs_nil (q .next st .next s I rfl h)
 |c::r,st,s,k,Q,S,h,I,hx,q=>by
  refine wpAny_execs_cons (S.ex c st s _ _ E h I hx λfl aq f s1 I1 rf hk=>?_)
  cases fl with
  |next=>cases rf;exact dG S hk I1 hx q
  |ret sv=>obtain⟨v,rfl,rv⟩:=rf;exact q (.ret sv) aq _ s1 I1 ⟨v,rfl,rv⟩ hk
  |cont=>cases rf;exact q .cont aq _ s1 I1 rfl hk
  |brk=>cases rf;exact q .brk aq _ s1 I1 rfl hk
theorem cM (hx:av X ke E):av X ke (notedBy (model pw X.w) X.A X.env (Sr (model pw X.w) X.A X.env E)):=λC fs e s hk fx=>fx.xR λs' fx'=>hx C fs e s' hk fx'
theorem lN (h:pL L n st)(I:Inv X st s):∃m,m<n∧∃i,L.μ i=m∧Inv X (L.S i) s:=by
 obtain⟨_,⟨j,hj,rfl⟩,Ij⟩:=h.go I
 exact⟨_,hj,j,rfl,Ij⟩
theorem xN (S:Sound X Γ F)(h:CB F L t b st k)(I:Inv X st s)(hx:av X Γ.ke E)(q:bh X k Q):Wp X (exec (.While t b [] pos) X.env) Q E s:=by
 rcases h with⟨e0,hi⟩
 replace hi:=L.ok _ hi
 obtain⟨_,⟨i0,rfl⟩,I0⟩:=e0.go I
 refine wpAny_While (codeAny_whileLoop (λn s'=>∃i,L.μ i=n∧Inv X (L.S i) s') (λn s' hn=>?_) (L.μ i0) ⟨i0,rfl,I0⟩)
 obtain⟨i,rfl,I'⟩:=hn
 refine S.tr t (L.S i) s' _ _ _ (hi i) I' (cM hx) λc aq b' s1 I1 le rc hk=>?_
 rcases b8 hk rc with⟨rfl,hy⟩|⟨rfl,hy⟩
 ·rw[if_pos rfl]
  refine dG S hy I1 (cM hx) λfl cg f s2 I2 rf hk2=>?_
  cases fl with
  |next=>cases rf;exact lN hk2 I2
  |cont=>cases rf;exact lN hk2 I2
  |brk=>cases rf;exact q .next cg _ s2 I2 rfl hk2
  |ret sv=>obtain⟨v,rfl,rv⟩:=rf;exact q (.ret sv) cg _ s2 I2 ⟨v,rfl,rv⟩ hk2
 ·rw[if_neg nofun]
  exact wpAny_execs_nil (q .next aq _ s1 I1 rfl hy)
theorem yD (O:X.Ok)(G:aH X Γ T)(S:Sound X Γ F)(h:Co Γ T F (.Assign [.Name x p] e pos) x e st k)(I:Inv X st s)(hx:av X Γ.ke E)(q:bh X k Q):Wp X (exec (.Assign [.Name x p] e pos) X.env) Q E s:=by
 rcases mP h with⟨hc,h⟩|⟨_,h⟩
 ·rw[Pe,decide_eq_true_eq]at hc
  exact wpAny_Assign_Name (S.ev _ _ _ _ _ E h I hx λsv aq v s1 I1 le r hk=>fm O I1 r (by rw[G.cs];exact hc.2) λs2 I2=>q .next _ _ _ I2 rfl hk) (eW hc.1)
 ·exact G.stmt F _ _ _ _ _ E S h I hx q
theorem yp (O:X.Ok)(G:aH X Γ T)(S:Sound X Γ F)(h:Cz Γ T F o n e st k)(I:Inv X st s)(hx:av X Γ.ke E)(q:bh X k Q):Wp X (exec (.Assign [.Attribute o n p] e pos) X.env) Q E s:=by
 rcases aA h with⟨hc,h⟩
 exact plainObj_wpAny_Assign_Attribute (S.ev _ _ _ _ _ E h I hx λsv aq v s1 I1 le r hk=>jR O G S hk I1 hx (.cons r .nil) λov cg u s2 I2 le2 r2 ru hk2=>by
  cases r2 with
  |cons r' _=>exact Am O G hk2 I2 ru r' λpa s3 I3 hk3=>q .next _ _ _ I3 rfl hk3) (eW hc)
theorem BU (O:X.Ok)(G:aH X Γ T)(S:Sound X Γ F)(h:JJ Γ T F (.Assign ts e pos) ts e st k)(I:Inv X st s)(hx:av X Γ.ke E)(q:bh X k Q):Wp X (exec (.Assign ts e pos) X.env) Q E s:=by
 cases ts with
 |nil=>exact G.stmt F _ _ _ _ _ E S h I hx q
 |cons t r=>cases r with
  |cons _ _=>exact G.stmt F _ _ _ _ _ E S h I hx q
  |nil=>cases t with
   |Name x p=>exact yD O G S h I hx q
   |Attribute o n p=>exact yp O G S h I hx q
   |_=>exact G.stmt F _ _ _ _ _ E S h I hx q
theorem vn (O:X.Ok)(S:Sound X Γ F)(h:Cf F e st k)(I:Inv X st s)(hx:av X Γ.ke E)(q:bh X k Q):Wp X (exec (.Expr e pos) X.env) Q E s:=by
 rcases aA h with⟨hc,h⟩
 exact wpAny_Expr_any (S.ev _ _ _ _ _ E h I hx λsv aq v s1 I1 le r hk=>q .next _ _ _ I1 rfl hk) (jP X O) (eW hc)
theorem Er (S:Sound X Γ F)(h:F.tr t st λc aq=>cG c (bw F b aq k) (bw F o aq k))(I:Inv X st s)(hx:av X Γ.ke E)(q:bh X k Q):Wp X (exec (.If t b o pos) X.env) Q E s:=by
 refine wpAny_If (S.tr _ _ _ _ _ E h I hx λc aq b s1 I1 le rc hk=>?_)
 rcases b8 hk rc with⟨rfl,hy⟩|⟨rfl,hy⟩
 ·rw[if_pos rfl];exact dG S hy I1 hx q
 ·rw[if_neg nofun];exact dG S hy I1 hx q
theorem uy (G:aH X Γ T)(S:Sound X Γ F)(h:xa Γ T F (.While t b o pos) t b o pos st k)(I:Inv X st s)(hx:av X Γ.ke E)(q:bh X k Q):Wp X (exec (.While t b o pos) X.env) Q E s:=by
 cases o with
 |cons _ _=>exact G.stmt F _ _ _ _ _ E S h I hx q
 |nil=>
  replace h:CT F (Γ.inv pos.line st) t b st k:=h
  cases hi:Γ.inv pos.line st with
  |none=>rw[hi]at h;exact h.elim
  |some L=>rw[hi]at h;exact xN S h I hx q
theorem vA (O:X.Ok)(G:aH X Γ T)(S:Sound X Γ F)(h:C5 Γ T F c st k)(I:Inv X st s)(hx:av X Γ.ke E)(q:bh X k Q):Wp X (exec c X.env) Q E s:=by
 cases c with
 |Assign ts e _=>exact BU O G S h I hx q
 |Expr e _=>exact vn O S h I hx q
 |Return o _=>cases o with
  |some e=>exact wpAny_Return_some (S.ev _ _ _ _ _ E h I hx λsv aq v s1 I1 le r hk=>q (.ret sv) _ _ _ I1 ⟨v,rfl,r⟩ hk)
  |none=>exact wpAny_Return_none (q (.ret .none) _ _ _ I ⟨.none,rfl,rfl⟩ h)
 |If t b o _=>exact Er S h I hx q
 |Continue _=>exact wpAny_Continue (q .cont _ _ _ I rfl h)
 |Pass _=>exact wpAny_Pass (q .next _ _ _ I rfl h)
 |While t b o pos=>exact uy G S h I hx q
 |_=>exact G.stmt F _ _ _ _ _ E S h I hx q
noncomputable def bE (Γ:bc)(T:Ext):Nat→bt
 |0=>⟨λ_ _ _=>False,λ_ _ _=>False,λ_ _ _=>False⟩
 |n+1=>⟨y0 Γ T (bE Γ T n),Dw Γ T (bE Γ T n),C5 Γ T (bE Γ T n)⟩
theorem bZ (O:X.Ok)(G:aH X Γ T):∀n,Sound X Γ (bE Γ T n)
 |0=>⟨λ_ _ _ _ _ _ h=>h.elim,λ_ _ _ _ _ _ h=>h.elim,λ_ _ _ _ _ _ h=>h.elim⟩
 |n+1=>⟨λ_ _ _ _ _ _ h I hx q=>oe O G (bZ O G n) h I hx q,λ_ _ _ _ _ _ h I hx q=>xT O G (bZ O G n) h I hx q,λ_ _ _ _ _ _ h I hx q=>vA O G (bZ O G n) h I hx q⟩
end
noncomputable def qO:List SV→Option (List Int)
 |[]=>some []
 |a::r=>a.int?.bind λi=>(qO r).bind λl=>some (i::l)
noncomputable def qC:List SV→Option (List Str)
 |[]=>some []
 |a::r=>a.b7.bind λi=>(qC r).bind λl=>some (i::l)
theorem n8 (r:IR D xs vs):∀{ns:List Int},qO xs=some ns→Qz vs ns:=by
 induction r with
 |nil=>intro ns h;cases h;exact .nil
 |@cons a v xs vs ra rs ih=>
  intro ns h
  obtain⟨i,hi,h⟩:=bO h
  obtain⟨l,hl,h⟩:=bO h
  rcases Pd h with rfl
  rcases SV.aX hi ra with⟨t,rfl⟩
  exact .cons _ _ (ih hl)
theorem nD (r:IR D xs vs):∀{ns:List Str},qC xs=some ns→StrsAre vs ns:=by
 induction r with
 |nil=>intro ns h;cases h;exact .nil
 |@cons a v xs vs ra rs ih=>
  intro ns h
  obtain⟨i,hi,h⟩:=bO h
  obtain⟨l,hl,h⟩:=bO h
  rcases Pd h with rfl
  rcases SV.bA hi ra with⟨t,rfl⟩
  exact .cons _ _ (ih hl)
noncomputable def gw:List Int:=[34,39,59,40,41,91,93,35,96,44]
noncomputable def ym:List (Int×Str):=[(40,"("),(41,")"),(91,"["),(93,"]"),(39,"'"),(96,"backquote")]
noncomputable def bb (i:Int):Option Str:=(ym.find? λp=>p.1==i).map (·.2)
noncomputable def oh:List (Str×Str):=[("(",")"),("spans",")"),("[","]"),("code","]")]
noncomputable def kK:List (Str×Str):=[("'","quote"),("function","function"),("backquote","`"),(",",","),(",@",",@")]
noncomputable def eX (x:Str):List (Str×Str)→Option Str
 |[]=>none
 |(y,v)::r=>match y==x with
  |true=>some v
  |false=>eX x r
theorem sZ (P:PJ):(Kf P).lookup 171=some ⟨.type "tuple",none,.seq #[.int 34 525,.int 39 526,.int 59 527,.int 40 528,.int 41 529,.int 91 530,.int 93 531,.int 35 532,.int 96 533,.int 44 534],#[]⟩:=by kernel_rfl
noncomputable abbrev dQ:Array PX:=#[⟨40,.int 40 506,.str "(" 507⟩,⟨41,.int 41 508,.str ")" 509⟩,⟨91,.int 91 510,.str "[" 511⟩,⟨93,.int 93 512,.str "]" 513⟩,⟨39,.int 39 514,.str "'" 515⟩,⟨96,.int 96 516,.str "backquote" 517⟩]
theorem y' (P:PJ):(Kf P).lookup 170=some ⟨.type "dict",none,.dict dQ 6,#[]⟩:=by kernel_rfl
noncomputable abbrev uB (P:PJ):Array PX:=#[⟨kh P "(",.str "(" 927,.str ")" 928⟩,⟨kh P "spans",.str "spans" 929,.str ")" 930⟩,⟨kh P "[",.str "[" 931,.str "]" 932⟩,⟨kh P "code",.str "code" 933,.str "]" 934⟩]
theorem pg (P:PJ):(Kf P).lookup 445=some ⟨.type "dict",none,.dict (uB P) 4,#[]⟩:=by kernel_rfl
noncomputable abbrev qb (P:PJ):Array PX:=#[⟨kh P "'",.str "'" 940,.str "quote" 941⟩,⟨kh P "function",.str "function" 942,.str "function" 943⟩,⟨kh P "backquote",.str "backquote" 944,.str "`" 945⟩,⟨kh P ",",.str "," 946,.str "," 947⟩,⟨kh P ",@",.str ",@" 948,.str ",@" 949⟩]
theorem nO (P:PJ):(Kf P).lookup 446=some ⟨.type "dict",none,.dict (qb P) 5,#[]⟩:=by kernel_rfl
inductive nu:List PX→List (Str×Str)→Prop
 |nil:nu [] []
 |cons {h:Int}{x y:Str}{t u:Tok}{es:List PX}{l:List (Str×Str)}:nu es l→nu (⟨h,.str x t,.str y u⟩::es) ((x,y)::l)
theorem nu.find {es:List PX}{l:List (Str×Str)}(h:nu es l)(x:Str):nZ (eX x l) (λy=>∃t,Su Q5 es.toArray x=some (.str y t)) (Su Q5 es.toArray x=none):=by
 induction h with
 |nil=>rfl
 |@cons hh y z t u es l _ ih=>
  have e:eX x ((y,z)::l)=match y==x with|true=>some z|false=>eX x l:=rfl
  rw[e]
  clear e
  unfold Su at ih ⊢
  rw[List.find?_toArray]at ih ⊢
  rw[RW]
  cases q:(y==x)with
  |true=>
   have:Q5 x (.str y t)=true:=q
   simp only[this]
   exact⟨u,rfl⟩
  |false=>
   have:Q5 x (.str y t)=false:=q
   simp only[this]
   exact ih
noncomputable def eF (a:Addr):Option (List (Str×Str)):=match PD a 445 with
 |true=>some oh
 |false=>match PD a 446 with
  |true=>some kK
  |false=>none
def y1 (P:PJ)(a:Addr)(l:List (Str×Str)):Prop:=∃es n,(Kf P).lookup a=some ⟨.type "dict",none,.dict es n,#[]⟩∧KeysLit P es.toList∧nu es.toList l∧(a==SW)=false
theorem uO (P:PJ):y1 P 445 oh:=⟨_,_,pg P,⟨⟨_,_,rfl,rfl⟩,⟨_,_,rfl,rfl⟩,⟨_,_,rfl,rfl⟩,⟨_,_,rfl,rfl⟩,trivial⟩,.cons (.cons (.cons (.cons .nil))),rfl⟩
theorem s6 (P:PJ):y1 P 446 kK:=⟨_,_,nO P,⟨⟨_,_,rfl,rfl⟩,⟨_,_,rfl,rfl⟩,⟨_,_,rfl,rfl⟩,⟨_,_,rfl,rfl⟩,⟨_,_,rfl,rfl⟩,trivial⟩,.cons (.cons (.cons (.cons (.cons .nil)))),rfl⟩
theorem eH (h:eF a=some l)(P:PJ):y1 P a l:=by
 rcases mB h with⟨q,h⟩|⟨_,h⟩
 ·rcases Pu q with rfl
  cases h
  exact uO P
 ·rcases dM h with⟨q,h⟩
  rcases Pu q with rfl
  cases h
  exact s6 P
noncomputable def IV (op:CmpOp)(b:Bool):Option Bool:=match op with
 |.In=>some b
 |.NotIn=>some (!b)
 |_=>none
def LC (op:CmpOp)(r:SV)(st:St)(k:KV):Prop:=match op with
 |.In=>k r st
 |_=>False
theorem qg {st:St}(h:LC op r st k):op=.In∧k r st:=by
 cases op with
 |In=>exact⟨rfl,h⟩
 |_=>exact h.elim
def NG (op:CmpOp)(a:SV)(st:St)(k:KV):Prop:=ag a.int? λi=>LC op (.bool (gw.any (·==i))) st k
def N7 (op:CmpOp)(a:SV)(st:St)(k:KV):Prop:=ag a.int? λi=>LC op (.bool (bb i).isSome) st k
def Ob (op:CmpOp)(a:SV)(l:List (Str×Str))(st:St)(k:KV):Prop:=ag a.b7 λx=>LC op (D9 a.eO (eX x l).isSome) st k
def JV (op:CmpOp)(a:SV)(d:Addr)(st:St)(k:KV):Prop:=match PD d 171 with
 |true=>NG op a st k
 |false=>match PD d 170 with
  |true=>N7 op a st k
  |false=>ag (eF d) λl=>Ob op a l st k
def Ms (op:CmpOp)(t b:Bool)(st:St)(k:KV):Prop:=ag (IV op b) λr=>k (D9 t r) st
def yn (op:CmpOp)(a:SV)(xs:List SV)(st:St)(k:KV):Prop:=ag a.b7 λi=>ag (qC xs) λns=>Ms op (a.eO&&xs.all SV.eO) (ns.any (·==i)) st k
def Ky (op:CmpOp)(a:SV)(xs:List SV)(st:St)(k:KV)(i:Int):Prop:=nZ (qO xs) (λns=>Ms op a.eO (ns.any (·==i)) st k) (yn op a xs st k)
def Ln (op:CmpOp)(a:SV)(xs:List SV)(st:St)(k:KV):Prop:=nZ a.int? (Ky op a xs st k) (yn op a xs st k)
def Jv (op:CmpOp)(a:SV)(o:Option HE)(st:St)(k:KV):Prop:=ag o λe=>match e with
 |.tup _ xs=>Ln op a xs st k
 |_=>False
def Fg (op:CmpOp)(a b:SV)(st:St)(k:KV):Prop:=match b with
 |.top d=>JV op a d st k
 |_=>Jv op a (st.ent b) st k
theorem lD {st:St}(O:X.Ok)(I:Inv X st s):s.heap.MapOf (intKind pw X.w) 170 (λk=>Su RD dQ k):=
 ⟨_,dQ,6,O.dg I _ _ (y' X.w.params),⟨rfl,rfl,rfl⟩,rfl,λe he=>by
  have:e∈dQ.toList:=Array.mem_toList_iff.mpr he
  simp only[QB,Qv,or_false]at this
  rcases this with rfl|rfl|rfl|rfl|rfl|rfl
  ·exact⟨40,rfl,show(40:Int)=hashInt 40 by decide⟩
  ·exact⟨41,rfl,show(41:Int)=hashInt 41 by decide⟩
  ·exact⟨91,rfl,show(91:Int)=hashInt 91 by decide⟩
  ·exact⟨93,rfl,show(93:Int)=hashInt 93 by decide⟩
  ·exact⟨39,rfl,show(39:Int)=hashInt 39 by decide⟩
  ·exact⟨96,rfl,show(96:Int)=hashInt 96 by decide⟩,λ_=>rfl⟩
inductive tU:List PX→List (Int×Str)→Prop
 |nil:tU [] []
 |cons {h x:Int}{y:Str}{t u:Tok}{es:List PX}{l:List (Int×Str)}:tU es l→tU (⟨h,.int x t,.str y u⟩::es) ((x,y)::l)
theorem tU.find {es:List PX}{l:List (Int×Str)}(h:tU es l)(i:Int):nZ ((l.find? λp=>p.1==i).map (·.2)) (λy=>∃t,Su RD es.toArray i=some (.str y t)) (Su RD es.toArray i=none):=by
 induction h with
 |nil=>rfl
 |@cons hh x y t u es l _ ih=>
  unfold Su at ih ⊢
  rw[List.find?_toArray]at ih ⊢
  rw[RW,RW]
  cases q:(x==i)with
  |true=>
   have:RD i (.int x t)=true:=q
   simp only[this]
   exact⟨u,rfl⟩
  |false=>
   have:RD i (.int x t)=false:=q
   simp only[this]
   exact ih
theorem jU (i:Int):nZ (bb i) (λy=>∃t,Su RD dQ i=some (.str y t)) (Su RD dQ i=none):=(show tU dQ.toList ym from .cons (.cons (.cons (.cons (.cons (.cons .nil)))))).find i
theorem qr (i:Int):(Su RD dQ i).isSome=(bb i).isSome:=by
 rcases cw (jU i)with⟨y,hy,t',e'⟩|⟨hy,e'⟩<;>rw[e',hy]<;>rfl
theorem nu.some (h:nu es.toList l)(x:Str):(Su Q5 es x).isSome=(eX x l).isSome:=by
 rcases cw (h.find x)with⟨y,hy,t',e'⟩|⟨hy,e'⟩<;>rw[hy,show Su Q5 es x=_ from e']<;>rfl
section
variable {X:Fx}{st:St}{s:Pl}{E:Value→Pl→Prop}{op:CmpOp}{a b:SV}{v u:Value}{k:KV}{Q:Value→Pl→Prop}
theorem F7 (O:X.Ok)(h:NG op a st k)(I:Inv X st s)(ra:a.R st.ad v)(q:aj X st k Q):Wp X (Qr op v (.ref 171)) Q E s:=by
 obtain⟨i,hi,h⟩:=aa h
 rcases qg h with⟨rfl,h⟩
 rcases SV.aX hi ra with⟨t,rfl⟩
 exact in_tuple_ints (tupK (O.dg I) (sZ X.w.params)) (ns:=gw) (.cons _ _ (.cons _ _ (.cons _ _ (.cons _ _ (.cons _ _ (.cons _ _ (.cons _ _ (.cons _ _ (.cons _ _ (.cons _ _ .nil)))))))))) (q.of_eq (sv:=.bool (gw.any (·==i))) I rfl h)
theorem Fj (O:X.Ok)(h:N7 op a st k)(I:Inv X st s)(ra:a.R st.ad v)(q:aj X st k Q):Wp X (Qr op v (.ref 170)) Q E s:=by
 obtain⟨i,hi,h⟩:=aa h
 rcases qg h with⟨rfl,h⟩
 rcases SV.aX hi ra with⟨t,rfl⟩
 refine wpAny_in_of (intKind_is pw X.w i t) rfl (lD O I) (q (.bool (bb i).isSome) _ _ _ (I.aO _) (.refl _) ?_ h)
 show _=Value.bool _
 rw[qr]
theorem Fm (hl:y1 X.w.params d l)(O:X.Ok)(h:Ob op a l st k)(I:Inv X st s)(ra:a.R st.ad v)(q:aj X st k Q):Wp X (Qr op v (.ref d)) Q E s:=by
 obtain⟨x,hx,h⟩:=aa h
 rcases qg h with⟨rfl,h⟩
 rcases SV.bA hx ra with⟨t,rfl⟩
 obtain⟨es,n,hK,hk,hs,hlo⟩:=hl
 refine wpAny_in_of (Sv pw X.w x t) hlo (mapOf_K (prog:=pw) (O.dg I) hK hk) (q (D9 a.eO (eX x l).isSome) _ _ _ (I.aO _) (.refl _) ?_ h)
 rw[hs.some]
 exact jo
theorem Ax (O:X.Ok)(h:JV op a d st k)(I:Inv X st s)(ra:a.R st.ad v)(q:aj X st k Q):Wp X (Qr op v (.ref d)) Q E s:=by
 rcases mP h with⟨e,h1⟩|⟨_,h1⟩
 ·rcases Pu e with rfl
  exact F7 O h1 I ra q
 ·rcases mP h1 with⟨e,h2⟩|⟨_,h2⟩
  ·rcases Pu e with rfl
   exact Fj O h2 I ra q
  ·obtain⟨l,hl,h3⟩:=aa h2
   exact Fm (eH hl _) O h3 I ra q
theorem yx {st:St}(h:Ms op t c st k):∃r,IV op c=some r∧k (D9 t r) st:=aa h
theorem ny (ht:IsTup s.heap ta vs.toArray)(ir:IR st.ad xs vs)(h:yn op a xs st k)(I:Inv X st s)(ra:a.R st.ad v)(q:aj X st k Q):Wp X (Qr op v (.ref ta)) Q E s:=by
 obtain⟨i,hi,h⟩:=aa h
 obtain⟨ns,hn,h⟩:=aa h
 rcases SV.bA hi ra with⟨t,rfl⟩
 obtain⟨r,hr,h⟩:=yx h
 cases op with
 |In=>cases hr;exact in_tuple_strs ht (by simpa using nD ir hn) (q.of_eq I jo h)
 |NotIn=>cases hr;exact notin_tuple_strs ht (by simpa using nD ir hn) (q.of_eq I jo h)
 |_=>exact absurd hr nofun
theorem BS (ht:IsTup s.heap ta vs.toArray)(ir:IR st.ad xs vs)(h:Ln op a xs st k)(I:Inv X st s)(ra:a.R st.ad v)(q:aj X st k Q):Wp X (Qr op v (.ref ta)) Q E s:=by
 rcases cw h with⟨i,hi,h⟩|⟨_,h⟩
 ·rcases cw h with⟨ns,hn,h⟩|⟨_,h⟩
  ·rcases SV.aX hi ra with⟨t,rfl⟩
   obtain⟨r,hr,h⟩:=yx h
   cases op with
   |In=>cases hr;exact in_tuple_ints ht (by simpa using n8 ir hn) (q.of_eq I jo h)
   |NotIn=>cases hr;exact notin_tuple_ints ht (by simpa using n8 ir hn) (q.of_eq I jo h)
   |_=>exact absurd hr nofun
  ·exact ny ht ir h I ra q
 ·exact ny ht ir h I ra q
theorem Aa (h:Jv op a (st.ent b) st k)(I:Inv X st s)(ra:a.R st.ad v)(rb:b.R st.ad u)(q:aj X st k Q):Wp X (Qr op v u) Q E s:=by
 cases he:st.ent b with
 |none=>rw[he]at h;exact h.elim
 |some e=>
  rw[he]at h
  cases e with
  |tup ta xs=>
   obtain⟨rfl,vs,ir,hg⟩:=I.wY rb he
   exact BS ⟨_,hg,rfl,0,rfl⟩ ir h I ra q
  |_=>exact h.elim
theorem rD (O:X.Ok)(h:Fg op a b st k)(I:Inv X st s)(ra:a.R st.ad v)(rb:b.R st.ad u)(q:aj X st k Q):Wp X (Qr op v u) Q E s:=by
 cases b with
 |top d=>cases rb;exact Ax O h I ra q
 |_=>exact Aa (by exact h) I ra rb q
end
section
variable {X:Fx}{st:St}{s:Pl}{k:KV}{Q:Value→Pl→Prop}
theorem aj.i {i:Int}(q:aj X st k Q)(I:Inv X st s)(h:k (.int i) st):Q (.int i t) s:=q (.int i) st _ s I (.refl _) ⟨t,rfl⟩ h
theorem aj.z (q:aj X st k Q)(I:Inv X st s)(h:k (.str x) st):Q (.str x t) s:=q (.str x) st _ s I (.refl _) ⟨t,rfl⟩ h
theorem aj.b {b:Bool}(q:aj X st k Q)(I:Inv X st s)(h:k (.bool b) st):Q (.bool b) s:=q (.bool b) st _ s I (.refl _) rfl h
end
theorem Inv.nlist {st:St}(I:Inv X st s)(r:sv.R st.ad v)(he:st.ent sv=some (.nlist a cs)):v=.ref a∧∃vs n,Qz vs cs∧s.heap.get? a=some (listOf vs.toArray n):=by
 refine⟨St.aR he r,?_⟩
 obtain⟨m,P,le,Q',D,d1,d2,H,F,N,nd,_⟩:=I.cut he
 obtain⟨vs,n,ir,rfl⟩:=H.Ez
 exact⟨vs,n,ir,(N _ (Pb _ (.head _))).1⟩
theorem Inv.slist {st:St}(I:Inv X st s)(r:sv.R st.ad v)(he:st.ent sv=some (.slist a cs)):v=.ref a∧∃vs n,StrsAre vs cs∧s.heap.get? a=some (listOf vs.toArray n):=by
 refine⟨St.aR he r,?_⟩
 obtain⟨m,P,le,Q',D,d1,d2,H,F,N,nd,_⟩:=I.cut he
 obtain⟨vs,n,ir,rfl⟩:=H.pA
 exact⟨vs,n,ir,(N _ (Pb _ (.head _))).1⟩
theorem Inv.vlist {st:St}(I:Inv X st s)(r:sv.R st.ad v)(he:st.ent sv=some (.vlist a vs)):v=.ref a∧∃n,s.heap.get? a=some (listOf vs.toArray n):=by
 refine⟨St.aR he r,?_⟩
 obtain⟨m,P,le,Q',D,d1,d2,H,F,N,nd,_⟩:=I.cut he
 rcases H.dW with⟨n,rfl⟩
 exact⟨n,(N _ (Pb _ (.head _))).1⟩
def jO (sc:Addr×List Int)(fz:ah)(u:Value)(n:Nat):Prop:=(u=.ref sc.1∧n=sc.2.length)∨∃(l:Addr)(vs:List Value)(k:Nat),u=.ref l∧(l,listOf vs.toArray k)∈fz∧n=vs.length
noncomputable def cu:List Str:=["(",")","[","]","'","ab ","c"," . "," ","\n",";([\n","a "," . b)","(a"]
noncomputable def mI:List Value:=[.str "(" 1307,.str ")" 1308,.str "[" 1309,.str "]" 1310,.str "'" 1311,.str "ab " 1312,.str "c" 1313,.str " . " 1314,.str " " 1315,.str "\n" 1316,.str ";([\n" 1317,.str "a " 1318,.str " . b)" 1319,.str "(a" 1320]
theorem lK (P:PJ):(Kf P).lookup 693=some (listOf mI.toArray 0):=by kernel_rfl
def pC (n:Nat)(st:St)(k:KV):Prop:=n<2^60∧k (.int ((n:Nat):Int)) st
def Li (sc:Addr×List Int)(u:Value)(st:St)(k:KV):Prop:=∃n:Nat,jO sc st.fz u n∧n<2^60∧k (.int ((n:Nat):Int)) st
def GZ (o:Option Str)(st:St)(k:KV):Prop:=ag o λx=>pC x.length st k
def Ff (sc:Addr×List Int)(sv:SV)(st:St)(k:KV):Prop:=match sv with
 |.opq u=>Li sc u st k
 |.top d=>eT (PD d 693) (pC 14 st k)
 |_=>GZ sv.b7 st k
def Ma (sc:Addr×List Int)(e:HE)(sv:SV)(st:St)(k:KV):Prop:=match e with
 |.list _ pre suf=>pC (pre.length+suf.length) st k
 |.nlist _ cs=>pC cs.length st k
 |.slist _ cs=>pC cs.length st k
 |.vlist _ cs=>pC cs.length st k
 |_=>Ff sc sv st k
def LY (sc:Addr×List Int)(o:Option HE)(sv:SV)(st:St)(k:KV):Prop:=match o with
 |some e=>Ma sc e sv st k
 |none=>Ff sc sv st k
def E3 (sc:Addr×List Int)(sv:SV)(st:St)(k:KV):Prop:=LY sc (st.ent sv) sv st k
theorem Inv.frozen {st:St}(I:Inv X st s)(h:p∈st.fz):s.heap.get? p.1=some p.2:=by
 obtain⟨m,l,l',_,_,_,F,N,_⟩:=I.ex
 exact(N p (Pb _ (Pb _ (Pb _ h)))).1
section
variable {X:Fx}{st:St}{s:Pl}{E:Value→Pl→Prop}{k:KV}{Q:Value→Pl→Prop}
theorem gJ {vs:List Value}(hg:s.heap.get? a=some (listOf vs.toArray nn))(hl:vs.length=n)(h:pC n st k)(I:Inv X st s)(q:aj X st k Q):Wp X (call (.builtin "len") [.ref a]) Q E s:=by
 subst hl
 exact len_list (ay hg) (Int.ofNat_lt.mpr (PF h.1 (by decide))) (q.i (I.aO _) h.2)
theorem BW (O:X.Ok)(h:Li (X.scr,X.sns) u st k)(I:Inv X st s)(q:aj X st k Q):Wp X (call (.builtin "len") [u]) Q E s:=by
 obtain⟨n,hl,h1,h2⟩:=h
 rcases hl with⟨rfl,rfl⟩|⟨l,vs,nn,rfl,hm,rfl⟩
 ·obtain⟨vs,hl,hi,hz⟩:=O.scr
  obtain⟨m,l1,l2,_,_,_,F0,_⟩:=I.ex
  have hls:s.heap.IsList X.scr vs.toArray:=hl.at λo e=>F0.keep _ o e
  exact len_list hls (by rw[Pw,hi.length];exact Int.ofNat_lt.mpr (PF h1 (by decide))) (by rw[Pw,hi.length];exact q.i (I.aO _) h2)
 ·exact gJ (I.frozen hm) rfl ⟨h1,h2⟩ I q
theorem zQ {sv:SV}(h:GZ sv.b7 st k)(I:Inv X st s)(r:sv.R st.ad v)(q:aj X st k Q):Wp X (call (.builtin "len") [v]) Q E s:=by
 cases hx:sv.b7 with
 |none=>rw[hx]at h;exact h.elim
 |some x=>
  rw[hx]at h
  rcases SV.bA hx r with⟨t,rfl⟩
  exact P.len_str (Int.not_le.mpr (Int.ofNat_lt.mpr (PF h.1 (by decide)))) (q.i (I.aO _) h.2)
theorem rg (O:X.Ok)(h:Ff (X.scr,X.sns) sv st k)(I:Inv X st s)(r:sv.R st.ad v)(q:aj X st k Q):Wp X (call (.builtin "len") [v]) Q E s:=by
 cases sv with
 |opq u=>cases r;exact BW O h I q
 |top d=>
  rcases aA h with⟨e,h⟩
  rw[show v=.ref d from r,Pu e]
  exact gJ (O.dg I _ _ (lK _)) rfl h I q
 |_=>exact zQ (by exact h) I r q
theorem AY (O:X.Ok)(h:E3 (X.scr,X.sns) sv st k)(I:Inv X st s)(r:sv.R st.ad v)(q:aj X st k Q):Wp X (call (.builtin "len") [v]) Q E s:=by
 unfold E3 at h
 cases he:st.ent sv with
 |none=>rw[he]at h;exact rg O h I r q
 |some e=>
  rw[he]at h
  cases e with
  |list a pre suf=>exact J4 I r he h.1 λv' s' I' r'=>q.of_eq I' r' h.2
  |nlist a cs=>obtain⟨rfl,vs,n,ir,hg⟩:=I.nlist r he;exact gJ hg ir.length h I q
  |slist a cs=>obtain⟨rfl,vs,n,ir,hg⟩:=I.slist r he;exact gJ hg ir.length h I q
  |vlist a vs=>obtain⟨rfl,n,hg⟩:=I.vlist r he;exact gJ hg rfl h I q
  |_=>exact rg O h I r q
end
def NV (cs:List Int)(i:SV)(st:St)(k:KV):Prop:=ag i.int? λj=>(0≤j∧j<cs.length∧cs.length<2^60)∧k (.int (cs.getD j.toNat 0)) st
def NT (xs:List SV)(i:SV)(st:St)(k:KV):Prop:=ag i.int? λj=>∃n sx,j=((n:Nat):Int)∧n<2^60∧xs[n]?=some sx∧k sx st
def N9 (vs:List Value)(i:SV)(st:St)(k:KV):Prop:=ag i.int? λj=>∃n v,j=((n:Nat):Int)∧n<2^60∧vs[n]?=some v∧k (.opq v) st
def NX (ws:List Str)(i:SV)(st:St)(k:KV):Prop:=match i with
 |.num n=>match decide (n=-1)with
  |true=>∃x,ws.getLast?=some x∧k (.str x) st
  |false=>False
 |_=>False
def Ju (xs:List SV)(j:Nat)(st:St)(k:KV):Prop:=ag (xs[j]?) λx=>match R7 j 1000 with
 |true=>k x st
 |false=>False
def Nq (xs:List SV)(i:SV)(st:St)(k:KV):Prop:=match i with
 |.num n=>match n with
  |.ofNat j=>Ju xs j st k
  |.negSucc _=>False
 |_=>False
def NF (i:SV)(st:St)(k:KV):Prop:=ag i.int? λj=>∃y,bb j=some y∧k (.str y) st
def MR (t:Bool)(o:Option Str)(st:St)(k:KV):Prop:=ag o λy=>k (if t then .txt y else .str y) st
def ND (l:List (Str×Str))(i:SV)(st:St)(k:KV):Prop:=ag i.b7 λx=>MR i.eO (eX x l) st k
inductive Nv (j:Int)(P:Str→Prop):Prop
 |mk (n:Nat)(x:Str)(e:j=(n:Int))(hx:cu[n]?=some x)(h:P x)
def Kj (i:SV)(st:St)(k:KV):Prop:=ag i.int? λj=>Nv j λx=>k (.str x) st
def w4 (d:Addr)(i:SV)(st:St)(k:KV):Prop:=match PD d 170 with
 |true=>NF i st k
 |false=>match eF d with
  |some l=>ND l i st k
  |none=>eT (PD d 693) (Kj i st k)
def Np (u:Value)(i:SV)(st:St)(k:KV):Prop:=ag i.int? λj=>∃(l:Addr)(vs:List Value)(nn n:Nat)(v:Value),u=.ref l∧(l,listOf vs.toArray nn)∈st.fz∧j=((n:Nat):Int)∧n<2^60∧vs[n]?=some v∧k (.opq v) st
def Nw (x:Str)(i:SV)(st:St)(k:KV):Prop:=ag i.int? λj=>(-(x.length:Int)≤j∧j<x.length∧x.length<2^60)∧k (.str (Qm x j)) st
def Nr (o:Option Str)(i:SV)(st:St)(k:KV):Prop:=ag o λx=>Nw x i st k
def Od (o i:SV)(st:St)(k:KV):Prop:=match o with
 |.top d=>w4 d i st k
 |.opq u=>Np u i st k
 |_=>Nr o.b7 i st k
def Oh (e:HE)(i:SV)(st:St)(k:KV):Prop:=match e with
 |.nlist _ cs=>NV cs i st k
 |.list _ pre suf=>NT (pre++suf) i st k
 |.vlist _ vs=>N9 vs i st k
 |.slist _ ws=>NX ws i st k
 |.tup _ xs=>Nq xs i st k
 |_=>False
def Ou (e:Option HE)(o i:SV)(st:St)(k:KV):Prop:=match e with
 |some e=>Oh e i st k
 |none=>Od o i st k
def yo (o i:SV)(st:St)(k:KV):Prop:=Ou (st.ent o) o i st k
theorem zZ (h:Qz vs cs)(hn:n<cs.length):∃t,vs[n]?=some (.int (cs.getD n 0) t):=by
 induction h generalizing n with
 |nil=>exact absurd hn (RY _)
 |cons a t _ ih=>
  cases n with
  |zero=>exact⟨t,rfl⟩
  |succ n=>simpa using ih (by simpa using hn)
theorem uA (h:StrsAre vs cs)(e:cs.getLast?=some x):∃t,vs[cs.length-1]?=some (.str x t)∧0<cs.length:=by
 induction h with
 |nil=>cases e
 |@cons a t vs cs h' ih=>
  cases h' with
  |nil=>cases e;exact⟨t,rfl,Nat.one_pos⟩
  |cons b u h2=>
   obtain⟨t',e',_⟩:=ih (by simpa using e)
   exact⟨t',by simpa using e',by simp⟩
section
variable {X:Fx}{st:St}{s:Pl}{E:Value→Pl→Prop}{e1 e2:Expr}{o i:SV}{v u:Value}{k:KV}{Q:Value→Pl→Prop}
theorem du {vs:List Value}(hs:aQ e2=true)(hg:s.heap.get? a=some (listOf vs.toArray nn))(h:Wp X (getItem (.ref a) u) Q E s):Wp X (PN e1 e2 (.ref a) u) Q E s:=
 RC (T:="list") ⟨_,hg,rfl⟩ slot_list_getitem.lookup h (aT hs)
theorem EO (hs:aQ e2=true)(ir:Qz vs cs)(hg:s.heap.get? a=some (listOf vs.toArray nn))(h:NV cs i st k)(I:Inv X st s)(rb:i.R st.ad u)(q:aj X st k Q):Wp X (PN e1 e2 (.ref a) u) Q E s:=by
 obtain⟨j,hj,h⟩:=aa h
 rcases SV.aX hj rb with⟨t,rfl⟩
 obtain⟨⟨h0,h1,h2⟩,hk⟩:=h
 rcases zZ ir (n:=j.toNat) ((Int.toNat_lt h0).mpr h1)with⟨t',ht'⟩
 exact du hs hg (Rn (ay hg) h0 (by lia) (by simpa using ht') (q.i I hk))
theorem DH {pre:List SV}(hs:aQ e2=true)(he:st.ent o=some (.list a pre suf))(h:NT (pre++suf) i st k)(I:Inv X st s)(ra:o.R st.ad v)(rb:i.R st.ad u)(q:aj X st k Q):Wp X (PN e1 e2 v u) Q E s:=by
 obtain⟨rfl,vs,nn,ir,hg⟩:=I.list ra he
 obtain⟨j,hj,h⟩:=aa h
 rcases SV.aX hj rb with⟨t,rfl⟩
 obtain⟨n,sx,rfl,hn,hx,hk⟩:=h
 exact du hs hg (xd I ra he hx hn λv' r'=>q.of_eq I r' hk)
theorem Fv (hs:aQ e2=true)(hg:s.heap.get? a=some (listOf vs.toArray nn))(h:N9 vs i st k)(I:Inv X st s)(rb:i.R st.ad u)(q:aj X st k Q):Wp X (PN e1 e2 (.ref a) u) Q E s:=by
 obtain⟨j,hj,h⟩:=aa h
 rcases SV.aX hj rb with⟨t,rfl⟩
 obtain⟨n,v,rfl,hn,hx,hk⟩:=h
 exact du hs hg (Rn (ay hg) (PG _) (by lia) (by simpa using hx) (q (.opq v) _ _ _ I (.refl _) rfl hk))
theorem DM (hs:aQ e2=true)(ir:StrsAre vs ws)(hg:s.heap.get? a=some (listOf vs.toArray nn))(h:NX ws i st k)(I:Inv X st s)(rb:i.R st.ad u)(q:aj X st k Q):Wp X (PN e1 e2 (.ref a) u) Q E s:=by
 cases i with
 |num n=>
  rcases rb with⟨t,rfl⟩
  rcases aA h with⟨hn,h⟩
  rcases of_decide_eq_true hn with rfl
  obtain⟨x,hx,hk⟩:=h
  obtain⟨t',ht',hpos⟩:=uA ir hx
  have hl:=ir.length
  refine du hs hg (wpAny_getItem_list_neg (ay hg) (by decide) (by rw[Pw,hl];lia) (by decide) (x:=.str x t') ?_ (q.z I hk))
  have e:((-1)+((vs.toArray.size:Nat):Int)).toNat=ws.length-1:=by
   rw[Pw,hl]
   cases ws.length with
   |zero=>rfl
   |succ m=>rw[Int.natCast_succ,Int.add_comm,Int.add_neg_cancel_right];exact Qf m
  rw[e];simpa using ht'
 |_=>exact h.elim
theorem Eu (hs:aQ e2=true)(ir:IR st.ad xs vs)(hg:s.heap.get? a=some (cZ vs))(h:Nq xs i st k)(I:Inv X st s)(rb:i.R st.ad u)(q:aj X st k Q):Wp X (PN e1 e2 (.ref a) u) Q E s:=by
 cases i with
 |num n=>cases n with
  |ofNat j=>
   rcases rb with⟨t,rfl⟩
   replace h:Ju xs j st k:=h
   obtain⟨x,hx,h⟩:=aa h
   rcases aA h with⟨hj,h⟩
   obtain⟨v',hv,hr⟩:=ir.get hx
   have h2:=PT hj
   have h3:j<vs.length:=(List.getElem?_eq_some_iff.mp hv).1
   refine RC (T:="tuple") ⟨_,hg,rfl⟩ slot_tuple_getitem.lookup (getItem_tuple ⟨_,hg,rfl,0,rfl⟩ (j:=j) (by show _≤((j:Nat):Int);lia) (by show((j:Nat):Int)<_;lia) ?_ (by simpa using hv) (q.of_eq I hr h)) (aT hs)
   unfold seqIndex?
   have h4:¬((j:Nat):Int)<0:=by lia
   simp[h4]
   lia
  |negSucc _=>exact h.elim
 |_=>exact h.elim
theorem FK (O:X.Ok)(hs:aQ e2=true)(h:NF i st k)(I:Inv X st s)(rb:i.R st.ad u)(q:aj X st k Q):Wp X (PN e1 e2 (.ref 170) u) Q E s:=by
 obtain⟨j,hj,h⟩:=aa h
 rcases SV.aX hj rb with⟨t,rfl⟩
 obtain⟨y,hy,hk⟩:=h
 have:=jU j
 rw[hy]at this
 rcases this with⟨t',ht'⟩
 have hm:=lD O I
 exact RC hm.typeIs slot_dict_getitem.lookup (wpAny_getItem_of (intKind_is pw X.w j t) hm ht' (q.z (I.aO _) hk)) (aT hs)
theorem Eh (hl:y1 X.w.params d l)(O:X.Ok)(hs:aQ e2=true)(h:ND l i st k)(I:Inv X st s)(rb:i.R st.ad u)(q:aj X st k Q):Wp X (PN e1 e2 (.ref d) u) Q E s:=by
 obtain⟨x,hx,h⟩:=aa h
 obtain⟨y,hy,h⟩:=aa h
 rcases SV.bA hx rb with⟨t,rfl⟩
 obtain⟨es,n,hK,hk,hs',hlo⟩:=hl
 have:=hs'.find x
 rw[hy]at this
 rcases this with⟨t',ht'⟩
 have hm:=mapOf_K (prog:=pw) (w:=X.w) (O.dg I) hK hk
 refine RC hm.typeIs slot_dict_getitem.lookup (wpAny_getItem_of (Sv pw X.w x t) hm (v:=.str y t') ht' ?_) (aT hs)
 cases q1:i.eO with
 |true=>rw[q1,if_pos rfl]at h;exact q (.txt y) st _ _ (I.aO _) (.refl _) ⟨_,rfl⟩ h
 |false=>rw[q1,if_neg nofun]at h;exact q.z (I.aO _) h
theorem xf (h:StrsAre vs cs){n:Nat}(e:cs[n]?=some x):∃t,vs[n]?=some (.str x t):=by
 induction h generalizing n with
 |nil=>rw[List.getElem?_nil]at e;exact nS e
 |cons y t _ ih=>cases n with
  |zero=>exact⟨t,Pd e▸rfl⟩
  |succ n=>exact ih e
theorem q7:StrsAre mI cu:=.cons _ _ (.cons _ _ (.cons _ _ (.cons _ _ (.cons _ _ (.cons _ _ (.cons _ _ (.cons _ _ (.cons _ _ (.cons _ _ (.cons _ _ (.cons _ _ (.cons _ _ (.cons _ _ .nil)))))))))))))
theorem qu (h:cu[n]?=some x):∃t,mI[n]?=some (.str x t)∧n<14:=
 let⟨t,e⟩:=xf q7 h
 ⟨t,e,(List.getElem?_eq_some_iff.mp h).1⟩
theorem Bb (O:X.Ok)(hs:aQ e2=true)(h:Kj i st k)(I:Inv X st s)(rb:i.R st.ad u)(q:aj X st k Q):Wp X (PN e1 e2 (.ref 693) u) Q E s:=by
 obtain⟨j,hj,n,x,rfl,hx,h⟩:=aa h
 rcases SV.aX hj rb with⟨t,rfl⟩
 obtain⟨t',ht,hn⟩:=qu hx
 have hg:=O.dg I _ _ (lK _)
 exact du hs hg (Rn (ay hg) (PG _) (Int.ofNat_lt.mpr (PF hn (by decide))) (by simpa using ht) (q.z I h))
theorem yB (O:X.Ok)(hs:aQ e2=true)(h:w4 d i st k)(I:Inv X st s)(rb:i.R st.ad u)(q:aj X st k Q):Wp X (PN e1 e2 (.ref d) u) Q E s:=by
 unfold w4 at h
 cases e:PD d 170 with
 |true=>
  rw[e]at h
  rcases Pu e with rfl
  exact FK O hs h I rb q
 |false=>
  rw[e]at h
  dsimp only at h
  cases hl:eF d with
  |some l=>rw[hl]at h;exact Eh (eH hl _) O hs h I rb q
  |none=>
   rw[hl]at h
   rcases aA h with⟨e3,h⟩
   rcases Pu e3 with rfl
   exact Bb O hs h I rb q
theorem FC (hs:aQ e2=true)(h:Np v i st k)(I:Inv X st s)(rb:i.R st.ad u)(q:aj X st k Q):Wp X (PN e1 e2 v u) Q E s:=by
 obtain⟨j,hj,h⟩:=aa h
 rcases SV.aX hj rb with⟨t,rfl⟩
 obtain⟨l,vs,nn,n,v,rfl,hm,rfl,hn,hx,hk⟩:=h
 have hg:s.heap.get? l=some (listOf vs.toArray nn):=I.frozen hm
 exact du hs hg (Rn (ay hg) (PG _) (by lia) (by simpa using hx) (q (.opq v) _ _ _ I (.refl _) rfl hk))
theorem D4 (hs:aQ e2=true)(h:Nw x i st k)(I:Inv X st s)(rb:i.R st.ad u)(q:aj X st k Q):Wp X (PN e1 e2 (.str x t) u) Q E s:=by
 obtain⟨j,hj,h⟩:=aa h
 rcases SV.aX hj rb with⟨t',rfl⟩
 obtain⟨⟨h0,h1,h2⟩,hk⟩:=h
 refine RC (T:="str") rfl slot_str_getitem.lookup ?_ (aT hs)
 have hc:=charAt_isSome h0 h1
 cases q1:Txt.charAt x j with
 |none=>rw[q1]at hc;exact absurd hc nofun
 |some c=>
  refine PyProof.Rows.getItem_str (c:=c) ?_ q1 ?_
  ·rw[decide_eq_false (by lia),decide_eq_false (by lia)];rfl
  ·have e:(⟨#[c]⟩:Str)=Qm x j:=by unfold Qm;rw[q1];rfl
   rw[e]
   exact q.z (I.aO _) hk
theorem ET (hs:aQ e2=true)(h:Nr o.b7 i st k)(I:Inv X st s)(ra:o.R st.ad v)(rb:i.R st.ad u)(q:aj X st k Q):Wp X (PN e1 e2 v u) Q E s:=by
 cases hx:o.b7 with
 |none=>rw[hx]at h;exact h.elim
 |some x=>rw[hx]at h;rcases SV.bA hx ra with⟨t,rfl⟩;exact D4 hs h I rb q
theorem DW (O:X.Ok)(hs:aQ e2=true)(h:Od o i st k)(I:Inv X st s)(ra:o.R st.ad v)(rb:i.R st.ad u)(q:aj X st k Q):Wp X (PN e1 e2 v u) Q E s:=by
 cases o with
 |top d=>cases ra;exact yB O hs h I rb q
 |opq u=>cases ra;exact FC hs h I rb q
 |_=>exact ET hs (by exact h) I ra rb q
theorem xZ (O:X.Ok)(h:yo o i st k)(hs:aQ e2=true)(I:Inv X st s)(ra:o.R st.ad v)(rb:i.R st.ad u)(q:aj X st k Q):Wp X (PN e1 e2 v u) Q E s:=by
 unfold yo at h
 cases he:st.ent o with
 |none=>rw[he]at h;exact DW O hs h I ra rb q
 |some e=>
  rw[he]at h
  cases e with
  |nlist a cs=>obtain⟨rfl,vs,nn,ir,hg⟩:=I.nlist ra he;exact EO hs ir hg h I rb q
  |list a pre suf=>exact DH hs he h I ra rb q
  |vlist a vs=>obtain⟨rfl,nn,hg⟩:=I.vlist ra he;exact Fv hs hg h I rb q
  |slist a ws=>obtain⟨rfl,vs,nn,ir,hg⟩:=I.slist ra he;exact DM hs ir hg h I rb q
  |tup a xs=>obtain⟨rfl,vs,ir,hg⟩:=I.wY ra he;exact Eu hs ir hg h I rb q
  |_=>exact h.elim
end
structure FnAt (f:Addr)(fd:Stmt)(nm qual:Str)(dV pm cd:Value):Prop where
 lk:∀P,(Kf P).lookup f=some (fO fd nm qual dV pm cd)
 cd:∀P,codeIn (Kf P) cd qual=true
 df:xH fd
theorem MI:FnAt 35 (aI 2 0) "__init__" "EndOfText.__init__" .none (.str "emacs.lisperrors" 194) (.ref 34):=⟨λP=>by kernel_rfl,λP=>by kernel_rfl,au (by kernel_rfl)⟩
theorem Mn:FnAt 55 (aI 3 0) "__init__" "BadSyntax.__init__" .none (.str "emacs.lisperrors" 194) (.ref 54):=⟨λP=>by kernel_rfl,λP=>by kernel_rfl,au (by kernel_rfl)⟩
theorem HZ:FnAt 178 (aJ 39) "is_break" "is_break" .none (.str "emacs.lisptokens" 500) (.ref 177):=⟨λP=>by kernel_rfl,λP=>by kernel_rfl,au (by kernel_rfl)⟩
theorem JA:FnAt 185 (aJ 40) "value_in" "value_in" .none (.str "emacs.lisptokens" 500) (.ref 184):=⟨λP=>by kernel_rfl,λP=>by kernel_rfl,au (by kernel_rfl)⟩
theorem Jw:FnAt 192 (aJ 41) "integer_of" "integer_of" .none (.str "emacs.lisptokens" 500) (.ref 191):=⟨λP=>by kernel_rfl,λP=>by kernel_rfl,au (by kernel_rfl)⟩
theorem Ka:FnAt 197 (aJ 42) "are_figures" "are_figures" .none (.str "emacs.lisptokens" 500) (.ref 196):=⟨λP=>by kernel_rfl,λP=>by kernel_rfl,au (by kernel_rfl)⟩
theorem Lw:FnAt 211 (aJ 44) "is_float" "is_float" .none (.str "emacs.lisptokens" 500) (.ref 210):=⟨λP=>by kernel_rfl,λP=>by kernel_rfl,au (by kernel_rfl)⟩
theorem KR:FnAt 218 (aJ 45) "sign_of" "sign_of" .none (.str "emacs.lisptokens" 500) (.ref 217):=⟨λP=>by kernel_rfl,λP=>by kernel_rfl,au (by kernel_rfl)⟩
theorem Ip:FnAt 232 (aI 46 0) "__init__" "Tokens.__init__" .none (.str "emacs.lisptokens" 500) (.ref 231):=⟨λP=>by kernel_rfl,λP=>by kernel_rfl,au (by kernel_rfl)⟩
theorem Lx:FnAt 240 (aI 46 1) "code" "Tokens.code" (.ref 233) (.str "emacs.lisptokens" 500) (.ref 239):=⟨λP=>by kernel_rfl,λP=>by kernel_rfl,au (by kernel_rfl)⟩
theorem Jl:FnAt 247 (aI 46 2) "skip_line" "Tokens.skip_line" .none (.str "emacs.lisptokens" 500) (.ref 246):=⟨λP=>by kernel_rfl,λP=>by kernel_rfl,au (by kernel_rfl)⟩
theorem JM:FnAt 254 (aI 46 3) "skip_blanks" "Tokens.skip_blanks" .none (.str "emacs.lisptokens" 500) (.ref 253):=⟨λP=>by kernel_rfl,λP=>by kernel_rfl,au (by kernel_rfl)⟩
theorem Hq:FnAt 261 (aI 46 4) "token" "Tokens.token" .none (.str "emacs.lisptokens" 500) (.ref 260):=⟨λP=>by kernel_rfl,λP=>by kernel_rfl,au (by kernel_rfl)⟩
theorem Ls:FnAt 282 (aI 46 7) "name" "Tokens.name" .none (.str "emacs.lisptokens" 500) (.ref 281):=⟨λP=>by kernel_rfl,λP=>by kernel_rfl,au (by kernel_rfl)⟩
theorem Gs:FnAt 289 (aI 46 8) "word" "Tokens.word" .none (.str "emacs.lisptokens" 500) (.ref 288):=⟨λP=>by kernel_rfl,λP=>by kernel_rfl,au (by kernel_rfl)⟩
theorem Lg:FnAt 331 (aI 48 0) "__init__" "Symbol.__init__" .none (.str "emacs.objects" 735) (.ref 330):=⟨λP=>by kernel_rfl,λP=>by kernel_rfl,au (by kernel_rfl)⟩
theorem J5:FnAt 358 (aI 51 0) "__init__" "Cons.__init__" .none (.str "emacs.objects" 735) (.ref 357):=⟨λP=>by kernel_rfl,λP=>by kernel_rfl,au (by kernel_rfl)⟩
theorem JX:FnAt 401 (aI 53 0) "__init__" "Vector.__init__" .none (.str "emacs.objects" 735) (.ref 400):=⟨λP=>by kernel_rfl,λP=>by kernel_rfl,au (by kernel_rfl)⟩
theorem Im:FnAt 437 (aJ 55) "list_of" "list_of" (.ref 430) (.str "emacs.objects" 735) (.ref 436):=⟨λP=>by kernel_rfl,λP=>by kernel_rfl,au (by kernel_rfl)⟩
theorem GJ:FnAt 460 (aI 60 0) "__init__" "Placeholder.__init__" .none (.str "emacs.lispreader" 925) (.ref 459):=⟨λP=>by kernel_rfl,λP=>by kernel_rfl,au (by kernel_rfl)⟩
theorem Kx:FnAt 488 (aI 61 0) "__init__" "OpenForm.__init__" .none (.str "emacs.lispreader" 925) (.ref 487):=⟨λP=>by kernel_rfl,λP=>by kernel_rfl,au (by kernel_rfl)⟩
theorem Kc:FnAt 495 (aI 61 1) "take" "OpenForm.take" .none (.str "emacs.lispreader" 925) (.ref 494):=⟨λP=>by kernel_rfl,λP=>by kernel_rfl,au (by kernel_rfl)⟩
theorem HM:FnAt 509 (aJ 62) "noted_list" "noted_list" .none (.str "emacs.lispreader" 925) (.ref 508):=⟨λP=>by kernel_rfl,λP=>by kernel_rfl,au (by kernel_rfl)⟩
theorem IZ:FnAt 516 (aJ 63) "noted_things" "noted_things" .none (.str "emacs.lispreader" 925) (.ref 515):=⟨λP=>by kernel_rfl,λP=>by kernel_rfl,au (by kernel_rfl)⟩
theorem G5:FnAt 538 (aI 65 0) "__init__" "LispReader.__init__" (.ref 531) (.str "emacs.lispreader" 925) (.ref 537):=⟨λP=>by kernel_rfl,λP=>by kernel_rfl,au (by kernel_rfl)⟩
theorem Kt:FnAt 552 (aI 65 2) "read" "LispReader.read" .none (.str "emacs.lispreader" 925) (.ref 551):=⟨λP=>by kernel_rfl,λP=>by kernel_rfl,au (by kernel_rfl)⟩
theorem HB:FnAt 559 (aI 65 3) "opened" "LispReader.opened" .none (.str "emacs.lispreader" 925) (.ref 558):=⟨λP=>by kernel_rfl,λP=>by kernel_rfl,au (by kernel_rfl)⟩
theorem KC:FnAt 566 (aI 65 4) "atom" "LispReader.atom" .none (.str "emacs.lispreader" 925) (.ref 565):=⟨λP=>by kernel_rfl,λP=>by kernel_rfl,au (by kernel_rfl)⟩
theorem Ja:FnAt 573 (aI 65 5) "dotted" "LispReader.dotted" .none (.str "emacs.lispreader" 925) (.ref 572):=⟨λP=>by kernel_rfl,λP=>by kernel_rfl,au (by kernel_rfl)⟩
theorem Ho:FnAt 580 (aI 65 6) "closed" "LispReader.closed" .none (.str "emacs.lispreader" 925) (.ref 579):=⟨λP=>by kernel_rfl,λP=>by kernel_rfl,au (by kernel_rfl)⟩
theorem Hx:FnAt 594 (aI 65 8) "given" "LispReader.given" .none (.str "emacs.lispreader" 925) (.ref 593):=⟨λP=>by kernel_rfl,λP=>by kernel_rfl,au (by kernel_rfl)⟩
theorem Hf:FnAt 615 (aJ 66) "read_all" "read_all" .none (.str "emacs.lispreader" 925) (.ref 614):=⟨λP=>by kernel_rfl,λP=>by kernel_rfl,au (by kernel_rfl)⟩
theorem Ku:FnAt 629 (aI 68 0) "__init__" "Obarray.__init__" .none (.str "emacs.obarray" 1210) (.ref 628):=⟨λP=>by kernel_rfl,λP=>by kernel_rfl,au (by kernel_rfl)⟩
theorem Hd:FnAt 636 (aI 68 1) "intern" "Obarray.intern" .none (.str "emacs.obarray" 1210) (.ref 635):=⟨λP=>by kernel_rfl,λP=>by kernel_rfl,au (by kernel_rfl)⟩
theorem Hg:FnAt 650 (aI 68 3) "fresh" "Obarray.fresh" .none (.str "emacs.obarray" 1210) (.ref 649):=⟨λP=>by kernel_rfl,λP=>by kernel_rfl,au (by kernel_rfl)⟩
theorem K7:FnAt 700 (aJ 71) "_law_draw" "_law_draw" .none (.str "law_oj0032_01" 1305) (.ref 699):=⟨λP=>by kernel_rfl,λP=>by kernel_rfl,au (by kernel_rfl)⟩
theorem Jh:FnAt 707 (aJ 72) "_law_pick" "_law_pick" .none (.str "law_oj0032_01" 1305) (.ref 706):=⟨λP=>by kernel_rfl,λP=>by kernel_rfl,au (by kernel_rfl)⟩
theorem G4:FnAt 712 (aJ 73) "_law_deck" "_law_deck" .none (.str "law_oj0032_01" 1305) (.ref 711):=⟨λP=>by kernel_rfl,λP=>by kernel_rfl,au (by kernel_rfl)⟩
theorem KZ:FnAt 717 (aJ 74) "_law_shape" "_law_shape" .none (.str "law_oj0032_01" 1305) (.ref 716):=⟨λP=>by kernel_rfl,λP=>by kernel_rfl,au (by kernel_rfl)⟩
theorem jC:FnAt 722 (aJ 75) "_law_told" "_law_told" .none (.str "law_oj0032_01" 1305) (.ref 721):=⟨λP=>by kernel_rfl,λP=>by kernel_rfl,au (by kernel_rfl)⟩
theorem Lh:FnAt 729 (aJ 76) "_law_tokens" "_law_tokens" .none (.str "law_oj0032_01" 1305) (.ref 728):=⟨λP=>by kernel_rfl,λP=>by kernel_rfl,au (by kernel_rfl)⟩
theorem Kp:FnAt 736 (aJ 77) "_law_closed" "_law_closed" .none (.str "law_oj0032_01" 1305) (.ref 735):=⟨λP=>by kernel_rfl,λP=>by kernel_rfl,au (by kernel_rfl)⟩
theorem Je:FnAt 743 (aJ 78) "_law_taken" "_law_taken" .none (.str "law_oj0032_01" 1305) (.ref 742):=⟨λP=>by kernel_rfl,λP=>by kernel_rfl,au (by kernel_rfl)⟩
theorem J9:FnAt 750 (aJ 79) "_law_due" "_law_due" .none (.str "law_oj0032_01" 1305) (.ref 749):=⟨λP=>by kernel_rfl,λP=>by kernel_rfl,au (by kernel_rfl)⟩
theorem GF:FnAt 757 (aJ 80) "_law_text" "_law_text" .none (.str "law_oj0032_01" 1305) (.ref 756):=⟨λP=>by kernel_rfl,λP=>by kernel_rfl,au (by kernel_rfl)⟩
theorem jd:FnAt 764 (aJ 81) "law" "law" .none (.str "law_oj0032_01" 1305) (.ref 763):=⟨λP=>by kernel_rfl,λP=>by kernel_rfl,au (by kernel_rfl)⟩
noncomputable def bW:r8→SV
 |.ret sv=>sv
 |_=>.none
def bg (st:St)(tl:ah)(k:KV)(sv:SV)(st₂:St):Prop:=∀X s v,Inv X st₂ s→sv.R st₂.ad v→∃sv₃ st₃,Inv X st₃ s∧sv₃.R st₃.ad v∧ED st tl k sv₃ st₃
theorem ao.sub (h:ao l)(s:l'.Sublist l):ao l':=by unfold ao at *;exact h.sublist (s.map _)
theorem Inv.sub {st:St}(I:Inv X st s)(hl:∀x sv,look x loc'=some sv→look x st.loc=some sv)(hs:(r++z).Sublist st.rf):Inv X {st with loc:=loc',rst:=r,fz:=z} s:=by
 obtain⟨m,l,l',L1,L2,hlo,F,N,nd⟩:=I.ex
 have sub:(l++(l'++(r++z))).Sublist (l++(l'++st.rf)):=(QA l).append ((QA l').append hs)
 exact⟨⟨m,l,l',L1,L2,λx sv e=>hlo x sv (hl x sv e),F,λp hp=>N p (sub.mem hp),nd.sub sub⟩,I.gens,I.os⟩
theorem Inv.drop {st:St}(I:Inv X st s):Inv X {st with loc:=[],tp:=[]} s:=by
 obtain⟨m,l,l',L1,L2,hl,F,N,nd⟩:=I.ex
 have sub:(l++([]++st.rf)).Sublist (l++(l'++st.rf)):=(QA l).append ((List.nil_sublist l').append (.refl _))
 exact⟨⟨m,l,[],L1,.nil,(λx sv e=>by cases e),F,λp hp=>N p (sub.mem hp),nd.sub sub⟩,I.gens,I.os⟩
theorem Ent.refl {st:St}(h:P st):Ent st P:=⟨λ_ _ _ I=>⟨st,h,I⟩⟩
theorem Ent.trans {st:St}(h:Ent st P)(k:∀st',P st'→Ent st' Q):Ent st Q:=⟨λX s f I=>by
 obtain⟨st',hp,I'⟩:=h.h X s f I
 exact(k st' hp).h X s f I'⟩
theorem Ent.mono {st:St}(h:Ent st P)(k:∀st',P st'→Q st'):Ent st Q:=h.trans λst' hp=>.refl (k st' hp)
noncomputable def SV.c5:SV→Bool
 |.tmp _=>false
 |_=>true
theorem mv {sv:SV}(h:sv.c5=true)(h1:D.hp=D'.hp)(h2:D.sk=D'.sk)(r:sv.R D v):sv.R D' v:=by
 cases sv<;>first|exact r|(cases h;done)|(obtain⟨a,e,rfl⟩:=r;first|exact⟨a,h1▸e,rfl⟩|exact⟨a,h2▸e,rfl⟩)
theorem oJ {sv:SV}(h:sv.c5=true):sv.shift n=sv:=by cases sv<;>first|rfl|cases h
theorem bg.same {st:St}(hk:k sv' {st with hp:=st₂.hp,sk:=st₂.sk,fz:=st₂.fz}) (h1:st₂.hp.map HE.addr=st.hp.map HE.addr)(h2:st₂.sk.map HE.addr=st.sk.map HE.addr)(h3:st₂.rst=tl++st.rst)(h4:sv'.c5=true)(h5:∀D v,sv.R D v→sv'.R D v):bg st tl k sv st₂:=λX s v I r=>by
 refine⟨sv',{st₂ with loc:=[],tp:=[]},I.drop,mv (D:=st₂.ad) h4 rfl rfl (h5 _ v r),st.loc,h3,?_,λx sv0 q=>⟨sv0,q,λv r=>?_⟩,?_⟩
 ·show st.hp.map _ <+: st₂.hp.map _
  rw[h1];exact Pp
 ·refine r.mono ⟨?_,?_,?_⟩
  ·show st.hp.map _ <+: st₂.hp.map _
   rw[h1];exact Pp
  ·exact Qh _ _
  ·show st.sk.map _ <+: st₂.sk.map _
   rw[h2];exact Pp
 ·rw[oJ h4]
  show k sv' {loc:=st.loc,hp:=st₂.hp,sk:=st₂.sk,tp:=st.tp++[],rst:=st.rst,fz:=st₂.fz}
  rw[Qt]
  exact hk
noncomputable def aw (l:List (Addr×cK))(a:Addr):Option cK:=match l with
 |[]=>none
 |(b,c)::r=>match PD b a with
  |true=>some c
  |false=>aw r a
theorem iX:∀{l:List (Addr×cK)}{a:Addr}{c:cK},(∀p∈l,az X p.1 p.2)→aw l a=some c→az X a c
 |(b,d)::r,a,c,h,e=>by
  rcases mB e with⟨q,e⟩|⟨_,e⟩
  ·cases e
   rw[←Pu q]
   exact h _ (.head _)
  ·exact iX (λp hp=>h p (.tail _ hp)) e
theorem qf {st:St}{Γ:ah→bc}(fn:FnAt f fd nm qual dV pm cd)(O:X.Ok)(hA:tG X A d)(hn:n+d+1≤X.n)(I:xQ X st tq s)(hb:BindsTo s (CL fd nm qual dV pm cd) ⟨vals,[]⟩ binds)(hl:(binds.all λx=>decide ((aK fd).names.lookup x.1=some .local))=true) (hbs:∀x sv,look x bs=some sv→∃v,binds.reverse.lookup x=some v∧sv.R ⟨st.ad.hp,st.ad.sk,tq.map HE.addr⟩ v)(ret:∀sv st' v s',Inv X st' s'→st.ad.le st'.ad→sv.R st'.ad v→k sv st'→R (.ok (.ret v)) s') (exc:av X ke (λe s'=>R (.error e) s')) (hke:∀tl,(Γ tl).ke=ke)(G:∀tl X',Sub X X' fd n→aH X' (Γ tl) T)(h:∀tl,bw (bE (Γ tl) T N) (bz fd) {loc:=bs,hp:=st.hp,sk:=st.sk,tp:=tq,rst:=tl++st.rst,fz:=st.fz} λfl st₂=>bg st tl k (bW fl) st₂) :
  P9 (model pw X.w) A (.call (.ref f) ⟨vals,[]⟩) R s:=by
 refine mD O hA hn I (fn.lk _) (fn.cd _) fn.df hb hl hbs ret exc λX' s₁ tl S I'=>?_
 refine dG (bZ S.ok (G tl X' S) N) (h tl) I' (λC fs e s' hk fx=>⟨C,fs,hke tl▸hk,fx⟩) λfl st₂ f' s' I2 rf hr=>?_
 have rr:(bW fl).R st₂.ad (LO f'):=by
  cases fl with
  |ret sv=>obtain⟨v,rfl,r⟩:=rf;exact r
  |next=>cases rf;exact rfl
  |cont=>cases rf;exact rfl
  |brk=>cases rf;exact rfl
 obtain⟨sv₃,st₃,I3,r3,fin⟩:=hr X' s' _ I2 rr
 exact⟨sv₃,st₃,I3,r3,fin⟩
section
variable {X:Fx}{st:St}{s:Pl}{E:Value→Pl→Prop}{k:KV}{Q:Value→Pl→Prop}
theorem uU (h:StrsAre vs ws):∃l:List (Str×Tok),vs=strValues l∧ws=l.map (·.1):=by
 induction h with
 |nil=>exact⟨[],rfl,rfl⟩
 |cons y t _ ih=>
  obtain⟨l,rfl,rfl⟩:=ih
  exact⟨(y,t)::l,rfl,rfl⟩
theorem kO (h:StrsAre vs ws)(x:Str)(t:Tok):StrsAre (vs++[.str x t]) (ws++[x]):=by
 induction h with
 |nil=>exact .cons _ _ .nil
 |cons y u _ ih=>exact .cons y u ih
theorem uS (h:StrsAre vs (ws++[x])):∃us t,vs=us++[.str x t]∧StrsAre us ws:=by
 induction ws generalizing vs with
 |nil=>cases h with|cons y t h'=>cases h';exact⟨[],t,rfl,.nil⟩
 |cons w ws ih=>
  cases h with
  |cons y t h'=>
   obtain⟨us,u,rfl,h2⟩:=ih h'
   exact⟨_::us,u,rfl,.cons _ _ h2⟩
noncomputable def bU (ws:List Str):Str:=Builtin.Str.glued Rv ws
theorem Ee (I:Inv X st s)(r:sv.R st.ad v)(he:st.ent sv=some (.slist a ws))(hl:Qc (ws.toArray.foldl (·+·.length+Str.empty.length) 0)=false) (hj:(bU ws).length≤Qs)(hk:k (.str (bU ws)) st) (q:aj X st k Q):Wp X (call (.builtin "str.join") [.str Rv t,v]) Q E s:=by
 obtain⟨rfl,vs,n,ir,hg⟩:=I.slist r he
 obtain⟨l,rfl,rfl⟩:=uU ir
 refine call_meets PySem.F.slot_str_join (typeIs_str _ _ _) PySem.F.entry_str_join (PySem.F.args_str_join_2 _ _) (meets_str_join_list Rv t a l hl) ⟨ay hg,?_⟩
 have main:∀u s',Inv X st s'→Q (.str (bU (l.map (·.1))) u) s':=λu s' I'=>q.z I' hk
 match l,hj,main with
 |[],hj,main=>exact⟨hj,main _ _ (I.aO _)⟩
 |[p],hj,main=>
  exact(main p.2 _ I:Q (.str p.1 p.2) s)
 |p::p2::r,hj,main=>exact⟨hj,main _ _ (I.aO _)⟩
theorem oD (I:Inv X st s)(hy:(y.length==0)=false)(hz:x.length≤Qs)(hk:∀a,k (.tmp st.tp.length) (st.dH (.tup a [.str (Ph x y).1,.str (Ph x y).2.1,.str (Ph x y).2.2]))) (q:aj X st k Q):Wp X (call (.builtin "str.partition") [.str x t,.str y u]) Q E s:=by
 refine call_meets PySem.F.slot_str_partition (typeIs_str _ _ _) PySem.F.entry_str_partition (PySem.F.args_str_partition_2 _ _) (meets_str_partition x y t u hy hz) ?_
 have main:∀(vs:List Value)(k':Nat),IR st.ad.bot [.str (Ph x y).1,.str (Ph x y).2.1,.str (Ph x y).2.2] vs→Q (.ref s.heap.objs.size) {s with toks:=k',heap:=s.heap.push (cZ vs)}:=λvs k' ir=>
  q _ _ _ _ (I.add (e:=.tup s.heap.objs.size [.str (Ph x y).1,.str (Ph x y).2.1,.str (Ph x y).2.2]) (o:=cZ vs) (s':={s with toks:=k',heap:=s.heap.push (cZ vs)}) (.tup ir) (λm led F N=>⟨F.push _,N.push F _,λp hp=>Qd (N p hp).1⟩) rfl rfl)
   (St.br _ _).le (cC _ _) (hk _)
 unfold Ph at main
 revert main
 cases QF x y 0 x.length 1 with
 |nil=>intro main;exact main _ _ (.cons ⟨_,rfl⟩ (.cons ⟨_,rfl⟩ (.cons ⟨_,rfl⟩ .nil)))
 |cons i r=>intro main;exact main _ _ (.cons ⟨_,rfl⟩ (.cons ⟨_,rfl⟩ (.cons ⟨_,rfl⟩ .nil)))
theorem zl (I:Inv X st s)(r:sv.R st.ad v)(he:st.ent sv=some (.slist a ws))(hz:ws.length<2^20)(hk:k .none (st.c4 sv (.slist a (ws++[x])))) (q:aj X st k Q):Wp X (call (.builtin "list.append") [v,.str x t]) Q E s:=by
 rcases St.aR he r with rfl
 obtain⟨m,P,le,Q',D,d1,d2,H,F,N,nd,re⟩:=I.cut he
 obtain⟨vs,n,ir,rfl⟩:=H.pA
 have hl:=ir.length
 refine append_K F N (gZ nd) (λh' F' N'=>q .none _ _ _ (re (.slist a (ws++[x])) [(a,listOf (vs.toArray.push (.str x t)) (n+1))] _ rfl ?_ rfl rfl F' N' (bp nd)) (gN he rfl) rfl hk) ?_
 ·have:vs.toArray.push (.str x t)=(vs++[Qn x t]).toArray:=by simp
  rw[this]
  exact .slist (kO ir x t)
 ·rw[Pw,hl];unfold Qs;lia
theorem Ks (I:Inv X st s)(r:sv.R st.ad v)(he:st.ent sv=some (.slist a (ws++[x]))) (hz:ws.length<2^20)(hk:k (.str x) (st.c4 sv (.slist a ws))) (q:aj X st k Q):Wp X (call (.builtin "list.pop") [v]) Q E s:=by
 rcases St.aR he r with rfl
 obtain⟨m,P,le,Q',D,d1,d2,H,F,N,nd,re⟩:=I.cut he
 obtain⟨vs,n,ir,rfl⟩:=H.pA
 obtain⟨v1,t,rfl,i1⟩:=uS ir
 have hl:=i1.length
 have hsz:(v1++[Qn x t]).toArray.size=v1.length+1:=by simp
 have DD:=N (a,listOf (v1++[Qn x t]).toArray n) (Pb _ (.head _))
 have up:=news_upd (f:=Obj.mapSeq λxs=>xs.eraseIdxIfInBounds ((v1++[Qn x t]).toArray.size-1)) (o':=listOf v1.toArray (n+1)) F (pre:=P) (post:=Q') N
  (ao.ne nd).1 (ao.ne nd).2
  (by
   show Obj.mk _ _ _ _=Obj.mk _ _ _ _
   have e2:((v1++[Qn x t]).toArray).eraseIdxIfInBounds ((v1++[Qn x t]).toArray.size-1)=v1.toArray:=by
    rw[hsz,Nat.add_sub_cancel]
    apply Array.ext'
    simp[R5]
   simp only[e2]
   have:((v1.toArray.size==(v1++[Qn x t]).toArray.size))=false:=by
    rw[hsz];simp
   simp[this]) rfl
 refine call_meets Sq ⟨_,DD.1,rfl⟩ PySem.F.entry_list_pop (PySem.F.args_list_pop_1 _) (PySem.MeetsSeq.list_pop_last a _ n (.str x t) (by rw[hsz];simp) (by rw[hsz];unfold Qs;lia)) ⟨DD.1,?_⟩
 exact q (.str x) _ _ _ (re (.slist a ws) [(a,listOf v1.toArray (n+1))] _ rfl (.slist i1) rfl rfl up.1 up.2 (bp nd)) (gN he rfl) ⟨t,rfl⟩ hk
end
section
variable {X:Fx}{st:St}{s:Pl}{E:Value→Pl→Prop}{k:KV}{Q:Value→Pl→Prop}
theorem Inv.wt (I:Inv X st s)(r:sv.R st.ad v)(he:st.ent sv=some (.map a w kvs)):v=.ref a∧s.heap.DictOf (strKind pw w) a kvs∧(a==SW)=false:=by
 refine⟨St.aR he r,?_⟩
 obtain⟨m,P,le,Q',D,d1,d2,H,F,N,nd,_⟩:=I.cut he
 obtain⟨o,io,ha,rfl⟩:=H.Iu
 exact⟨Heap.dictOf_iff.mpr ⟨o,(N _ (Pb _ (.head _))).1,io⟩,ha⟩
theorem J3 (I:Inv X st s)(r:sv.R st.ad v)(rd:d.R st.ad dv)(he:st.ent sv=some (.map a X.w kvs))(hk1:∀u,RZ kvs x=some u→k (.opq u) st)(hk2:RZ kvs x=none→k d st)(q:aj X st k Q):Wp X (call (.builtin "dict.get") [v,.str x t,dv]) Q E s:=by
 obtain⟨rfl,hd,lo⟩:=I.wt r he
 refine call_meetsIn Rx hd.typeIs TF (Tv _ _ _) (meets_dict_get_default (strKind pw X.w) a (Sv pw X.w x t) lo dv) ⟨_,hd.mapOf,?_⟩
 cases e:RZ kvs x with
 |none=>exact q d _ _ _ (I.aO _) (.refl _) rd (hk2 e)
 |some u=>exact q (.opq u) _ _ _ (I.aO _) (.refl _) rfl (hk1 u e)
theorem we (O:X.Ok)(I:Inv X st s)(rd:d.R st.ad dv)(hl:eF a=some l)(lit:Bool)(hk:match eX x l with|some y=>k (match lit with|true=>.txt y|false=>.str y) st|none=>k d st)(q:aj X st k Q):Wp X (call (.builtin "dict.get") [.ref a,.str x t,dv]) Q E s:=by
 obtain⟨es,n,hK,hkl,hs',hlo⟩:=eH hl X.w.params
 have hm:=mapOf_K (prog:=pw) (w:=X.w) (O.dg I) hK hkl
 have hf:=hs'.find x
 refine call_meetsIn Rx hm.typeIs TF (Tv _ _ _) (meets_dict_get_default (strKind pw X.w) a (Sv pw X.w x t) hlo dv) ⟨_,hm,?_⟩
 revert hk hf
 cases eX x l with
 |none=>intro hk hf;exact q d _ _ _ (I.aO _) (.refl _) (by rw[show Su Q5 es x=none from hf];exact rd) hk
 |some y=>
  intro hk hf
  rcases hf with⟨u,e⟩
  rw[show Su Q5 es x=some (.str y u)from e]
  cases lit with
  |true=>exact q (.txt y) _ _ _ (I.aO _) (.refl _) ⟨u,rfl⟩ hk
  |false=>exact q (.str y) _ _ _ (I.aO _) (.refl _) ⟨u,rfl⟩ hk
theorem ue {sx:SV}{Q:Unit→Pl→Prop}(I:Inv X st s)(r:sv.R st.ad v)(rx:sx.R st.ad vx)(he:st.ent sv=some (.map a X.w kvs))(hz:kvs.length<2^20)(hk:∀u s',sx.R st.ad u→Inv X (st.c4 sv (.map a X.w (stored kvs x u))) s'→Q () s'):Wp X (setItem v (.str x t) vx) Q E s:=by
 obtain⟨hv,hd,lo⟩:=I.wt r he
 subst hv
 obtain⟨m,P,le,Q',D,d1,d2,H,F,N,nd,re⟩:=I.cut he
 obtain⟨o,io,ha,rfl⟩:=H.Iu
 have DD:=N (a,o) (Pb _ (.head _))
 refine wpAny_setItem_pairs (Sv pw X.w x t) hd (λh' hd' hs=>?_) (by unfold Qs;lia)
 obtain⟨o',ho',io'⟩:=Heap.dictOf_iff.mp hd'
 refine hk vx _ rx (re (.map a X.w (stored kvs x vx)) [(a,o')] ⟨h',s.gens,s.drawn,s.toks+1,s.os⟩ rfl (.map io' ha) rfl rfl (F.change hs DD.2.1 DD.2.2) ?_ (bp nd))
 exact news_set N (ao.ne nd).1 (ao.ne nd).2 hs ho'
end
noncomputable def dy:List Addr:=[334,361,404]
noncomputable def fY:List Addr:=[361,404,470]
noncomputable def jn (K:Frag)(D C:Addr):Bool:=(Rf K (.ref D) "__class__"==some (some (.builtin "object.__class__")))&&Tr K D "__class__"&&R4 K D&&(mroIn K D (.type "object")==some true) &&
 isClsIn K C&&isClsIn K D&&(typeIn K (.ref C)==some (.type "type"))&&(subIn K (.ref D) (.ref C)==some (PD D C))
theorem tY (P:PJ):(dy.all λD=>fY.all λC=>jn (Kf P) D C)=true:=by kernel_rfl
theorem gb (P:PJ):specialIn (Kf P) (.builtin "object.__class__") "__get__"=some (some (.builtin "getset_descriptor.__get__"))∧takesIn (Kf P) (.builtin "object.__class__")=some true:=⟨by kernel_rfl,by kernel_rfl⟩
theorem ij {K:Frag}(h:jn K D C=true):Rf K (.ref D) "__class__"=some (some (.builtin "object.__class__"))∧Tr K D "__class__"=true∧R4 K D=true∧mroIn K D (.type "object")=some true ∧
  isClsIn K C=true∧isClsIn K D=true∧typeIn K (.ref C)=some (.type "type")∧subIn K (.ref D) (.ref C)=some (PD D C):=by
 unfold jn at h
 simp only[Pe,beq_iff_eq]at h
 obtain⟨⟨⟨⟨⟨⟨⟨a,b⟩,c⟩,d⟩,e⟩,f⟩,g⟩,i⟩:=h
 exact⟨a,b,c,d,e,f,g,i⟩
section
variable {prog:Program}{P:PJ}{w:World}{A:SX}{E:Value→Pl→Prop}{s:Pl}{x C D:Addr}{ox od:Obj}
theorem pK (F:Fr h₀ L s.heap m)(X₀:(Kf P).In h₀)(I:R9 s.heap x ox D (some od))(hk:jn (Kf P) D C=true)(h:∀t,Q (some (.ref D)) {s with toks:=t}):wpAny (model prog w) A (getAttr? (.ref x) "__class__") Q E s:=by
 obtain⟨h1,h2,h3,h4,_⟩:=ij hk
 have X:=X₀.keeps F.keep
 obtain⟨hh,g,d,tt,os⟩:=s
 have L0:Looks (model prog w) hh (typeOf (.ref x)) (.ref D):=I.type
 have L1:=SP (M:=model prog w) X (plainGet_of h2).1
 have hf:findObj (Kf P) D (some od) "__class__"=some (.bind (.builtin "getset_descriptor.__get__") (.builtin "object.__class__")):=
  findObj_data (by obtain⟨cd,hc,_⟩:=any_some h3;rw[hc];rfl) h1 (gb _).1 (gb _).2
 have L3:=looks_find (M:=model prog w) X I hf
 have L4:=SP (M:=model prog w) X (plainGet_of h2).2
 unfold getAttr? getAttrBy?
 refine Po (TG (Po (wpAny_attempt ?_)))
 unfold getAttrBy
 refine Q6 (Po (L0.at (Po (L1.at ?_))))
 show wpAny _ _ (getAttrEveryday _ _ _) _ _ _
 refine Po (wpAny_onRaise (wpAny_runValue (codeAny_builtin PySem.F.plainObj_entry_getattr_hooked ?_)))
 refine Po (PH (Po (L0.at (Po (L3.at (Po (L4.at ?_)))))))
 show wpAny _ _ (holding [Qu "object.__class__"] (call (.builtin "getset_descriptor.__get__") [.builtin "object.__class__",.ref x,.ref D]) >>= ret) _ _ _
 refine Po (Q6 (S' (class_get (s:=⟨hh,g,d,tt+1,os⟩) (ox:=ox) (od:=some od) X I h4 ?_)))
 refine PH ?_
 show wpAny _ _ (handedOut _) _ _ _
 rw[handedOut_of rfl]
 exact PH (PH (h _))
theorem nA {K:Frag}(h:isClsIn K C=true):∃c d cd sl,K.lookup C=some ⟨c,d,.cls cd,sl⟩:=by
 unfold isClsIn clsIn at h
 cases hq:K.lookup C with
 |none=>rw[hq]at h;exact bF h
 |some o=>
  rw[hq]at h
  obtain⟨c,d,dt,sl⟩:=o
  cases dt<;>first|exact⟨_,_,_,_,rfl⟩|exact bF h
theorem xX (F:Fr h₀ L s.heap m)(X₀:(Kf P).In h₀)(I:R9 s.heap x ox D (some od))(hk:jn (Kf P) D C=true)(ne:PD D C=false)(h:∀t,Q (.done (.ret (.bool false))) {s with toks:=t}):wpAny (model prog w) A (Builtin.«isinstance.nested» ⟨[.ref x,.ref C,.int dep tk],[]⟩) Q E s:=by
 obtain⟨_,_,_,_,e0,ed,e1,e3⟩:=ij hk
 rw[ne]at e3
 have X:=X₀.keeps F.keep
 have ht:∀M,Looks M s.heap (typeOf (.ref x)) (.ref D):=λM=>I.type
 obtain⟨hh,g,d,tt,os⟩:=s
 unfold Builtin.«isinstance.nested»
 refine Po ((ht _).at ?_)
 rw[if_neg (λq=>by cases beq_iff_eq.mp q;rw[Nat.beq_refl]at ne;cases ne)]
 have L1:=looks_typeIn (M:=model prog w) X e1
 have L4:Looks (model prog w) hh (isSubtype (.ref D) (.ref C)) false:=looks_subIn X e3
 have L3:Looks (model prog w) hh (isInstance (.ref x) (.ref C)) false:=(ht _).andThen L4
 refine Po (L1.at ?_)
 rw[if_pos (by decide)]
 k_delta "plainIsInstance"
 unfold isType
 repeat lk
 obtain⟨_,_,_,_,ho⟩:=nA e0
 obtain⟨_,_,_,_,ho2⟩:=nA ed
 ·refine nd_load (X _ _ ho) (nd_pure (PH ?_))
  rw[if_neg (show ¬((!true)=true)from bF)]
  refine Po (L3.at ?_)
  rw[if_neg bF]
  refine Po (pK F X₀ I hk λt=>?_)
  ·refine Po ?_
   refine nd_load (X _ _ ho2) (PH ?_)
   rw[if_neg (show ¬((!true)=true)from bF)]
   refine Po (wpAny_rule ?_)
   refine L4.at ?_
   exact PH (h _)
theorem jQ (F:Fr h₀ L s.heap m)(X₀:(Kf P).In h₀)(I:R9 s.heap x ox D (some od))(hk:jn (Kf P) D C=true)(h:∀t,Q (.bool (PD D C)) {s with toks:=t}):wpAny (model prog w) A (call (.builtin "isinstance") [.ref x,.ref C]) Q E s:=by
 cases ne:PD D C with
 |true=>
  rw[ne]at h
  rcases Pu ne with rfl
  exact isi_call (X₀.keeps F.keep) (λM=>I.type) (by unfold isIn;simp) (λe=>nomatch e) (h s.toks)
 |false=>
  rw[ne]at h
  exact call_isinstance (S:=λ_ R s=>(Fr h₀ L s.heap m∧R9 s.heap x ox D (some od))∧∀t,R (.ok (.ret (.bool false))) {s with toks:=t})
   (λ_ _ _ _ _ hs=>isinstance_outer (xX hs.1.1 X₀ hs.1.2 hk ne hs.2) (λe=>nomatch e)) ⟨⟨F,I⟩,h⟩
end
structure dD (fz:ah)(u:Value)(D:Addr)(fs:List (Str×Value)):Prop where
 ex:(∃(a d:Addr)(es:List PX)(n:Nat),u=Pa a∧(a,QT D d)∈fz∧(d,Qj es n)∈fz∧∀p∈fs,getL p.1 es=some (some p.2)∧Rg p.2=true) ∨
  (u=Pa 340∧D=334∧∀p∈fs,p=(("name":Str),Qn "nil" 769))
noncomputable def xl (x:Str):List (Str×Value)→Option Value
 |[]=>none
 |(y,v)::r=>match y==x with
  |true=>some v
  |false=>xl x r
theorem kR:∀{l:List (Str×Value)},xl x l=some v→(x,v)∈l
 |(y,u)::r,h=>by
  rcases mB h with⟨q,h⟩|⟨_,h⟩
  ·cases h;rw[←beq_iff_eq.mp q];exact .head _
  ·exact .tail _ (kR h)
inductive d6 (fz:ah)(u:Value):Prop
 |mk (D:Addr)(fs:List (Str×Value))(f:dD fz u D fs)(hD:eD D dy=true)
inductive qM (fz:ah)(u:Value)(P:Addr→Prop):Prop
 |mk (D:Addr)(fs:List (Str×Value))(f:dD fz u D fs)(hD:eD D dy=true)(h:P D)
def En (u:Value)(C:Addr)(st:St)(k:KV):Prop:=match PD C 470 with
 |true=>d6 st.fz u∧k (.lit false) st
 |false=>qM st.fz u λD=>k (.bool (PD D C)) st
def IF (v c:SV)(st:St)(k:KV):Prop:=ag (EU c) λC=>eT (eD C.1 fY) (match ti (st.ent v)with
 |some q=>eT (eD q.1.2.1 dy) (k (.lit (PD q.1.2.1 C.1)) st)
 |none=>eT (DA (st.ent v)) (ag (ph v) λu=>En u.1 C.1 st k))
section
variable {X:Fx}{st:St}{s:Pl}{E:Value→Pl→Prop}{k:KV}{Q:Value→Pl→Prop}
theorem E2 (P:PJ):(Kf P).lookup 340=some (QT 334 339)∧(Kf P).lookup 339=some (Qj [⟨kh P "number",.str "number" 774,(.int 0 768)⟩,⟨kh P "name",.str "name" 776,(.str "nil" 769)⟩] 2):=⟨by kernel_rfl,by kernel_rfl⟩
theorem xw (P:PJ):getL "name" [⟨kh P "number",.str "number" 774,(.int 0 768)⟩,⟨kh P "name",.str "name" 776,(.str "nil" 769)⟩]=some (some (.str "nil" 769)):=by kernel_rfl
theorem Inv.j' (O:X.Ok)(I:Inv X st s)(z:dD st.fz u D fs):∃(a d:Addr)(es:List PX)(n:Nat),u=Pa a∧s.heap.get? a=some (QT D d)∧s.heap.get? d=some (Qj es n)∧∀p∈fs,getL p.1 es=some (some p.2)∧Rg p.2=true:=by
 rcases z.ex with⟨a,d,es,n,rfl,h1,h2,h3⟩|⟨rfl,rfl,h3⟩
 ·exact⟨a,d,es,n,rfl,I.frozen h1,I.frozen h2,h3⟩
 ·rcases E2 X.w.params with⟨n1,n2⟩
  refine⟨340,339,_,_,rfl,O.dg I _ _ n1,O.dg I _ _ n2,λp hp=>?_⟩
  rw[h3 p hp]
  exact⟨xw _,rfl⟩
theorem jM (h1:eD D dy=true)(h2:eD C fY=true)(P:PJ):jn (Kf P) D C=true:=
 List.all_eq_true.mp (List.all_eq_true.mp (tY P) _ (eo h1)) _ (eo h2)
theorem nU (h:eD D dy=true):PD D 470=false:=by
 have:=eo h
 simp only[dy,QB,Qv,or_false]at this
 rcases this with rfl|rfl|rfl<;>rfl
theorem Inv.yh (O:X.Ok)(I:Inv X st s)(fz:dD st.fz v D fs):∃x od,v=Pa x∧∃d,R9 s.heap x (QT D d) D (some od):=by
 obtain⟨b,d,es,n,rfl,h1,h2,_⟩:=I.j' O fz
 exact⟨b,_,rfl,d,h1,rfl,rfl,h2⟩
theorem Bf (O:X.Ok)(hC:eD C fY=true)(h:En v C st k)(I:Inv X st s)(q:aj X st k Q):Wp X (call (.builtin "isinstance") [v,.ref C]) Q E s:=by
 obtain⟨m,l,l',L1,L2,hl,F,N,nd⟩:=id I.ex
 unfold En at h
 cases hc:PD C 470 with
 |true=>
  rw[hc]at h
  obtain⟨⟨D,fs,fz,hD⟩,hk⟩:=h
  obtain⟨x,od,rfl,d,ia⟩:=I.yh O fz
  rcases Pu hc with rfl
  exact jQ F O.kin ia (jM hD hC _) λt=>by rw[nU hD];exact q (.lit false) _ _ _ (I.aO t) (.refl _) rfl hk
 |false=>
  rw[hc]at h
  obtain⟨D,fs,fz,hD,hk⟩:=h
  obtain⟨x,od,rfl,d,ia⟩:=I.yh O fz
  exact jQ F O.kin ia (jM hD hC _) λt=>q.b (I.aO t) hk
theorem zI (O:X.Ok)(h:IF a c st k)(I:Inv X st s)(ra:a.R st.ad v)(rc:c.R st.ad u)(q:aj X st k Q):Wp X (call (.builtin "isinstance") [v,u]) Q E s:=by
 obtain⟨C,_,h⟩:=aa h
 rcases aA h with⟨hC,h⟩
 rw[C.2]at rc
 rw[show u=.ref C.1 from rc]
 cases hq:ti (st.ent a)with
 |some w=>
  rw[hq]at h
  rcases aA h with⟨hD,h⟩
  rcases St.aR w.2 ra with rfl
  obtain⟨m,P,le,Q',DD,d1,d2,H,F,N,nd,_⟩:=I.cut w.2
  obtain⟨ha,ox,dd,es',nn,hd,fr,rfl,at_,_⟩:=H.g' rfl
  exact jQ F O.kin (at_ _ _ _ (News.sub N)) (jM hD hC _) λt=>q (.lit (PD w.1.2.1 C.1)) _ _ _ (I.aO t) (.refl _) rfl h
 |none=>
  rw[hq]at h
  rcases aA h with⟨_,h⟩
  obtain⟨z,_,h⟩:=aa h
  rw[z.2]at ra
  rw[show v=z.1 from ra]
  exact Bf O hC h I q
inductive qm (fz:ah)(u:Value)(n:Str)(P:Value→Prop):Prop
 |mk (D:Addr)(fs:List (Str×Value))(v:Value)(f:dD fz u D fs)(hf:el D n dY=true)(hl:xl n fs=some v)(h:P v)
def Gu (o:SV)(n:Str)(st:St)(k:KV):Prop:=ag (ph o) λu=>qm st.fz u.1 n λv=>k (.opq v) st
theorem Bi (O:X.Ok)(h:Gu o n st k)(I:Inv X st s)(ra:o.R st.ad v)(q:aj X st k Q):Wp X (Th v n ex) Q E s:=by
 obtain⟨z,_,h⟩:=aa h
 obtain⟨D,fs,u,fz,hf,hl,hk⟩:=h
 rw[z.2]at ra
 obtain⟨b,d,es,m,e,h1,h2,h3⟩:=I.j' O fz
 rw[show v=.ref b from Eq.trans ra e]
 rcases h3 _ (kR hl)with⟨hv,hh⟩
 obtain⟨mm,l,l',L1,L2,_,F,N,nd⟩:=id I.ex
 obtain⟨p1,p2,p3,_⟩:=eY (lZ hf X.w.params)
 exact get_own F O.kin (ox:=QT D d) ⟨h1,rfl,rfl,h2⟩ p1 p2 p3 rfl hv hh (q (.opq u) _ _ _ (I.aO _) (.refl _) rfl hk)
end
def Cy (op:Ts)(i j:Int)(st:St)(k:KV):Prop:=match op with
 |.Mult=>Tw i j∧k (.int (i*j)) st
 |.Mod=>j≠0∧k (.int (i.fmod j)) st
 |.FloorDiv=>(j≠0∧j.natAbs<1073741824)∧k (.int (i.fdiv j)) st
 |_=>False
noncomputable def Cr (op:Ts):Bool:=match op with
 |.Add=>true
 |_=>false
noncomputable def M8 (e:Option HE):Option {q:Addr×SV // e=some (.list q.1 [] [q.2])}:=match e with
 |some e=>match e with
  |.list a pre suf=>match hY suf with
   |some c=>match pre with
    |[]=>some ⟨(a,c.1),congrArg (λl=>some (HE.list a [] l)) c.2⟩
    |_::_=>none
   |none=>none
  |_=>none
 |none=>none
noncomputable def N8 (e:Option HE):Option {q:Addr×List Value // e=some (.vlist q.1 q.2)}:=match e with
 |some e=>match e with
  |.vlist a vs=>some ⟨(a,vs),rfl⟩
  |_=>none
 |none=>none
def Fu (c:SV)(vs:List Value)(st:St)(k:KV):Prop:=vs.length≤1000000∧∀l u,c.R st.ad u→k (.tmp st.tp.length) (st.dH (.vlist l (u::vs)))
inductive IJ (fz:ah)(u:Value)(P:List Value→Prop):Prop
 |mk (l:Addr)(vs:List Value)(nn:Nat)(e:u=.ref l∧(l,listOf vs.toArray nn)∈fz)(h:P vs)
def ML (c:SV)(u:Value)(st:St)(k:KV):Prop:=IJ st.fz u λvs=>Fu c vs st k
def Iy (a b:SV)(st:St)(k:KV):Prop:=ag (M8 (st.ent a)) λq=>match N8 (st.ent b)with
 |some w=>Fu q.1.2 w.1.2 st k
 |none=>ag (ph b) λu=>ML q.1.2 u.1 st k
def HT (a b:SV)(st:St)(k:KV):Prop:=match both a.b7 b.b7 with
 |some p=>p.1.length+p.2.length≤16777216∧k (.str (p.1++p.2)) st
 |none=>Iy a b st k
def FJ (op:Ts)(a b:SV)(st:St)(k:KV):Prop:=match both a.int? b.int? with
 |some p=>Cy op p.1 p.2 st k
 |none=>eT (Cr op) (HT a b st k)
section
variable {X:Fx}{st:St}{s:Pl}{E:Value→Pl→Prop}{k:KV}{Q:Value→Pl→Prop}
theorem wD (I:Inv X st s)(rc:c.R st.ad c')(hg1:s.heap.get? a1=some (listOf [c'].toArray n1))(hg2:s.heap.get? a2=some (listOf vs.toArray n2))(h:Fu c vs st k)(q:aj X st k Q):Wp X (Tt .Add (.ref a1) (.ref a2)) Q E s:=by
 obtain⟨m,l,l',L1,L2,hl,F,N,nd⟩:=id I.ex
 refine add_arrays F N (ay hg1) (ay hg2) (λh' F' N'=>?_) (by simp;unfold Qs;have:=h.1;lia)
 have N2:News X.h₀ X.L h' ((s.heap.objs.size,listOf (c'::vs).toArray 0)::(l++(l'++st.rf))):=by simpa using N'
 have I2:Inv X (st.dH (.vlist s.heap.objs.size (c'::vs))) {s with heap:=h'}:=by
  have lt:∀p∈l++(l'++st.rf),p.1<s.heap.objs.size:=λp hp=>Qd (N p hp).1
  refine⟨⟨m,l,l'++[(s.heap.objs.size,listOf (c'::vs).toArray 0)],L1,L2.append (.one .vlist),λx sv hx=>?_,F',λp hp=>N2 p ?_,e7 nd lt⟩,I.gens,I.os⟩
  ·obtain⟨v,a,b⟩:=hl x sv hx
   exact⟨v,a,b.mono (St.br _ _)⟩
  ·simp only[St.dH,RX,QB,Qv,or_false]at hp ⊢
   rcases hp with h|(h|h)|h
   ·exact .inr (.inl h)
   ·exact .inr (.inr (.inl h))
   ·exact .inl h
   ·exact .inr (.inr (.inr h))
 exact q _ _ _ _ I2 (St.br _ _).le (cC _ _) (h.2 _ c' rc)
theorem wy (h:Cy op i j st k)(I:Inv X st s)(q:aj X st k Q):Wp X (Tt op (.int i t) (.int j t')) Q E s:=by
 cases op with
 |Mult=>exact PyProof.Rows.mul_int (q.i (I.aO _) h.2) h.1
 |Mod=>exact mod_int' h.1 (q.i (I.aO _) h.2)
 |FloorDiv=>exact floordiv_int h.1.1 (q.i (I.aO _) h.2) (.inl (TH h.1.2))
 |_=>exact h.elim
theorem A3 (h:Iy a b st k)(I:Inv X st s)(ra:a.R st.ad v)(rb:b.R st.ad u)(q:aj X st k Q):Wp X (Tt .Add v u) Q E s:=by
 obtain⟨p,_,h⟩:=aa h
 obtain⟨rfl,us,n1,ir,hg1⟩:=I.list ra p.2
 obtain⟨c',rfl,rc⟩:=Gp ir
 cases hw:N8 (st.ent b)with
 |some w=>
  rw[hw]at h
  obtain⟨rfl,n2,hg2⟩:=I.vlist rb w.2
  exact wD I rc hg1 hg2 h q
 |none=>
  rw[hw]at h
  obtain⟨z,_,h⟩:=aa h
  obtain⟨l,vs,nn,⟨e,hm⟩,h⟩:=h
  rw[z.2]at rb
  rw[show u=.ref l from Eq.trans rb e]
  exact wD I rc hg1 (I.frozen hm) h q
theorem wO (h:Cr op=true):op=.Add:=by
 cases op with
 |Add=>rfl
 |_=>exact bF h
theorem Bw (h:FJ op a b st k)(I:Inv X st s)(ra:a.R st.ad v)(rb:b.R st.ad u)(q:aj X st k Q):Wp X (Tt op v u) Q E s:=by
 unfold FJ at h
 cases hi:both a.int? b.int? with
 |some p=>
  rw[hi]at h
  rcases dj hi with⟨ha,hb⟩
  rcases SV.aX ha ra with⟨_,rfl⟩
  rcases SV.aX hb rb with⟨_,rfl⟩
  exact wy h I q
 |none=>
  rw[hi]at h
  rcases aA h with⟨ho,h⟩
  rw[wO ho]
  unfold HT at h
  cases hs:both a.b7 b.b7 with
  |some p=>
   rw[hs]at h
   rcases dj hs with⟨ha,hb⟩
   rcases SV.bA ha ra with⟨_,rfl⟩
   rcases SV.bA hb rb with⟨_,rfl⟩
   exact PyProof.Rows.add_str (λt2 tk=>q.z (I.aO _) h.2) h.1
  |none=>rw[hs]at h;exact A3 h I ra rb q
theorem yk {c:SV}(I:Inv X st s)(r:sv.R st.ad v)(rc:c.R st.ad u)(he:st.ent sv=some (.vlist a vs))(hz:vs.length<2^20)(hk:∀u,c.R st.ad u→k .none (st.c4 sv (.vlist a (vs++[u])))) (q:aj X st k Q):Wp X (call (.builtin "list.append") [v,u]) Q E s:=by
 rcases St.aR he r with rfl
 obtain⟨m,P,le,Q',D,d1,d2,H,F,N,nd,re⟩:=I.cut he
 rcases H.dW with⟨n,rfl⟩
 refine append_K F N (gZ nd) (λh' F' N'=>q .none _ _ _ (re (.vlist a (vs++[u])) [(a,listOf (vs.toArray.push u) (n+1))] _ rfl ?_ rfl rfl F' N' (bp nd)) (gN he rfl) rfl (hk u rc)) ?_
 ·have:vs.toArray.push u=(vs++[u]).toArray:=by simp
  rw[this]
  exact .vlist
 ·rw[Pw];unfold Qs;lia
end
noncomputable def Lb:List (Str×String):=[("lower","str.lower"),("partition","str.partition"),("find","str.find"),("join","str.join")]
noncomputable def Nn:List (Str×String):=[("append","list.append"),("pop","list.pop")]
noncomputable def NP:List (Str×String):=[("append","list.append")]
noncomputable def LQ:List (Str×String):=[("get","dict.get")]
noncomputable def Jr (e:HE)(n:Str):Option String:=match e with
 |.slist _ _=>iu n Nn
 |.vlist _ _=>iu n NP
 |.map _ _ _=>iu n LQ
 |_=>none
noncomputable def E9:SV→Bool
 |.top d=>(eF d).isSome
 |_=>false
noncomputable def HN (rv:SV)(n:Str):Option String:=match E9 rv with
 |true=>iu n LQ
 |false=>none
noncomputable def yN (rv:SV)(n:Str)(st:St):Option String:=match rv.b7 with
 |some _=>iu n Lb
 |none=>match st.ent rv with
  |some e=>Jr e n
  |none=>HN rv n
noncomputable abbrev Hy:=List SV→St→KV→Prop
def r1 (f:SV→St→KV→Prop):Hy:=λas st k=>ag (hY as) λq=>f q.1 st k
def r2 (f:SV→SV→St→KV→Prop):Hy:=λas st k=>ag (iG as) λq=>f q.1.1 q.1.2 st k
def r3 (f:SV→SV→SV→St→KV→Prop):Hy:=λas st k=>ag (pz as) λq=>f q.1.1 q.1.2.1 q.1.2.2 st k
def eP (a:SV)(p:Str→Prop):Prop:=ag a.b7 λx=>p x
def o7 (a:SV)(p:Int→Prop):Prop:=ag a.int? λi=>p i
def JD (a:SV)(st:St)(k:KV):Prop:=eP a λx=>x.length=1∧k (.int ((x.cps.getD 0 0:Nat):Int)) st
def K6 (a:SV)(st:St)(k:KV):Prop:=o7 a λi=>(0≤i∧i≤1114111)∧k (.str ⟨#[i.toNat]⟩) st
def w9 (a:SV)(st:St)(k:KV):Prop:=eP a λx=>Qc (PA x).length=false∧k (.str (PA x)) st
def Dv (a c:SV)(st:St)(k:KV):Prop:=eP a λx=>eP c λy=>((y.length==0)=false∧x.length≤Qs)∧∀l,k (.tmp st.tp.length) (st.dH (.tup l [.str (Ph x y).1,.str (Ph x y).2.1,.str (Ph x y).2.2]))
def Dh (a c:SV)(st:St)(k:KV):Prop:=eP a λx=>eP c λy=>k (.int (Qw x y)) st
noncomputable def EZ:Option HE→Option (Addr×List Str)
 |some e=>match e with
  |.slist l ws=>some (l,ws)
  |_=>none
 |none=>none
def Dt (a c:SV)(st:St)(k:KV):Prop:=eP a λx=>ag (EZ (st.ent c)) λq=>x=Rv∧(Qc (q.2.toArray.foldl (·+·.length+Str.empty.length) 0)=false∧(bU q.2).length≤Qs)∧k (.str (bU q.2)) st
def Jc (a c:SV)(l:Addr)(ws:List Str)(st:St)(k:KV):Prop:=eP c λx=>ws.length<2^20∧k .none (st.c4 a (.slist l (ws++[x])))
def Iv (a c:SV)(e:HE)(st:St)(k:KV):Prop:=match e with
 |.slist l ws=>Jc a c l ws st k
 |.vlist l vs=>vs.length<2^20∧∀u,c.R st.ad u→k .none (st.c4 a (.vlist l (vs++[u])))
 |_=>False
def G' (a c:SV)(st:St)(k:KV):Prop:=ag (st.ent a) λe=>Iv a c e st k
def K8 (a:SV)(st:St)(k:KV):Prop:=ag (EZ (st.ent a)) λq=>∃ws x,q.2=ws++[x]∧ws.length<2^20∧k (.str x) (st.c4 a (.slist q.1 ws))
def Kz (o:Option Str)(lit:Bool)(d:SV)(st:St)(k:KV):Prop:=match o with
 |some y=>k (match lit with|true=>.txt y|false=>.str y) st
 |none=>k d st
def B9 (a c d:SV)(x:Str)(st:St)(k:KV):Prop:=match a with
 |.top b=>ag (eF b) λl=>Kz (eX x l) c.eO d st k
 |_=>False
def IC (a c d:SV)(st:St)(k:KV):Prop:=eP c λx=>B9 a c d x st k
def Ik (a:SV)(st:St)(k:KV):Prop:=o7 a λi=>k (.int (if i<0 then -i else i)) st
def JK (a c:SV)(st:St)(k:KV):Prop:=o7 a λi=>o7 c λj=>k (.int (if j<i then j else i)) st
def I9 (a:SV)(st:St)(k:KV):Prop:=match a with
 |.opq u=>∃(l:Addr)(vs:List Value)(n:Nat)(bs:List Bool),(u=.ref l∧(l,listOf vs.toArray n)∈st.fz∧RK vs bs)∧k (.bool (bs.all λb=>b)) st
 |_=>False
noncomputable def Cs (sc:Addr×List Int):List (String×Hy):=[("len",r1 (E3 sc)),("isinstance",r2 IF),("ord",r1 JD),("chr",r1 K6),("str.lower",r1 w9),("str.partition",r2 Dv),("str.find",r2 Dh),("str.join",r2 Dt),("list.append",r2 G'),("list.pop",r1 K8),("dict.get",r3 IC),("abs",r1 Ik),("min",r2 JK),("all",r1 I9)]
def sy (sc:Addr×List Int)(id:String)(as:List SV)(st:St)(k:KV):Prop:=ag (iu id (Cs sc)) λf=>f as st k
section
variable {X:Fx}{st:St}{s:Pl}{E:Value→Pl→Prop}{k:KV}{Q:Value→Pl→Prop}
def fS (X:Fx)(v:Value)(s:Pl)(n:Str)(id:String):Prop:=∀(pl:Sem Bool)(E:Value→Pl→Prop)(Q:Value×List Value→Pl→Prop),Q (.builtin id,[v]) s→Wp X (Ss v n pl) Q E s
theorem z7:jv (fS X (.str x t) s) Lb:=
 .cons (λ_ _ _ q=>GM.lower q) (.cons (λ_ _ _ q=>GM.partition q) (.cons (λ_ _ _ q=>GM.find q) (.cons (λ_ _ _ q=>GM.join q) .nil)))
theorem noDict {vs:List Value}(hg:s.heap.get? a=some (listOf vs.toArray n)):∀b,Pa a=.ref b→∃o,s.heap.get? b=some o∧o.dict=none:=λb e=>by cases e;exact⟨_,hg,rfl⟩
theorem F4 {vs:List Value}(hg:s.heap.get? a=some (listOf vs.toArray n)):jv (fS X (.ref a) s) Nn:=
 .cons (λ_ _ _ q=>QR (T:="list") ⟨_,hg,rfl⟩ QS RR RS (noDict hg) q)
  (.cons (λ_ _ _ q=>QR (T:="list") ⟨_,hg,rfl⟩ QS Sq PySem.F.type_list_pop (noDict hg) q) .nil)
theorem EJ {vs:List Value}(hg:s.heap.get? a=some (listOf vs.toArray n)):jv (fS X (.ref a) s) NP:=
 .cons (λ_ _ _ q=>QR (T:="list") ⟨_,hg,rfl⟩ QS RR RS (noDict hg) q) .nil
theorem Bk {id:String}(O:X.Ok)(h:HN rv n=some id)(I:Inv X st s)(r:rv.R st.ad v):fS X v s n id:=by
 rcases dM h with⟨ht,h2⟩
 cases rv with
 |top d=>
  cases r
  rcases Option.isSome_iff_exists.mp ht with⟨l,hl⟩
  obtain⟨es,n,hK,hkl,hs',hlo⟩:=eH hl X.w.params
  have hm:=mapOf_K (prog:=pw) (w:=X.w) (O.dg I) hK hkl
  exact(show jv (fS X (.ref d) s) LQ from .cons (λ_ _ _ q=>QR hm.typeIs Tx Rx PySem.F.type_dict_get hm.noDict q) .nil).find h2
 |_=>exact absurd ht nofun
theorem Bo {id:String}(he:st.ent rv=some e)(h:Jr e n=some id)(I:Inv X st s)(r:rv.R st.ad v):fS X v s n id:=by
 cases e with
 |slist a ws=>obtain⟨rfl,vs,nn,ir,hg⟩:=I.slist r he;exact(F4 hg).find h
 |vlist a ws=>obtain⟨rfl,nn,hg⟩:=I.vlist r he;exact(EJ hg).find h
 |map a w kvs=>
  obtain⟨rfl,hd,lo⟩:=I.wt r he
  exact(show jv (fS X (.ref a) s) LQ from .cons (λ_ _ _ q=>QR hd.typeIs Tx Rx PySem.F.type_dict_get hd.mapOf.noDict q) .nil).find h
 |_=>exact absurd h nofun
theorem wj {id:String}{Q:Value×List Value→Pl→Prop}(O:X.Ok)(h:yN rv n st=some id)(I:Inv X st s)(r:rv.R st.ad v)(q:Q (.builtin id,[v]) s):Wp X (Ss v n pl) Q E s:=by
 unfold yN at h
 cases hx:rv.b7 with
 |some x=>
  rw[hx]at h
  rcases SV.bA hx r with⟨t,rfl⟩
  exact z7.find h pl E Q q
 |none=>
  rw[hx]at h
  cases he:st.ent rv with
  |some e=>rw[he]at h;exact Bo he h I r pl E Q q
  |none=>rw[he]at h;exact Bk O h I r pl E Q q
def c8 (X:Fx)(id:String)(f:Hy):Prop:=∀(as:List SV)(vs:List Value)(st:St)(s:Pl)(k:KV)(Q:Value→Pl→Prop)(E:Value→Pl→Prop),f as st k→Inv X st s→IR st.ad as vs→aj X st k Q→Wp X (R0 (.builtin id) vs) Q E s
theorem ja {id:String}(h:∀(a:SV)(v:Value)(st:St)(s:Pl)(k:KV)(Q:Value→Pl→Prop)(E:Value→Pl→Prop),f a st k→Inv X st s→a.R st.ad v→aj X st k Q→Wp X (R0 (.builtin id) [v]) Q E s):c8 X id (r1 f):=by
 intro as vs st s k Q E hf I r q
 obtain⟨p,_,hf⟩:=aa hf
 rcases p with⟨a,rfl⟩
 obtain⟨v,rfl,ra⟩:=Gp r
 exact h _ _ _ _ _ _ _ hf I ra q
theorem kX {id:String}(h:∀(a c:SV)(v u:Value)(st:St)(s:Pl)(k:KV)(Q:Value→Pl→Prop)(E:Value→Pl→Prop),f a c st k→Inv X st s→a.R st.ad v→c.R st.ad u→aj X st k Q→Wp X (R0 (.builtin id) [v,u]) Q E s):c8 X id (r2 f):=by
 intro as vs st s k Q E hf I r q
 obtain⟨p,_,hf⟩:=aa hf
 obtain⟨⟨a,b⟩,rfl⟩:=p
 obtain⟨v,u,rfl,ra,rb⟩:=nJ r
 exact h _ _ _ _ _ _ _ _ _ hf I ra rb q
theorem bY (h:eP a p)(r:a.R D v):∃x t,v=.str x t∧a.b7=some x∧p x:=by
 obtain⟨x,hx,h⟩:=aa h
 rcases SV.bA hx r with⟨t,rfl⟩;exact⟨x,t,rfl,hx,h⟩
theorem gi (h:o7 a p)(r:a.R D v):∃i t,v=.int i t∧p i:=by
 obtain⟨x,hx,h⟩:=aa h
 rcases SV.aX hx r with⟨t,rfl⟩;exact⟨x,t,rfl,h⟩
theorem rE {q:Addr×List Str}(h:EZ o=some q):o=some (.slist q.1 q.2):=by
 cases o with
 |none=>exact absurd h nofun
 |some e=>cases e with
  |slist l ws=>cases h;rfl
  |_=>exact absurd h nofun
theorem Bs:c8 X "ord" (r1 JD):=ja λa v st s k Q E h I ra q=>by
 obtain⟨x,t,rfl,_,h⟩:=bY h ra
 exact ord_of_one h.1 (q.i (I.aO _) h.2)
theorem AR:c8 X "chr" (r1 K6):=ja λa v st s k Q E h I ra q=>by
 obtain⟨x,t,rfl,h⟩:=gi h ra
 exact chr_of_range h.1.1 h.1.2 (q.z (I.aO _) h.2)
theorem tF:c8 X "str.lower" (r1 w9):=ja λa v st s k Q E h I ra q=>by
 obtain⟨x,t,rfl,_,h⟩:=bY h ra
 exact SC.lower h.1 (q.z (I.aO _) h.2)
theorem xx:c8 X "str.partition" (r2 Dv):=kX λa c v u st s k Q E h I ra rc q=>by
 obtain⟨x,t,rfl,_,h⟩:=bY h ra
 obtain⟨y,t',rfl,_,h⟩:=bY h rc
 exact oD I h.1.1 h.1.2 h.2 q
theorem yd:c8 X "str.find" (r2 Dh):=kX λa c v u st s k Q E h I ra rc q=>by
 obtain⟨x,t,rfl,_,h⟩:=bY h ra
 obtain⟨y,t',rfl,_,h⟩:=bY h rc
 exact SC.find (q.i (I.aO _) h)
theorem zq:c8 X "str.join" (r2 Dt):=kX λa c v u st s k Q E h I ra rc q=>by
 obtain⟨x,t,rfl,_,h⟩:=bY h ra
 obtain⟨p,hp,h⟩:=aa h
 obtain⟨rfl,⟨h1,h2⟩,hk⟩:=h
 exact Ee I rc (rE hp) h1 h2 hk q
theorem BC:c8 X "list.append" (r2 G'):=kX λa c v u st s k Q E h I ra rc q=>by
 obtain⟨e,he,h⟩:=aa h
 cases e with
 |slist l ws=>obtain⟨x,t,rfl,_,h⟩:=bY h rc;exact zl I ra he h.1 h.2 q
 |vlist l vs=>exact yk I ra rc he h.1 h.2 q
 |_=>exact h.elim
theorem zN:c8 X "list.pop" (r1 K8):=ja λa v st s k Q E h I ra q=>by
 obtain⟨p,hp,h⟩:=aa h
 rcases p with⟨l,cs⟩
 obtain⟨ws,x,e,hz,hk⟩:=h
 cases e
 exact Ks I ra (rE hp) hz hk q
theorem Kd {id:String}(h:∀(a c d:SV)(v u w:Value)(st:St)(s:Pl)(k:KV)(Q:Value→Pl→Prop)(E:Value→Pl→Prop),f a c d st k→Inv X st s→a.R st.ad v→c.R st.ad u→d.R st.ad w→aj X st k Q→Wp X (R0 (.builtin id) [v,u,w]) Q E s):c8 X id (r3 f):=by
 intro as vs st s k Q E hf I r q
 obtain⟨p,_,hf⟩:=aa hf
 obtain⟨⟨a,c,d⟩,rfl⟩:=p
 obtain⟨v,u,w,rfl,ra,rc,rd⟩:=vf r
 exact h _ _ _ _ _ _ _ _ _ _ _ hf I ra rc rd q
theorem xk (O:X.Ok)(h:B9 a c d x st k)(I:Inv X st s)(ra:a.R st.ad v)(rd:d.R st.ad w)(q:aj X st k Q):Wp X (R0 (.builtin "dict.get") [v,.str x t,w]) Q E s:=by
 cases a with
 |top b=>
  cases ra
  obtain⟨l,hl,hk⟩:=aa h
  exact we O I rd hl _ hk q
 |_=>exact h.elim
theorem Bh (O:X.Ok):c8 X "dict.get" (r3 IC):=Kd λa c d v u w st s k Q E h I ra rc rd q=>by
 obtain⟨x,t,rfl,_,h⟩:=bY h rc
 exact xk O h I ra rd q
theorem AZ:c8 X "abs" (r1 Ik):=ja λa v st s k Q E h I ra q=>by
 obtain⟨x,t,rfl,h⟩:=gi h ra
 exact Te λu tk=>q.i (I.aO _) h
theorem Av (hh:X.A.handled=none):c8 X "min" (r2 JK):=kX λa c v u st s k Q E h I ra rc q=>by
 obtain⟨x,t,rfl,h⟩:=gi h ra
 obtain⟨y,t',rfl,h⟩:=gi h rc
 obtain⟨m,l,l',L1,L2,hl,F,N,nd⟩:=I.ex
 exact min_two_N hh F N λh' tk F' N'=>q.i ⟨⟨m,l,l',L1,L2,hl,F',N',nd⟩,I.gens,I.os⟩ h
theorem Ab (hh:X.A.handled=none):c8 X "all" (r1 I9):=ja λa v st s k Q E h I ra q=>by
 cases a with
 |opq u=>
  cases ra
  obtain⟨l,vs,n,bs,⟨rfl,hm,hb⟩,hk⟩:=h
  have hg:s.heap.get? l=some (listOf vs.toArray n):=I.frozen hm
  obtain⟨m,l1,l',L1,L2,hl,F,N,nd⟩:=I.ex
  exact LSm.all_bools F N hh (ay hg) hb λh' tk F' N'=>q.b ⟨⟨m,l1,l',L1,L2,hl,F',N',nd⟩,I.gens,I.os⟩ hk
 |_=>exact h.elim
theorem wL (O:X.Ok)(hh:X.A.handled=none):jv (c8 X) (Cs (X.scr,X.sns)):=
 .cons (ja λ_ _ _ _ _ _ _ h I r q=>AY O h I r q) (.cons (kX λ_ _ _ _ _ _ _ _ _ h I r r' q=>zI O h I r r' q) (.cons Bs (.cons AR (.cons tF (.cons xx (.cons yd (.cons zq (.cons BC (.cons zN (.cons (Bh O) (.cons AZ (.cons (Av hh) (.cons (Ab hh) .nil)))))))))))))
theorem jr {id:String}(O:X.Ok)(hh:X.A.handled=none)(h:sy (X.scr,X.sns) id as st k)(I:Inv X st s)(r:IR st.ad as vs)(q:aj X st k Q):Wp X (R0 (.builtin id) vs) Q E s:=by
 obtain⟨f,hf,hk⟩:=aa h
 exact(wL O hh).find hf _ _ _ _ _ _ _ hk I r q
end
noncomputable def ju:List (Addr×Str):=[(38,"place"),(58,"word"),(58,"place")]
noncomputable def fc (C:Addr):List Value:=[.ref C,.type "Exception",.type "BaseException",.type "object"]
noncomputable def ie (K:Frag)(C:Addr)(n:Str):Bool:=(Rf K (.ref C) "__getattribute__"==some (some (.builtin "BaseException.__getattribute__")))&&(Rf K (.ref C) "__getattr__"==some none)&&R4 K C&&(Rf K (.ref C) n==some none) &&
 (Rf K (.ref C) "__setattr__"==some (some (.builtin "object.__setattr__")))&&((clsIn K C).any λcd=>cd.mro==fc C)
theorem uD (P:PJ):(ju.all λp=>ie (Kf P) p.1 p.2)=true:=by kernel_rfl
theorem dn {K:Frag}(h:ie K C n=true):Rf K (.ref C) "__getattribute__"=some (some (.builtin "BaseException.__getattribute__"))∧Rf K (.ref C) "__getattr__"=some none∧R4 K C=true∧Rf K (.ref C) n=some none ∧
  Rf K (.ref C) "__setattr__"=some (some (.builtin "object.__setattr__"))∧∃cd,clsIn K C=some cd∧cd.mro=fc C:=by
 unfold ie at h
 simp only[Pe,beq_iff_eq]at h
 obtain⟨⟨⟨⟨⟨a,b⟩,c⟩,d⟩,e⟩,f⟩:=h
 obtain⟨cd,hc,hm⟩:=any_some f
 exact⟨a,b,c,d,e,cd,hc,beq_iff_eq.mp hm⟩
theorem pT (h:el C n ju=true)(P:PJ):ie (Kf P) C n=true:=List.all_eq_true.mp (uD P) _ (gU h)
theorem ud (self:Value):bindSpecial (.builtin "BaseException.__getattribute__") self=pure (.builtin "BaseException.__getattribute__",[self]):=
 (Slot.of (T:="BaseException") (name:="__getattribute__") (owner:="BaseException") (n:="__getattribute__") (by rw[typeLookup_type,builtinLookup_eq_fast];kernel_rfl) (by decide +kernel) (by decide +kernel) (by decide +kernel)
  (.inl (by decide +kernel)) (by rw[isSubtype_type];kernel_rfl)).bind self
section
variable {prog:Program}{P:PJ}{w:World}{A:SX}{E:Value→Pl→Prop}{s:Pl}{x C dx L:Addr}{ox:Obj}{h₀:Heap}{m:Str→Option Value}{es:List PX}{n:Nat}{name:Str}
theorem sP (X:(Kf P).In s.heap)(hc:clsIn (Kf P) C=some cd)(hm:cd.mro=fc C)(T:String)(hT:(fc C).contains (.type T)=true):Looks M s.heap (isSubtype (.ref C) (.type T)) true:=by
 refine looks_mroIn X ?_
 unfold mroIn
 rw[hc,Option.bind_some,hm]
 show(if _ then _ else some ((fc C).contains (.type T)))=some true
 rw[if_neg (λe=>by cases e),hT]
theorem z3 (F:Fr h₀ L s.heap m)(X₀:(Kf P).In h₀)(I:R9 s.heap x ox C (some (Qj es n))) (hk:ie (Kf P) C name=true)(hl:getL name es=some (some v))(hv:Rg v=true)(h:∀t,Q v {s with toks:=t}):wpAny (model prog w) A (Th (.ref x) name expr) Q E s:=by
 obtain⟨h1,h2,h3,h4,_,cd,hc,hm⟩:=dn hk
 have X:=X₀.keeps F.keep
 have sub:Looks (model prog w) s.heap (isInstance (.ref x) (.type "BaseException")) true:=I.type.andThen (sP X hc hm "BaseException" (by simp[fc]))
 obtain⟨hh,g,d,tt,os⟩:=s
 have L0:Looks (model prog w) hh (typeOf (.ref x)) (.ref C):=I.type
 have L1:=SP (M:=model prog w) X h1
 have L2:=SP (M:=model prog w) X h2
 have L3:=looks_find (M:=model prog w) X I (findObj_own h3 h4 rfl hl)
 unfold Th getAttrBy
 refine Po (TG (Q6 (Po (L0.at (Po (L1.at ?_))))))
 have hne:(Qu "BaseException.__getattribute__"==Qu "object.__getattribute__")=false:=by decide +kernel
 show wpAny _ _ (if(true&&Qu "BaseException.__getattribute__"==Qu "object.__getattribute__")=true then _ else _) _ _ _
 rw[hne]
 show wpAny _ _ (getAttrByItsOwn _ _ _ _ _ _) _ _ _
 unfold getAttrByItsOwn hookBefore
 refine Po (L2.at ?_)
 refine Po (wpAny_attempt (Q6 ?_))
 unfold callGetattribute
 rw[if_neg (by cases expr<;>decide)]
 unfold boundAndCalled
 rw[ud]
 refine Po (PH (S' ?_))
 refine codeAny_call_builtin (by decide +kernel) PySem.F.entry_bexc_ga (@check_slot (model prog w) _ _ _ "BaseException.__getattribute__" "BaseException" "__getattribute__" (.ref x) [.str name tt] [] _ (by decide +kernel) (by decide +kernel) sub (PySem.F.args_bexc_ga _ _) ?_)
 refine Po (PH (Po (PH (Po (L0.at (Po (L3.at ?_)))))))
 refine PH ?_
 show wpAny _ _ (handedOut v) _ _ _
 rw[handedOut_of hv];exact PH (h _)
end
section
variable {w:World}{A:SX}{E:Value→Pl→Prop}{s:Pl}{x C dx L:Addr}{ox:Obj}{h₀:Heap}{m:Str→Option Value}{es:List PX}{n:Nat}{name:Str}{v:Value}{R:Result→Pl→Prop}
theorem ow (X:(Kf w.params).In s.heap)(I:R9 s.heap x ox C od)(hk:ie (Kf w.params) C name=true)(h:∀b,wpAny (model pw w) A.in1 (Builtin.ObjectAttr.storeInOwnDict (.ref x) (.ref C) (.str name tk) name v b)
   (λfin s'=>match fin with|.done f=>R (.ok f) s'|.again c'=>c'.quiet=true∧P9 (model pw w) A c' R s') (λe s'=>R (.error e) s') s) :
  P9 (model pw w) A (.call (.builtin "object.__setattr__") ⟨[.ref x,.str name tk,v],[]⟩) R s:=by
 have SF:=PySem.F.store_Exception
 obtain⟨h1,h2,h3,h4,_,cd,hc,hm⟩:=dn hk
 have sub:Looks (model pw w) s.heap (isInstance (.ref x) (.type "object")) true:=I.type.andThen (sP X hc hm "object" (by simp[fc]))
 refine codeAny_call_builtin SF.slot.plain SF.entry (@check_slot (model pw w) _ _ s "object.__setattr__" "object" "__setattr__" (.ref x) [.str name tk,v] [] _ SF.kind SF.split sub (SF.args (.ref x) (.str name tk) v) ?_)
 have hmr:Looks (model pw w) s.heap (mroOf (.ref C)) (fc C):=(looks_clsIn X hc).andThen (by rw[hm];exact .now)
 rw[osa_eq,refuse_eq]
 refine Po (Po (I.type.here (Po (hmr.here ?_))))
 show wpAny _ _ (refuseLoop (.ref x) "__setattr__" (.ref C::[.type "Exception",.type "BaseException",.type "object"])) _ _ _
 rw[refuseLoop_ref,SF.passes]
 refine PH (Po (I.type.here (Po ((SP X h4).here (Po ?_)))))
 exact PH (h _)
set_option tactic.hygienic true in
theorem uE {pre:ah}(F:Fr h₀ L s.heap m)(N:News h₀ L s.heap (pre++(dx,Qj es n)::post)) (X:(Kf w.params).In s.heap)(I:R9 s.heap x ox C (some (Qj es n))) (hd:ox.dict=some dx)(hk:ie (Kf w.params) C name=true)(hl:(getL name es).isSome=true)(h1:∀p∈pre,p.1≠dx)(h2:∀p∈post,p.1≠dx)(hz:(putL name (PS w.params name) (.str name s.toks) v es).length≤1000) (h:∀h',Fr h₀ L h' m→News h₀ L h' (pre++(dx,Qj (putL name (PS w.params name) (.str name s.toks) v es) (putN name es n))::post)→R (.ok (.ret .none)) {s with heap:=h',toks:=s.toks+1}) :
  P9 (model pw w) A (.call (.builtin "object.__setattr__") ⟨[.ref x,.str name tk,v],[]⟩) R s:=by
 refine ow X I hk λb=>?_
 obtain⟨_,_,hdc,_,_,cd,hc,hm⟩:=dn hk
 have hd':cd.hasDict=true:=by
  unfold R4 at hdc
  rw[hc]at hdc;exact hdc
 rcases news_upd (f:=Obj.putName name (PS w.params name) (.str name s.toks) v) F N h1 h2 (putName_dict _ _ _ _ _ _) rfl with⟨U1,U2⟩
 have D:=(N (dx,Qj es n) (by simp)).1
 have D':=(U2 (dx,Qj (putL name (PS w.params name) (.str name s.toks) v es) (putN name es n)) (by simp)).1
 obtain⟨hx,hcl,hn,-⟩:=I
 obtain⟨oc,odi,oda,osl⟩:=ox
 dsimp only at hcl hd
 subst hcl hd
 refine Po (PH (Po (Po (Ta hx (Po ((looks_clsIn X hc).here ?_))))))
 rw[hd']
 refine PH (a:=some dx) (Po (PH (Po ?_)))
 unfold nsSet
 refine Po (Po (wpAny_askSetting (PH (Po (TG (Po (Ta D ?_)))))))
 unfold getL at hl
 dsimp only
 have c:(!es.toArray.any (·.key.isStr name)&&es.toArray.any (·.refKey))=false:=by
  rw[←Array.any_toList,←Array.any_toList]
  split at hl
  ·rename_i en he
   rw[List.any_eq_true.mpr ⟨en,List.mem_of_find?_eq_some he,List.find?_some he⟩];rfl
  ·split at hl
   ·cases hl
   ·rename_i z;rw[Bool.not_eq_true]at z;rw[z,Bool.and_false]
 rw[aRefKeyMayBeTheName_at,c]
 refine wpAny_updatePart D ?_
 refine Po (wpAny_lookBehind D' (pastItsLine_dict (by rw[Pw,sizeLine_eq];lia)) ?_)
 exact PH (h _ U1 U2)
end
noncomputable def D7 (e:Option HE):Option {q:Addr×Addr×Addr×List (Str×SV)×Array Value // e=some (.exc q.1 q.2.1 q.2.2.1 q.2.2.2.1 q.2.2.2.2)}:=match e with
 |some e=>match e with
  |.exc a C d fs vs=>some ⟨(a,C,d,fs,vs),rfl⟩
  |_=>none
 |none=>none
def JB (C:Addr)(fs:List (Str×SV))(n:Str)(st:St)(k:KV):Prop:=eT (el C n ju) (ag (look n fs) λsv=>eT (jw sv) (k sv st))
def rH (o:SV)(n:Str)(st:St)(k:KV):Prop:=match D7 (st.ent o)with
 |some q=>JB q.1.2.1 q.1.2.2.2.1 n st k
 |none=>eT (DA (st.ent o)) (Gu o n st k)
def Dn (o:SV)(n:Str)(sv:SV)(st:St)(k:St→Prop):Prop:=ag (D7 (st.ent o)) λq=>eT (el q.1.2.1 n ju&&R7 q.1.2.2.2.1.length 100) (k (st.c4 o (.exc q.1.1 q.1.2.1 q.1.2.2.1 (put n (sv.out st.ad) q.1.2.2.2.1) q.1.2.2.2.2)))
section
variable {X:Fx}{st:St}{s:Pl}{E:Value→Pl→Prop}{k:KV}{Q:Value→Pl→Prop}
theorem oQ (O:X.Ok)(h:rH o n st k)(I:Inv X st s)(ra:o.R st.ad v)(q:aj X st k Q):Wp X (Th v n ex) Q E s:=by
 unfold rH at h
 cases hq:D7 (st.ent o)with
 |none=>rw[hq]at h;exact Bi O (aA h).2 I ra q
 |some w=>
  rw[hq]at h
  rcases aA h with⟨hf,h⟩
  obtain⟨sv,hl,h⟩:=aa h
  rcases aA h with⟨hh,h⟩
  rcases St.aR w.2 ra with rfl
  obtain⟨m,P,le,Q',D,d1,d2,H,F,N,nd,_⟩:=I.cut w.2
  obtain⟨ha,ox,dd,es,nn,hd,fr,rfl,at_,_⟩:=H.g' rfl
  obtain⟨v',hv,hr⟩:=fr.look hl
  exact z3 F O.kin (at_ _ _ _ (News.sub N)) (pT hf _) hv (o5 hr hh) λt=>q sv st v' _ (I.aO t) (.refl _) (hr.mono d2) h
theorem vr {k:St→Prop}{Q:Unit→Pl→Prop}(O:X.Ok)(h:Dn o n sv st k)(I:Inv X st s)(ra:o.R st.ad v)(ru:sv.R st.ad u)(q:∀st' s',Inv X st' s'→k st'→Q () s'):Wp X (setAttr v n u) Q E s:=by
 obtain⟨w,_,h⟩:=aa h
 rcases aA h with⟨hf,h⟩
 rw[Pe]at hf
 obtain⟨⟨a,C,d,fs,vs⟩,he⟩:=w
 dsimp only at he hf h
 rcases St.aR he ra with rfl
 obtain⟨m,P,le,Q',D,d1,d2,H,F,N,nd,re⟩:=I.cut he
 obtain⟨ha,ox,dd,es,nn,hd,fr,rfl,at_,mk⟩:=H.g' rfl
 have hk:=pT hf.1 X.w.params
 have N1:News X.h₀ X.L s.heap ((P++[(a,ox)])++(dd,Qj es nn)::Q'):=by simpa using N
 have nd1:ao ((P++[(a,ox)])++(dd,Qj es nn)::Q'):=by simpa using nd
 obtain⟨pre,post,e1,e2,n1,n2⟩:=(gZ (o':=Qj es nn) nd1).split
 have fr':=fr.put (x:=n) (hh:=PS X.w.params n) (t:=s.toks+1) ((SV.lp ru).mono d1)
 have hlen:(putL n (PS X.w.params n) (.str n (s.toks+1)) u es).length≤1000:=by
  have f1:=fr'.length
  exact Pk (Rm f1) (Pk (jJ n (sv.out st.ad) fs) (Pk (Qo (PT hf.2)) (by decide)))
 have⟨p1,p2⟩:=ao.ne nd1
 have IA:=at_ _ _ _ (News.sub N)
 have KI:=O.dg I
 refine set_plain KI IA (dn hk).2.2.2.2.1 (uE (s:={s with toks:=s.toks+1}) F N1 KI IA hd hk (fr.isSome n) p1 p2 hlen λh' F' N'=>?_)
 obtain⟨e',hea,H',rfl⟩:=mk _ _ (putN n es nn) fr'
 refine q _ _ (re _ _ {s with heap:=h',toks:=s.toks+1+1} hea H' rfl rfl F' (by simpa using N') ?_) h
 have:=bp (o':=Qj (putL n (PS X.w.params n) (.str n (s.toks+1)) u es) (putN n es nn)) nd1
 simpa using this
end
theorem JC (P:PJ):ktsIn (Kf P) 38 "Exception"=true:=by kernel_rfl
theorem Ia (P:PJ):ktsIn (Kf P) 58 "Exception"=true:=by kernel_rfl
noncomputable def mQ:List Addr:=[38,58]
theorem Eo (h:eD C mQ=true)(P:PJ):ktsIn (Kf P) C "Exception"=true:=by
 have:=eo h
 simp only[mQ,QB,Qv,or_false]at this
 rcases this with rfl|rfl
 ·exact JC P
 ·exact Ia P
noncomputable def SV.pure:SV→Bool
 |.none=>true
 |.lit _=>true
 |.bool _=>true
 |.num _=>true
 |.int _=>true
 |.txt _=>true
 |.str _=>true
 |_=>false
theorem ER {sv:SV}(h:sv.pure=true)(r:sv.R D v):sv.R D' v:=by cases sv<;>first|exact r|cases h
theorem FR.pure (h:FR D fs es)(p:fs.all (λx=>x.2.pure)=true):FR D' fs es:=by
 induction h with
 |nil=>exact .nil
 |cons r _ ih=>
  rw[Qb,Pe]at p
  exact .cons (ER p.1 r) (ih p.2)
theorem kM {h B:Heap}:∀{l:List Env},h.FunFrames base l→(∀b∈l.filterMap (·.frame),B.get? b=none)→h.FunFrames B l
 |[],_,_=>trivial
 |env::r,⟨hk,⟨L,o,hf,_,ho,hd⟩,hr⟩,hB=>⟨hk,⟨L,o,hf,hB L (by rw[List.filterMap_cons,hf];exact .head _),ho,hd⟩,kM hr λb hb=>hB b (by rw[List.filterMap_cons,hf];exact .tail _ hb)⟩
theorem Inv.raised {st:St}(O:X.Ok)(I:Inv X st s)(he:st.ent sv=some (.exc a C d fs vs))(hz:1<vs.size)(h1:vs[1]?=some .none)(hp:fs.all (λx=>x.2.pure)=true) :
  rP X C fs (.ref a) s:=by
 obtain⟨A₀,outer,K,hA⟩:=O.below
 obtain⟨m,P,le,Q',D,d1,d2,H,F,N,nd,_⟩:=I.cut he
 obtain⟨es,n,fr,rfl⟩:=H.E7
 have Na:=N (a,ba C d vs) (Pb _ (.head _))
 have Nd:=N (d,Qj es n) (Pb _ (.tail _ (.head _)))
 have hda:d≠a:=λe=>by
  have q1:=Na.1
  have q2:=Nd.1
  simp only at q1 q2
  rw[e,q1]at q2
  cases q2
 let G:=s.heap.hide a
 have hG:∀b o,G.get? b=some o→s.heap.get? b=some o:=λb o e=>Heap.of_hide e
 have hne:∀b,b≠a→G.get? b=s.heap.get? b:=λb hb=>Heap.hide_ne _ hb
 have hLa:X.L≠a:=λe=>Na.2.1 e.symm
 have FG:Fr X.h₀ X.L G m:=by
  refine⟨?_,λb o e=>?_,F.above⟩
  ·obtain⟨oL,e1,e2,hL,rest⟩:=F.ns
   exact⟨oL,e1,e2,(hne _ hLa).trans hL,rest⟩
  ·have hb:b≠a:=λq=>by rw[q,Na.2.2]at e;cases e
   exact(hne b hb).trans (F.keep b o e)
 have K':=K.push (name:=X.cn) (a:=X.f) (cd:=X.cd) F O.kind
 let fl:=(X.env::outer).filterMap (·.frame)
 have frn:∀b∈fl,X.base.get? b=none∧∃o,s.heap.get? b=some o∧∀ws,o.data≠.fields ws:=λb hb=>K'.frames.mem hb
 have hBs:∀b o,(hideAll G fl).get? b=some o→s.heap.get? b=some o:=λb o e=>hG b o (of_hideAll _ e)
 have hdf:d∉fl:=λhm=>by
  obtain⟨env,he1,he2⟩:=List.mem_filterMap.mp hm
  rcases List.mem_cons.mp he1 with rfl|he1
  ·rw[cN]at he2;cases he2;exact Nd.2.1 rfl
  ·obtain⟨_,o,ho,_⟩:=K.frames.mem (List.mem_filterMap.mpr ⟨env,he1,he2⟩)
   rw[Nd.2.2]at ho;cases ho
 refine⟨a,G,m,hideAll G fl,d,es,n,none,outer,rfl,hA,FG,λb o e=>?_,λb o e hb=>hideAll_get _ e hb,⟨λb o e=>hBs b o e,?_,kM K'.frames λb hb=>hideAll_none _ hb,vs,Na.1,hz,h1⟩,.inl rfl,?_,fr.pure hp,λb o e _=>⟨o.slots,hG b o e⟩,Na.2.2,Nd.2.2,I.gens,I.os⟩
 ·have hb:b≠a:=λq=>by
   have:=K.stays b o e
   rw[q,Na.2.2]at this;cases this
  refine hideAll_get _ ((hne b hb).trans (K'.stays b o e)) λhm=>?_
  rw[(frn b hm).1]at e;cases e
 ·cases q:(hideAll G fl).get? a with
  |none=>rfl
  |some o=>have:=of_hideAll _ q;rw[Heap.hide_self]at this;cases this
 ·exact hideAll_get _ ((hne d hda).trans Nd.1) hdf
noncomputable def LZ (e:HE):Option {q:Addr×Addr×Addr×List (Str×SV)×Array Value // e=.exc q.1 q.2.1 q.2.2.1 q.2.2.2.1 q.2.2.2.2}:=match e with
 |.exc a C d fs vs=>some ⟨(a,C,d,fs,vs),rfl⟩
 |_=>none
noncomputable def L8 (o:Option HE):Option {q:Addr×Addr×Addr×List (Str×SV)×Array Value // o=some (.exc q.1 q.2.1 q.2.2.1 q.2.2.2.1 q.2.2.2.2)}:=match o with
 |some e=>match LZ e with
  |some q=>some ⟨q.1,congrArg some q.2⟩
  |none=>none
 |none=>none
def yY (Γ:bc)(F:bt)(e:Expr)(st:St):Prop:=F.ev e st λsv aq=>ag (L8 (aq.ent sv)) λq=>eT (eD q.1.2.1 mQ&&q.1.2.2.2.1.all λx=>x.2.pure) ((1<q.1.2.2.2.2.size∧q.1.2.2.2.2[1]?=some .none)∧Γ.ke q.1.2.1 q.1.2.2.2.1)
theorem tD {st:St}(O:X.Ok)(hh:X.A.handled=none)(S:Sound X Γ F)(h:yY Γ F e st)(I:Inv X st s)(hx:av X Γ.ke E) :
  Wp X (exec (.Raise (some e) none pos) X.env) Q E s:=by
 rw[arm_exec_Raise]
 refine Po (Rw ?_)
 show wpAny _ _ (raiseStmt X.env (some (do let v ←eval e X.env;SO pos;pure v)) none) _ _ _
 unfold raiseStmt
 refine Po (Po (S.ev e st s _ _ E h I hx λsv aq v s1 I1 le r hk=>?_))
 refine Po (Rw (PH ?_))
 obtain⟨⟨⟨a,C,d,fs,vs⟩,he⟩,_,hk⟩:=aa hk
 ·rcases aA hk with⟨hc,hk⟩
  ·replace hc:(eD C mQ&&fs.all λx=>x.2.pure)=true:=hc
   rw[Pe]at hc
   obtain⟨⟨hz,h1⟩,hke⟩:=hk
   rcases St.aR he r with rfl
   have fx:=I1.raised O he hz h1 hc.2
   have KI:=O.dg I1
   obtain⟨nm,qn,N,bs,bm,hdct,sn,sub,ab,col,dd,k0,k1,k2,k3,k5,newId,hC,hb,_⟩:=kts_cls KI (Eo hc.1 X.w.params)
   obtain⟨m,P,le',Q',D,d1,d2,H,F',N',nd,_⟩:=I1.cut he
   obtain⟨es,n,fr,rfl⟩:=H.E7
   have ha:s1.heap.get? a=some (ba C d vs):=(N' (a,ba C d vs) (Pb _ (.head _))).1
   have hcB:(Pa C::bm).contains (.type "BaseException")=true:=by rw[List.contains_cons,hb,Bool.or_true]
   have hE:=hx C fs (.ref a) s1 hke fx
   obtain⟨hp,g,dr,tk,os⟩:=s1
   show wpAny _ _ _ _ _ _
   dsimp only[HE.addr]at *
   repeat (first|with_reducible refine Tn ha ?_|with_reducible refine Tn hC ?_|(with_reducible refine wpAny_isSubtype_exc hC ?_;rw[hcB])|with_reducible refine Rj ha rfl h1 ?_|wp_step)
   all_goals first|exact wpAny_raiseNew_none hh hE|trace_state
theorem Inv.grow {st:St}(I:Inv X st s)(hk:Heap.ExtBut s.heap.objs.size s.heap h'):Inv X st ⟨h',s.gens,s.drawn,t,s.os⟩:=by
 obtain⟨m,l,l',L1,L2,hl,F,N,nd⟩:=I.ex
 refine⟨⟨m,l,l',L1,L2,hl,F.extBut hk (P5 _),λp hp=>⟨hk _ _ (Sa (Qd (N p hp).1)) (N p hp).1,(N p hp).2⟩,nd⟩,I.gens,I.os⟩
noncomputable def aZ (cs:Scope)(l:List Expr):Option (List Str):=match l with
 |[]=>some []
 |e::r=>(dB e).bind λq=>match decide (cs.names.lookup q.1.1=some .local)with
  |true=>(aZ cs r).bind λl=>some (q.1.1::l)
  |false=>none
noncomputable def eA:List Str→List SV→List (Str×SV)→List (Str×SV)
 |x::xs,v::vs,l=>eA xs vs (put x v l)
 |_,_,l=>l
noncomputable def my:Expr→Bool
 |.Tuple _ _ _=>false
 |_=>true
inductive mG (cs:Scope):List Expr→List Expr→Str→Str→Prop
 |mk {x y:Str}{p r:Pos}{a b:Expr}(h1:cs.names.lookup x=some .local)(h2:cs.names.lookup y=some .local)(h3:(p.line==r.line)=true)(h4:(x !=y)=true)(h5:aM a=true)(h6:aM b=true)
  (h7:(Q7 8 a&&Q7 8 b)=false)(h8:(QY 8 a&&QY 8 b)=false):mG cs [.Name x p,.Name y r] [a,b] x y
noncomputable def Cp (cs:Scope)(x y:Str)(p r:Pos)(a b:Expr):Bool:=decide (cs.names.lookup x=some .local)&&decide (cs.names.lookup y=some .local)&&(p.line==r.line)&&(x !=y)&&aM a&&aM b&&!(Q7 8 a&&Q7 8 b)&&!(QY 8 a&&QY 8 b)
noncomputable def De (cs:Scope)(t1 t2 a b:Expr):Option (Str×Str):=(dB t1).bind λx=>(dB t2).bind λy=>match Cp cs x.1.1 y.1.1 x.1.2 y.1.2 a b with
 |true=>some (x.1.1,y.1.1)
 |false=>none
noncomputable def Cj (cs:Scope)(ts vs:List Expr):Option (Str×Str):=(iG ts).bind λt=>(iG vs).bind λv=>De cs t.1.1 t.1.2 v.1.1 v.1.2
def zG (ns:List Str)(xs:List SV)(k:KF)(aq:St):Prop:=eT (PD xs.length ns.length) (k .next {aq with loc:=eA ns xs aq.loc})
def JL (ns:List Str)(pre xs:List SV)(k:KF)(aq:St):Prop:=match pre with
 |[]=>zG ns xs k aq
 |_::_=>False
def Mf (ns:List Str)(k:KF)(e:HE)(aq:St):Prop:=match e with
 |.tup _ xs=>zG ns xs k aq
 |.list _ pre xs=>JL ns pre xs k aq
 |_=>False
def tupK (ns:List Str)(k:KF)(sv:SV)(aq:St):Prop:=ag (aq.ent sv) λe=>Mf ns k e aq
noncomputable def rL (o:Option HE):Option {e:HE // o=some e}:=match o with
 |some e=>match e with
  |.exc a C d fs vs=>some ⟨.exc a C d fs vs,rfl⟩
  |_=>none
 |none=>none
def DC (x y:Str)(k:KF)(aq:St)(u w:SV):Prop:=match both (rL aq.tp[aq.tp.length-3]?) (rL aq.tp[aq.tp.length-2]?)with
 |some p=>(u=.opq (.ref p.1.1.addr)∧w=.opq (.ref p.2.1.addr))∧k .next {aq with loc:=put x (.tmp (aq.tp.length-3)) (put y (.tmp (aq.tp.length-2)) aq.loc)}
 |none=>k .next {aq with loc:=put x u (put y w aq.loc)}
def C1 (x y:Str)(k:KF)(sv:SV)(aq:St):Prop:=ag (Jz (aq.ent sv)) λq=>DC x y k aq q.1.2.1 q.1.2.2
section
variable {X:Fx}{Γ:bc}{F:bt}{st:St}{s:Pl}{E:Value→Pl→Prop}
theorem qt (O:X.Ok)(hk:X.cs.names.lookup x=some .local)(ra:a.R st.ad v)(I:Inv X st s)(h:∀s',Inv X {st with loc:=put x a st.loc} s'→Wp X (RT ts vs) Q E s'):Wp X (RT (Sw (.Name x p) X.env::ts) (v::vs)) Q E s:=by
 exact Rp (To (fm O I ra hk h))
theorem gj (h:aZ cs (e::r)=some ns):∃x p l,e=.Name x p∧cs.names.lookup x=some .local∧aZ cs r=some l∧ns=x::l:=by
 obtain⟨q,_,h⟩:=bO h
 rcases dM h with⟨hb,h⟩
 obtain⟨l,hl,h⟩:=bO h
 exact⟨q.1.1,q.1.2,l,q.2,of_decide_eq_true hb,hl,(Pd h).symm⟩
theorem er (O:X.Ok)(ts:List Expr):∀{ns:List Str}{xs:List SV}{vs:List Value}{st:St}{s:Pl}{Q:Unit→Pl→Prop},aZ X.cs ts=some ns→IR st.ad xs vs→xs.length=ns.length→Inv X st s →
  (∀s',Inv X {st with loc:=eA ns xs st.loc} s'→Q () s')→Wp X (RT ((Qy ts X.env).map (·.2)) vs) Q E s:=by
 induction ts with
 |nil=>
  intro ns xs vs st s Q h r hl I q
  have hns:ns=[]:=by
   have:aZ X.cs []=some []:=rfl
   rw[this]at h;exact(Pd h).symm
  subst hns
  cases r with
  |nil=>exact PH (q s I)
  |cons _ _=>cases hl
 |cons e ts ih=>
  intro ns xs vs st s Q h r hl I q
  obtain⟨x,p,l,rfl,hk,hl2,rfl⟩:=gj h
  cases r with
  |nil=>cases hl
  |@cons a v xs vs ra rs=>
   have e1:(Qy (.Name x p::ts) X.env).map (·.2)=Sw (.Name x p) X.env::(Qy ts X.env).map (·.2):=rfl
   rw[e1]
   refine qt O hk ra I λs' I'=>?_
   exact ih (st:={st with loc:=put x a st.loc}) hl2 rs (by simpa using hl) I' q
theorem mj {env:Env}(h:my e=true):swappedStores [.Tuple ts k p] e env=pure none:=by
 cases e with
 |Tuple _ _ _=>exact absurd h nofun
 |_=>rfl
theorem v9 {q:Str×Str}(h:De cs t1 t2 a b=some q):mG cs [t1,t2] [a,b] q.1 q.2:=by
 obtain⟨x,_,h⟩:=bO h
 obtain⟨y,_,h⟩:=bO h
 rcases dM h with⟨hb,h⟩
 unfold Cp at hb
 simp only[Pe,decide_eq_true_eq,PZ]at hb
 rw[x.2,y.2,←Pd h]
 exact .mk hb.1.1.1.1.1.1.1 hb.1.1.1.1.1.1.2 hb.1.1.1.1.1.2 hb.1.1.1.1.2 hb.1.1.1.2 hb.1.1.2 hb.1.2 hb.2
theorem zg {q:Str×Str}(h:Cj cs ts vs=some q):mG cs ts vs q.1 q.2:=by
 obtain⟨t,_,h⟩:=bO h
 obtain⟨v,_,h⟩:=bO h
 rw[t.2,v.2]
 exact v9 h
end
section
variable {X:Fx}{Γ:bc}{F:bt}{st:St}{s:Pl}{E:Value→Pl→Prop}
theorem sT {env:Env}(h:dk e=true):swapsWithSole [t] e l env=pure false:=eW (t:=some t) (l:=l) (env:=env) h
section
variable {ts:List Expr}{tp:Pos}{ns:List Str}{k:KF}{Q:Flow→Pl→Prop}{xs:List SV}{us:List Value}{a:Addr}
theorem uC (O:X.Ok)(hh:X.A.handled=none)(hns:aZ X.cs ts=some ns)(hlen0:(Qy ts X.env).length=ns.length)(hst:(Qy ts X.env).findIdx? (·.1)=none)(hk:zG ns xs k st)(ir:IR st.ad xs us)(hg:s.heap.get? a=some (cZ us))(I:Inv X st s)(q:bh X k Q) :
  Wp X (SO tp) (λ_=>Wp X (unpack (.ref a) (Qy ts X.env)) (λ_=>Q .next) E) E s:=by
 rcases aA hk with⟨hlen,hk⟩
 have hl2:=ir.length
 have hlen2:=Pu hlen
 refine Rw (unpack_tuple (items:=us.toArray) hh ⟨_,hg,rfl,0,rfl⟩ (by rw[hlen0];simp[hl2,hlen2]) hst λh' hk'=>?_)
 exact er O ts hns (by simpa using ir) hlen2 (I.grow hk') λs2 I2=>q .next _ _ _ I2 rfl hk
theorem pP (O:X.Ok)(hh:X.A.handled=none)(hns:aZ X.cs ts=some ns)(hlen0:(Qy ts X.env).length=ns.length)(hst:(Qy ts X.env).findIdx? (·.1)=none)(hk:zG ns xs k st)(ir:IR st.ad xs us)(hg:s.heap.get? a=some (listOf us.toArray nn))(I:Inv X st s)(q:bh X k Q) :
  Wp X (SO tp) (λ_=>Wp X (unpack (.ref a) (Qy ts X.env)) (λ_=>Q .next) E) E s:=by
 rcases aA hk with⟨hlen,hk⟩
 have hl2:=ir.length
 have hlen2:=Pu hlen
 have hn:(Qy ts X.env).length=us.toArray.size:=by rw[hlen0];simp[hl2,hlen2]
 refine Rw ?_
 unfold unpack
 rw[hn,hst]
 refine Po (Q6 (kun_itemsOf hh (ay hg) λh' hk'=>?_))
 exact er O ts hns (by simpa using ir) hlen2 (I.grow hk') λs2 I2=>q .next _ _ _ I2 rfl hk
end
theorem ps (O:X.Ok)(hh:X.A.handled=none)(S:Sound X Γ F)(hn:dk e=true)(ht:my e=true)(hns:aZ X.cs ts=some ns)(hlen0:(Qy ts X.env).length=ns.length)(hst:(Qy ts X.env).findIdx? (·.1)=none)(h:F.ev e st (tupK ns k))(I:Inv X st s)(hx:av X Γ.ke E)(q:bh X k Q):Wp X (exec (.Assign [.Tuple ts k0 tp] e pos) X.env) Q E s:=by
 refine Assign_Tuple (S.ev _ st s _ _ E h I hx λsv aq v s1 I1 le rv hk=>?_) (sT hn) (mj ht)
 obtain⟨e',he,hk⟩:=aa hk
 cases e' with
 |tup ta xs=>
  obtain⟨rfl,us,ir,hg⟩:=I1.wY rv he
  exact Po (uC O hh hns hlen0 hst hk ir hg I1 q)
 |list ta pre xs=>
  cases pre with
  |cons _ _=>exact hk.elim
  |nil=>
   obtain⟨rfl,us,nn,ir,hg⟩:=I1.list rv he
   exact Po (pP O hh hns hlen0 hst hk ir hg I1 q)
 |_=>exact hk.elim
end
section
variable {X:Fx}{Γ:bc}{F:bt}{st:St}{s:Pl}{E:Value→Pl→Prop}
theorem xV (O:X.Ok):X.env.blockKind=.function:=by
 show(if X.cs.kind.isAnnotationScope then _ else X.cs.kind)=_
 rw[O.kind];rfl
theorem Mc (h:∀e,aM e=true→f e=false)(h5:aM a=true)(h6:aM b=true):¬(([a,b].any f)=true):=by
 rw[RU,RU,h a h5,h b h6];exact bF
theorem Le (a:f (.Name x p)=some x)(b:f (.Name y r)=some y):List.filterMap f [Expr.Name x p,.Name y r]=[x,y]:=
 (List.filterMap_cons_some (b:=x) a).trans (congrArg (x::·) ((List.filterMap_cons_some (b:=y) b).trans rfl))
theorem nL (O:X.Ok)(h1:X.cs.names.lookup x=some .local)(h2:X.cs.names.lookup y=some .local)(h3:(p.line==r.line)=true)(h4:(x !=y)=true)(h5:aM a=true)(h6:aM b=true)(h7:(Q7 8 a&&Q7 8 b)=false)(h8:(QY 8 a&&QY 8 b)=false) :
  swappedStores [.Tuple [.Name x p,.Name y r] k pt] (.Tuple [a,b] kv pv) X.env=pure (some [x,y]):=by
 have hx:(x==y)=false:=by rw[bne,PZ]at h4;exact h4
 have hy:(y==x)=false:=by rw[Bool.beq_comm];exact hx
 have e1:(if(X.env.kindOf x==some .local&&p.line==p.line)=true then some x else none)=some x:=if_pos (by rw[show X.env.kindOf x=some .local from h1,beq_self_eq_true p.line];rfl)
 have e2:(if(X.env.kindOf y==some .local&&r.line==p.line)=true then some y else none)=some y:=if_pos (by rw[show X.env.kindOf y=some .local from h2,←beq_iff_eq.mp h3,beq_self_eq_true p.line];rfl)
 have ed:([x,y]:List Str).eraseDups=[x,y]:=by
  show Ry _ [x,y] []=_
  unfold Ry
  show Ry _ [y] [x]=_
  unfold Ry
  rw[show QX [x] (λz=>y==z)=false by rw[RU,hy];rfl]
  rfl
 refine(if_neg ?_).trans ((if_neg ?_).trans ((if_neg ?_).trans ((if_neg ?_).trans (if_neg ?_)))) |>.trans ?_
 ·rw[xV O];exact bF
 ·exact Mc (λe he=>by cases e<;>first|rfl|exact bF he) h5 h6
 ·rw[Le e1 e2,ed];exact bF
 ·show ¬((Q7 8 a&&(Q7 8 b&&true))=true)
  rw[Bool.and_true,h7];exact bF
 ·show ¬((QY 8 a&&(QY 8 b&&true))=true)
  rw[Bool.and_true,h8];exact bF
 ·rw[Le e1 e2]
theorem oA {α:Type} [Decidable c] {a b:α}(h:b=a):(if c then a else b)=a:=by rw[h,ite_self]
theorem ll (O:X.Ok)(h1:X.cs.names.lookup x=some .local)(h2:X.cs.names.lookup y=some .local)(ru:u.R st.ad u1)(rw1:w.R st.ad w1)(I:Inv X st s)(hk:k .next {st with loc:=put x u (put y w st.loc)}) (q:bh X k Q):Wp X (RT (([x,y]:List Str).reverse.map λn=>TP X.env n) [u1,w1].reverse) (λ_=>Q .next) E s:=by
 show Wp X (RT [TP X.env y,TP X.env x] [w1,u1]) (λ_=>Q .next) E s
 refine Rp (wpAny_bindName (fm O I rw1 h2 λs3 I3=>?_))
 refine Rp (wpAny_bindName (fm (st:={st with loc:=put y w st.loc}) O I3 ru h1 λs4 I4=>?_))
 exact PH (q .next _ _ _ I4 rfl hk)
theorem CC {st:St}(h:st.tp[i]?=some e)(r:(SV.opq (.ref e.addr)).R st.ad v):(SV.tmp i).R st.ad v:=
 ⟨e.addr,by show(st.tp.map HE.addr)[i]?=_;rw[QL,h];rfl,r⟩
theorem uq (O:X.Ok)(hh:X.A.handled=none)(S:Sound X Γ F)(hs:mG X.cs ts vs x y)(h:F.ev (.Tuple vs kv pv) st (C1 x y k))(I:Inv X st s)(hx:av X Γ.ke E)(q:bh X k Q):Wp X (exec (.Assign [.Tuple ts k0 pt] (.Tuple vs kv pv) pos) X.env) Q E s:=by
 cases hs with
 |mk h1 h2 h3 h4 h5 h6 h7 h8=>
  refine Assign_Tuple_swapped (names:=[x,y]) (S.ev _ st s _ _ E h I hx λsv aq v s1 I1 le rv hk=>?_) rfl (nL O h1 h2 h3 h4 h5 h6 h7 h8)
  obtain⟨p,_,hk⟩:=aa hk
  obtain⟨rfl,us,ir,hg⟩:=I1.wY rv p.2
  obtain⟨u1,w1,rfl,ru,rw1⟩:=nJ ir
  refine unpackItems_tuple (items:=#[u1,w1]) hh ⟨_,hg,rfl,0,rfl⟩ λh' hk'=>?_
  unfold DC at hk
  cases hb:both (rL aq.tp[aq.tp.length-3]?) (rL aq.tp[aq.tp.length-2]?)with
  |none=>
   rw[hb]at hk
   exact ll O h1 h2 ru rw1 (I1.grow hk') hk q
  |some r=>
   rw[hb]at hk
   obtain⟨⟨e1,e2⟩,hk⟩:=hk
   rw[e1]at ru
   rw[e2]at rw1
   exact ll O h1 h2 (CC r.1.2 ru) (CC r.2.2 rw1) (I1.grow hk') hk q
end
section
variable {X:Fx}{st:St}{s:Pl}{E:Value→Pl→Prop}
theorem IR.set (h:IR D xs vs)(r:sv.R D v):∀(k:Nat),IR D (xs.set k sv) (vs.set k v):=by
 induction h with
 |nil=>intro k;exact .nil
 |cons rr rs ih=>
  intro k
  cases k with
  |zero=>exact .cons r rs
  |succ k=>exact .cons rr (ih k)
theorem s8 {sx:SV}(I:Inv X st s)(r:sv.R st.ad v)(rx:sx.R st.ad vx)(he:st.ent sv=some (.list a [] suf))(hk:k<suf.length)(hz:suf.length<1000)(h:∀s',Inv X (st.c4 sv (.list a [] (suf.set k (sx.out st.ad)))) s'→Q () s'):Wp X (setItem v (.int k t) vx) Q E s:=by
 rcases St.aR he r with rfl
 obtain⟨m,P,le,Q',D,d1,d2,H,F,N,nd,re⟩:=I.cut he
 obtain⟨vs,n,ir,rfl⟩:=H.listI
 have hl:=ir.length
 rw[Q1]at hl
 have Z:=N (a,listOf vs.toArray n) (Pb _ (.head _))
 refine ki_setAt Z.1 (PG _) (by lia) (by rw[Pw,hl];exact Int.ofNat_lt.mpr hk) (h _ (re (.list a [] (suf.set k (sx.out st.ad))) [(a,listOf (vs.set k vx).toArray n)] _ rfl (.list ?_) rfl rfl (F.change (Heap.SameBut.update ..) Z.2.1 Z.2.2) ?_ (bp nd)))
 ·rw[Q1]
  rw[Q1]at ir
  exact ir.set ((SV.lp rx).mono d1) k
 ·refine ki_turn _ N (ao.ne nd).1 (ao.ne nd).2 ?_ ?_
  ·simp
  ·simp
end
def GR (o v:SV)(a:Addr)(suf:List SV)(j:Nat)(st:St)(k:St→Prop):Prop:=eT (Nat.blt j suf.length&&Nat.blt suf.length 1000) (k (st.c4 o (.list a [] (suf.set j (v.out st.ad)))))
def Jq (o v:SV)(a:Addr)(suf:List SV)(i:Int)(st:St)(k:St→Prop):Prop:=match i with
 |.ofNat j=>GR o v a suf j st k
 |.negSucc _=>False
def Ce (o i v:SV)(a:Addr)(suf:List SV)(st:St)(k:St→Prop):Prop:=match i with
 |.num n=>Jq o v a suf n st k
 |_=>False
def Jf (o i v:SV)(a:Addr)(pre suf:List SV)(st:St)(k:St→Prop):Prop:=match pre with
 |[]=>Ce o i v a suf st k
 |_::_=>False
def KS (w:World)(o i v:SV)(a:Addr)(w':World)(kvs:List (Str×Value))(st:St)(k:St→Prop):Prop:=ag i.b7 λx=>w'=w∧kvs.length<2^20∧∀u,v.R st.ad u→k (st.c4 o (.map a w' (stored kvs x u)))
def Ki (w:World)(o i v:SV)(e:HE)(st:St)(k:St→Prop):Prop:=match e with
 |.list a pre suf=>Jf o i v a pre suf st k
 |.map a w' kvs=>KS w o i v a w' kvs st k
 |_=>False
def AN (w:World)(o i v:SV)(st:St)(k:St→Prop):Prop:=ag (st.ent o) λe=>Ki w o i v e st k
def Cv (Γ:bc)(w:World)(F:bt)(o i e:Expr)(st:St)(k:KF):Prop:=eT (dk e) (F.ev e st λv aq=>zt Γ F [v] o aq λov cg=>zt Γ F [ov,v] i cg λiv pa=>AN w ov iv v pa λLI=>k .next LI)
section
variable {X:Fx}{Γ:bc}{F:bt}{st:St}{s:Pl}{E:Value→Pl→Prop}
theorem w6 (he:st.ent o=some (.list a [] suf))(h:Ce o i v a suf st k)(I:Inv X st s)(ro:o.R st.ad ov)(ri:i.R st.ad iv)(rv:v.R st.ad vv)(q:∀st' s',Inv X st' s'→k st'→Q () s'):Wp X (setItem ov iv vv) Q E s:=by
 cases i with
 |num n=>cases n with
  |ofNat j=>
   rcases aA h with⟨hb,h⟩
   rw[Pe]at hb
   have h1:=PT hb.1
   have h2:=PT hb.2
   rcases ri with⟨t,rfl⟩
   exact s8 I ro rv he (by lia) (by lia) λs' I'=>q _ s' I' h
  |negSucc _=>exact h.elim
 |_=>exact h.elim
theorem mN (h:AN X.w o i v st k)(I:Inv X st s)(ro:o.R st.ad ov)(ri:i.R st.ad iv)(rv:v.R st.ad vv)(q:∀st' s',Inv X st' s'→k st'→Q () s'):Wp X (setItem ov iv vv) Q E s:=by
 obtain⟨e,he,h⟩:=aa h
 cases e with
 |list a pre suf=>
  cases pre with
  |nil=>exact w6 he h I ro ri rv q
  |cons _ _=>exact h.elim
 |map a w' kvs=>
  obtain⟨x,hx,rfl,hz,hk⟩:=aa h
  rcases SV.bA hx ri with⟨t,rfl⟩
  exact ue I ro rv he hz λu s' ru I'=>q _ s' I' (hk u ru)
 |_=>exact h.elim
theorem xE (O:X.Ok)(hc:X.cs=Γ.cs)(S:Sound X Γ F)(h:Cv Γ X.w F o i e st k)(I:Inv X st s)(hx:av X Γ.ke E)(q:bh X k Q):Wp X (exec (.Assign [.Subscript o i p] e pos) X.env) Q E s:=by
 rcases aA h with⟨hn,h⟩
 refine wpAny_Assign_Subscript (S.ev e st s _ _ E h I hx λv aq vv s1 I1 le rv hk=>sg O hc S hk I1 hx (.cons rv .nil) λov cg o1 s2 I2 le2 r2 ro hk2=>sg O hc S hk2 I2 hx (.cons ro r2) λiv pa i1 s3 I3 le3 r3 ri hk3=>?_) (eW hn)
 obtain⟨_,_,e,ro',rv'⟩:=nJ r3
 cases e
 exact mN hk3 I3 ro' ri rv' λLI s4 I4 hk4=>q .next _ _ _ I4 rfl hk4
end
def MP (Γ:bc)(F:bt)(ts:List Expr)(e:Expr)(st:St)(k:KF):Prop:=eT (dk e) (ag (aZ Γ.cs ts) λns=>F.ev e st (tupK ns k))
def Lp (Γ:bc)(F:bt)(ts:List Expr)(e:Expr)(st:St)(k:KF):Prop:=nZ (EF e) (λq=>ag (Cj Γ.cs ts q.1.1) λp=>F.ev e st (C1 p.1 p.2 k)) (MP Γ F ts e st k)
theorem u2 (h:EF e=none):my e=true:=by
 cases e with
 |Tuple _ _ _=>exact absurd h nofun
 |_=>rfl
theorem ji {env:Env}:∀{ts:List Expr}{ns:List Str},aZ cs ts=some ns→(Qy ts env).length=ns.length∧(Qy ts env).findIdx? (·.1)=none:=by
 intro ts
 induction ts with
 |nil=>
  intro ns h
  have:aZ cs []=some []:=rfl
  rw[this]at h;cases h
  exact⟨rfl,rfl⟩
 |cons e r ih=>
  intro ns h
  obtain⟨x,p,l,rfl,hk,hl,rfl⟩:=gj h
  rcases ih hl with⟨a,b⟩
  have e1:Qy (.Name x p::r) env=(false,Sw (.Name x p) env)::Qy r env:=rfl
  rw[e1]
  exact⟨by simp[a],by simp[List.findIdx?_cons,b]⟩
theorem BJ {st:St}(O:X.Ok)(hc:X.cs=Γ.cs)(hh:X.A.handled=none)(S:Sound X Γ F)(h:Lp Γ F ts e st k)(I:Inv X st s)(hx:av X Γ.ke E)(q:bh X k Q):Wp X (exec (.Assign [.Tuple ts k0 tp] e pos) X.env) Q E s:=by
 rcases cw h with⟨t,_,h⟩|⟨ht,h⟩
 ·obtain⟨p,hs,h⟩:=aa h
  have hs:=zg hs
  rw[←hc]at hs
  rw[t.2]at h ⊢
  exact uq O hh S hs h I hx q
 ·rcases aA h with⟨hn,h⟩
  obtain⟨ns,hns,h⟩:=aa h
  rw[←hc]at hns
  rcases ji (env:=X.env) hns with⟨a,b⟩
  exact ps O hh S hn (u2 ht) hns a b h I hx q
section
variable {X:Fx}{Γ:bc}{F:bt}{st:St}{s:Pl}{E:Value→Pl→Prop}
theorem Inv.iter (V:Inv X (st.fr [(I,o)]) s) (hk:∀b x,b≠I→s.heap.get? b=some x→h'.get? b=some x)(ho:h'.get? I=some o'):Inv X (st.fr [(I,o')]) ⟨h',s.gens,s.drawn,t,s.os⟩:=by
 obtain⟨m,l,l',L1,L2,hl,F,N,nd⟩:=V.ex
 have N1:News X.h₀ X.L s.heap ((l++l')++(I,o)::st.rf):=by have:News X.h₀ X.L s.heap (l++(l'++(I,o)::st.rf)):=N;simpa using this
 have nd1:ao ((l++l')++(I,o)::st.rf):=by have:ao (l++(l'++(I,o)::st.rf)):=nd;simpa using this
 have hI:=N1 (I,o) (Pb _ (.head _))
 have nd2:=bp (o':=o') nd1
 have N2:News X.h₀ X.L h' ((l++l')++(I,o')::st.rf):=λp hp=>by
  rcases List.mem_append.mp hp with hp|hp
  ·have q:=N1 p (Px _ hp)
   exact⟨hk _ _ ((ao.ne nd1).1 p hp) q.1,q.2⟩
  ·rcases List.mem_cons.mp hp with rfl|hp
   ·exact⟨ho,hI.2⟩
   ·have q:=N1 p (Pb _ (.tail _ hp))
    exact⟨hk _ _ ((ao.ne nd1).2 p hp) q.1,q.2⟩
 refine⟨⟨m,l,l',L1,L2,hl,⟨F.ns.at' (λx e=>hk _ _ (λe=>hI.2.1 e.symm) e),λb x e=>hk b x (λq=>by rw[q,hI.2.2]at e;cases e) (F.keep b x e),F.above⟩,?_,?_⟩,V.gens,V.os⟩
 ·show News X.h₀ X.L h' (l++(l'++(I,o')::st.rf));simpa using N2
 ·show ao (l++(l'++(I,o')::st.rf));simpa using nd2
theorem Inv.MU (V:Inv X (st.fr f) s):Inv X st s:=by
 have:=V.sub (r:=st.rst) (z:=st.fz) (loc':=st.loc) (λ_ _ e=>e) (by
  show(st.rst++st.fz).Sublist ((f++st.rst)++st.fz)
  rw[Pj];exact RO _ _)
 exact this
theorem Inv.D8 (V:Inv X (st.fr [(I,o)]) s) (hk:∀b x,b≠I→s.heap.get? b=some x→h'.get? b=some x):Inv X st ⟨h',s.gens,s.drawn,t,s.os⟩:=by
 obtain⟨m,l,l',L1,L2,hl,F,N,nd⟩:=V.ex
 have N1:News X.h₀ X.L s.heap ((l++l')++(I,o)::st.rf):=by have:News X.h₀ X.L s.heap (l++(l'++(I,o)::st.rf)):=N;simpa using this
 have nd1:ao ((l++l')++(I,o)::st.rf):=by have:ao (l++(l'++(I,o)::st.rf)):=nd;simpa using this
 have hI:=N1 (I,o) (Pb _ (.head _))
 have sub:(l++(l'++st.rf)).Sublist ((l++l')++(I,o)::st.rf):=by
  rw[←Pj];exact(QA _).append (Sb _ _)
 have nd3:=nd1.sub sub
 refine⟨⟨m,l,l',L1,L2,hl,⟨F.ns.at' (λx e=>hk _ _ (λe=>hI.2.1 e.symm) e),λb x e=>hk b x (λq=>by rw[q,hI.2.2]at e;cases e) (F.keep b x e),F.above⟩,λp hp=>?_,nd3⟩,V.gens,V.os⟩
 have q:=N1 p (sub.mem hp)
 have hp2:p∈l++l'∨p∈st.rf:=by simpa[or_assoc]using hp
 exact⟨hk _ _ (hp2.elim (λhp=>(ao.ne nd1).1 p hp) λhp=>(ao.ne nd1).2 p hp) q.1,q.2⟩
theorem Inv.dX (V:Inv X st s)(o:Obj)(hfree:o.isFreed=false):Inv X (st.fr [(s.heap.objs.size,o)]) ⟨s.heap.push o,s.gens,s.drawn,s.toks,s.os⟩:=by
 obtain⟨m,l,l',L1,L2,hl,F,N,nd⟩:=V.ex
 have lt:∀p∈l++(l'++st.rf),p.1<s.heap.objs.size:=λp hp=>Qd (N p hp).1
 have N2:=N.push F o hfree
 have nd2:=e7 (L1:=l) (L2:=l') (L3:=st.rf) (o:=o) nd lt
 refine⟨⟨m,l,l',L1,L2,hl,F.push _,λp hp=>N2 p ?_,?_⟩,V.gens,V.os⟩
 ·have hp':p∈l++(l'++(s.heap.objs.size,o)::st.rf):=hp
  simp only[RX,QB]at hp' ⊢
  rcases hp' with h|h|h|h
  ·exact .inr (.inl h)
  ·exact .inr (.inr (.inl h))
  ·exact .inl h
  ·exact .inr (.inr (.inr h))
 ·show ao (l++(l'++(s.heap.objs.size,o)::st.rf));simpa using nd2
def xP (L:eg)(j:Nat)(I:Addr)(o:Obj)(cg:St):Prop:=cg.rst=(I,o)::cg.rst.tail∧Ent {cg with rst:=cg.rst.tail} λst'=>∃i',L.J (j+1) i'∧st'=L.S (j+1) i'
def JQ (L:eg)(k:KF)(j:Nat)(I:Addr)(o:Obj)(fl:r8)(cg:St):Prop:=match fl with
 |.next=>xP L j I o cg
 |.cont=>xP L j I o cg
 |.brk=>False
 |.ret sv=>cg.rst=(I,o)::cg.rst.tail∧k (.ret sv) {cg with rst:=cg.rst.tail}
def kL (F:bt)(L:eg)(ns:List Str)(b:List Stmt)(k:KF)(aq:St):Prop:=
 Ent aq (λst'=>∃i,L.J 0 i∧st'=L.S 0 i) ∧
 (∀j,L.split λi=>∀I o,j<L.n→L.J j i→bw F b {L.S j i with loc:=eA ns (L.items j) (L.S j i).loc,rst:=(I,o)::(L.S j i).rst} (JQ L k j I o)) ∧
 L.split λi=>L.J L.n i→k .next (L.S L.n i)
theorem Ci {st:St}(h:st.rst=p::r):St.fr {st with rst:=r} [p]=st:=by
 show{st with rst:=p::r}=st
 rw[←h]
inductive xJ (X:Fx)(L:eg)(I:Addr)(Sg:Nat→Heap→Prop)(s:Pl)(n:Nat):Prop
 |mk (j:Nat)(i:L.ι)(o:Obj)(hj:j≤L.n)(hn:n=L.n-j)(V:Inv X ((L.S j i).fr [(I,o)]) s) (hs:Sg j s.heap)(hJ:L.J j i)
theorem ux {cg:St}(W:Walks pw X.w X.A I fp wr L.n P Sg)(hst:Sg (j+1) h')(hj:j<L.n)(hfz:∀b∈fp,b=I∨∃ob,h'.get? b=some ob∧∀j i,L.J j i→(b,ob)∈(L.S j i).fz)(ho:h'.get? I=some o)(V:Inv X cg s3)(hb:xP L j I o cg):∃m,m<L.n-j∧xJ X L I Sg s3 m:=by
 rcases hb with⟨hr,e⟩
 have V5:Inv X (St.fr {cg with rst:=cg.rst.tail} [(I,o)]) s3:=(Ci hr).symm▸V
 obtain⟨_,⟨i',J',rfl⟩,V6⟩:=e.h X s3 [(I,o)] V5
 refine⟨L.n-(j+1),QH _ _ hj,j+1,i',o,hj,rfl,V6,W.frame _ _ _ hst (λb hb x e=>?_),J'⟩
 rcases hfz b hb with rfl|⟨z,hz,hm⟩
 ·rw[ho]at e
  rw[←Pd e]
  obtain⟨m,l,l',_,_,_,_,N,_⟩:=V6.ex
  exact(N (b,o) (Pb _ (Pb _ (.head _)))).1
 ·rw[hz]at e
  rw[←Pd e]
  exact V6.frozen (p:=(b,z)) (hm (j+1) i' J')
theorem rO {aq:St}(S:Sound X Γ F)(W:Walks pw X.w X.A I fp wr L.n P Sg)(hwr:∀b∈wr,b=I)(hfp:∀b∈fp,b=I∨∃ob,∀j i,L.J j i→(b,ob)∈(L.S j i).fz)(hob:∀j h,Sg j h→∃o,h.get? I=some o)(hgo:∀j v (s':Pl)(Q:Unit→Pl→Prop)(E':Value→Pl→Prop),Sg j s'.heap→Q () s'→Wp X (letOwnedTupleGo tgt (.ref I) v) Q E' s') (hasg:∀j i v o (s':Pl)(Q:Unit→Pl→Prop)(E':Value→Pl→Prop),j<L.n→L.J j i→P j v→Inv X ((L.S j i).fr [(I,o)]) s'→(∀s'',Inv X {L.S j i with loc:=eA ns (L.items j) (L.S j i).loc,rst:=(I,o)::(L.S j i).rst} s''→Q () s'')→Wp X (Sw tgt X.env v) Q E' s') (h:kL F L ns b k aq)(I0:Inv X (aq.fr [(I,o)]) s) (hs0:Sg 0 s.heap)(hx:av X Γ.ke (notedBy (model pw X.w) X.A X.env λe s'=>R (.error e) s')) (q:∀fl st' f s',Inv X st' s'→fl.R st'.ad f→k fl st'→R (.ok f) s'):P9 (model pw X.w) X.A (.forLoop tgt (.ref I) b [] X.env) R s:=by
 obtain⟨e0,hb,hend⟩:=h
 replace hb:=λj=>L.ok _ (hb j)
 replace hend:=L.ok _ hend
 obtain⟨_,⟨i0,j0,rfl⟩,I1⟩:=e0.h X s [(I,o)] I0
 refine codeAny_forLoop_any (λn s'=>xJ X L I Sg s' n) (λn s' hn=>?_) L.n ⟨0,i0,o,Ql _,rfl,I1,hs0,j0⟩
 obtain⟨j,i,o,hj,rfl,V,hst,hJ⟩:=hn
 by_cases hlt:j<L.n
 ·refine W.item j s' _ _ hlt hst λv h' tk hP hst' hk=>?_
  rcases hob _ _ hst' with⟨o',ho'⟩
  have V2:Inv X ((L.S j i).fr [(I,o')]) ⟨h',s'.gens,s'.drawn,tk,s'.os⟩:=V.iter (λb x hb e=>hk b x (λhm=>hb (hwr b hm)) e) ho'
  refine hgo (j+1) v _ _ _ hst' ?_
  refine hasg j i v o' _ _ _ hlt hJ hP V2 λs2 V3=>?_
  refine dG S (hb j i I o' hlt hJ) V3 hx λfl cg f s3 V4 rf hk4=>?_
  have fin:=ux (o:=o') W hst' hlt (λb hb=>(hfp b hb).imp id λ⟨z,hz⟩=>⟨z,V2.frozen (p:=(b,z)) (hz j i hJ),hz⟩) ho' V4
  cases fl with
  |next=>cases rf;exact fin hk4
  |cont=>cases rf;exact fin hk4
  |brk=>exact hk4.elim
  |ret sv=>
   obtain⟨v,rfl,rv⟩:=rf
   rcases hk4 with⟨hr,hk5⟩
   exact q (.ret sv) {cg with rst:=cg.rst.tail} _ _ (Inv.MU (f:=[(I,o')]) (by rw[Ci hr];exact V4)) ⟨v,rfl,rv⟩ hk5
 ·obtain rfl:j=L.n:=by lia
  refine W.done s' _ _ hst λh' tk hk=>wpAny_execs_nil (q .next _ _ _ (V.D8 λb x hb e=>hk b x (λhm=>hb (hwr b hm)) e) rfl (hend i hJ))
end
inductive vt (cs:Scope):Expr→Bool→List Str→Prop
 |one {x:Str}{p:Pos}(h:cs.names.lookup x=some .local):vt cs (.Name x p) false [x]
 |tup {ts:List Expr}{k:Nat}{p:Pos}{ns:List Str}(h:aZ cs ts=some ns):vt cs (.Tuple ts k p) true ns
noncomputable def x7 (cs:Scope)(e:Expr):Option (Bool×List Str):=match dB e with
 |some q=>match decide (cs.names.lookup q.1.1=some .local)with
  |true=>some (false,[q.1.1])
  |false=>none
 |none=>(EF e).bind λq=>(aZ cs q.1.1).bind λns=>some (true,ns)
theorem Ey {q:Bool×List Str}(h:x7 cs e=some q):vt cs e q.1 q.2:=by
 unfold x7 at h
 cases hn:dB e with
 |some x=>
  rw[hn]at h
  rcases dM h with⟨hk,h⟩
  rw[x.2,←Pd h];exact .one (of_decide_eq_true hk)
 |none=>
  rw[hn]at h
  obtain⟨t,_,h⟩:=bO h
  obtain⟨ns,hk,h⟩:=bO h
  rw[t.2,←Pd h];exact .tup hk
def Lr (L:eg)(i:Int)(K:Prop):Prop:=((0≤i∧i<1000000)∧L.n=i.toNat∧∀j,L.items j=[.int (j:Int)])∧K
noncomputable def Jt (c:Int):Bool:=match c with
 |.negSucc n=>PD n 0
 |.ofNat _=>false
theorem B0 (h:Jt c=true):c=-1:=by
 cases c with
 |negSucc n=>rw[Pu h];rfl
 |ofNat _=>exact absurd h nofun
def JS (L:eg)(i z c:Int)(K:Prop):Prop:=eT (Jt c) (((-5≤i∧i<1000000)∧z=-1∧L.n=(i+1).toNat∧∀j,L.items j=[.int (i-(j:Int))])∧K)
noncomputable def Ng (sv:SV):Option {i:Int // sv=.num i}:=match sv with
 |.num i=>some ⟨i,rfl⟩
 |_=>none
def El (L:eg)(as:List SV)(K:Prop):Prop:=nZ (hY as) (λa=>ag a.1.int? λi=>Lr L i K) (ag (pz as) λq=>ag q.1.1.int? λi=>ag q.1.2.1.int? λz=>ag (Ng q.1.2.2) λc=>JS L i z c.1 K)
def pX (L:eg)(vs:List Value)(tup:Bool):Prop:=match tup with
 |false=>∀j v,vs[j]?=some v→IR ⟨[],[],[]⟩ (L.items j) [v]
 |true=>∀j v,vs[j]?=some v→∃(t:Addr)(ws:List Value),v=.ref t∧(∀i,L.J j i→(t,cZ ws)∈(L.S j i).fz)∧IR ⟨[],[],[]⟩ (L.items j) ws
def Lm (L:eg)(x:Str)(K:Prop):Prop:=(L.n=x.cps.size∧∀j,L.items j=[.str ⟨#[x.cps.getD j 0]⟩])∧K
def Hp (L:eg)(tup:Bool)(o:Option Str)(K:Prop):Prop:=match tup with
 |true=>False
 |false=>ag o λx=>Lm L x K
def E6 (L:eg)(tup:Bool)(sv:SV)(st:St)(K:Prop):Prop:=match sv with
 |.opq u=>∃(l:Addr)(vs:List Value)(nn:Nat),u=.ref l∧((l,listOf vs.toArray nn)∈st.fz∧(∀j i,L.J j i→(l,listOf vs.toArray nn)∈(L.S j i).fz)∧L.n=vs.length)∧pX L vs tup∧K
 |_=>Hp L tup sv.b7 K
noncomputable def yL (sv:SV):Bool:=match sv with
 |.ty n=>n == "range"
 |_=>false
noncomputable def GD (Γ:bc)(iter:Expr)(tup:Bool)(st:St):Option (List Expr):=(xq iter).bind λq=>(dB q.1.1).bind λx=>(cz Γ (.Name x.1.1 x.1.2) st).bind λsv=>match yL sv&&vG q.1.2.2.1&&q.1.2.1.all aM&&!tup with
 |true=>some q.1.2.1
 |false=>none
def kc (F:bt)(L:eg)(ns:List Str)(b:List Stmt)(k:KF)(aq:St):Prop:=(∀j,j<L.n→(L.items j).length=ns.length)∧kL F L ns b k aq
def Nf (Γ:bc)(F:bt)(L:St→eg)(iter:Expr)(tup:Bool)(ns:List Str)(b:List Stmt)(st:St)(k:KF):Prop:=nZ (GD Γ iter tup st) (λargs=>u' Γ F [] args st λas aq=>El (L aq) as (kc F (L aq) ns b k aq)) (eT (dT iter) (F.ev iter st λsv aq=>E6 (L aq) tup sv aq (kc F (L aq) ns b k aq)))
def KU (Γ:bc)(F:bt)(L:St→eg)(tgt iter:Expr)(b:List Stmt)(st:St)(k:KF):Prop:=ag (x7 Γ.cs tgt) λt=>Nf Γ F L iter t.1 t.2 b st k
theorem gA {env:Env}(h:dT iter=true)(x:Value):foldedSetIterable iter env x=pure x:=by
 cases iter with
 |Set _ _ _=>exact absurd h nofun
 |_=>rfl
def fL (X:Fx)(Q:Flow→Pl→Prop)(E:Value→Pl→Prop)(r:Result)(s':Pl):Prop:=match r with
 |.ok f=>Q f s'
 |.error e=>Sr (model pw X.w) X.A X.env E e s'
section
variable {X:Fx}{Γ:bc}{F:bt}{st:St}{s:Pl}{E:Value→Pl→Prop}
theorem y6 (O:X.Ok)(hk:X.cs.names.lookup x=some .local)(I:Inv X st' s)(r:sv.R st'.ad v)(h:∀s',Inv X {st' with loc:=put x sv st'.loc} s'→Q () s'):Wp X (Sw (.Name x px) X.env v) Q E s:=To (fm O I r hk h)
theorem L6 {L:eg}{i:L.ι}(h:Inv X {(L.S j i).fr [(I,o)]with loc:=eA ns (L.items j) (L.S j i).loc} s'') :
  Inv X {L.S j i with loc:=eA ns (L.items j) (L.S j i).loc,rst:=(I,o)::(L.S j i).rst} s'':=h
theorem Ge:eA [x] [sv] l=put x sv l:=rfl
theorem m6 {aq:St}(O:X.Ok)(S:Sound X Γ F)(W:Walks pw X.w X.A I fp wr L.n P Sg)(hwr:∀b∈wr,b=I)(hfp:∀b∈fp,b=I∨∃ob,∀j i,L.J j i→(b,ob)∈(L.S j i).fz)(hob:∀j h,Sg j h→∃o,h.get? I=some o)(hk:X.cs.names.lookup x=some .local)(hP:∀j v,j<L.n→P j v→IR ⟨[],[],[]⟩ (L.items j) [v])(h:kL F L [x] b k aq)(I0:Inv X (aq.fr [(I,o)]) s) (hs0:Sg 0 s.heap)(hx:av X Γ.ke (notedBy (model pw X.w) X.A X.env λe s'=>R (.error e) s')) (q:∀fl st' f s',Inv X st' s'→fl.R st'.ad f→k fl st'→R (.ok f) s'):P9 (model pw X.w) X.A (.forLoop (.Name x px) (.ref I) b [] X.env) R s:=by
 refine rO S W hwr hfp hob (λj v s' Q E' _ hq=>PH hq) (λj i v o s' Q E' hj hJ hp V hq=>?_) h I0 hs0 hx q
 have r:=hP j v hj hp
 cases hit:L.items j with
 |nil=>rw[hit]at r;cases r
 |cons sv rest=>
  rw[hit]at r
  cases r with
  |cons r1 r2=>
   cases r2
   have hq':=hq
   rw[hit]at hq'
   have r1':sv.R ((L.S j i).fr [(I,o)]).ad v:=r1.mono ⟨P8,P8,P8⟩
   exact y6 O hk V r1' λs'' I''=>hq' s'' I''
theorem qX {a b c:Addr}(h:a∈[b,c]):a=b∨a=c:=by simpa using h
section
variable {L:eg}{b:List Stmt}{k:KF}{aq:St}{Q:Flow→Pl→Prop}
theorem yf (O:X.Ok)(hh:X.A.handled=none)(S:Sound X Γ F)(hk:X.cs.names.lookup x=some .local)(hm:(l,listOf vs.toArray nn)∈aq.fz)(hm2:∀j i,L.J j i→(l,listOf vs.toArray nn)∈(L.S j i).fz)(hn:L.n=vs.length)(hit:pX L vs false)(ht:kL F L [x] b k aq)(I:Inv X aq s)(hx:av X Γ.ke E)(q:bh X k Q) :
  Wp X (SJ (.ref l)) (λit s₂=>P9 (model pw X.w) X.A (.forLoop (.Name x px) it b [] X.env) (fL X Q E) s₂) E s:=by
 have hg:s.heap.get? l=some (listOf vs.toArray nn):=I.frozen hm
 have hlt:=Qd hg
 refine Rz (ay hg) ?_
 have W:=TJ (prog:=pw) (w:=X.w) hh s.heap.objs.size l (Sa hlt) vs.toArray
 rw[show vs.toArray.size=L.n by rw[Pw,hn]]at W
 refine m6 (R:=fL X Q E) O S W (λb hb=>by simpa using hb) (λb hb=>?_) (λj h ⟨⟨o,ho,_⟩,_⟩=>⟨o,ho⟩) hk (λj v _ hp=>hit j v (by simpa using hp)) ht (I.dX _ rfl) ⟨⟨_,P6 _ rfl,rfl,rfl⟩,(ay hg).at λo e=>PB _ e⟩ (cM hx) q
 rcases qX hb with rfl|rfl
 ·exact .inl rfl
 ·exact .inr ⟨_,hm2⟩
theorem wK (O:X.Ok)(hh:X.A.handled=none)(S:Sound X Γ F)(hk:X.cs.names.lookup x=some .local)(h:Lm L z (kL F L [x] b k aq))(I:Inv X aq s)(hx:av X Γ.ke E)(q:bh X k Q) :
  Wp X (SJ (.str z t)) (λit s₂=>P9 (model pw X.w) X.A (.forLoop (.Name x px) it b [] X.env) (fL X Q E) s₂) E s:=by
 obtain⟨⟨hn,hit⟩,ht⟩:=h
 have go:∀(o:Obj)(Sg:Nat→Heap→Prop),o.isFreed=false→Walks pw X.w X.A s.heap.objs.size [s.heap.objs.size] [s.heap.objs.size] z.cps.size (SignAt z) Sg→(∀j h,Sg j h→∃o,h.get? s.heap.objs.size=some o)→Sg 0 (s.heap.push o) →
   P9 (model pw X.w) X.A (.forLoop (.Name x px) (.ref s.heap.objs.size) b [] X.env) (fL X Q E) {s with heap:=s.heap.push o}:=by
  intro o Sg hf W hob h0
  rw[←hn]at W
  refine m6 (R:=fL X Q E) O S W (λb hb=>by simpa using hb) (λb hb=>.inl (by simpa using hb)) hob hk (λj v hj hp=>?_) ht (I.dX _ hf) h0 (cM hx) q
  obtain⟨c,u,hc,rfl⟩:=hp
  rw[hit j,SQ,hc]
  exact .cons ⟨u,rfl⟩ .nil
 cases ha:z.cps.all (·<128)
 ·exact wpAny_pyIter_wide ha (go _ _ rfl (Walks.strWide hh _ z t) (λj h ⟨o,ho,_⟩=>⟨o,ho⟩) ⟨_,P6 _ rfl,rfl,rfl⟩)
 ·exact wpAny_pyIter_ascii ha (go _ _ rfl (Walks.strAscii hh _ z t) (λj h ⟨o,ho,_⟩=>⟨o,ho⟩) ⟨_,P6 _ rfl,rfl,rfl⟩)
theorem Af (O:X.Ok)(hh:X.A.handled=none)(S:Sound X Γ F)(hk:X.cs.names.lookup x=some .local)(h:E6 L false sv aq (kc F L [x] b k aq))(I:Inv X aq s)(r:sv.R aq.ad v)(hx:av X Γ.ke E)(q:bh X k Q) :
  Wp X (SJ v) (λit s₂=>P9 (model pw X.w) X.A (.forLoop (.Name x px) it b [] X.env) (fL X Q E) s₂) E s:=by
 have go:∀sv:SV,sv.R aq.ad v→Hp L false sv.b7 (kc F L [x] b k aq)→Wp X (SJ v) (λit s₂=>P9 (model pw X.w) X.A (.forLoop (.Name x px) it b [] X.env) (fL X Q E) s₂) E s:=λsv r h=>by
  obtain⟨z,hz,h⟩:=aa h
  rcases SV.bA hz r with⟨t,rfl⟩
  exact wK O hh S hk ⟨h.1,h.2.2⟩ I hx q
 cases sv with
 |opq u=>
  cases r
  obtain⟨l,vs,nn,rfl,⟨hm,hm2,hn⟩,hit,-,ht⟩:=h
  exact yf O hh S hk hm hm2 hn hit ht I hx q
 |_=>exact go _ r h
theorem B5 {Q:Unit→Pl→Prop}(O:X.Ok)(hh:X.A.handled=none)(hk:aZ X.cs ts=some ns)(hl3:(L.items j).length=ns.length)(hmt:(t,cZ ws)∈(L.S j i).fz)(ir:IR ⟨[],[],[]⟩ (L.items j) ws)(V:Inv X ((L.S j i).fr [(a,o)]) s') (hq:∀s'',Inv X {(L.S j i).fr [(a,o)]with loc:=eA ns (L.items j) (L.S j i).loc} s''→Q () s''):Wp X (Sw (.Tuple ts k0 px) X.env (.ref t)) Q E s':=by
 have hgt:s'.heap.get? t=some (cZ ws):=V.frozen (p:=(t,cZ ws)) hmt
 have e1:Sw (.Tuple ts k0 px) X.env (.ref t)=(do SO px;unpack (.ref t) (Qy ts X.env)):=rfl
 rw[e1]
 rcases ji (env:=X.env) hk with⟨a1,a2⟩
 refine Po (Rw (unpack_tuple (items:=ws.toArray) hh ⟨_,hgt,rfl,0,rfl⟩ (by rw[a1,Pw,ir.length,hl3]) a2 λh' hk'=>?_))
 exact er O ts hk (xs:=L.items j) (vs:=ws) (st:=(L.S j i).fr [(a,o)]) (ir.mono ⟨P8,P8,P8⟩) hl3 (V.grow hk') λs2 I2=>hq s2 I2
theorem Bn (O:X.Ok)(hh:X.A.handled=none)(S:Sound X Γ F)(hk:aZ X.cs ts=some ns)(hm:(l,listOf vs.toArray nn)∈aq.fz)(hm2:∀j i,L.J j i→(l,listOf vs.toArray nn)∈(L.S j i).fz)(hn:L.n=vs.length)(hit:pX L vs true)(ht:kc F L ns b k aq)(I:Inv X aq s)(hx:av X Γ.ke E)(q:bh X k Q) :
  Wp X (SJ (.ref l)) (λit s₂=>P9 (model pw X.w) X.A (.forLoop (.Tuple ts k0 px) it b [] X.env) (fL X Q E) s₂) E s:=by
 have hg:s.heap.get? l=some (listOf vs.toArray nn):=I.frozen hm
 have hlt:=Qd hg
 refine Rz (ay hg) ?_
 have W:=TJ (prog:=pw) (w:=X.w) hh s.heap.objs.size l (Sa hlt) vs.toArray
 rw[show vs.toArray.size=L.n by rw[Pw,hn]]at W
 refine rO (R:=fL X Q E) S W (λb hb=>by simpa using hb) (λb hb=>?_) (λj h ⟨⟨o,ho,_⟩,_⟩=>⟨o,ho⟩) (λj v s' Q E' hst hq=>?_) (λj i v o s' Q E' hj hJ hp V hq=>?_) ht.2 (I.dX _ rfl) ⟨⟨_,P6 _ rfl,rfl,rfl⟩,(ay hg).at λo e=>PB _ e⟩ (cM hx) q
 ·rcases qX hb with rfl|rfl
  ·exact .inl rfl
  ·exact .inr ⟨_,hm2⟩
 ·obtain⟨⟨o,ho,h1,h2⟩,_⟩:=hst
  obtain⟨oc,od,odt,osl⟩:=o
  cases h1
  cases h2
  cases v with
  |ref a=>exact Po (wpAny_load ho (PH hq))
  |_=>exact PH hq
 ·obtain⟨t,ws,rfl,hmt,ir⟩:=hit j v (by simpa using hp)
  exact B5 O hh hk (ht.1 j hj) (hmt i hJ) ir V hq
theorem AA (O:X.Ok)(hh:X.A.handled=none)(S:Sound X Γ F)(hk:aZ X.cs ts=some ns)(h:E6 L true sv aq (kc F L ns b k aq))(I:Inv X aq s)(r:sv.R aq.ad v)(hx:av X Γ.ke E)(q:bh X k Q) :
  Wp X (SJ v) (λit s₂=>P9 (model pw X.w) X.A (.forLoop (.Tuple ts k0 px) it b [] X.env) (fL X Q E) s₂) E s:=by
 cases sv with
 |opq u=>
  cases r
  obtain⟨l,vs,nn,rfl,⟨hm,hm2,hn⟩,hit,ht⟩:=h
  exact Bn O hh S hk hm hm2 hn hit ht I hx q
 |_=>exact h.elim
end
end
theorem o4 (i:Int):Rh 0 i 1=(i.toNat:Int):=by
 rw[rangeSize_one];split<;>lia
theorem oG (i:Int)(h:-5≤i):Rh i (-1) (-1)=((i+1).toNat:Int):=by
 unfold Rh
 simp only[show ¬((-1:Int)>0) by decide,if_false]
 have e:(- -1:Int)=1:=by decide
 rw[e,Int.ediv_one]
 split<;>lia
theorem yF (i:Int)(h:0≤i∧i<1000000):Ra 0 i 1=true:=by
 unfold Ra
 rw[o4]
 unfold SR
 simp only[Pe,Rt,decide_eq_true_eq,beq_iff_eq,show(1:Int)>0 by decide,if_true]
 rw[SK h.1,show(1:Int)-1=0 from rfl,Int.add_zero]
 have l:-2^63≤i:=TK (by decide) h.1
 have u:i<2^63:=Int.lt_trans h.2 (by decide)
 exact⟨⟨⟨⟨⟨by decide,by decide⟩,l,u⟩,by decide,by decide⟩,l,u⟩,.inr ⟨l,u⟩⟩
theorem pF (i:Int)(h:-5≤i∧i<1000000):Ra i (-1) (-1)=true:=by
 unfold Ra
 rw[oG i h.1]
 unfold SR
 simp only[Pe,Rt,decide_eq_true_eq,beq_iff_eq,show ¬((-1:Int)>0) by decide,if_false]
 have k:(i+1).toNat≤1000000:=Int.toNat_le.mpr h.2
 exact⟨⟨⟨⟨⟨TK (by decide) h.1,Int.lt_trans h.2 (by decide)⟩,by decide,by decide⟩,by decide,by decide⟩,TK (by decide) (PG _),Int.lt_of_le_of_lt (Int.ofNat_le.mpr k) (by decide)⟩,.inr ⟨by decide,by decide⟩⟩
section
variable {X:Fx}{Γ:bc}{F:bt}{st:St}{s:Pl}{E:Value→Pl→Prop}
theorem vK {aq:St}(O:X.Ok)(hh:X.A.handled=none)(S:Sound X Γ F)(hk:X.cs.names.lookup x=some .local)(ht:kL F L [x] b k aq)(I:Inv X aq s)(hr:IsRange s.heap r a z c t u v)(hs:Ra a z c=true)(hn:Rh a z c=(L.n:Int))(hit:∀j,L.items j=[.int (a+(j:Int)*c)]) (hx:av X Γ.ke E)(q:bh X k Q) :
  Wp X (SJ (.ref r)) (λit s₂=>P9 (model pw X.w) X.A (.forLoop (.Name x px) it b [] X.env) (fL X Q E) s₂) E s:=by
 refine wpAny_pyIter_range hr hs ?_
 rw[hn]
 have W:=Walks.range (prog:=pw) (w:=X.w) hh s.heap.objs.size a c L.n
 refine m6 (R:=fL X Q E) O S W (λb hb=>by simpa using hb) (λb hb=>.inl (by simpa using hb)) (λj h ho=>⟨_,ho⟩) hk (λj v hj hp=>?_) ht (I.dX _ rfl) ?_ (cM hx) q
 ·rcases hp with⟨t,rfl⟩
  rw[hit j]
  exact .cons ⟨t,rfl⟩ .nil
 ·show IsRangeIter _ _ (a+((0:Nat):Int)*c) ((L.n:Int)-((0:Nat):Int)) c
  have e1:a+((0:Nat):Int)*c=a:=by simp
  have e2:(L.n:Int)-((0:Nat):Int)=L.n:=by simp
  rw[e1,e2]
  exact P6 _ rfl
theorem lY {env:Env}(hn:es.all aM=true)(hne:es≠[])(h:wpAny M A (Tj (Ro pos (QC es env))) (λvs s'=>Q ⟨vs,[]⟩ s') E s):wpAny M A (evalArgs f true (Ro pos (QC es env)) []) Q E s:=by
 cases es with
 |nil=>exact absurd rfl hne
 |cons e r=>
  rw[Qb,Pe]at hn
  rw[bQ hn.1]at h ⊢
  exact Calls.evalArgs_plain h
section
variable {L:eg}{x:Str}{px:Pos}{b:List Stmt}{k:KF}{aq:St}{Q:Flow→Pl→Prop}{vs:List Value}{as:List SV}
theorem BE {a:SV}(O:X.Ok)(hh:X.A.handled=none)(S:Sound X Γ F)(hk:X.cs.names.lookup x=some .local)(h:Lr L i (kc F L [x] b k aq))(I:Inv X aq s)(hi:a.int?=some i)(ra:a.R aq.ad v)(hx:av X Γ.ke E)(q:bh X k Q) :
  Wp X (call (.type "range") [v] []) (λr s'=>Wp X (SJ r) (λit s₂=>P9 (model pw X.w) X.A (.forLoop (.Name x px) it b [] X.env) (fL X Q E) s₂) E s') E s:=by
 obtain⟨⟨hi2,hn2,hit⟩,-,ht⟩:=h
 rcases SV.aX hi ra with⟨t,rfl⟩
 refine call_range_1 ?_
 have I2:Inv X aq {s with heap:=s.heap.push {cls:=.type "range",data:=.fields #[.int 0 s.toks,.int i t,.int 1 (s.toks+1)]},toks:=s.toks+1+1}:=I.grow λb o hb e=>PB _ e
 exact vK O hh S hk ht I2 (IsRange.new ..) (yF i hi2) (by rw[o4,hn2]) (λj=>by rw[hit j];congr 2;lia) hx q
theorem BD {a c:SV}(O:X.Ok)(hh:X.A.handled=none)(S:Sound X Γ F)(hk:X.cs.names.lookup x=some .local)(h:JS L i z e (kc F L [x] b k aq))(I:Inv X aq s)(hi:a.int?=some i)(ra:a.R aq.ad v)(hz:c.int?=some z)(rc:c.R aq.ad u)(re:(SV.num e).R aq.ad w)(hx:av X Γ.ke E)(q:bh X k Q) :
  Wp X (call (.type "range") [v,u,w] []) (λr s'=>Wp X (SJ r) (λit s₂=>P9 (model pw X.w) X.A (.forLoop (.Name x px) it b [] X.env) (fL X Q E) s₂) E s') E s:=by
 rcases aA h with⟨e1,h⟩
 rcases B0 e1 with rfl
 obtain⟨⟨hi2,rfl,hn2,hit⟩,-,ht⟩:=h
 rcases SV.aX hi ra with⟨t,rfl⟩
 rcases SV.aX hz rc with⟨t',rfl⟩
 rcases re with⟨t'',rfl⟩
 refine call_range_3 (by decide) ?_ (.inl (TH (by decide)))
 have I2:Inv X aq {s with heap:=s.heap.push {cls:=.type "range",data:=.fields #[.int i t,.int (-1) t',.int (-1) t'']},toks:=s.toks}:=I.grow λb o hb e=>PB _ e
 exact vK O hh S hk ht I2 (IsRange.new ..) (pF i hi2) (by rw[hn2];exact oG i hi2.1) (λj=>by rw[hit j];congr 2;show _=i+(j:Int)*(-1);lia) hx q
theorem AV (O:X.Ok)(hh:X.A.handled=none)(S:Sound X Γ F)(hk:X.cs.names.lookup x=some .local)(h:El L as (kc F L [x] b k aq))(I:Inv X aq s)(rs:IR aq.ad as vs)(hx:av X Γ.ke E)(q:bh X k Q) :
  Wp X (call (.type "range") vs []) (λr s'=>Wp X (SJ r) (λit s₂=>P9 (model pw X.w) X.A (.forLoop (.Name x px) it b [] X.env) (fL X Q E) s₂) E s') E s:=by
 rcases cw h with⟨a,_,h⟩|⟨_,h⟩
 ·obtain⟨i,hi,h⟩:=aa h
  rw[a.2]at rs
  obtain⟨v,rfl,ra⟩:=Gp rs
  exact BE O hh S hk h I hi ra hx q
 ·obtain⟨p,_,h⟩:=aa h
  obtain⟨i,hi,h⟩:=aa h
  obtain⟨z,hz,h⟩:=aa h
  obtain⟨c,_,h⟩:=aa h
  rw[p.2,c.2]at rs
  obtain⟨_,_,_,rfl,ra,rc,re⟩:=vf rs
  exact BD O hh S hk h I hi ra hz rc re hx q
end
inductive Dg (Γ:bc)(st:St):Expr→Bool→List Expr→Prop
 |mk {x:Str}{p pos:Pos}{args:List Expr}(ha:cz Γ (.Name x p) st=some (.ty "range")) (hs:args.all aM=true):Dg Γ st (.Call (.Name x p) args [] pos) false args
theorem tS (h:yL sv=true):sv=.ty "range":=by
 cases sv with
 |ty n=>rw[beq_iff_eq.mp h]
 |_=>exact absurd h nofun
theorem BR (h:GD Γ iter tup st=some args):Dg Γ st iter tup args:=by
 obtain⟨c,_,h⟩:=bO h
 obtain⟨x,_,h⟩:=bO h
 obtain⟨sv,ha,h⟩:=bO h
 rcases dM h with⟨hb,h⟩
 rw[Pe,Pe,Pe,PZ]at hb
 rw[tS hb.1.1.1]at ha
 rw[c.2,x.2,iW hb.1.1.2,hb.2,←Pd h]
 exact .mk ha hb.1.2
theorem Bd {L:St→eg}(O:X.Ok)(hc:X.cs=Γ.cs)(hh:X.A.handled=none)(S:Sound X Γ F)(ha:cz Γ (.Name x p) st=some (.ty "range")) (hstar:args.all aM=true)(hk:X.cs.names.lookup y=some .local)(h:u' Γ F [] args st λas aq=>El (L aq) as (kc F (L aq) [y] b k aq)) (I:Inv X st s)(hx:av X Γ.ke E)(q:bh X k Q):Wp X (exec (.For (.Name y py) (.Call (.Name x p) args [] cpos) b [] pos) X.env) Q E s:=by
 refine wpAny_For ?_ (gA rfl)
 refine Call_ (cq O hc I ha λfv s' I' r=>?_)
 cases r
 refine PyProof.Rows.callWith_type (de (pos:=cpos) (env:=X.env) hstar) ?_
 by_cases hne:args=[]
 ·subst hne
  exact(show False from h).elim
 refine lY hstar hne (vO O hc S h I' hx .nil λsvs aq vs s1 I1 le _ rs hk1=>?_)
 show Wp X (call (.type "range") ([]++vs) []) _ E s1
 rw[Q1]
 exact AV O hh S hk hk1 I1 rs hx q
theorem zS (O:X.Ok)(hc:X.cs=Γ.cs)(hh:X.A.handled=none)(S:Sound X Γ F)(h:KU Γ F L tgt iter b st k)(I:Inv X st s)(hx:av X Γ.ke E)(q:bh X k Q) :
  Wp X (exec (.For tgt iter b [] pos) X.env) Q E s:=by
 obtain⟨⟨tup,ns⟩,ht,h⟩:=aa h
 have ht:=Ey ht
 rw[←hc]at ht
 rcases cw h with⟨args,hm,h2⟩|⟨_,h2⟩
 ·cases BR hm with
  |mk ha hs=>cases ht with
   |one hk=>exact Bd O hc hh S ha hs hk h2 I hx q
 ·rcases aA h2 with⟨hn,h⟩
  refine wpAny_For (S.ev _ st s _ _ E h I hx λsv aq v s1 I1 le r hk=>?_) (gA hn)
  cases ht with
  |one hk2=>exact Af O hh S hk2 hk I1 r hx q
  |tup hk2=>exact AA O hh S hk2 hk I1 r hx q
end
theorem ao.cons (h:ao l)(lt:∀p∈l,p.1<a):ao ((a,o)::l):=by
 unfold ao at *
 rw[QJ,Ru]
 refine⟨λhm=>?_,h⟩
 obtain⟨p,hp,e⟩:=List.mem_map.mp hm
 exact absurd (lt p hp) (e▸QW _)
theorem By {B:ah}:(a::(A++(B++(C++D)))).Perm (A++(B++(C++a::D))):=by
 have e1:A++(B++(C++D))=(A++B++C)++D:=by simp
 have e2:A++(B++(C++a::D))=(A++B++C)++a::D:=by simp
 rw[e1,e2];exact List.perm_middle.symm
section
variable {X:Fx}{Γ:bc}{F:bt}{st:St}{s:Pl}{E:Value→Pl→Prop}
theorem Inv.Cg (I:Inv X st s)(hh:∀m led,Fr X.h₀ X.L s.heap m→News X.h₀ X.L s.heap led→Fr X.h₀ X.L s'.heap m∧News X.h₀ X.L s'.heap ((a,o)::led)∧∀p∈led,p.1<a) (hg:s'.gens=s.gens)(ho:s'.os=s.os):Inv X {st with fz:=(a,o)::st.fz} s':=by
 obtain⟨m,l,l',L1,L2,hl,F,N,nd⟩:=I.ex
 obtain⟨F',N',lt⟩:=hh m _ F N
 have pm:((a,o)::(l++(l'++st.rf))).Perm (l++(l'++(st.rst++(a,o)::st.fz))):=By
 exact⟨⟨m,l,l',L1,L2,hl,F',λp hp=>N' p (pm.mem_iff.mpr hp),(nd.cons lt).perm pm⟩,hg.trans I.gens,ho.trans I.os⟩
noncomputable def ID (e:Expr):Option {p:Int×Nat×Pos×Pos // e=.UnaryOp .USub (.Constant (.int p.1) p.2.1 p.2.2.1) p.2.2.2}:=match e with
 |.UnaryOp op x p=>match op with
  |.USub=>match Gd x with
   |some q=>some ⟨(q.1.1,q.1.2.1,q.1.2.2,p),congrArg (λz=>Expr.UnaryOp .USub z p) q.2⟩
   |none=>none
  |_=>none
 |_=>none
noncomputable def J6 (o:Option SV):Option Int:=match o with
 |some sv=>sv.int?
 |none=>none
noncomputable def ze (Γ:bc)(st:St)(e:Expr):Option Int:=match ID e with
 |some q=>some (-q.1.1)
 |none=>J6 (cz Γ e st)
noncomputable def C0 (o:Option Int):Option (Option Int):=match o with
 |some i=>some (some i)
 |none=>none
noncomputable def nX (Γ:bc)(st:St)(e:Option Expr):Option (Option Int):=match e with
 |none=>some none
 |some e=>C0 (ze Γ st e)
theorem oj (h:C0 o=some p):∃i,o=some i∧p=some i:=by
 cases o with
 |none=>exact absurd h nofun
 |some i=>exact⟨i,rfl,(Pd h).symm⟩
theorem zL (h:J6 o=some i):∃sv,o=some sv∧sv.int?=some i:=by
 cases o with
 |none=>exact absurd h nofun
 |some i=>exact⟨_,rfl,h⟩
theorem mO (O:X.Ok)(hc:X.cs=Γ.cs)(I:Inv X st s)(h:nX Γ st e=some p)(k:∀v s',Inv X st s'→Sx v p→Q v s'):Wp X (evalPart e X.env) Q E s:=by
 cases e with
 |none=>cases h;exact PH (k _ _ I .none)
 |some e=>
  obtain⟨i,h1,rfl⟩:=oj h
  change ze Γ st e=some i at h1
  unfold ze at h1
  cases hn:ID e with
  |some q=>
   rw[hn]at h1
   cases h1
   show Wp X (eval e X.env) Q E s
   rw[q.2]
   exact UnaryOp_ (rm I λv s' I' r=>by
    rcases r with⟨t,rfl⟩
    exact neg_int (k _ _ (I'.aO _) (.int _ _)))
  |none=>
   rw[hn]at h1
   obtain⟨sv,ha,hi⟩:=zL h1
   exact cq O hc I ha λv s' I' r=>by
    rcases SV.aX hi r with⟨t,rfl⟩
    exact k _ _ I' (.int _ _)
def F5 (sc:Addr×List Int)(o:SV)(l u:Option Int)(st:St)(k:KV):Prop:=match o with
 |.opq v=>match l with
  |none=>ag u λn=>(v=.ref sc.1∧0≤n)∧∀(d:Addr)(vs:List Value),Qz vs (sc.2.take n.toNat)→k (.opq (.ref d)) {st with fz:=(d,listOf vs.toArray 0)::st.fz}
  |some _=>False
 |_=>False
def qR (sc:Addr×List Int)(o:SV)(l u:Option Int)(st:St)(k:KV):Prop:=match o.b7 with
 |some x=>x.length≤1000000∧k (.str (PC x l u)) st
 |none=>F5 sc o l u st k
def E4 (e:HE)(j:Int)(st:St)(k:KV):Prop:=match e with
 |.vlist _ vs=>(j=-1∧vs.length≤1000000)∧∀d,k (.opq (.ref d)) {st with fz:=(d,listOf vs.reverse.toArray 0)::st.fz}
 |.slist _ ws=>(j=-1∧ws.length≤1000000)∧∀d,k (.tmp st.tp.length) (st.dH (.slist d ws.reverse))
 |_=>False
def Ef (o:SV)(j:Int)(st:St)(k:KV):Prop:=match o with
 |.opq v=>∃(b:Addr)(vs:List Value)(n:Nat),(v=.ref b∧(b,listOf vs.toArray n)∈st.fz∧j=-1∧vs.length≤1000000)∧∀d,k (.opq (.ref d)) {st with fz:=(d,listOf vs.reverse.toArray 0)::st.fz}
 |_=>False
def mY (o:SV)(j:Int)(st:St)(k:KV):Prop:=match st.ent o with
 |some e=>E4 e j st k
 |none=>Ef o j st k
def yr (sc:Addr×List Int)(o:SV)(l u t:Option Int)(st:St)(k:KV):Prop:=match t with
 |none=>qR sc o l u st k
 |some j=>eT (l.isNone&&u.isNone) (mY o j st k)
def qa (sc:Addr×List Int)(Γ:bc)(F:bt)(e:Expr)(lo hi stp:Option Expr)(st:St)(k:KV):Prop:=F.ev e st λo aq=>ag (nX Γ aq lo) λl=>ag (nX Γ aq hi) λu=>ag (nX Γ aq stp) λt=>yr sc o l u t aq k
theorem gC {lo:Option Expr}:∃ops,subscripted (.Slice lo hi stp p) false o i=operate ops (getItem o i):=by
 cases stp<;>exact⟨_,rfl⟩
theorem StrsAre.reverse (h:StrsAre vs ws):StrsAre vs.reverse ws.reverse:=by
 induction h with
 |nil=>exact .nil
 |cons y t _ ih=>simpa using kO ih y t
theorem f3:KeptH (λh=>∀t,Inv X st ⟨h,s.gens,s.drawn,t,s.os⟩):=λh ob a t=>(a t).grow (h':=h.push ob) (t:=t) λb o _ e=>PB _ e
theorem sX {lo:Option Expr}(I:Inv X st s)(pl:Sx vl l)(pu:Sx vu u)(hz:x.length≤1000000)(hk:k (.str (PC x l u)) st) (q:aj X st k Q) :
  Wp X (PN e (.Slice lo hi none p) (.str x t) (.ref s.heap.objs.size)) Q E {s with heap:=s.heap.push {cls:=.type "slice",data:=.fields #[vl,vu,.none]}}:=by
 have hz':x.length≤Qs:=by unfold Qs;lia
 have I0:∀t,Inv X st ⟨s.heap,s.gens,s.drawn,t,s.os⟩:=λt=>I.aO t
 have fin:∀h' t' k',(∀t,Inv X st ⟨h',s.gens,s.drawn,t,s.os⟩)→Q (.str (PC x l u) t') {s with heap:=h',toks:=k'}:=λh' t' k' I'=>q.z (I' k') hk
 cases pl with
 |none=>cases pu with
  |none=>obtain⟨T,id,hl,hT,hg⟩:=SBH.sliceItem_nn (prog:=pw) (w:=X.w) (A:=X.A) (E:=E) (P:=λh=>∀t,Inv X st ⟨h,s.gens,s.drawn,t,s.os⟩) (t:=t) f3 I0 fin hz';exact RC hT hl hg rfl
  |int j uj=>obtain⟨T,id,hl,hT,hg⟩:=SBH.sliceItem_ns (prog:=pw) (w:=X.w) (A:=X.A) (E:=E) (P:=λh=>∀t,Inv X st ⟨h,s.gens,s.drawn,t,s.os⟩) (t:=t) (uj:=uj) f3 I0 fin hz';exact RC hT hl hg rfl
 |int i ui=>cases pu with
  |none=>obtain⟨T,id,hl,hT,hg⟩:=SBH.sliceItem_sn (prog:=pw) (w:=X.w) (A:=X.A) (E:=E) (P:=λh=>∀t,Inv X st ⟨h,s.gens,s.drawn,t,s.os⟩) (t:=t) (ui:=ui) f3 I0 fin hz';exact RC hT hl hg rfl
  |int j uj=>obtain⟨T,id,hl,hT,hg⟩:=SBH.sliceItem_ss (prog:=pw) (w:=X.w) (A:=X.A) (E:=E) (P:=λh=>∀t,Inv X st ⟨h,s.gens,s.drawn,t,s.os⟩) (t:=t) (ui:=ui) (uj:=uj) f3 I0 fin hz';exact RC hT hl hg rfl
theorem fJ {lo:Option Expr}(I:Inv X st s)(hl:s.heap.IsList a items)(pl:Sx vl l)(pu:Sx vu u)(pk:Sx vk t)(h0:t≠some 0)(hz:items.size≤1000000)(h:∀d h',(∀m led,Fr X.h₀ X.L s.heap m→News X.h₀ X.L s.heap led→Fr X.h₀ X.L h' m∧News X.h₀ X.L h' ((d,listOf (slicePick items l u t) 0)::led)∧∀p∈led,p.1<d)→Q (.ref d) {s with heap:=h'}) :
  Wp X (PN e (.Slice lo hi stp p) (.ref a) (.ref s.heap.objs.size)) Q E {s with heap:=s.heap.push {cls:=.type "slice",data:=.fields #[vl,vu,vk]}}:=by
 have hz':items.size≤Qs:=by unfold Qs;lia
 rcases gC (o:=.ref a) (i:=.ref s.heap.objs.size) (lo:=lo) (hi:=hi) (stp:=stp) (p:=p)with⟨ops,hs⟩
 refine RC (T:="list") (Heap.IsList.typeIs (s:={s with heap:=s.heap.push {cls:=.type "slice",data:=.fields #[vl,vu,vk]}}) (hl.push _)) list_getitem_lookup
  (wpAny_getItem_list_slice (hl.push _) (Heap.IsSliceOf.new ..) pl pu pk h0 ?_ hz') hs
 refine h _ _ λm led F N=>?_
 have N1:=News.push (F.push {cls:=.type "slice",data:=.fields #[vl,vu,vk]}) (N.grown λ_ _ e=>PB _ e) {cls:=.type "list",data:=.seq (slicePick items l u t)}
 exact⟨(F.push _).push _,N1,λp hp=>by rw[RE];exact Q4 (Qd (N p hp).1)⟩
theorem tP {lo:Option Expr}(O:X.Ok)(I:Inv X st s)(pl:Sx vl none)(pu:Sx vu (some n))(hn:0≤n)(hk:∀(d:Addr)(vs:List Value),Qz vs (X.sns.take n.toNat)→k (.opq (.ref d)) {st with fz:=(d,listOf vs.toArray 0)::st.fz}) (q:aj X st k Q) :
  Wp X (PN e (.Slice lo hi none p) (.ref X.scr) (.ref s.heap.objs.size)) Q E {s with heap:=s.heap.push {cls:=.type "slice",data:=.fields #[vl,vu,.none]}}:=by
 obtain⟨vs,hl,hi',hz⟩:=O.scr
 obtain⟨m,l1,l2,_,_,_,F0,_⟩:=I.ex
 refine fJ I (hl.at λo e=>F0.keep _ o e) pl pu .none (by decide) (by rw[Pw,hi'.length];lia) λd h' hh=>?_
 have z:=slicePick_upto' vs.toArray n.toNat
 rw[show((n.toNat:Nat):Int)=n from SK hn]at z
 rw[show slicePick vs.toArray none (some n) none=(vs.take n.toNat).toArray from z]at hh
 exact q (.opq (.ref d)) {st with fz:=_::st.fz} (.ref d) {s with heap:=h'} (I.Cg hh rfl rfl) ⟨Pp,Pp⟩ rfl (hk d _ (hi'.take _))
theorem ly {lo:Option Expr}{vs:List Value}(O:X.Ok)(I:Inv X st s)(hg:s.heap.get? b=some (listOf vs.toArray n))(pl:Sx vl none)(pu:Sx vu none)(pk:Sx vk (some (-1))) (hz:vs.length≤1000000)(hk:∀d,k (.opq (.ref d)) {st with fz:=(d,listOf vs.reverse.toArray 0)::st.fz}) (q:aj X st k Q) :
  Wp X (PN e (.Slice lo hi stp p) (.ref b) (.ref s.heap.objs.size)) Q E {s with heap:=s.heap.push {cls:=.type "slice",data:=.fields #[vl,vu,vk]}}:=by
 refine fJ I (ay hg) pl pu pk (by decide) (by rw[Pw];exact hz) λd h' hh=>?_
 rw[krv_pick]at hh
 exact q (.opq (.ref d)) {st with fz:=_::st.fz} (.ref d) {s with heap:=h'} (I.Cg hh rfl rfl) ⟨Pp,Pp⟩ rfl (by simpa using hk d)
theorem ub {lo:Option Expr}(O:X.Ok)(h:yr (X.scr,X.sns) o l u t st k)(I:Inv X st s)(r:o.R st.ad ov)(pl:Sx vl l)(pu:Sx vu u)(pk:Sx vk t)(ht:stp=none↔t=none)(q:aj X st k Q) :
  Wp X (PN e (.Slice lo hi stp p) ov (.ref s.heap.objs.size)) Q E {s with heap:=s.heap.push {cls:=.type "slice",data:=.fields #[vl,vu,vk]}}:=by
 cases t with
 |none=>
  rcases ht.mpr rfl with rfl
  cases pk
  replace h:qR (X.scr,X.sns) o l u st k:=h
  unfold qR at h
  cases hx:o.b7 with
  |some x=>
   rw[hx]at h
   rcases SV.bA hx r with⟨t',rfl⟩
   exact sX I pl pu h.1 h.2 q
  |none=>
   rw[hx]at h
   cases o with
   |opq v=>
    cases l with
    |some _=>exact h.elim
    |none=>
     obtain⟨n,rfl,h⟩:=aa h
     cases r
     obtain⟨⟨rfl,hn⟩,hk⟩:=h
     exact tP O I pl pu hn hk q
   |_=>exact h.elim
 |some j=>
  rcases aA (show eT (l.isNone&&u.isNone) (mY o j st k)from h)with⟨hlu,h⟩
  rw[Pe]at hlu
  rcases Option.isNone_iff_eq_none.mp hlu.1 with rfl
  rcases Option.isNone_iff_eq_none.mp hlu.2 with rfl
  replace h:mY o j st k:=h
  unfold mY at h
  cases he:st.ent o with
  |some e=>
   rw[he]at h
   cases e with
   |vlist b vs=>
    obtain⟨rfl,n,hg⟩:=I.vlist r he
    obtain⟨⟨rfl,hz⟩,hk⟩:=h
    exact ly O I hg pl pu pk hz hk q
   |slist b ws=>
    obtain⟨rfl,vs,n,ir,hg⟩:=I.slist r he
    obtain⟨⟨rfl,hz⟩,hk⟩:=h
    refine fJ I (ay hg) pl pu pk (by decide) (by rw[Pw,ir.length];exact hz) λd h' hh=>?_
    rw[krv_pick]at hh
    refine q _ _ _ {s with heap:=h'} (I.add (e:=.slist d ws.reverse) (o:=listOf vs.reverse.toArray 0) (.slist (StrsAre.reverse ir)) (by rw[List.toList_toArray]at hh;exact hh) rfl rfl) (St.br _ _).le (cC _ _) (hk d)
   |_=>exact h.elim
  |none=>
   rw[he]at h
   cases o with
   |opq v=>
    cases r
    obtain⟨b,vs,n,⟨rfl,hm,rfl,hz⟩,hk⟩:=h
    exact ly O I (I.frozen hm) pl pu pk hz hk q
   |_=>exact h.elim
theorem tQ {st:St}(h:nX Γ st e=some t):e=none↔t=none:=by
 cases e with
 |none=>cases h;exact⟨λ_=>rfl,λ_=>rfl⟩
 |some e=>obtain⟨i,_,rfl⟩:=oj h;exact⟨nofun,nofun⟩
theorem u6 {lo:Option Expr}(O:X.Ok)(hc:X.cs=Γ.cs)(S:Sound X Γ F)(h:qa (X.scr,X.sns) Γ F e lo hi stp st k)(I:Inv X st s)(hx:av X Γ.ke E)(q:aj X st k Q) :
  Wp X (eval (.Subscript e (.Slice lo hi stp p) pos) X.env) Q E s:=by
 unfold qa at h
 refine Subscript_ (S.ev _ st s _ _ E h I hx λo aq v s1 I1 le r hk=>?_)
 obtain⟨l,h1,hk⟩:=aa hk
 obtain⟨u,h2,hk⟩:=aa hk
 obtain⟨t,h3,hk⟩:=aa hk
 ·exact wpAny_Slice (mO O hc I1 h1 λvl s2 I2 pl=>mO O hc I2 h2 λvu s3 I3 pu=>mO O hc I3 h3 λvk s4 I4 pk=>ub O hk I4 r pl pu pk (tQ h3) (q.trans le λ_ _ z=>z))
end
def Rd (fz:ah)(v:Value)(d:Pz):Prop:=∀h:Heap,(∀p∈fz,h.get? p.1=some p.2)→∃as,Reads h v d as
theorem Rd.mono (r:Rd fz v d)(k:∀p∈fz,p∈fz'):Rd fz' v d:=λh hp=>r h λp hm=>hp p (k p hm)
inductive bq (fz:ah):List Value→List Pz→Prop
 |nil:bq fz [] []
 |cons {v:Value}{d:Pz}{vs:List Value}{ds:List Pz}:Rd fz v d→bq fz vs ds→bq fz (v::vs) (d::ds)
theorem bq.reads (r:bq fz vs ds)(hp:∀p∈fz,h.get? p.1=some p.2):∃as,ReadsAll h vs ds as:=by
 induction r with
 |nil=>exact⟨_,.nil⟩
 |cons a _ ih=>
  rcases a h hp with⟨x,hx⟩
  rcases ih with⟨y,hy⟩
  exact⟨_,.cons hx hy⟩
theorem bq.mono (r:bq fz vs ds)(k:∀p∈fz,p∈fz'):bq fz' vs ds:=by
 induction r with
 |nil=>exact .nil
 |cons a _ ih=>exact .cons (a.mono k) ih
theorem Rd.str:Rd fz (.str x t) (.str x):=λ_ _=>⟨_,.str x t⟩
theorem Rd.int:Rd fz (.int x t) (.int x):=λ_ _=>⟨_,.int x t⟩
theorem Rd.list (hm:(a,listOf vs.toArray n)∈fz)(r:bq fz vs ds):Rd fz (.ref a) (.list ds):=λh hp=>by
 rcases r.reads hp with⟨as,q⟩
 exact⟨_,.list (hp _ hm) rfl rfl (by simpa using q)⟩
section
variable {X:Fx}{Γ:bc}{F:bt}{st:St}{s:Pl}{E:Value→Pl→Prop}
theorem Inv.Nm (I:Inv X st s)(r:Rd st.fz v d):∃as,Reads s.heap v d as:=r _ λp hm=>I.frozen hm
noncomputable def pS (a:SV):Option Pz:=match a.int? with
 |some i=>some (.int i)
 |none=>match a.b7 with
  |some x=>some (.str x)
  |none=>none
noncomputable def y8 {α:Type}(a:Option α)(l:Option (List α)):Option (List α):=match both a l with
 |some p=>some (p.1::p.2)
 |none=>none
theorem yI (h:y8 a l=some r):∃x y,a=some x∧l=some y∧x::y=r:=by
 unfold y8 at h
 cases hb:both a l with
 |none=>rw[hb]at h;exact nS h
 |some p=>rw[hb]at h;exact⟨p.1,p.2,(dj hb).1,(dj hb).2,Pd h⟩
noncomputable def iY (l:List SV):Option (List Pz):=match l with
 |[]=>some []
 |a::r=>y8 (pS a) (iY r)
theorem u3 (e:pS a=some d)(r:a.R D v):∃as,Reads h v d as:=by
 unfold pS at e
 cases hi:a.int? with
 |some i=>rw[hi]at e;rcases Pd e with rfl;rcases SV.aX hi r with⟨t,rfl⟩;exact⟨_,.int _ t⟩
 |none=>
  rw[hi]at e
  cases hs:a.b7 with
  |some i=>rw[hs]at e;rcases Pd e with rfl;rcases SV.bA hs r with⟨t,rfl⟩;exact⟨_,.str _ t⟩
  |none=>rw[hs]at e;exact nS e
theorem pH (e:iY xs=some ds)(r:IR D xs vs):∃as,ReadsAll h vs ds as:=by
 induction r generalizing ds with
 |nil=>rcases Pd e with rfl;exact⟨_,.nil⟩
 |cons ra _ ih=>
  obtain⟨x,y,h1,h2,rfl⟩:=yI e
  rcases u3 (h:=h) h1 ra with⟨_,q1⟩
  rcases ih h2 with⟨_,q2⟩
  exact⟨_,.cons q1 q2⟩
noncomputable def Hm (e:HE):Option Nat:=match e with
 |.list _ pre suf=>some (pre.length+suf.length)
 |.slist _ ws=>some ws.length
 |.vlist _ vs=>some vs.length
 |_=>none
noncomputable def EW (st:St)(sv:SV):Option Nat:=match st.ent sv with
 |some e=>Hm e
 |none=>none
theorem Ar (I:Inv X st s)(r:sv.R st.ad v)(h:EW st sv=some n):∃a items,v=.ref a∧s.heap.IsList a items∧items.size=n:=by
 unfold EW at h
 cases he:st.ent sv with
 |none=>rw[he]at h;exact nS h
 |some e=>
  rw[he]at h
  cases e with
  |list a pre suf=>
   rcases Pd h with rfl
   obtain⟨rfl,vs,nn,ir,hg⟩:=I.list r he
   exact⟨_,_,rfl,ay hg,by rw[Pw,ir.length,PU]⟩
  |slist a ws=>
   rcases Pd h with rfl
   obtain⟨rfl,vs,nn,ir,hg⟩:=I.slist r he
   exact⟨_,_,rfl,ay hg,by rw[Pw,ir.length]⟩
  |vlist a vs=>
   rcases Pd h with rfl
   obtain⟨rfl,nn,hg⟩:=I.vlist r he
   exact⟨_,_,rfl,ay hg,Pw⟩
  |_=>exact nS h
noncomputable def mx (e:Option HE):Option {q:Addr×List SV // e=some (.list q.1 [] q.2)}:=match e with
 |some e=>match e with
  |.list a pre suf=>match pre with
   |[]=>some ⟨(a,suf),rfl⟩
   |_::_=>none
  |_=>none
 |none=>none
noncomputable def lX (st:St)(sv:SV):Bool:=match mx (st.ent sv)with
 |some q=>vG q.1.2
 |none=>false
noncomputable def MM (op:CmpOp)(b:Bool):Option Bool:=match op with
 |.Eq=>some b
 |.NotEq=>some (!b)
 |_=>none
noncomputable def Kh (l:Option (List Pz)):Option Pz:=match l with
 |some ds=>some (.list ds)
 |none=>none
noncomputable def sE (st:St)(sv:SV):Option Pz:=match mx (st.ent sv)with
 |some q=>Kh (iY q.1.2)
 |none=>none
def JY (op:CmpOp)(n:Nat)(st:St)(k:KV):Prop:=ag (MM op (PD n 0)) λr=>k (.bool r) st
noncomputable def K3 (op:CmpOp):Bool:=match op with
 |.NotEq=>true
 |_=>false
noncomputable def GV (op:CmpOp):Bool:=match op with
 |.Eq=>true
 |_=>false
inductive sM (fz:ah)(u v:Value)(P:Bool→Prop):Prop
 |mk (da db:Pz)(h1:Rd fz u da∧Rd fz v db)(h2:da.canLay0=true∧db.canLay0=true)(h3:min da.depth db.depth≤400)(h:P (!PyData.eqv da db))
def Cb (u v:Value)(st:St)(k:KV):Prop:=sM st.fz u v λb=>k (.bool b) st
def GW (da db:Pz)(st:St)(k:KV):Prop:=((da.canLay0=true∧db.canLay0=true)∧min da.depth db.depth≤400)∧k (.bool (PyData.eqv da db)) st
def z9 (op:CmpOp)(a b:SV)(st:St)(k:KV):Prop:=match lX st b with
 |true=>ag (EW st a) λn=>JY op n st k
 |false=>match both (ph a) (ph b)with
  |some p=>eT (K3 op) (Cb p.1.1 p.2.1 st k)
  |none=>ag (both (sE st a) (sE st b)) λp=>eT (GV op) (GW p.1 p.2 st k)
theorem yZ (I:Inv X st s)(r:sv.R st.ad v)(h:lX st sv=true):∃a,v=.ref a∧s.heap.IsList a #[]:=by
 unfold lX at h
 cases hp:mx (st.ent sv)with
 |none=>rw[hp]at h;exact bF h
 |some q=>
  rw[hp]at h
  obtain⟨rfl,vs,nn,ir,hg⟩:=I.list r q.2
  rw[iW h]at ir
  rcases G7 ir with rfl
  exact⟨_,rfl,ay hg⟩
theorem rl (I:Inv X st s)(r:sv.R st.ad v)(h:sE st sv=some d):∃as,Reads s.heap v d as:=by
 unfold sE at h
 cases hp:mx (st.ent sv)with
 |none=>rw[hp]at h;exact nS h
 |some q=>
  rw[hp]at h
  obtain⟨rfl,vs,nn,ir,hg⟩:=I.list r q.2
  dsimp only at h
  cases hd:iY q.1.2 with
  |none=>rw[hd]at h;exact nS h
  |some ds=>
   rw[hd]at h
   rcases Pd h with rfl
   rcases pH (h:=s.heap) hd ir with⟨as,q⟩
   exact⟨_,.list hg rfl rfl q⟩
theorem zD (h:K3 op=true):op=.NotEq:=by
 cases op with
 |NotEq=>rfl
 |_=>exact bF h
theorem AE (h:GV op=true):op=.Eq:=by
 cases op with
 |Eq=>rfl
 |_=>exact bF h
theorem xy {items:Array Value}{a b:Addr}{k:KV}{Q:Value→Pl→Prop}(O:X.Ok)(hla:s.heap.IsList a items)(hlb:s.heap.IsList b #[])(k:Q (.bool (PD items.size 0)) s):Wp X (Qr .Eq (.ref a) (.ref b)) Q E s:=by
 have hu:=O.units
 cases hz:PD items.size 0 with
 |true=>
  rw[hz]at k
  have hz':=Pu hz
  exact SeqAt.eq_listAt (e:=λ_=>true) hla hlb (by rw[hz'];rfl) (by lia) (λj h1 h2=>absurd h2 (by simp)) (by rw[hz'];exact k)
 |false=>
  rw[hz]at k
  exact SeqAt.eq_list_lengthsAt hla hlb (bne_iff_ne.mpr λe=>bT (by rw[show items.size=0 from e]at hz;exact hz)) (by lia) k
theorem wM {items:Array Value}{a b:Addr}{k:KV}{Q:Value→Pl→Prop}(O:X.Ok)(hla:s.heap.IsList a items)(hlb:s.heap.IsList b #[])(k:Q (.bool (!PD items.size 0)) s):Wp X (Qr .NotEq (.ref a) (.ref b)) Q E s:=by
 have hu:=O.units
 cases hz:PD items.size 0 with
 |true=>
  rw[hz]at k
  have hz':=Pu hz
  exact SeqAt.RcNeAt.lists (e:=λ_=>true) hla hlb (by rw[hz'];rfl) (by lia) (λj h1 h2=>absurd h2 (by simp)) pw X.w E Q (by rw[hz'];exact k)
 |false=>
  rw[hz]at k
  exact SeqAt.RcNeAt.lists_lengths hla hlb (bne_iff_ne.mpr λe=>bT (by rw[show items.size=0 from e]at hz;exact hz)) (by lia) pw X.w E Q k
theorem xp (O:X.Ok)(h:Cb u v st k)(I:Inv X st s)(q:aj X st k Q):Wp X (Qr .NotEq u v) Q E s:=by
 have hu:=O.units
 obtain⟨da,db,⟨r1,r2⟩,⟨c1,c2⟩,hd,hk⟩:=h
 rcases I.Nm r1 with⟨_,q1⟩
 rcases I.Nm r2 with⟨_,q2⟩
 exact SeqAt.compareNe_reads q1 q2 c1 c2 (Pr (RF (PY _ _) (Pk hd (by decide))) hu) (q.b I hk)
theorem sN (O:X.Ok)(h:z9 op a b st k)(I:Inv X st s)(ra:a.R st.ad v)(rb:b.R st.ad u)(q:aj X st k Q):Wp X (Qr op v u) Q E s:=by
 unfold z9 at h
 cases hb:lX st b with
 |true=>
  rw[hb]at h
  obtain⟨n,hn,h⟩:=aa h
  obtain⟨r,hr,h⟩:=aa h
  obtain⟨b',rfl,hlb⟩:=yZ I rb hb
  obtain⟨a',items,rfl,hla,rfl⟩:=Ar I ra hn
  cases op with
  |Eq=>rcases Pd hr with rfl;exact xy (k:=k) O hla hlb (q.b I h)
  |NotEq=>rcases Pd hr with rfl;exact wM (k:=k) O hla hlb (q.b I h)
  |_=>exact nS hr
 |false=>
  rw[hb]at h
  dsimp only at h
  cases hp:both (ph a) (ph b)with
  |some p=>
   rw[hp]at h
   rcases aA h with⟨ho,h⟩
   rw[p.1.2]at ra
   rw[p.2.2]at rb
   rw[zD ho,show v=p.1.1 from ra,show u=p.2.1 from rb]
   exact xp O h I q
  |none=>
   rw[hp]at h
   have hu:=O.units
   obtain⟨p,hd,h⟩:=aa h
   rcases aA h with⟨ho,h⟩
   rcases dj hd with⟨h1,h2⟩
   obtain⟨⟨⟨c1,c2⟩,hd⟩,hk⟩:=h
   rcases rl I ra h1 with⟨_,q1⟩
   rcases rl I rb h2 with⟨_,q2⟩
   rw[AE ho]
   exact SeqAt.compareEq_reads q1 q2 c1 c2 (Pr (RF (PY _ _) (Pk hd (by decide))) hu) (q.b I hk)
end
section
variable {X:Fx}{Γ:bc}{F:bt}{st:St}{s:Pl}{E:Value→Pl→Prop}
theorem Inv.FX (I:Inv X (st.fr [(a,o)]) s) (he:e.addr=a)(H:HL st.ad.bot e [(a,o)]):Inv X (st.dH e) s:=by
 obtain⟨m,l,l',L1,L2,hl,F,N,nd⟩:=I.ex
 have eq:l++(l'++(a,o)::st.rf)=l++((l'++[(a,o)])++st.rf):=by simp
 have N':News X.h₀ X.L s.heap (l++(l'++(a,o)::st.rf)):=N
 have nd':ao (l++(l'++(a,o)::st.rf)):=nd
 rw[eq]at N' nd'
 refine⟨⟨m,l,l'++[(a,o)],L1,L2.append (.one H),λx sv h=>?_,F,N',nd'⟩,I.gens,I.os⟩
 obtain⟨v,p,q⟩:=hl x sv h
 exact⟨v,p,q.mono (St.br st e)⟩
theorem Ly {h:Heap}(x:h.NoLimit):SW<h.objs.size:=modules_low x
noncomputable def Ib (o:Option Expr):Option {p:Str×Nat×Pos // o=some (.Constant (.str p.1) p.2.1 p.2.2)}:=match o with
 |some e=>match Lc e with
  |some q=>some ⟨q.1,congrArg some q.2⟩
  |none=>none
 |none=>none
def Dc (w:World)(Γ:bc)(x y:Str)(va vb:Expr)(st:St)(k:KV):Prop:=ag (cz Γ va st) λa=>ag (cz Γ vb st) λb=>ag (EU a) λa=>ag (EU b) λb=>
 eT (!(x==y)) (∀d,k (.tmp st.tp.length) (st.dH (.map d w [(x,.ref a.1),(y,.ref b.1)])))
def CM (w:World)(Γ:bc)(keys:List (Option Expr))(values:List Expr)(st:St)(k:KV):Prop:=ag (iG keys) λq=>ag (iG values) λv=>ag (Ib q.1.1) λx=>ag (Ib q.1.2) λy=>Dc w Γ x.1.1 y.1.1 v.1.1 v.1.2 st k
def IE (values:List Expr)(st:St)(k:KV):Prop:=match values with
 |[]=>∀d,k (.opq (.ref d)) st
 |_::_=>False
def Cc (w:World)(Γ:bc)(keys:List (Option Expr))(values:List Expr)(st:St)(k:KV):Prop:=match keys with
 |[]=>IE values st k
 |_::_=>CM w Γ keys values st k
theorem zh (O:X.Ok)(hc:X.cs=Γ.cs)(h:Dc X.w Γ x y va vb st k)(I:Inv X st s)(q:aj X st k Q) :
  Wp X (eval (.Dict [some (.Constant (.str x) kx px),some (.Constant (.str y) ky py)] [va,vb] pos) X.env) Q E s:=by
 obtain⟨va1,ha,h⟩:=aa h
 obtain⟨vb1,hb,h⟩:=aa h
 obtain⟨⟨a,rfl⟩,_,h⟩:=aa h
 obtain⟨⟨b,rfl⟩,_,h⟩:=aa h
 rcases aA h with⟨hxy,h⟩
 obtain⟨_,_,_,T⟩:=O.top
 obtain⟨m0,l0,l0',_,_,_,F0,_⟩:=id I.ex
 have hlow:(s.heap.objs.size==SW)=false:=F0.notModules (modules_low T.nolimit)
 have I1:=I.dX {cls:=.type "dict",data:=.dict #[]} rfl
 refine wpAny_Dict_walk (knd:=strKind pw X.w) rfl rfl (by simp) (by simp) ?_
 refine pairTrees_cons_walk (y7 I1 λv1 s1 I2 r1=>?_)
 refine cq O hc I2 (st:=st.fr [(s.heap.objs.size,_)]) ha λv2 s2 I3 r2=>?_
 refine pairTrees_cons_walk (y7 I3 λv3 s3 I4 r3=>?_)
 refine cq O hc I4 (st:=st.fr [(s.heap.objs.size,_)]) hb λv4 s4 I5 r4=>?_
 refine evalPairs_nil ?_
 rcases r1 with⟨t1,rfl⟩
 cases r2
 rcases r3 with⟨t3,rfl⟩
 cases r4
 have hd:s4.heap.get? s.heap.objs.size=some {cls:=.type "dict",data:=.dict #[]}:=by
  obtain⟨m,l,l',_,_,_,_,N,_⟩:=I5.ex
  exact(N (s.heap.objs.size,_) (Pb _ (Pb _ (.head _)))).1
 refine⟨[(x,.ref a),(y,.ref b)],⟨Sv pw X.w x t1,rfl,Sv pw X.w y t3,rfl,trivial⟩,?_,λh' hm hs=>?_⟩
 ·refine Heap.dictOf_iff.mpr ⟨_,hd,?_⟩
  obtain⟨o,ho,hq⟩:=Heap.dictOf_iff.mp (Heap.DictOf.new (knd:=strKind pw X.w) s.heap)
  rw[P6 _ rfl]at ho
  exact(Pd ho)▸hq
 ·obtain⟨o',ho',io⟩:=Heap.dictOf_iff.mp hm
  have I6:Inv X (st.fr [(s.heap.objs.size,o')]) ⟨h',s4.gens,s4.drawn,s4.toks+2,s4.os⟩:=I5.iter (λb z hb e=>(hs.2 b hb).trans e) ho'
  have e1:merged ([]:List (Str×Value)) [(x,.ref a),(y,.ref b)]=[(x,.ref a),(y,.ref b)]:=by
   have hxy':¬x=y:=by simpa using hxy
   simp[merged,stored,hxy']
  rw[e1]at io
  exact q _ _ _ _ (I6.FX (e:=.map s.heap.objs.size X.w [(x,.ref a),(y,.ref b)]) rfl (.map io hlow)) (St.br _ _).le (cC _ _) (h _)
theorem vN (O:X.Ok)(hc:X.cs=Γ.cs)(h:CM X.w Γ keys values st k)(I:Inv X st s)(q:aj X st k Q):Wp X (eval (.Dict keys values pos) X.env) Q E s:=by
 obtain⟨q1,_,h⟩:=aa h
 obtain⟨v,_,h⟩:=aa h
 obtain⟨x,_,h⟩:=aa h
 obtain⟨y,_,h⟩:=aa h
 rw[q1.2,v.2,x.2,y.2]
 exact zh O hc h I q
theorem w3 (O:X.Ok)(hc:X.cs=Γ.cs)(h:Cc X.w Γ keys values st k)(I:Inv X st s)(q:aj X st k Q):Wp X (eval (.Dict keys values pos) X.env) Q E s:=by
 cases keys with
 |nil=>cases values with
  |nil=>exact wpAny_Dict_empty (q (.opq (.ref s.heap.objs.size)) st _ _ (I.grow λb o _ e=>PB _ e) (.refl _) rfl (h _))
  |cons _ _=>exact h.elim
 |cons _ _=>exact vN O hc h I q
noncomputable def SV.FT:SV→Bool
 |.ref _=>false
 |.stk _=>false
 |.tmp _=>false
 |_=>true
theorem He {sv:SV}(h:sv.FT=true)(r:sv.R D v):sv.R D' v:=by
 cases sv with
 |ref _=>exact absurd h nofun
 |stk _=>exact absurd h nofun
 |tmp _=>exact absurd h nofun
 |_=>exact r
structure NI where
 x:Str
 px:Pos
 i:Int
 ki:Nat
 qi:Pos
 p:Pos
noncomputable def NI.e (n:NI):Expr:=.Subscript (.Name n.x n.px) (.Constant (.int n.i) n.ki n.qi) n.p
theorem uN (p:Pos)(h:a=a')(h2:b=b'):Expr.Subscript a b p=.Subscript a' b' p:=by rw[h,h2]
noncomputable def NK (e:Expr):Option {n:NI // e=n.e}:=match HD e with
 |some q=>match dB q.1.1 with
  |some x=>match Gd q.1.2.1 with
   |some i=>some ⟨⟨x.1.1,x.1.2,i.1.1,i.1.2.1,i.1.2.2,q.1.2.2⟩,q.2.trans (uN _ x.2 i.2)⟩
   |none=>none
  |none=>none
 |none=>none
def Hu (w:World)(Γ:bc)(m:NI)(b:SV)(k:KF)(cg:St):Prop:=ag (cz Γ (.Name m.x m.px) cg) λo2=>AN w o2 (.num m.i) b cg λpa=>k .next pa
def Ih (w:World)(Γ:bc)(n m:NI)(k:KF)(sv:SV)(aq:St):Prop:=ag (Jz (aq.ent sv)) λq=>eT (q.1.2.1.FT&&q.1.2.2.FT) (ag (cz Γ (.Name n.x n.px) aq) λo1=>AN w o1 (.num n.i) q.1.2.1 aq (Hu w Γ m q.1.2.2 k))
def wi (w:World)(Γ:bc)(F:bt)(ts:List Expr)(e:Expr)(st:St)(k:KF):Prop:=ag (iG ts) λt=>ag (NK t.1.1) λn=>ag (NK t.1.2) λm=>eT (dk e) (F.ev e st (Ih w Γ n.1 m.1 k))
theorem rp (h:Wp X (eval o X.env) (λov s1=>Wp X (eval i X.env) (λiv s2=>Wp X (setItem ov iv v) Q E s2) E s1) E s):Wp X (Sw (.Subscript o i pos) X.env v) Q E s:=by
 rw[assign_Subscript]
 refine Po (Q6 (wpAny_mono h (λov s1 h1=>?_) λ_ _ x=>x))
 refine Po (Q6 (wpAny_mono h1 (λiv s2 h2=>?_) λ_ _ x=>x))
 refine Po (Rw (Po (Q6 (wpAny_mono h2 (λ_ s3 h3=>wpAny_release h3) λ_ _ x=>x))))
theorem n6 (O:X.Ok):swappedStores [.Tuple [.Subscript o i p,.Subscript o2 i2 p2] k0 tp] e X.env=pure none:=by
 cases e<;>first|rfl|exact oA (oA rfl)
theorem Fl (O:X.Ok)(hc:X.cs=Γ.cs)(hh:X.A.handled=none)(hk:Ih X.w Γ n m k sv st)(I1:Inv X st s)(rv:sv.R st.ad v)(q:bh X k Q) :
  Wp X (Sw (.Tuple [n.e,m.e] k0 tp) X.env v) (λ_=>Q .next) E s:=by
 obtain⟨⟨⟨ta,a,b⟩,he⟩,_,hk⟩:=aa hk
 rcases aA hk with⟨hab,hk⟩
 rw[Pe]at hab
 obtain⟨o1,ho1,hk⟩:=aa hk
 obtain⟨rfl,us,ir,hg⟩:=I1.wY rv he
 obtain⟨u1,w1,rfl,ru,rw1⟩:=nJ ir
 have e1:Sw (.Tuple [n.e,m.e] k0 tp) X.env (.ref ta)=(do SO tp;unpack (.ref ta) [(false,Sw n.e X.env),(false,Sw m.e X.env)]):=rfl
 rw[e1]
 refine Po (Rw (unpack_tuple (items:=#[u1,w1]) hh ⟨_,hg,rfl,0,rfl⟩ rfl rfl λh' hk'=>?_))
 have I2:Inv X st {s with heap:=h'}:=I1.grow hk'
 show Wp X (RT [Sw n.e X.env,Sw m.e X.env] [u1,w1]) (λ_=>Q .next) E _
 refine Rp (rp (cq O hc I2 ho1 λov s2 I3 r3=>rm I3 λiv s3 I4 r4=>?_))
 refine mN hk I4 r3 r4 ru λcg s4 I5 hk2=>?_
 obtain⟨o2,ho2,hk2⟩:=aa hk2
 refine Rp (rp (cq O hc I5 ho2 λov s2 I6 r6=>rm I6 λiv s3 I7 r7=>?_))
 exact mN hk2 I7 r6 r7 (He hab.2 rw1) λpa s5 I8 hk3=>PH (q .next _ _ _ I8 rfl hk3)
theorem s9 (O:X.Ok)(hc:X.cs=Γ.cs)(hh:X.A.handled=none)(S:Sound X Γ F)(h:wi X.w Γ F ts e st k)(I:Inv X st s)(hx:av X Γ.ke E)(q:bh X k Q):Wp X (exec (.Assign [.Tuple ts k0 tp] e pos) X.env) Q E s:=by
 obtain⟨t,_,h⟩:=aa h
 obtain⟨n,_,h⟩:=aa h
 obtain⟨m,_,h⟩:=aa h
 rcases aA h with⟨hn,h⟩
 rw[t.2,n.2,m.2]
 exact Assign_Tuple (S.ev _ st s _ _ E h I hx λsv aq v s1 I1 le rv hk=>Fl O hc hh hk I1 rv q) (sT hn) (n6 O)
end
noncomputable def fw:List (Addr×Addr):=[(313,232),(334,331),(361,358),(404,401),(470,460),(498,488),(604,538),(688,629)]
noncomputable def vX (K:Frag)(C f:Addr):Bool:=makesIn K C&&(Rf K (.ref C) "__init__"==some (some (.ref f)))&&(typeIn K (.ref f)==some (.type "function"))
theorem qG (P:PJ):(fw.all λp=>vX (Kf P) p.1 p.2)=true:=by kernel_rfl
noncomputable def q9 (C f:Addr):List (Addr×Addr)→Bool
 |[]=>false
 |(D,g)::l=>match PD D C&&PD g f with
  |true=>true
  |false=>q9 C f l
theorem n9:∀{l:List (Addr×Addr)},q9 C f l=true→(C,f)∈l
 |(D,g)::l,h=>by
  rcases mB h with⟨q,_⟩|⟨_,h⟩
  ·rw[Pe]at q
   rw[←Pu q.1,←Pu q.2];exact .head _
  ·exact .tail _ (n9 h)
theorem JE (h:q9 C f fw=true)(P:PJ):makesIn (Kf P) C=true∧Rf (Kf P) (.ref C) "__init__"=some (some (.ref f))∧typeIn (Kf P) (.ref f)=some (.type "function"):=by
 have:=List.all_eq_true.mp (qG P) _ (n9 h)
 unfold vX at this
 simp only[Pe,beq_iff_eq]at this
 exact⟨this.1.1,this.1.2,this.2⟩
theorem oY (hA:tG X A n):tG X (A.under (.builtin "type.__call__" ⟨.ref C::rest,kw⟩)) (n+1):=by
 have e1:(Sd "type.__call__" ⟨.ref C::rest,kw⟩).weight=1:=by kernel_rfl
 have e2:(Sd "type.__call__" ⟨.ref C::rest,kw⟩).cUnits=1:=by kernel_rfl
 have e3:(Sd "type.__call__" ⟨.ref C::rest,kw⟩).envs=[]:=by kernel_rfl
 refine⟨?_,?_,?_,hA.hd⟩
 ·rw[←hA.fr]
  show pushEnvs (Sd "type.__call__" ⟨.ref C::rest,kw⟩).envs A.frames=_
  rw[e3];rfl
 ·show A.depth+(Sd "type.__call__" ⟨.ref C::rest,kw⟩).weight≤_
  rw[e1];exact Qo hA.dp
 ·show A.units+(Sd "type.__call__" ⟨.ref C::rest,kw⟩).cUnits≤_
  rw[e2];exact Qo hA.un
def cx (st:St)(tl:ah)(k:KV)(x:Addr)(st₂:St):Prop:=∀X s,Inv X st₂ s→∃sv₃ st₃,Inv X st₃ s∧sv₃.R st₃.ad (.ref x)∧ED st tl k sv₃ st₃
theorem v5 {st:St}{binds:Value→List (Str×Value)}(hm:q9 C f fw=true)(fn:FnAt f fd nm qual dV pm cd)(O:X.Ok)(hA:tG X A d)(hn:n+d+2≤X.n)(I:Inv X st s)(hb:∀(x:Addr)(s':Pl),(Kf X.w.params).In s'.heap→BindsTo s' (CL fd nm qual dV pm cd) ⟨.ref x::vals,[]⟩ (binds (.ref x))) (hl:∀x:Addr,((binds (.ref x)).all λx=>decide ((aK fd).names.lookup x.1=some .local))=true) (hbs:∀(y:Addr) x sv,look x bs=some sv→∃v,(binds (.ref y)).reverse.lookup x=some v∧sv.R ⟨st.ad.hp,st.ad.sk,[y]⟩ v) (ret:∀sv st' v s',Inv X st' s'→st.ad.le st'.ad→sv.R st'.ad v→k sv st'→R (.ok (.ret v)) s') (exc:av X ke (λe s'=>R (.error e) s')) (hke:Γ.ke=ke)(G:∀X',Sub X X' fd n→aH X' Γ T)(h:∀tl x dx,bw (bE Γ T N) (bz fd) {loc:=bs,hp:=st.hp,sk:=st.sk,tp:=[.inst x C dx []],rst:=tl++st.rst,fz:=st.fz} λfl st₂=>bW fl=.none∧cx st tl k x st₂) :
  P9 (model pw X.w) A (.call (.ref C) ⟨vals,[]⟩) R s:=by
 obtain⟨h1,h2,h3⟩:=JE hm X.w.params
 obtain⟨m,l,l',L1,L2,hloc,F,N0,nd⟩:=I.ex
 have KI:=O.dg I
 refine make_K F N0 KI h1 h2 h3 λx dx h' F' N' lt ltx=>?_
 have IQ:xQ X st [.inst x C dx []] {s with heap:=h'}:=by
  refine⟨⟨m,l,l',[(x,QT C dx),(dx,Q2)],L1,L2,.one (.inst (es:=[]) (n:=0) .nil),hloc,F',λp hp=>N' p ?_,?_⟩,I.gens,I.os⟩
  ·simp only[RX,QB,Qv,or_false]at hp ⊢
   rcases hp with h|(h|h|h)|h
   ·exact .inr (.inr (.inl h))
   ·exact .inr (.inr (.inr (.inl h)))
   ·exact .inl h
   ·exact .inr (.inl h)
   ·exact .inr (.inr (.inr (.inr h)))
  ·have n1:=nd.cons (a:=dx) (o:=Q2) lt
   have n2:=n1.cons (a:=x) (o:=QT C dx) (λp hp=>by
    rcases List.mem_cons.mp hp with rfl|hp
    ·exact ltx
    ·exact PF (lt p hp) ltx)
   refine n2.perm ?_
   have e1:l++((l'++[(x,QT C dx),(dx,Q2)])++st.rf)=(l++l')++([(x,QT C dx),(dx,Q2)]++st.rf):=by simp
   have e2:(x,QT C dx)::(dx,Q2)::(l++(l'++st.rf))=[(x,QT C dx),(dx,Q2)]++((l++l')++st.rf):=by simp
   rw[e1,e2,←Pj,←Pj (l++l')]
   exact QU _ Sp
 refine mD (n:=n) (k:=λsv st'=>sv=.none∧∃sv',sv'.R st'.ad (.ref x)∧k sv' st') (R:=InitBack x R) O (oY hA) (by lia) IQ (fn.lk _) (fn.cd _) fn.df (hb x _ (O.kin.keeps F'.keep)) (hl x) (hbs x) (λsv st' v s' I' le r hk=>?_) exc λX' s₁ tl S I'=>?_
 ·obtain⟨rfl,sv',r',hk⟩:=hk
  cases r
  exact⟨rfl,ret sv' st' _ s' I' le r' hk⟩
 ·refine dG (bZ S.ok (G X' S) N) (h tl x dx) I' (λC fs e s' hk fx=>⟨C,fs,hke▸hk,fx⟩) λfl st₂ f' s' I2 rf hr=>?_
  rcases hr with⟨hfl,hr⟩
  obtain⟨sv₃,st₃,I3,r3,loc',q1,q2,q3,q4⟩:=hr X' s' I2
  refine⟨.none,st₃,I3,?_,loc',q1,q2,q3,rfl,sv₃.shift st.tp.length,?_,q4⟩
  ·cases fl with
   |ret sv=>obtain⟨v,rfl,r⟩:=rf;cases(hfl:sv=.none);exact r
   |next=>cases rf;exact rfl
   |cont=>cases rf;exact rfl
   |brk=>cases rf;exact rfl
  ·have:=nc (tp0:=st.ad.tp) r3
   simpa[St.ad,PI]using this
noncomputable abbrev c7 (C:Addr)(vs:Array Value):Obj:={cls:=.ref C,data:=.fields vs}
section
variable {w:World}{A:SX}{E:Value→Pl→Prop}{s:Pl}{x C L:Addr}{h₀:Heap}{m:Str→Option Value}{vs:Array Value}{name:Str}{v:Value}{R:Result→Pl→Prop}
theorem sY {pre:ah}(F:Fr h₀ L s.heap m)(N:News h₀ L s.heap (pre++(x,c7 C vs)::post)) (X:(Kf w.params).In s.heap)(hk:ie (Kf w.params) C name=true)(h1:∀p∈pre,p.1≠x)(h2:∀p∈post,p.1≠x)(h:∀h' dx,Fr h₀ L h' m→News h₀ L h' ((dx,Qj [⟨PS w.params name,.str name s.toks,v⟩] 1)::(pre++(x,ba C dx vs)::post))→(∀p∈pre++(x,ba C dx vs)::post,p.1<dx)→R (.ok (.ret .none)) {s with heap:=h',toks:=s.toks+1}) :
  P9 (model pw w) A (.call (.builtin "object.__setattr__") ⟨[.ref x,.str name tk,v],[]⟩) R s:=by
 have D0:=N (x,c7 C vs) (by simp)
 have I:R9 s.heap x (c7 C vs) C none:=⟨D0.1,rfl,rfl,trivial⟩
 refine ow X I hk λb=>?_
 obtain⟨_,_,hdc,_,_,cd,hc,hm⟩:=dn hk
 have hd':cd.hasDict=true:=by
  unfold R4 at hdc
  rw[hc]at hdc;exact hdc
 refine Po (PH (Po (Po (Ta D0.1 (Po ((looks_clsIn X hc).here ?_))))))
 rw[hd']
 show wpAny _ _ (alloc Q2 >>= λd=>update x (λo=>{o with dict:=some d}) >>= λ_=>dictMade (.ref C) x d) _ _ _
 have D1:(s.heap.push Q2).get? x=some (c7 C vs):=PB _ D0.1
 refine Po (wpAny_alloc (Po (wpAny_update D1 ?_)))
 refine PH (a:=some s.heap.objs.size) (Po (PH (Po ?_)))
 have F1:=F.push Q2
 have N1:=N.push F Q2
 have lt:∀p∈pre++(x,c7 C vs)::post,p.1<s.heap.objs.size:=λp hp=>Qd (N p hp).1
 have hxs:x<s.heap.objs.size:=Qd D0.1
 rcases news_upd (pre:=(s.heap.objs.size,Q2)::pre) (f:=λo=>{o with dict:=some s.heap.objs.size}) F1 N1 (λp hp=>by
  rcases List.mem_cons.mp hp with rfl|hp
  ·exact Nat.ne_of_gt hxs
  ·exact h1 p hp) h2 rfl rfl with⟨F2,N2⟩
 have Dd:((s.heap.push Q2).update x λo=>{o with dict:=some s.heap.objs.size}).get? s.heap.objs.size=some (Qj [] 0):=(N2 (s.heap.objs.size,Q2) (by simp)).1
 unfold nsSet
 refine Po (Po (wpAny_askSetting (PH (Po (TG (Po (Ta Dd ?_)))))))
 obtain⟨U1,U2⟩:=news_upd (pre:=[]) (f:=Obj.putName name (PS w.params name) (.str name s.toks) v) F2 N2 (λp hp=>nomatch hp) (λp hp e=>by
  rcases List.mem_append.mp hp with hp|hp
  ·exact absurd (lt p (Px _ hp)) (e▸QW _)
  ·rcases List.mem_cons.mp hp with rfl|hp
   ·exact absurd hxs (e▸QW _)
   ·exact absurd (lt p (Pb _ (.tail _ hp))) (e▸QW _)) (putName_dict _ _ _ _ _ _) rfl
 have D':=(U2 (s.heap.objs.size,Qj (putL name (PS w.params name) (.str name s.toks) v []) (putN name [] 0)) (by simp)).1
 dsimp only
 have c:aRefKeyMayBeTheName name ([]:List PX).toArray=false:=by rw[aRefKeyMayBeTheName_at];simp
 rw[c]
 refine wpAny_updatePart Dd ?_
 refine Po (wpAny_lookBehind D' (pastItsLine_dict (by simp[putL,sizeLine_eq])) ?_)
 exact PH (h _ _ U1 U2 (λp hp=>by
  rcases List.mem_append.mp hp with hp|hp
  ·exact lt p (Px _ hp)
  ·rcases List.mem_cons.mp hp with rfl|hp
   ·exact hxs
   ·exact lt p (Pb _ (.tail _ hp))))
end
noncomputable abbrev La:List Value:=[.type "Exception",.type "BaseException",.type "object"]
structure mA (C fI N:Addr)(nm:Str)(k0 k1 k2 k3 k5:Option Value)(es:PJ→Array PX):Prop where
 lk:∀P,(Kf P).lookup C=some (excClassObj nm nm C N [.type "Exception"] La true [] [] false none none k0 k1 k2 k3 k5 "Exception.__new__")
 ns:∀P,(Kf P).lookup N=some ⟨.type "dict",none,.dict (es P) 3,#[]⟩
 ks:∀P,StrKeys (es P)
 it:∀P,nsFind (es P) "__init__"=some (.ref fI)
 fn:∀P,typeIn (Kf P) (.ref fI)=some (.type "function")
noncomputable abbrev MB (P:PJ):Array PX:=#[⟨kh P "__module__",.str "__module__" 203,(.str "emacs.lisperrors" 194)⟩,⟨kh P "__firstlineno__",.str "__firstlineno__" 207,(.int 5 206)⟩,⟨kh P "__init__",.str "__init__" 215,(.ref 35)⟩,⟨kh P "__static_attributes__",.str "__static_attributes__" 217,(.ref 36)⟩,⟨kh P "__weakref__",.str "__weakref__" 219,(.ref 39)⟩,⟨kh P "__doc__",.str "__doc__" 220,.none⟩]
noncomputable abbrev Mh (P:PJ):Array PX:=#[⟨kh P "__module__",.str "__module__" 232,(.str "emacs.lisperrors" 194)⟩,⟨kh P "__firstlineno__",.str "__firstlineno__" 236,(.int 9 235)⟩,⟨kh P "__init__",.str "__init__" 245,(.ref 55)⟩,⟨kh P "__static_attributes__",.str "__static_attributes__" 248,(.ref 56)⟩,⟨kh P "__weakref__",.str "__weakref__" 250,(.ref 59)⟩,⟨kh P "__doc__",.str "__doc__" 251,.none⟩]
theorem Io:mA 38 35 37 "EndOfText" (some (.ref 22)) none (some (.str "EndOfText" 196)) (some (.str "EndOfText" 204)) (some (.bool true)) MB:=
 ⟨λP=>by kernel_rfl,λP=>by kernel_rfl,λP e he=>by
  have:=Array.mem_toList_iff.mpr he
  simp only[QB,Qv,or_false]at this
  rcases this with rfl|rfl|rfl|rfl|rfl|rfl<;>exact⟨_,_,rfl⟩,λP=>by kernel_rfl,λP=>by kernel_rfl⟩
theorem H7:mA 58 55 57 "BadSyntax" (some (.ref 42)) none (some (.str "BadSyntax" 225)) (some (.str "BadSyntax" 233)) (some (.bool true)) Mh:=
 ⟨λP=>by kernel_rfl,λP=>by kernel_rfl,λP e he=>by
  have:=Array.mem_toList_iff.mpr he
  simp only[QB,Qv,or_false]at this
  rcases this with rfl|rfl|rfl|rfl|rfl|rfl<;>exact⟨_,_,rfl⟩,λP=>by kernel_rfl,λP=>by kernel_rfl⟩
noncomputable def IU (e:Option HE):Option {q:Addr×Obj // e=some (.raw q.1 q.2)}:=match e with
 |some e=>match e with
  |.raw a o=>some ⟨(a,o),rfl⟩
  |_=>none
 |none=>none
noncomputable def HO (d:Data):Option (Array Value):=match d with
 |.fields vs=>some vs
 |_=>none
def yv (o:SV)(n:Str)(sv:SV)(st:St)(k:St→Prop):Prop:=match IU (st.ent o)with
 |some q=>ag (AJ q.1.2.cls) λC=>ag (HO q.1.2.data) λvs=>eT (el C.1 n ju) (q.1.2=c7 C.1 vs∧∀d,k (st.c4 o (.exc q.1.1 C.1 d [(n,sv.out st.ad)] vs)))
 |none=>Dn o n sv st k
section
variable {X:Fx}{st:St}{s:Pl}{E:Value→Pl→Prop}
theorem xu (O:X.Ok)(h:yv o n sv st k)(I:Inv X st s)(ra:o.R st.ad v)(ru:sv.R st.ad u)(q:∀st' s',Inv X st' s'→k st'→Q () s'):Wp X (setAttr v n u) Q E s:=by
 unfold yv at h
 cases hq:IU (st.ent o)with
 |none=>rw[hq]at h;exact vr O h I ra ru q
 |some w=>
  rw[hq]at h
  obtain⟨⟨a,ob⟩,he⟩:=w
  obtain⟨C,_,h⟩:=aa h
  obtain⟨vs,_,h⟩:=aa h
  rcases aA h with⟨hf,h⟩
  rcases h with⟨e1,hk0⟩
  rcases C with⟨C,_⟩
  dsimp only at e1 hf hk0
  have hk:=pT hf X.w.params
  rcases St.aR he ra with rfl
  obtain⟨m,P,le,Q',D,d1,d2,H,F,N,nd,re⟩:=I.cut he
  cases H
  subst e1
  have N1:News X.h₀ X.L s.heap (P++(a,c7 C vs)::Q'):=N
  have nd1:ao (P++(a,c7 C vs)::Q'):=nd
  have⟨p1,p2⟩:=ao.ne nd1
  have KI:=O.dg I
  have IA:R9 s.heap a (c7 C vs) C none:=⟨(N1 (a,c7 C vs) (by simp)).1,rfl,rfl,trivial⟩
  refine set_plain KI IA (dn hk).2.2.2.2.1 (sY (s:={s with toks:=s.toks+1}) F N1 KI hk p1 p2 λh' dx F' N' lt=>?_)
  have pm:((dx,Qj [⟨PS X.w.params n,.str n (s.toks+1),u⟩] 1)::(P++(a,ba C dx vs)::Q')).Perm (P++([(a,ba C dx vs),(dx,Qj [⟨PS X.w.params n,.str n (s.toks+1),u⟩] 1)]++Q')):=by
   have e1:P++([(a,ba C dx vs),(dx,Qj [⟨PS X.w.params n,.str n (s.toks+1),u⟩] 1)]++Q')=(P++[(a,ba C dx vs)])++(dx,Qj [⟨PS X.w.params n,.str n (s.toks+1),u⟩] 1)::Q':=by simp
   have e2:P++(a,ba C dx vs)::Q'=(P++[(a,ba C dx vs)])++Q':=by simp
   rw[e1,e2];exact List.perm_middle.symm
  have nd2:ao (P++(a,ba C dx vs)::Q'):=bp nd1
  refine q _ _ (re (.exc a C dx [(n,sv.out st.ad)] vs) [(a,ba C dx vs),(dx,Qj [⟨PS X.w.params n,.str n (s.toks+1),u⟩] 1)] {s with heap:=h',toks:=s.toks+1+1} rfl (.exc (.cons ((SV.lp ru).mono d1) .nil)) rfl rfl F' (λp hp=>N' p (pm.mem_iff.mpr hp)) ((nd2.cons lt).perm pm)) (hk0 dx)
end
noncomputable abbrev cY (t:Addr):Array Value:=#[.ref t,.none,.none,.none,.bool false,.none]
theorem EX {st:St}{binds:Value→List (Str×Value)}(hm:mA C f M cnm k0 k1 k2 k3 k5 es)(fn:FnAt f fd nm qual dV pm cd)(O:X.Ok)(hA:tG X A d)(hn:n+d+2≤X.n)(I:Inv X st s)(hb:∀(x:Addr)(s':Pl),(Kf X.w.params).In s'.heap→BindsTo s' (CL fd nm qual dV pm cd) ⟨.ref x::vals,[]⟩ (binds (.ref x))) (hl:∀x:Addr,((binds (.ref x)).all λx=>decide ((aK fd).names.lookup x.1=some .local))=true) (hbs:∀(y:Addr) x sv,look x bs=some sv→∃v,(binds (.ref y)).reverse.lookup x=some v∧sv.R ⟨st.ad.hp,st.ad.sk,[y]⟩ v) (hlen:vals.length≤100)(ret:∀sv st' v s',Inv X st' s'→st.ad.le st'.ad→sv.R st'.ad v→k sv st'→R (.ok (.ret v)) s') (exc:av X ke (λe s'=>R (.error e) s')) (hke:Γ.ke=ke)(G:∀X',Sub X X' fd n→aH X' Γ T)(h:∀tl x t,bw (bE Γ T N) (bz fd) {loc:=bs,hp:=st.hp,sk:=st.sk,tp:=[.raw x (c7 C (cY t))],rst:=tl++st.rst,fz:=st.fz} λfl st₂=>bW fl=.none∧cx st tl k x st₂) :
  P9 (model pw X.w) A (.call (.ref C) ⟨vals,[]⟩) R s:=by
 obtain⟨m,l,l',L1,L2,hloc,F,N0,nd⟩:=I.ex
 have KI:=O.dg I
 obtain⟨hh,g,dr,t0,os⟩:=s
 have hC:=KI _ _ (hm.lk X.w.params)
 have hN:hh.Ns M (λx=>nsFind (es X.w.params) x):=⟨_,_,_,KI _ _ (hm.ns X.w.params),rfl,hm.ks _,λ_=>rfl⟩
 have hfo:=KI _ _ (fn.lk X.w.params)
 have f1:=tc_lookup
 have f2:=tc_bind (.ref C)
 have hT:(⟨hh,g,dr,t0,os⟩:Pl).TypeIs (.ref C) "type":=⟨_,hC,rfl⟩
 refine codeAny_of_tree ?_
 show wpAny _ _ (callAny (.ref C) _) _ _ _
 repeat (any_goals (first|assumption|with_reducible refine Tn hC ?_|wp_step))
 refine⟨rfl,?_⟩
 refine codeAny_call_builtin_at (Code.quiet_builtin _ (by decide +kernel)) entry_typeCall (wpAny_check_type_call_sub hC (wpAny_type_call_exc_init (hrest:=by show vals.length≤Qs;unfold Qs;lia) PySem.F.excBase_Exception hC hN (hm.it _) hfo rfl λh' x hx=>?_))
 obtain⟨tu,ho,htn,htu⟩:=hx.there
 have hxL:x≠X.L:=λe=>by
  obtain⟨oL,_,_,hoL,_⟩:=F.ns
  have:=hx.new
  rw[e,hoL]at this;cases this
 have hxb:∀p∈l++(l'++st.rf),p.1≠x:=λp hp e=>by
  have:=(N0 p hp).1
  have h2:=hx.new
  have this':hh.get? p.1=some p.2:=this
  rw[e,h2]at this';cases this'
 have hx0:X.h₀.get? x=none:=by
  cases q:X.h₀.get? x with
  |none=>rfl
  |some o=>
   have:=F.keep x o q
   have this':hh.get? x=some o:=this
   rw[hx.new]at this';cases this'
 have F':Fr X.h₀ X.L h' m:=F.keeps hx.keeps
 have IQ:xQ X st [.raw x (c7 C (cY tu))] ⟨h',g,dr,t0,os⟩:=by
  refine⟨⟨m,l,l',[(x,c7 C (cY tu))],L1,L2,.one .raw,hloc,F',λp hp=>?_,?_⟩,I.gens,I.os⟩
  ·have hp':p∈l++(l'++st.rf)∨p=(x,c7 C (cY tu)):=by
    simp only[RX,QB,Qv,or_false]at hp ⊢
    rcases hp with h|(h|h)|h
    ·exact .inl (.inl h)
    ·exact .inl (.inr (.inl h))
    ·exact .inr h
    ·exact .inl (.inr (.inr h))
   rcases hp' with hp|rfl
   ·have q:=N0 p hp
    exact⟨hx.keeps _ _ q.1,q.2⟩
   ·exact⟨ho,hxL,hx0⟩
  ·have e1:l++((l'++[(x,c7 C (cY tu))])++st.rf)=(l++l')++(x,c7 C (cY tu))::st.rf:=by simp
   have e2:l++(l'++st.rf)=(l++l')++st.rf:=by simp
   rw[e1]
   rw[e2]at nd hxb
   have pm:((x,c7 C (cY tu))::((l++l')++st.rf)).Perm ((l++l')++(x,c7 C (cY tu))::st.rf):=List.perm_middle.symm
   refine ao.perm ?_ pm
   unfold ao at *
   rw[QJ,Ru]
   refine⟨λhm=>?_,nd⟩
   obtain⟨p,hp,e⟩:=List.mem_map.mp hm
   exact hxb p hp e
 show wpAny _ (A.under (.builtin "type.__call__" ⟨.ref C::vals,[]⟩)) (call (.ref f) (.ref x::vals)) _ _ _
 refine S' (mD (n:=n) (k:=λsv st'=>sv=.none∧∃sv',sv'.R st'.ad (.ref x)∧k sv' st') O (oY hA) (by lia) IQ (fn.lk _) (fn.cd _) fn.df (hb x _ (O.kin.keeps F'.keep)) (hl x) (hbs x) (λsv st' v s' I' le r hk=>?_) exc λX' s₁ tl S I'=>?_)
 ·obtain⟨rfl,sv',r',hk⟩:=hk
  cases r
  exact⟨rfl,ret sv' st' _ s' I' le r' hk⟩
 ·refine dG (bZ S.ok (G X' S) N) (h tl x tu) I' (λC fs e s' hk fx=>⟨C,fs,hke▸hk,fx⟩) λfl st₂ f' s' I2 rf hr=>?_
  rcases hr with⟨hfl,hr⟩
  obtain⟨sv₃,st₃,I3,r3,loc',q1,q2,q3,q4⟩:=hr X' s' I2
  refine⟨.none,st₃,I3,?_,loc',q1,q2,q3,rfl,sv₃.shift st.tp.length,?_,q4⟩
  ·cases fl with
   |ret sv=>obtain⟨v,rfl,r⟩:=rf;cases(hfl:sv=.none);exact r
   |next=>cases rf;exact rfl
   |cont=>cases rf;exact rfl
   |brk=>cases rf;exact rfl
  ·have:=nc (tp0:=st.ad.tp) r3
   simpa[St.ad,PI]using this
section
variable {X:Fx}{Γ:bc}{F:bt}{st:St}{s:Pl}{E:Value→Pl→Prop}
theorem dP {pre:ah}{st:St}:l++(l'++(St.fr st (pre++p::post)).rf)=(l++(l'++pre))++p::(post++st.rf):=by
 show l++(l'++(((pre++p::post)++st.rst)++st.fz))=(l++(l'++pre))++p::(post++(st.rst++st.fz))
 simp
theorem Inv.chg {pre:ah}(V:Inv X (st.fr (pre++(I,o)::post)) s) (hk:∀b x,b≠I→s.heap.get? b=some x→h'.get? b=some x)(ho:h'.get? I=some o'):Inv X (st.fr (pre++(I,o')::post)) ⟨h',s.gens,s.drawn,t,s.os⟩:=by
 obtain⟨m,l,l',L1,L2,hl,F,N,nd⟩:=V.ex
 rw[dP]at N nd
 have hI:=N (I,o) (Pb _ (.head _))
 rcases nd.ne with⟨n1,n2⟩
 have N2:News X.h₀ X.L h' ((l++(l'++pre))++(I,o')::(post++st.rf)):=λp hp=>by
  rcases List.mem_append.mp hp with hp|hp
  ·have q:=N p (Px _ hp)
   exact⟨hk _ _ (n1 p hp) q.1,q.2⟩
  ·rcases List.mem_cons.mp hp with rfl|hp
   ·exact⟨ho,hI.2⟩
   ·have q:=N p (Pb _ (.tail _ hp))
    exact⟨hk _ _ (n2 p hp) q.1,q.2⟩
 refine⟨⟨m,l,l',L1,L2,hl,⟨F.ns.at' (λx e=>hk _ _ (λe=>hI.2.1 e.symm) e),λb x e=>hk b x (λq=>by rw[q,hI.2.2]at e;cases e) (F.keep b x e),F.above⟩,?_,?_⟩,V.gens,V.os⟩
 ·rw[dP];exact N2
 ·rw[dP];exact bp nd
theorem Inv.Nz {pre:ah}(V:Inv X (st.fr (pre++(I,o)::post)) s) (hk:∀b x,b≠I→s.heap.get? b=some x→h'.get? b=some x):Inv X (st.fr (pre++post)) ⟨h',s.gens,s.drawn,t,s.os⟩:=by
 obtain⟨m,l,l',L1,L2,hl,F,N,nd⟩:=V.ex
 rw[dP]at N nd
 have hI:=N (I,o) (Pb _ (.head _))
 rcases nd.ne with⟨n1,n2⟩
 have e:l++(l'++(St.fr st (pre++post)).rf)=(l++(l'++pre))++(post++st.rf):=by
  show l++(l'++(((pre++post)++st.rst)++st.fz))=(l++(l'++pre))++(post++(st.rst++st.fz))
  simp
 refine⟨⟨m,l,l',L1,L2,hl,⟨F.ns.at' (λx e=>hk _ _ (λe=>hI.2.1 e.symm) e),λb x e=>hk b x (λq=>by rw[q,hI.2.2]at e;cases e) (F.keep b x e),F.above⟩,λp hp=>?_,?_⟩,V.gens,V.os⟩
 ·have hp':p∈(l++(l'++pre))++(post++st.rf):=e▸hp
  rcases List.mem_append.mp hp' with hp|hp
  ·have q:=N p (Px _ hp)
   exact⟨hk _ _ (n1 p hp) q.1,q.2⟩
  ·have q:=N p (Pb _ (.tail _ hp))
   exact⟨hk _ _ (n2 p hp) q.1,q.2⟩
 ·show ao (l++(l'++(St.fr st (pre++post)).rf))
  rw[e]
  exact nd.sub ((QA _).append (Sb _ _))
theorem Inv.nB (V:Inv X (st.fr f) s)(h:p∈f):s.heap.get? p.1=some p.2∧p.1≠X.L:=by
 obtain⟨m,l,l',_,_,_,_,N,_⟩:=V.ex
 have:=N p (Pb _ (Pb _ (Px _ (Px _ h))))
 exact⟨this.1,this.2.1⟩
theorem Inv.Mg (V:Inv X (st.fr f) s)(h:p∈f):Inv X {st with fz:=p::st.fz} s:=by
 obtain⟨m,l,l',L1,L2,hl,F,N,nd⟩:=V.ex
 obtain⟨pre,post,rfl⟩:=List.append_of_mem h
 rw[dP]at N nd
 have sub:((l++l')++p::st.rf).Sublist ((l++(l'++pre))++p::(post++st.rf)):=by
  refine TX ?_ (List.Sublist.cons₂ _ (RO _ _))
  exact(QA l).append (Q8 _ _)
 have pm:((l++l')++p::st.rf).Perm (l++(l'++(st.rst++p::st.fz))):=by
  have e2:l++(l'++(st.rst++p::st.fz))=(l++l'++st.rst)++p::st.fz:=by simp
  have e1:(l++l')++p::st.rf=(l++l')++p::(st.rst++st.fz):=rfl
  rw[e1,e2]
  refine List.perm_middle.trans (List.Perm.trans ?_ List.perm_middle.symm)
  simp
 exact⟨⟨m,l,l',L1,L2,hl,F,λq hq=>N q (sub.mem (pm.mem_iff.mpr hq)),(nd.sub sub).perm pm⟩,V.gens,V.os⟩
noncomputable def aF (sc:Scope)(x:Str):Bool:=decide (sc.kind=.function)&&sc.names.all (λy=>decide (y.2≠.free)&&decide (y.2≠.cell)&&(decide (y.2≠.local)||decide (sc.names.lookup y.1=some .local)))&&decide (sc.names.lookup x=some .local)&&!(x==("__debug__":Str))
theorem aV (h:aF sc x=true):sc.kind=.function∧(∀y∈sc.names,y.2≠.free)∧(∀y∈sc.names,y.2≠.cell)∧(∀y∈sc.names,y.2=.local→sc.names.lookup y.1=some .local)∧sc.names.lookup x=some .local∧(x==("__debug__":Str))=false:=by
 unfold aF at h
 simp only[Pe,decide_eq_true_eq,List.all_eq_true,Rt,PZ]at h
 obtain⟨⟨⟨a,b⟩,c⟩,d⟩:=h
 refine⟨a,λy hy=>(b y hy).1.1,λy hy=>(b y hy).1.2,λy hy e=>?_,c,d⟩
 rcases(b y hy).2 with z|z
 ·exact absurd e z
 ·exact z
def Df (X:Fx)(L:CompI)(scope:Scope)(x:Str)(elt:Expr)(P:Nat→Value→Prop)(C:Addr):Prop:=∀j i v f (s':Pl)(Q:Value→Pl→Prop)(E':Value→Pl→Prop),j<L.n→P j v→L.J j i→Inv X ((L.S j i).fr f) s'→(∃m,s'.heap.Ns C m∧m x=some v) →
 (∀y i' s'',Inv X ((L.S (j+1) i').fr f) s''→L.out (j+1) i'=L.out j i++[y]→L.J (j+1) i'→Q y s'')→Wp X (eval elt (Rb scope C X.env)) Q E' s'
theorem oi {i0:L.ι}(W:Walks pw X.w X.A I fp wr L.n P Sg)(hwr:∀b∈wr,b=I)(hfp:∀b∈fp,b=I∨∃ob,∀j i,(b,ob)∈(L.S j i).fz)(hob:∀j h,Sg j h→∃o,h.get? I=some o)(hsc:aF scope x=true)(hel:Df X L scope x elt P C)(hout:∀j i,L.J j i→(L.out j i).length≤1000000)(h0:L.out 0 i0=[])(j0:L.J 0 i0)(I0:Inv X ((L.S 0 i0).fr [(C,oC),(I,oI),(D,listOf #[] nn)]) s) (hs0:Sg 0 s.heap)(hns:∃m,s.heap.Ns C m)(q:∀i oC nn s',Inv X ((L.S L.n i).fr [(C,oC),(D,listOf (L.out L.n i).toArray nn)]) s'→(∃m,s'.heap.Ns C m)→L.J L.n i→R (.ok .next) s'):P9 (model pw X.w) X.A (.compLoop (.ListComp elt [⟨.Name x px,iter,[],0⟩] scope pos) 0 (.ref I) (.ref D) (Rb scope C X.env)) R s:=by
 obtain⟨hk,hfree,hcell,hnames,hx,hd⟩:=aV hsc
 have hp:((Rb scope C X.env).scope.kind==.class||((Rb scope C X.env).scope.kind==.module&&(Rb scope C X.env).locals !=(Rb scope C X.env).globals))=false:=by simp[Rb,hk]
 refine codeAny_compLoop_tests (λn s'=>∃j i oC oI nn,j≤L.n∧n=L.n-j∧Inv X ((L.S j i).fr [(C,oC),(I,oI),(D,listOf (L.out j i).toArray nn)]) s'∧Sg j s'.heap∧L.J j i∧∃m,s'.heap.Ns C m) (λn s' hn=>?_) L.n ⟨0,i0,oC,oI,nn,Ql _,rfl,by rw[h0];exact I0,hs0,j0,hns⟩
 obtain⟨j,i,oC,oI,nn,hj,rfl,V,hst,hJ,m0,hm0⟩:=hn
 by_cases hlt:j<L.n
 ·refine W.item j s' _ _ hlt hst λv h' tk hP hst' hk'=>?_
  rcases hob _ _ hst' with⟨oI',hoI'⟩
  have kI:∀b z,b≠I→s'.heap.get? b=some z→h'.get? b=some z:=λb z hb e=>hk' b z (λhm=>hb (hwr b hm)) e
  have V2:Inv X ((L.S j i).fr [(C,oC),(I,oI'),(D,listOf (L.out j i).toArray nn)]) ⟨h',s'.gens,s'.drawn,tk,s'.os⟩:=Inv.chg (pre:=[(C,oC)]) (post:=[(D,listOf (L.out j i).toArray nn)]) V kI hoI'
  have hCI:C≠I:=by
   intro e
   obtain⟨mm,l,l',_,_,_,_,_,nd⟩:=V.ex
   have nd':ao (l++(l'++(St.fr (L.S j i) ([]++(C,oC)::[(I,oI),(D,listOf (L.out j i).toArray nn)])).rf)):=nd
   rw[dP]at nd'
   exact(ao.ne nd').2 (I,oI) (Px _ (.head _)) e.symm
  have hDI:D≠I∧D≠C:=by
   obtain⟨mm,l,l',_,_,_,_,_,nd⟩:=V.ex
   refine⟨λe=>?_,λe=>?_⟩
   ·have nd':ao (l++(l'++(St.fr (L.S j i) ([(C,oC)]++(I,oI)::[(D,listOf (L.out j i).toArray nn)])).rf)):=nd
    rw[dP]at nd'
    exact(ao.ne nd').2 (D,_) (Px _ (.head _)) e
   ·have nd':ao (l++(l'++(St.fr (L.S j i) ([]++(C,oC)::[(I,oI),(D,listOf (L.out j i).toArray nn)])).rf)):=nd
    rw[dP]at nd'
    exact(ao.ne nd').2 (D,_) (Px _ (.tail _ (.head _))) e
  have hns1:h'.Ns C m0:=hm0.at' λo e=>kI _ o hCI e
  refine To (wpAny_storeName_local (by show scope.names.lookup x=some .local;exact hx) hns1 (λh₂ hn₂ hs₂=>?_) hp)
  have hoC':∃oC',h₂.get? C=some oC':=let⟨o,_,_,e,_⟩:=hn₂;⟨o,e⟩
  rcases hoC' with⟨oC',hoC'⟩
  have V3:Inv X ((L.S j i).fr [(C,oC'),(I,oI'),(D,listOf (L.out j i).toArray nn)]) ⟨h₂,s'.gens,s'.drawn,tk+1,s'.os⟩:=Inv.chg (s:=⟨h',s'.gens,s'.drawn,tk,s'.os⟩) (pre:=[]) (post:=[(I,oI'),(D,listOf (L.out j i).toArray nn)]) V2 (λb z hb e=>(hs₂.2 b hb).trans e) hoC'
  rw[List.forIn_nil]
  refine PH ?_
  rw[if_pos rfl]
  refine hel j i v _ _ _ _ hlt hP hJ V3 ⟨_,hn₂,if_pos rfl⟩ λy i' s4 V4 ho hJ'=>?_
  have hD4:=(V4.nB (p:=(D,listOf (L.out j i).toArray nn)) (by simp)).1
  have hPL:s4.heap.PlainList D (L.out j i).toArray:=⟨nn,hD4⟩
  refine wpAny_list_append_plain hPL (λh₅ hp5 hs5=>?_) (by have:=hout j i hJ;rw[Pw];unfold Qs;lia)
  rcases hp5 with⟨nn',hn5⟩
  have e5:(L.out j i).toArray.push y=(L.out (j+1) i').toArray:=by rw[ho];simp
  rw[e5]at hn5
  have V5:Inv X ((L.S (j+1) i').fr [(C,oC'),(I,oI'),(D,listOf (L.out (j+1) i').toArray nn')]) ⟨h₅,s4.gens,s4.drawn,s4.toks,s4.os⟩:=Inv.chg (pre:=[(C,oC'),(I,oI')]) (post:=[]) V4 (λb z hb e=>(hs5.2 b hb).trans e) hn5
  have hC4:=(V4.nB (p:=(C,oC')) (by simp)).1
  obtain⟨oz,esz,epz,hz1,hz2⟩:=hn₂
  have hns5:∃m,h₅.Ns C m:=by
   have e6:oz=oC':=Pd (hz1.symm.trans hoC')
   exact⟨_,oz,esz,epz,(hs5.2 C (Ne.symm hDI.2)).trans (by rw[e6];exact hC4),hz2⟩
  refine⟨L.n-(j+1),QH _ _ hlt,j+1,i',oC',oI',nn',hlt,rfl,V5,W.frame _ _ _ hst' λb hb z e=>?_,hJ',hns5⟩
  rcases hfp b hb with rfl|hz
  ·have e':oI'=z:=by
    have:h'.get? b=some z:=e
    rw[hoI']at this;exact Pd this
   rw[←e']
   exact(V5.nB (p:=(b,oI')) (by simp)).1
  ·rcases hz with⟨ob,hz⟩
   have e1:h'.get? b=some ob:=V2.frozen (p:=(b,ob)) (hz j i)
   have e2:h'.get? b=some z:=e
   rw[e1]at e2
   rw[←e2]
   exact V5.frozen (p:=(b,ob)) (hz (j+1) i')
 ·obtain rfl:j=L.n:=by lia
  refine W.done s' _ _ hst λh' tk hk'=>?_
  have kI:∀b z,b≠I→s'.heap.get? b=some z→h'.get? b=some z:=λb z hb e=>hk' b z (λhm=>hb (hwr b hm)) e
  have V2:Inv X ((L.S L.n i).fr [(C,oC),(D,listOf (L.out L.n i).toArray nn)]) ⟨h',s'.gens,s'.drawn,tk,s'.os⟩:=Inv.Nz (pre:=[(C,oC)]) (post:=[(D,listOf (L.out L.n i).toArray nn)]) V kI
  refine q i oC nn _ V2 ⟨m0,hm0.at' λo e=>?_⟩ hJ
  have hC:=(V.nB (p:=(C,oC)) (by simp)).1
  have hC2:=(V2.nB (p:=(C,oC)) (by simp)).1
  have:o=oC:=Pd (e.symm.trans hC)
  rw[this];exact hC2
end
section
variable {X:Fx}{Γ:bc}{F:bt}{st:St}{s:Pl}{E:Value→Pl→Prop}
theorem Inv.DK (V:Inv X (st.fr f) s)(pm:f.Perm f'):Inv X (st.fr f') s:=by
 obtain⟨m,l,l',L1,L2,hl,F,N,nd⟩:=V.ex
 have pp:(l++(l'++(St.fr st f).rf)).Perm (l++(l'++(St.fr st f').rf)):=by
  refine P4 _ (P4 _ ?_)
  show((f++st.rst)++st.fz).Perm ((f'++st.rst)++st.fz)
  exact QU _ (QU _ pm)
 exact⟨⟨m,l,l',L1,L2,hl,F,λp hp=>N p (pp.mem_iff.mpr hp),nd.perm pp⟩,V.gens,V.os⟩
theorem rF {i0:L.ι}(W:Walks pw X.w X.A I fp wr L.n P Sg)(hwr:∀b∈wr,b=I)(hfp:∀b∈fp,b=I∨∃ob,∀j i,(b,ob)∈(L.S j i).fz)(hob:∀j h,Sg j h→∃o,h.get? I=some o)(hfl:∀b∈fp,b<s.heap.objs.size)(hsc:aF scope x=true)(hel:∀C,Df X L scope x elt P C)(hout:∀j i,L.J j i→(L.out j i).length≤1000000)(h0:L.out 0 i0=[])(j0:L.J 0 i0)(I0:Inv X ((L.S 0 i0).fr [(I,oI)]) s) (hs0:Sg 0 s.heap)(q:∀i d nn s',Inv X {L.S L.n i with fz:=(d,listOf (L.out L.n i).toArray nn)::(L.S L.n i).fz} s'→L.J L.n i→Q (.ref d) s') :
  Wp X (TC []) (λacc s₃=>Wp X (RG scope X.env.globals [] [] X.env.qual none .none (some X.env)) (λcenv s₄=>
    P9 (model pw X.w) X.A (.compStart (.ListComp elt [⟨.Name x px,iter,[],0⟩] scope pos) 0 (.ref I) acc {cenv with scope:=scope})
     (λr s'=>∃m,s'.heap.Ns cenv.locals m∧∀h',Rq cenv.locals s'.heap h' →
      match r with|.ok _=>Q acc {s' with heap:=h'}|.error x=>wpAny (model pw X.w) X.A (passOn "comprehension.variables-let-go" x {cenv with scope:=scope}) Q E {s' with heap:=h'}) s₄) E s₃) E s:=by
 obtain⟨hk,hfree,hcell,hnames,hx,hd⟩:=aV hsc
 refine R8 (wpAny_newFunctionEnv hcell (by intro y hy;simp at hy) (λh₁ hns₁ hsb₁=>?_) hk)
 dsimp only at hns₁ hsb₁ ⊢
 have V1:=I0.dX {cls:=.type "list",dict:=none,data:=.seq ([]:List Value).toArray} rfl
 have V2:Inv X (St.fr (L.S 0 i0) [((s.heap.push (listOf #[] 0)).objs.size,{cls:=.type "dict",data:=.dict #[]}),(s.heap.objs.size,listOf #[] 0),(I,oI)]) ⟨(s.heap.push (listOf #[] 0)).push {cls:=.type "dict",data:=.dict #[]},s.gens,s.drawn,s.toks,s.os⟩:=
  (show Inv X (St.fr (L.S 0 i0) [(s.heap.objs.size,listOf #[] 0),(I,oI)]) ⟨s.heap.push (listOf #[] 0),s.gens,s.drawn,s.toks,s.os⟩from V1).dX {cls:=.type "dict",data:=.dict #[]} rfl
 obtain⟨oC,hoC⟩:∃o,h₁.get? (s.heap.push (listOf #[] 0)).objs.size=some o:=let⟨o,_,_,e,_⟩:=hns₁;⟨o,e⟩
 have V3:Inv X (St.fr (L.S 0 i0) [((s.heap.push (listOf #[] 0)).objs.size,oC),(s.heap.objs.size,listOf #[] 0),(I,oI)]) ⟨h₁,s.gens,s.drawn,s.toks,s.os⟩:=
  Inv.chg (s:=⟨(s.heap.push (listOf #[] 0)).push {cls:=.type "dict",data:=.dict #[]},s.gens,s.drawn,s.toks,s.os⟩) (pre:=[]) (post:=[(s.heap.objs.size,listOf #[] 0),(I,oI)]) V2 (λb z hb e=>(hsb₁.2 b hb).trans e) hoC
 have V4:=V3.DK (f':=[((s.heap.push (listOf #[] 0)).objs.size,oC),(I,oI),(s.heap.objs.size,listOf #[] 0)]) (List.Perm.cons _ (List.Perm.swap _ _ _))
 have hst1:Sg 0 h₁:=W.frame _ _ _ hs0 λb hb o e=>by
  have hb1:=hfl b hb
  refine(hsb₁.2 b ?_).trans (PB _ (PB _ e))
  intro e2
  rw[e2]at hb1
  have h2:(s.heap.push {cls:=.type "list",dict:=none,data:=.seq ([]:List Value).toArray}).objs.size=s.heap.objs.size+1:=RE ..
  rw[h2]at hb1
  exact absurd hb1 (Nat.not_lt.mpr (Q3 _))
 have loop:∀s₃:Pl,s₃=⟨h₁,s.gens,s.drawn,s.toks,s.os⟩→P9 (model pw X.w) X.A (.compLoop (.ListComp elt [⟨.Name x px,iter,[],0⟩] scope pos) 0 (.ref I) (.ref s.heap.objs.size) (Rb scope (s.heap.push (listOf #[] 0)).objs.size X.env))
   (λr s'=>∃m,s'.heap.Ns (s.heap.push (listOf #[] 0)).objs.size m∧∀h',Rq (s.heap.push (listOf #[] 0)).objs.size s'.heap h' →
      match r with|.ok _=>Q (.ref s.heap.objs.size) {s' with heap:=h'}|.error x=>wpAny (model pw X.w) X.A (passOn "comprehension.variables-let-go" x (Rb scope (s.heap.push (listOf #[] 0)).objs.size X.env)) Q E {s' with heap:=h'}) s₃:=by
  rintro s₃ rfl
  refine oi (R:=λr s'=>∃m,s'.heap.Ns (s.heap.push (listOf #[] 0)).objs.size m∧∀h',Rq (s.heap.push (listOf #[] 0)).objs.size s'.heap h' →
      match r with|.ok _=>Q (.ref s.heap.objs.size) {s' with heap:=h'}|.error x=>wpAny (model pw X.w) X.A (passOn "comprehension.variables-let-go" x (Rb scope (s.heap.push (listOf #[] 0)).objs.size X.env)) Q E {s' with heap:=h'}) W hwr hfp hob hsc (hel _) hout h0 j0 V4 hst1 ⟨_,hns₁⟩ λi oC' nn s' V5 hn hJ=>?_
  rcases hn with⟨m,hm⟩
  refine⟨m,hm,λh' hs'=>?_⟩
  have V6:Inv X ((L.S L.n i).fr [(s.heap.objs.size,listOf (L.out L.n i).toArray nn)]) ⟨h',s'.gens,s'.drawn,s'.toks,s'.os⟩:=Inv.Nz (s:=s') (pre:=[]) (post:=[(s.heap.objs.size,listOf (L.out L.n i).toArray nn)]) V5 λb z hb e=>(hs'.2 b hb).trans e
  exact q i s.heap.objs.size nn _ (V6.Mg (p:=(s.heap.objs.size,listOf (L.out L.n i).toArray nn)) (.head _)) hJ
 exact codeAny_compStart_list (loop _ rfl) (W.self 0 _ _ _ hst1 (loop _ rfl))
end
set_option genCtorIdx true in
inductive EK|abs|neg|ord|isin (z:Str)|call (a:Addr)
inductive fP (f:Str):EK→Prop
 |abs (h:cm f aU=some (false,.builtin "abs")):fP f .abs
 |ord (h:cm f aU=some (false,.builtin "ord")):fP f .ord
 |call {a:Addr}(h:cm f aU=some (true,.ref a))(hm:eD a eJ=true):fP f (.call a)
inductive fj (scope:Scope)(x:Str):Expr→List Expr→EK→Prop
 |fn {f:Str}{p q pos:Pos}{k:EK}(hl:scope.names.lookup f=some .globalImplicit)(hd:(f==("__debug__":Str))=false) (h:fP f k):fj scope x (.Call (.Name f p) [.Name x q] [] pos) [] k
 |isin {z:Str}{p q pos:Pos}{k:Nat}:fj scope x (.Compare (.Name x p) [.In] [.Constant (.str z) k q] pos) [] (.isin z)
 |neg {p q r pos:Pos}{k:Nat}:fj scope x (.Name x p) [.Compare (.Name x q) [.Lt] [.Constant (.int 0) k r] pos] .neg
noncomputable def kZ (v:Value):Option EK:=match v with
 |.builtin id=>match id == "abs" with
  |true=>some .abs
  |false=>match id == "ord" with
   |true=>some .ord
   |false=>none
 |_=>none
noncomputable def wA (v:Value):Option EK:=match v with
 |.ref a=>match eD a eJ with
  |true=>some (.call a)
  |false=>none
 |_=>none
noncomputable def JO (o:Option (Bool×Value)):Option EK:=o.bind λq=>match q.1 with
 |true=>wA q.2
 |false=>kZ q.2
noncomputable def NS (scope:Scope)(x:Str)(g:Expr)(as:List Expr)(kws:List Keyword):Option EK:=(dB g).bind λf=>(hY as).bind λa=>(dB a.1).bind λy=>match vG kws&&((y.1.1==x)&&decide (scope.names.lookup f.1.1=some .globalImplicit)&&!(f.1.1==("__debug__":Str)))with
 |true=>JO (cm f.1.1 aU)
 |false=>none
noncomputable def N4 (x:Str)(l:Expr)(ops:List CmpOp)(cs:List Expr):Option EK:=(dB l).bind λy=>(hY cs).bind λc=>(Lc c.1).bind λz=>match AK .In ops&&(y.1.1==x)with
 |true=>some (.isin z.1.1)
 |false=>none
noncomputable def NL (x y:Str)(l:Expr)(ops:List CmpOp)(cs:List Expr):Option EK:=(dB l).bind λy2=>(hY cs).bind λc=>(Gd c.1).bind λz=>match AK .Lt ops&&((y==x)&&(y2.1.1==x))&&decide (z.1.1=0)with
 |true=>some .neg
 |false=>none
noncomputable def iP (scope:Scope)(x:Str)(elt:Expr)(ifs:List Expr):Option EK:=match ifs with
 |[]=>match xq elt with
  |some q=>NS scope x q.1.1 q.1.2.1 q.1.2.2.1
  |none=>(Lq elt).bind λq=>N4 x q.1.1 q.1.2.1 q.1.2.2.1
 |c::r=>match r with
  |[]=>(dB elt).bind λy=>(Lq c).bind λq=>NL x y.1.1 q.1.1 q.1.2.1 q.1.2.2.1
  |_::_=>none
theorem mw (hf:cm f aU=some (false,v))(h:kZ v=some k):fP f k:=by
 cases v with
 |builtin id=>
  rcases mB h with⟨hi,h⟩|⟨_,h⟩
  ·cases h;rcases beq_iff_eq.mp hi with rfl;exact .abs hf
  ·rcases dM h with⟨hi,h⟩
   cases h;rcases beq_iff_eq.mp hi with rfl;exact .ord hf
 |_=>exact absurd h nofun
theorem ua (hf:cm f aU=some (true,v))(h:wA v=some k):fP f k:=by
 cases v with
 |ref a=>
  rcases dM h with⟨hi,h⟩
  cases h;exact .call hf hi
 |_=>exact absurd h nofun
theorem BO (h:JO (cm f aU)=some k):fP f k:=by
 obtain⟨q,hf,h⟩:=bO h
 rcases q with⟨b,v⟩
 cases b with
 |true=>exact ua hf h
 |false=>exact mw hf h
theorem F9 (h:NS scope x g as kws=some k):fj scope x (.Call g as kws pos) [] k:=by
 obtain⟨f,_,h⟩:=bO h
 obtain⟨a,_,h⟩:=bO h
 obtain⟨y,_,h⟩:=bO h
 rcases dM h with⟨hc,h⟩
 rw[Pe,Pe,Pe,decide_eq_true_eq,PZ,beq_iff_eq]at hc
 obtain⟨h0,⟨h1,h2⟩,h3⟩:=hc
 rw[f.2,a.2,y.2,iW h0,h1]
 exact .fn h2 h3 (BO h)
theorem EP (h:N4 x l ops cs=some k):fj scope x (.Compare l ops cs pos) [] k:=by
 obtain⟨y,_,h⟩:=bO h
 obtain⟨c,_,h⟩:=bO h
 obtain⟨z,_,h⟩:=bO h
 rcases dM h with⟨hc,h⟩
 rw[Pe,beq_iff_eq]at hc
 rw[y.2,c.2,z.2,rK hc.1,hc.2,←Pd h]
 exact .isin
theorem E8 (h:NL x y l ops cs=some k):fj scope x (.Name y py) [.Compare l ops cs pos] k:=by
 obtain⟨y2,_,h⟩:=bO h
 obtain⟨c,_,h⟩:=bO h
 obtain⟨z,_,h⟩:=bO h
 rcases dM h with⟨hc,h⟩
 rw[Pe,Pe,Pe,decide_eq_true_eq,beq_iff_eq,beq_iff_eq]at hc
 rw[y2.2,c.2,z.2,rK hc.1.1,hc.1.2.1,hc.1.2.2,hc.2,←Pd h]
 exact .neg
theorem pd (h:iP scope x elt ifs=some k):fj scope x elt ifs k:=by
 cases ifs with
 |nil=>
  unfold iP at h
  cases hq:xq elt with
  |some q=>rw[hq]at h;rw[q.2];exact F9 h
  |none=>
   rw[hq]at h
   obtain⟨q,_,h⟩:=bO h
   rw[q.2];exact EP h
 |cons c r=>cases r with
  |nil=>
   obtain⟨y,_,h⟩:=bO h
   obtain⟨q,_,h⟩:=bO h
   rw[y.2,q.2];exact E8 h
  |cons=>exact nS h
structure Bq (L:CompI)(j:Nat)(i:L.ι)(sv:SV)(cg:St):Prop where
 h:∀X s v f,Inv X (cg.fr f) s→sv.R cg.ad v→∃i',L.out (j+1) i'=L.out j i++[v]∧L.J (j+1) i'∧Inv X ((L.S (j+1) i').fr f) s
def K5 (sv:SV)(aq:St)(k:KV):Prop:=match sv with
 |.opq u=>∃(l:Addr)(vs:List Value)(nn:Nat)(ns:List Int),(u=.ref l∧(l,listOf vs.toArray nn)∈aq.fz∧Qz vs ns∧ns.length≤100000)∧∀d,k (.tmp aq.tp.length) (aq.dH (.nlist d (ns.map λi=>if i<0 then -i else i)))
 |_=>False
def HR (sv:SV)(aq:St)(k:KV):Prop:=match sv with
 |.opq u=>∃(l:Addr)(vs:List Value)(nn:Nat)(ns:List Int),(u=.ref l∧(l,listOf vs.toArray nn)∈aq.fz∧Qz vs ns∧ns.length≤100000)∧∀d,k (.tmp aq.tp.length) (aq.dH (.nlist d (ns.filter λi=>decide (i<0))))
 |_=>False
def GX (sv:SV)(aq:St)(k:KV):Prop:=eP sv λt=>t.cps.size≤100000∧∀d,k (.tmp aq.tp.length) (aq.dH (.nlist d (t.cps.toList.map λ(c:Nat)=>(c:Int))))
def CE (z:Str)(sv:SV)(aq:St)(k:KV):Prop:=eP sv λt=>t.cps.size≤100000∧∀d vs nn,RK vs (t.cps.toList.map λc=>aN ⟨#[c]⟩ z)→k (.opq (.ref d)) {aq with fz:=(d,listOf vs.toArray nn)::aq.fz}
def Cw (c:cK)(L:CompI)(u:Value)(aq:St)(k:KV):Prop:=
 ∃(l:Addr)(vs:List Value)(nn:Nat),(u=.ref l∧(l,listOf vs.toArray nn)∈aq.fz∧(∀j i,(l,listOf vs.toArray nn)∈(L.S j i).fz)∧L.n=vs.length∧(∀j i,L.J j i→(L.out j i).length≤1000000)∧∀i,aq.ad.le (L.S L.n i).ad) ∧
  Ent aq (λst'=>∃i,st'=L.S 0 i∧L.out 0 i=[]∧L.J 0 i) ∧
  (∀j i v f,j<L.n→vs[j]?=some v→L.J j i→c [.opq v] ((L.S j i).fr f) (λsv cg=>∃r,cg.rst=f++r∧Bq L j i sv {cg with rst:=r}) (λ_ _=>False)) ∧
  ∀i d nn,L.J L.n i→k (.opq (.ref d)) {L.S L.n i with fz:=(d,listOf (L.out L.n i).toArray nn)::(L.S L.n i).fz}
def za (c:cK)(o:Option CompI)(u:Value)(aq:St)(k:KV):Prop:=ag o λL=>Cw c L u aq k
def wJ (o:Option cK)(o2:Option CompI)(u:Value)(aq:St)(k:KV):Prop:=ag o λc=>za c o2 u aq k
def Cu (Γ:bc)(a:Addr)(n:Nat)(sv:SV)(aq:St)(k:KV):Prop:=match sv with
 |.opq u=>wJ (Γ.call a) (Γ.comps n aq) u aq k
 |_=>False
def yU (Γ:bc)(n:Nat)(k:KV)(ek:EK)(sv:SV)(aq:St):Prop:=match ek with
 |.abs=>K5 sv aq k
 |.neg=>HR sv aq k
 |.ord=>GX sv aq k
 |.isin z=>CE z sv aq k
 |.call a=>Cu Γ a n sv aq k
noncomputable def GG (g:Comprehension):Option {p:Str×Pos×Expr×List Expr // g=⟨.Name p.1 p.2.1,p.2.2.1,p.2.2.2,0⟩}:=match g with
 |⟨t,i,fs,a⟩=>(dB t).bind λx=>if h:a=0 then some ⟨(x.1.1,x.1.2,i,fs),congr (congrArg (λt a=>Comprehension.mk t i fs a) x.2) h⟩else none
noncomputable def Nh (gs:List Comprehension):Option {p:Str×Pos×Expr×List Expr // gs=[⟨.Name p.1 p.2.1,p.2.2.1,p.2.2.2,0⟩]}:=(hY gs).bind λq=>(GG q.1).bind λr=>some ⟨r.1,q.2.trans (congrArg (λz=>[z]) r.2)⟩
def FY (Γ:bc)(n:Nat)(o:Option EK)(F:bt)(iter:Expr)(st:St)(k:KV):Prop:=ag o λek=>F.ev iter st (yU Γ n k ek)
def CY (Γ:bc)(F:bt)(elt:Expr)(x:Str)(iter:Expr)(ifs:List Expr)(scope:Scope)(n:Nat)(st:St)(k:KV):Prop:=match aF scope x&&dT iter with
 |true=>FY Γ n (iP scope x elt ifs) F iter st k
 |false=>False
def Cn (Γ:bc)(F:bt)(e:Expr)(st:St)(k:KV):Prop:=match e with
 |.ListComp elt gs scope pos=>ag (Nh gs) λq=>CY Γ F elt q.1.1 q.1.2.2.1 q.1.2.2.2 scope pos.line st k
 |_=>False
section
variable {X:Fx}{Γ:bc}{F:bt}{st:St}{s:Pl}{E:Value→Pl→Prop}
theorem jH (hsc:aF scope x=true)(hn:∃m,s.heap.Ns C m∧m x=some v)(h:Q v s):Wp X (eval (.Name x p) (Rb scope C X.env)) Q E s:=by
 obtain⟨hk,_,_,_,hx,hd⟩:=aV hsc
 obtain⟨m,hm,hv⟩:=hn
 exact wpAny_Name (wpAny_loadName_local hk (by show scope.names.lookup x=some .local;exact hx) hm hv h) hd
theorem Inv.NJ (I:Inv X st s):∃m,Fr X.h₀ X.L s.heap m:=let⟨m,_,_,_,_,_,F,_,_⟩:=I.ex;⟨m,F⟩
theorem tM {id:String}(O:X.Ok)(I:Inv X st s)(hsc:aF scope x=true)(hf:cm f aU=some (false,.builtin id))(hl:scope.names.lookup f=some .globalImplicit)(hd:(f==("__debug__":Str))=false) (h:Q (.builtin id) s) :
  Wp X (eval (.Name f p) (Rb scope C X.env)) Q E s:=by
 rcases aV hsc with⟨hk,_⟩
 obtain⟨mg,mb,T⟩:=O.read
 rcases I.NJ with⟨m,F0⟩
 have hm:=fu hf
 have e2:=List.map_inj_left.mp (fR X.w.params) _ hm
 have e3:=List.all_eq_true.mp kQ _ hm
 simp only[Bool.false_or,Pe,decide_eq_true_eq,bne_iff_ne]at e3
 exact Name_function_global hk (by show scope.names.lookup f=_;exact hl) (loadGlobal_builtin (T.g.keeps F0.keep) (mg_none_of O.kin T.g e2) (T.b.keeps F0.keep) ((T.builtins f e3.2).trans e3.1) h) hd
theorem vQ (O:X.Ok)(I:Inv X st s)(hsc:aF scope x=true)(hf:cm f aU=some (true,.ref a))(hl:scope.names.lookup f=some .globalImplicit)(hd:(f==("__debug__":Str))=false) (h:Q (.ref a) s) :
  Wp X (eval (.Name f p) (Rb scope C X.env)) Q E s:=by
 rcases aV hsc with⟨hk,_⟩
 obtain⟨mg,mb,T⟩:=O.read
 rcases I.NJ with⟨m,F0⟩
 have e2:=List.map_inj_left.mp (fR X.w.params) _ (fu hf)
 exact nameG_K F0 O.kin T e2 h rfl hk (by show scope.names.lookup f=_;exact hl) hd
theorem lJ (h:Qz vs ns)(i:Int)(t:Tok):Qz (vs++[.int i t]) (ns++[i]):=by
 induction h with
 |nil=>exact .cons _ _ .nil
 |cons a u _ ih=>exact .cons a u ih
theorem pB (h:RK vs ns)(i:Bool):RK (vs++[.bool i]) (ns++[i]):=by
 induction h with
 |nil=>exact .cons _ .nil
 |cons a _ ih=>exact .cons a ih
theorem kf {α β:Type}{l:List α}{f:α→β}{a:α}(h:l[j]?=some a):((l.take j).map f)++[f a]=(l.take (j+1)).map f:=by
 rw[List.take_add_one,h];simp
theorem lQ {α β:Type}{Are:List Value→List β→Prop}{as:List α}{f:α→β}{aq:St}(hnil:Are [] [])(hlen:∀vs bs,Are vs bs→vs.length=bs.length)(W:Walks pw X.w X.A I fp wr as.length P Sg)(hwr:∀b∈wr,b=I)(hfp:∀b∈fp,b=I∨∃ob,(b,ob)∈aq.fz)(hob:∀j h,Sg j h→∃o,h.get? I=some o)(hfl:∀b∈fp,b<s.heap.objs.size)(hsc:aF scope x=true)(hz:as.length≤100000)(hel:∀C j v a ys (s':Pl)(Q:Value→Pl→Prop)(E':Value→Pl→Prop) g,P j v→as[j]?=some a→Inv X (aq.fr g) s'→(∃m,s'.heap.Ns C m∧m x=some v)→Are ys ((as.take j).map f)→(∀y s'',Inv X (aq.fr g) s''→Are (ys++[y]) (((as.take j).map f)++[f a])→Q y s'')→Wp X (eval elt (Rb scope C X.env)) Q E' s') (I0:Inv X (aq.fr [(I,oI)]) s) (hs0:Sg 0 s.heap)(q:∀d vs nn s',Inv X {aq with fz:=(d,listOf vs.toArray nn)::aq.fz} s'→Are vs (as.map f)→Q (.ref d) s') :
  Wp X (TC []) (λacc s₃=>Wp X (RG scope X.env.globals [] [] X.env.qual none .none (some X.env)) (λcenv s₄=>
    P9 (model pw X.w) X.A (.compStart (.ListComp elt [⟨.Name x px,iter,[],0⟩] scope pos) 0 (.ref I) acc {cenv with scope:=scope})
     (λr s'=>∃m,s'.heap.Ns cenv.locals m∧∀h',Rq cenv.locals s'.heap h' →
      match r with|.ok _=>Q acc {s' with heap:=h'}|.error x=>wpAny (model pw X.w) X.A (passOn "comprehension.variables-let-go" x {cenv with scope:=scope}) Q E {s' with heap:=h'}) s₄) E s₃) E s:=by
 refine rF (L:={ι:=List Value,n:=as.length,S:=λ_ _=>aq,out:=λ_ ys=>ys,J:=λj ys=>Are ys ((as.take j).map f)}) (i0:=[]) W hwr (λb hb=>?_) hob hfl hsc (λC=>?_) (λj i h=>?_) rfl (by simpa using hnil) I0 hs0 λi d nn s' I' hJ=>?_
 ·rcases hfp b hb with e|⟨ob,h⟩
  ·exact .inl e
  ·exact .inr ⟨ob,λ_ _=>h⟩
 ·intro j i v g s' Q' E' hj hP hJ hI hn hq
  have ha:as[j]?=some as[j]:=Qi hj
  refine hel C j v as[j] i s' Q' E' g hP ha hI hn hJ λy s'' I'' hA=>hq y (i++[y]) s'' I'' rfl ?_
  rw[kf ha]at hA
  exact hA
 ·rw[hlen _ _ h];simp;lia
 ·exact q d i nn s' I' (by simpa using hJ)
theorem sI {q:Pos}{id:String}(O:X.Ok)(I:Inv X st s)(hsc:aF scope x=true)(hf:cm f aU=some (false,.builtin id))(hl:scope.names.lookup f=some .globalImplicit)(hd:(f==("__debug__":Str))=false) (hn:∃m,s.heap.Ns C m∧m x=some v)(h:Wp X (call (.builtin id) [v]) Q E s):Wp X (eval (.Call (.Name f p) [.Name x q] [] pos) (Rb scope C X.env)) Q E s:=by
 refine Call_ (tM O I hsc hf hl hd (callWith_method1 ?_ rfl rfl))
 exact spliced_cons (jH hsc hn (spliced_nil h))
end
section
variable {X:Fx}{Γ:bc}{F:bt}{st:St}{s:Pl}{E:Value→Pl→Prop}
theorem Inv.Dy (I:Inv X {st with fz:=(a,o)::st.fz} s) (he:e.addr=a)(H:HL st.ad.bot e [(a,o)]):Inv X (st.dH e) s:=by
 obtain⟨m,l,l',L1,L2,hl,F,N,nd⟩:=I.ex
 have pm:(l++(l'++(st.rst++(a,o)::st.fz))).Perm (l++((l'++[(a,o)])++st.rf)):=by
  refine P4 _ ?_
  have e1:(l'++[(a,o)])++st.rf=l'++((a,o)::(st.rst++st.fz)):=by
   show(l'++[(a,o)])++(st.rst++st.fz)=_
   simp
  rw[e1]
  exact P4 _ List.perm_middle
 refine⟨⟨m,l,l'++[(a,o)],L1,L2.append (.one H),λx sv h=>?_,F,λp hp=>N p (pm.mem_iff.mpr hp),nd.perm pm⟩,I.gens,I.os⟩
 obtain⟨v,p,q⟩:=hl x sv h
 exact⟨v,p,q.mono (St.br st e)⟩
theorem oE (h:Qz vs ns){j:Nat}(e:vs[j]?=some v)(ea:ns[j]?=some a):∃t,v=.int a t:=by
 rcases h.get j a ea with⟨t,ht⟩
 rw[ht]at e;cases e;exact⟨t,rfl⟩
noncomputable def mh:Expr→Scope
 |.ListComp _ _ sc _=>sc
 |_=>default
def lC (X:Fx)(e:Expr)(v:Value)(Q:Value→Pl→Prop)(E:Value→Pl→Prop)(s:Pl):Prop:=
  Wp X (SJ v) (λit s₂=>Wp X (TC []) (λacc s₃=>Wp X (RG (mh e) X.env.globals [] [] X.env.qual none .none (some X.env)) (λcenv s₄=>
    P9 (model pw X.w) X.A (.compStart e 0 it acc {cenv with scope:=mh e})
     (λr s'=>∃m,s'.heap.Ns cenv.locals m∧∀h',Rq cenv.locals s'.heap h' →
      match r with|.ok _=>Q acc {s' with heap:=h'}|.error x=>wpAny (model pw X.w) X.A (passOn "comprehension.variables-let-go" x {cenv with scope:=mh e}) Q E {s' with heap:=h'}) s₄) E s₃) E s₂) E s
theorem yA (O:X.Ok)(hh:X.A.handled=none)(I:Inv X st s)(hsc:aF scope x=true)(hf:cm f aU=some (false,.builtin "abs")) (hl:scope.names.lookup f=some .globalImplicit)(hd:(f==("__debug__":Str))=false) (hm:(l,listOf vs.toArray nn)∈st.fz)(hi:Qz vs ns)(hz:ns.length≤100000)(hk:∀d,k (.tmp st.tp.length) (st.dH (.nlist d (ns.map λi=>if i<0 then -i else i)))) (q:aj X st k Q) :
  Wp X (SJ (.ref l)) (λit s₂=>Wp X (TC []) (λacc s₃=>Wp X (RG scope X.env.globals [] [] X.env.qual none .none (some X.env)) (λcenv s₄=>
    P9 (model pw X.w) X.A (.compStart (.ListComp (.Call (.Name f p) [.Name x pp] [] cpos) [⟨.Name x px,iter,[],0⟩] scope pos) 0 it acc {cenv with scope:=scope})
     (λr s'=>∃m,s'.heap.Ns cenv.locals m∧∀h',Rq cenv.locals s'.heap h' →
      match r with|.ok _=>Q acc {s' with heap:=h'}|.error x=>wpAny (model pw X.w) X.A (passOn "comprehension.variables-let-go" x {cenv with scope:=scope}) Q E {s' with heap:=h'}) s₄) E s₃) E s₂) E s:=by
 have hg:s.heap.get? l=some (listOf vs.toArray nn):=I.frozen hm
 have hlt:=Qd hg
 refine Rz (ay hg) ?_
 have W:=TJ (prog:=pw) (w:=X.w) hh s.heap.objs.size l (Sa hlt) vs.toArray
 have e:vs.toArray.size=ns.length:=by rw[Pw,hi.length]
 rw[e]at W
 refine lQ (Are:=Qz) (as:=ns) (f:=λi=>if i<0 then -i else i) .nil (λvs bs h=>h.length) W (λb hb=>by simpa using hb) (λb hb=>?_) (λj h ⟨⟨o,ho,_⟩,_⟩=>⟨o,ho⟩) (λb hb=>?_) hsc hz (λC j v a ys s' Q' E' g hP ha I' hn hA hq=>?_) (I.dX _ rfl)
  ⟨⟨_,P6 _ rfl,rfl,rfl⟩,(ay hg).at λo e=>PB _ e⟩ λd us mm s' I' hA=>?_
 ·rcases qX hb with rfl|rfl
  ·exact .inl rfl
  ·exact .inr ⟨_,hm⟩
 ·show b<(s.heap.push _).objs.size
  rw[RE]
  rcases qX hb with rfl|rfl
  ·exact P0 _
  ·exact Q4 hlt
 ·rcases oE hi (by simpa using hP) ha with⟨t,rfl⟩
  exact sI O I' hsc hf hl hd hn (Te λu tk=>hq _ _ (I'.aO _) (lJ hA _ _))
 ·exact q _ _ _ _ (I'.Dy (e:=.nlist d _) rfl (.nlist hA)) (St.br _ _).le (cC _ _) (hk d)
theorem kW {β:Type}{Are:List Value→List β→Prop}{f:Nat→β}(hh:X.A.handled=none)(I:Inv X st s)(hnil:Are [] [])(hlen:∀vs bs,Are vs bs→vs.length=bs.length)(hsc:aF scope x=true)(hz:z.cps.size≤100000)(hel:∀C v a u ys (s':Pl)(Q:Value→Pl→Prop)(E':Value→Pl→Prop) g bs,v=.str ⟨#[a]⟩ u→Inv X (st.fr g) s'→(∃m,s'.heap.Ns C m∧m x=some v)→Are ys bs→(∀y s'',Inv X (st.fr g) s''→Are (ys++[y]) (bs++[f a])→Q y s'')→Wp X (eval elt (Rb scope C X.env)) Q E' s') (q:∀d vs nn s',Inv X {st with fz:=(d,listOf vs.toArray nn)::st.fz} s'→Are vs (z.cps.toList.map f)→Q (.ref d) s') :
  Wp X (SJ (.str z t)) (λit s₂=>Wp X (TC []) (λacc s₃=>Wp X (RG scope X.env.globals [] [] X.env.qual none .none (some X.env)) (λcenv s₄=>
    P9 (model pw X.w) X.A (.compStart (.ListComp elt [⟨.Name x px,iter,[],0⟩] scope pos) 0 it acc {cenv with scope:=scope})
     (λr s'=>∃m,s'.heap.Ns cenv.locals m∧∀h',Rq cenv.locals s'.heap h' →
      match r with|.ok _=>Q acc {s' with heap:=h'}|.error x=>wpAny (model pw X.w) X.A (passOn "comprehension.variables-let-go" x {cenv with scope:=scope}) Q E {s' with heap:=h'}) s₄) E s₃) E s₂) E s:=by
 have go:∀(o:Obj)(Sg:Nat→Heap→Prop),o.isFreed=false→Walks pw X.w X.A s.heap.objs.size [s.heap.objs.size] [s.heap.objs.size] z.cps.size (SignAt z) Sg→(∀j h,Sg j h→∃o,h.get? s.heap.objs.size=some o)→Sg 0 (s.heap.push o) →
   Wp X (TC []) (λacc s₃=>Wp X (RG scope X.env.globals [] [] X.env.qual none .none (some X.env)) (λcenv s₄=>
    P9 (model pw X.w) X.A (.compStart (.ListComp elt [⟨.Name x px,iter,[],0⟩] scope pos) 0 (.ref s.heap.objs.size) acc {cenv with scope:=scope})
     (λr s'=>∃m,s'.heap.Ns cenv.locals m∧∀h',Rq cenv.locals s'.heap h' →
      match r with|.ok _=>Q acc {s' with heap:=h'}|.error x=>wpAny (model pw X.w) X.A (passOn "comprehension.variables-let-go" x {cenv with scope:=scope}) Q E {s' with heap:=h'}) s₄) E s₃) E {s with heap:=s.heap.push o}:=by
  intro o Sg hf W hob h0
  have e:z.cps.size=z.cps.toList.length:=by simp
  rw[e]at W
  refine lQ (Are:=Are) (as:=z.cps.toList) (f:=f) hnil hlen W (λb hb=>by simpa using hb) (λb hb=>.inl (by simpa using hb)) hob (λb hb=>?_) hsc (by simpa using hz) (λC j v a ys s' Q' E' g hP ha I' hn hA hq=>?_) (I.dX _ hf) h0 λd us mm s' I' hA=>q d us mm s' I' hA
  ·show b<(s.heap.push _).objs.size
   rw[RE]
   have:b=s.heap.objs.size:=by simpa using hb
   rw[this]
   exact P0 _
  ·obtain⟨c,u,hc,rfl⟩:=hP
   have:c=a:=by
    have h2:z.cps.toList[j]?=some c:=by simpa using hc
    rw[h2]at ha;exact Pd ha
   subst this
   exact hel C _ c u ys s' Q' E' g _ rfl I' hn hA hq
 cases ha:z.cps.all (·<128)
 ·exact wpAny_pyIter_wide ha (go _ _ rfl (Walks.strWide hh _ z t) (λj h ⟨o,ho,_⟩=>⟨o,ho⟩) ⟨_,P6 _ rfl,rfl,rfl⟩)
 ·exact wpAny_pyIter_ascii ha (go _ _ rfl (Walks.strAscii hh _ z t) (λj h ⟨o,ho,_⟩=>⟨o,ho⟩) ⟨_,P6 _ rfl,rfl,rfl⟩)
theorem Inv.Ld (I:Inv X st s)(hD:s.heap.get? D=none)(hk:∀b x,s.heap.get? b=some x→s'.heap.get? b=some x)(ho:s'.heap.get? D=some o)(hg:s'.gens=s.gens)(hos:s'.os=s.os)(he:e.addr=D)(H:HL st.ad.bot e [(D,o)]):Inv X (st.dH e) s':=by
 obtain⟨m,l,l',L1,L2,hl,F,N,nd⟩:=I.ex
 have e1:l++((l'++[(D,o)])++st.rf)=(l++l')++(D,o)::st.rf:=by simp
 have e2:l++(l'++st.rf)=(l++l')++st.rf:=by simp
 have hne:∀p∈(l++l')++st.rf,p.1≠D:=λp hp e=>by
  have:=(N p (e2▸hp)).1
  rw[e,hD]at this;cases this
 refine⟨⟨m,l,l'++[(D,o)],L1,L2.append (.one H),λx sv h=>?_,F.keeps hk,λp hp=>?_,?_⟩,hg.trans I.gens,hos.trans I.os⟩
 ·obtain⟨v,p,q⟩:=hl x sv h
  exact⟨v,p,q.mono (St.br st e)⟩
 ·have hp':p∈(l++l')++(D,o)::st.rf:=e1▸hp
  rcases List.mem_append.mp hp' with hp|hp
  ·have q:=N p (e2▸Px _ hp)
   exact⟨hk _ _ q.1,q.2⟩
  ·rcases List.mem_cons.mp hp with rfl|hp
   ·refine⟨ho,λe=>?_,?_⟩
    ·obtain⟨oL,_,_,hoL,_⟩:=F.ns
     have e':D=X.L:=e
     rw[e',hoL]at hD;cases hD
    ·cases q:X.h₀.get? D with
     |none=>rfl
     |some z=>have:=F.keep _ _ q;rw[hD]at this;cases this
   ·have q:=N p (e2▸Pb _ hp)
    exact⟨hk _ _ q.1,q.2⟩
 ·show ao (l++((l'++[(D,o)])++st.rf))
  rw[e1]
  rw[e2]at nd
  refine ao.perm ?_ (List.perm_middle.symm:((D,o)::((l++l')++st.rf)).Perm _)
  unfold ao at *
  rw[QJ,Ru]
  refine⟨λhm=>?_,nd⟩
  obtain⟨p,hp,e⟩:=List.mem_map.mp hm
  exact hne p hp e
noncomputable def q':Value→Bool
 |.int i _=>decide (i<0)
 |_=>false
theorem uI {l₁ l₂:List Value}(h:Paired (λv y=>y=v) l₁ l₂):l₂=l₁:=by
 induction h with
 |nil=>rfl
 |cons e _ ih=>rw[e,ih]
theorem nq (h:Qz vs ns):Qz (vs.filter q') (ns.filter λi=>decide (i<0)):=by
 induction h with
 |nil=>exact .nil
 |cons a t _ ih=>
  rw[List.filter_cons,List.filter_cons]
  show Qz (if decide (a<0)=true then _ else _) _
  by_cases hc:decide (a<0)=true
  ·rw[if_pos hc,if_pos hc];exact .cons a t ih
  ·rw[if_neg hc,if_neg hc];exact ih
theorem yw (hh:X.A.handled=none)(S:Sound X Γ F)(hns:dT iter=true)(hsc:aF scope x=true)(I:Inv X st s)(hx:av X Γ.ke E)(h:F.ev iter st λsv aq=>HR sv aq k)(q:aj X st k Q) :
  Wp X (eval (.ListComp (.Name x p) [⟨.Name x px,iter,[.Compare (.Name x pp) [.Lt] [.Constant (.int 0) ck cp] cpos],0⟩] scope pos) X.env) Q E s:=by
 obtain⟨hk,hfree,hcell,hnames,hxl,hd⟩:=aV hsc
 refine wpAny_ListComp_walk q' (λv y=>y=v) hfree hcell hk hnames hxl (S.ev _ st s _ _ E h I hx λsv aq v s1 I1 le r hk1=>?_) (gA hns)
 cases sv with
 |opq u=>
  cases r
  obtain⟨l,vs,nn,ns,⟨rfl,hm,hi,hz⟩,hk2⟩:=hk1
  have hg:s1.heap.get? l=some (listOf vs.toArray nn):=I1.frozen hm
  have hlt:=Qd hg
  refine Rz (ay hg) ?_
  have W:=TJ (prog:=pw) (w:=X.w) hh s1.heap.objs.size l (Sa hlt) vs.toArray
  refine⟨_,_,_,_,_,_,rfl,W,by rw[Pw,hi.length];unfold Qs;lia,⟨⟨_,P6 _ rfl,rfl,rfl⟩,(ay hg).at λo e=>PB _ e⟩,λb hb=>?_,⟨λC i v s₃ m₃ E' hP hN hm3 _ _=>?_,λC i v s₃ m₃ E' hP _ hN hm3 _ _=>?_⟩,λD h' tk ys us hD hl hpl hlen hP hF hkp=>?_⟩
  ·show b<(s1.heap.push _).objs.size
   rw[RE]
   rcases qX hb with rfl|rfl
   ·exact P0 _
   ·exact Q4 hlt
  ·obtain⟨n,hn⟩:∃a,ns[i]?=some a:=by
    have h1:vs[i]?=some v:=by simpa using hP
    have h2:i<vs.length:=(List.getElem?_eq_some_iff.mp h1).1
    rw[hi.length]at h2
    exact⟨ns[i],Qi h2⟩
   rcases oE hi (by simpa using hP) hn with⟨t,rfl⟩
   rw[List.forIn_cons]
   refine Po ?_
   rw[if_pos rfl]
   refine Po (wpAny_isTrue_Compare1 (jH hsc ⟨m₃,hN,hm3⟩ (wpAny_Constant_int (lt_int (Ti (PH ?_))))) (by rfl))
   dsimp only
   rw[List.forIn_nil]
   exact PH ⟨rfl,_,_,rfl,λ_ _ e=>e⟩
  ·exact jH hsc ⟨m₃,hN,hm3⟩ ⟨rfl,_,_,rfl,λ_ _ e=>e⟩
  ·have e1:us=vs:=by
    apply List.ext_getElem?
    intro j
    cases hj:us[j]? with
    |none=>
     rw[Tf]at hj
     rw[eq_comm,Tf]
     have:vs.toArray.size=vs.length:=Pw ..
     lia
    |some v=>have:=hP j v hj;simpa using this.symm
   subst e1
   have e2:=uI hF
   rcases hpl with⟨mm,hmm⟩
   have hD1:s1.heap.get? D=none:=by
    cases hq:s1.heap.get? D with
    |none=>rfl
    |some z=>
     have h2:(s1.heap.push {cls:=.type "list_iterator",data:=.fields #[.ref l,.int 0 0]}).get? D=some z:=PB _ hq
     rw[hD]at h2;cases h2
   have hys:ys=(us.filter q').toArray:=by rw[←e2]
   rw[hys]at hmm
   refine q _ _ _ _ (I1.Ld (s':=⟨h',s1.gens,s1.drawn,tk,s1.os⟩) (e:=.nlist D (ns.filter λi=>decide (i<0))) hD1 (λb z e=>hkp b z (λhb=>?_) (PB _ e)) hmm rfl rfl rfl (.nlist (nq hi))) (le.trans (St.br _ _).le) (cC _ _) (hk2 D)
   have:b=s1.heap.objs.size:=by simpa using hb
   rw[this]at e
   exact QW _ (Qd e)
 |_=>exact hk1.elim
section
variable {f x:Str}{px p pp pos cpos:Pos}{scope:Scope}{iter:Expr}{k:KV}{Q:Value→Pl→Prop}{sv:SV}{v:Value}
theorem BK (O:X.Ok)(hh:X.A.handled=none)(I:Inv X st s)(r:sv.R st.ad v)(hsc:aF scope x=true)(hf:cm f aU=some (false,.builtin "abs")) (hl:scope.names.lookup f=some .globalImplicit)(hd:(f==("__debug__":Str))=false) (hk:K5 sv st k)(q:aj X st k Q) :
  lC X (.ListComp (.Call (.Name f p) [.Name x pp] [] cpos) [⟨.Name x px,iter,[],0⟩] scope pos) v Q E s:=by
 cases sv with
 |opq u=>
  cases r
  obtain⟨l,vs,nn,ns,⟨rfl,hm,hi,hz⟩,hk2⟩:=hk
  exact yA O hh I hsc hf hl hd hm hi hz hk2 q
 |_=>exact hk.elim
theorem Bc (O:X.Ok)(hh:X.A.handled=none)(I:Inv X st s)(r:sv.R st.ad v)(hsc:aF scope x=true)(hf:cm f aU=some (false,.builtin "ord")) (hl:scope.names.lookup f=some .globalImplicit)(hd:(f==("__debug__":Str))=false) (hk:GX sv st k)(q:aj X st k Q) :
  lC X (.ListComp (.Call (.Name f p) [.Name x pp] [] cpos) [⟨.Name x px,iter,[],0⟩] scope pos) v Q E s:=by
 obtain⟨z,t,rfl,_,hk⟩:=bY hk r
 refine kW (Are:=Qz) (f:=λ(c:Nat)=>(c:Int)) hh I .nil (λvs bs h=>h.length) hsc hk.1 (λC v a u ys s' Q' E' g bs hv I' hn hA hq=>?_) λd vs nn s' I' hA=>?_
 ·subst hv
  refine sI O I' hsc hf hl hd hn (ord_of_one rfl (hq _ _ (I'.aO _) ?_))
  exact lJ hA _ _
 ·exact q _ _ _ _ (I'.Dy (e:=.nlist d _) rfl (.nlist hA)) (St.br _ _).le (cC _ _) (hk.2 d)
theorem yu (hh:X.A.handled=none)(I:Inv X st s)(r:sv.R st.ad v)(hsc:aF scope x=true)(hk:CE z sv st k)(q:aj X st k Q) :
  lC X (.ListComp (.Compare (.Name x p) [.In] [.Constant (.str z) n pp] cpos) [⟨.Name x px,iter,[],0⟩] scope pos) v Q E s:=by
 obtain⟨y,t,rfl,_,hk⟩:=bY hk r
 refine kW (Are:=RK) (f:=λc=>aN ⟨#[c]⟩ z) hh I .nil (λvs bs h=>h.length) hsc hk.1 (λC v a u ys s' Q' E' g bs hv I' hn hA hq=>?_) λd vs nn s' I' hA=>?_
 ·subst hv
  refine wpAny_Compare1 (jH hsc hn (Calls.Constant_str (P.in_str (hq _ _ (I'.aO _) (pB hA _))))) (by rfl)
 ·exact q (.opq (.ref d)) _ _ _ I' ⟨Pp,Pp⟩ rfl (hk.2 d vs nn hA)
theorem xn (O:X.Ok)(hh:X.A.handled=none)(hc:az X a c)(I1:Inv X st s)(hsc:aF scope x=true)(hf:cm f aU=some (true,.ref a))(hmem:eD a eJ=true)(hl:scope.names.lookup f=some .globalImplicit)(hd:(f==("__debug__":Str))=false) (hk1:Cw c L u st k)(q:aj X st k Q) :
  lC X (.ListComp (.Call (.Name f p) [.Name x pp] [] cpos) [⟨.Name x px,iter,[],0⟩] scope pos) u Q E s:=by
 obtain⟨l,vs,nn,⟨rfl,hm,hm2,hn,hz,hle⟩,e0,hturn,hend⟩:=hk1
 have hg:s.heap.get? l=some (listOf vs.toArray nn):=I1.frozen hm
 have hlt:=Qd hg
 refine Rz (ay hg) ?_
 have W:=TJ (prog:=pw) (w:=X.w) hh s.heap.objs.size l (Sa hlt) vs.toArray
 have e:vs.toArray.size=L.n:=by rw[Pw,hn]
 rw[e]at W
 have V1:=I1.dX {cls:=.type "list_iterator",data:=.fields #[.ref l,.int 0 0]} rfl
 obtain⟨_,⟨i0,rfl,h0,j0⟩,V2⟩:=e0.h X _ _ V1
 refine rF W (λb hb=>by simpa using hb) (λb hb=>?_) (λj h ⟨⟨o,ho,_⟩,_⟩=>⟨o,ho⟩) (λb hb=>?_) hsc (λC=>?_) hz h0 j0 V2 ⟨⟨_,P6 _ rfl,rfl,rfl⟩,(ay hg).at λo e=>PB _ e⟩ λi d mm s' I' hJ=>?_
 ·rcases qX hb with rfl|rfl
  ·exact .inl rfl
  ·exact .inr ⟨_,hm2⟩
 ·show b<(s.heap.push _).objs.size
  rw[RE]
  rcases qX hb with rfl|rfl
  ·exact P0 _
  ·exact Q4 hlt
 ·intro j i v g s' Q' E' hj hP hJ I' hnn hq
  refine Call_ (vQ O I' hsc hf hl hd ?_)
  refine callWith_K (e:=.Name x pp) (rest:=[]) (env:=Rb scope C X.env) O.kin (rX hmem _) (first:=[]) ?_ rfl rfl
  refine spliced_cons (jH hsc hnn (spliced_nil ⟨O.dg I',?_⟩))
  refine S' (hc X.A _ ((L.S j i).fr g) [.opq v] [v] (λsv cg=>∃r,cg.rst=g++r∧Bq L j i sv {cg with rst:=r}) (λ_ _=>False) _ ⟨rfl,Q3 _,Q3 _,hh⟩ I' (.cons rfl .nil) (hturn j i v g hj (by simpa using hP) hJ) (λsv' st' v' s'' I'' le' r' hk'=>?_) (λ_ _ _ _ hf _=>hf.elim))
  obtain⟨rr,hr,hK⟩:=hk'
  have e5:St.fr {st' with rst:=rr} g=st':=by
   show{st' with rst:=g++rr}=st'
   rw[←hr]
  obtain⟨i',ho,hJ',I3⟩:=hK.h X s'' v' g (by rw[e5];exact I'') r'
  exact hq v' i' s'' I3 ho hJ'
 ·exact q (.opq (.ref d)) _ _ _ I' (hle i) rfl (hend i d mm hJ)
theorem xI (O:X.Ok)(hh:X.A.handled=none)(hfn:∀a c,Γ.call a=some c→az X a c)(I1:Inv X st s)(r:sv.R st.ad v)(hsc:aF scope x=true)(hf:cm f aU=some (true,.ref a))(hmem:eD a eJ=true)(hl:scope.names.lookup f=some .globalImplicit)(hd:(f==("__debug__":Str))=false) (hk:Cu Γ a n sv st k)(q:aj X st k Q) :
  lC X (.ListComp (.Call (.Name f p) [.Name x pp] [] cpos) [⟨.Name x px,iter,[],0⟩] scope pos) v Q E s:=by
 cases sv with
 |opq u0=>
  cases r
  replace hk:wJ (Γ.call a) (Γ.comps n st) v st k:=hk
  cases hc:Γ.call a with
  |none=>rw[hc]at hk;exact hk.elim
  |some c=>
   rw[hc]at hk
   replace hk:za c (Γ.comps n st) v st k:=hk
   cases hL:Γ.comps n st with
   |none=>rw[hL]at hk;exact hk.elim
   |some L=>rw[hL]at hk;exact xn O hh (hfn a c hc) I1 hsc hf hmem hl hd hk q
 |_=>exact hk.elim
end
theorem xh (O:X.Ok)(hh:X.A.handled=none)(hfn:∀a c,Γ.call a=some c→az X a c)(hsc:aF scope x=true)(hkd:fj scope x elt ifs ek)(hneg:ek≠.neg)(hk:yU Γ n k ek sv st)(I:Inv X st s)(r:sv.R st.ad v)(q:aj X st k Q) :
  lC X (.ListComp elt [⟨.Name x px,iter,ifs,0⟩] scope pos) v Q E s:=by
 cases hkd with
 |fn hl hd hf=>cases hf with
  |abs hf=>exact BK O hh I r hsc hf hl hd hk q
  |ord hf=>exact Bc O hh I r hsc hf hl hd hk q
  |call hf hm=>exact xI O hh hfn I r hsc hf hm hl hd hk q
 |isin=>exact yu hh I r hsc hk q
 |neg=>exact absurd rfl hneg
theorem vI (O:X.Ok)(hh:X.A.handled=none)(hfn:∀a c,Γ.call a=some c→az X a c)(S:Sound X Γ F)(h:CY Γ F elt x iter ifs scope pos.line st k)(I:Inv X st s)(hx:av X Γ.ke E)(q:aj X st k Q):Wp X (eval (.ListComp elt [⟨.Name x px,iter,ifs,0⟩] scope pos) X.env) Q E s:=by
 rcases aA h with⟨hb,hA⟩
 rw[Pe]at hb
 rcases hb with⟨hsc,hns⟩
 cases hek:iP scope x elt ifs with
 |none=>rw[hek]at hA;exact hA.elim
 |some ek=>
  rw[hek]at hA
  replace hA:F.ev iter st (yU Γ pos.line k ek):=hA
  have hkd:=pd hek
  by_cases hneg:ek=.neg
  ·subst hneg
   cases hkd with
   |neg=>exact yw hh S hns hsc I hx hA q
   |fn _ _ hf=>exact absurd hf nofun
  ·obtain⟨hk,hfree,hcell,hnames,hxl,hd⟩:=aV hsc
   exact wpAny_ListComp hfree hk hnames (S.ev _ st s _ _ E hA I hx λsv aq v s1 I1 le r hk1=>xh O hh hfn hsc hkd hneg hk1 I1 r (q.trans le λ_ _ z=>z)) (gA hns)
theorem wR (O:X.Ok)(hh:X.A.handled=none)(hfn:∀a c,Γ.call a=some c→az X a c)(S:Sound X Γ F)(h:Cn Γ F e st k)(I:Inv X st s)(hx:av X Γ.ke E)(q:aj X st k Q):Wp X (eval e X.env) Q E s:=by
 cases e with
 |ListComp elt gs scope pos=>
  obtain⟨g,_,h⟩:=aa h
  obtain⟨⟨x,px,iter,ifs⟩,rfl⟩:=g
  exact vI O hh hfn S h I hx q
 |_=>exact h.elim
end
noncomputable def w5 (e:Expr):Bool:=(HD e).isSome
noncomputable def F8 (l:List Expr):Bool:=match iG l with
 |some q=>w5 q.1.1&&w5 q.1.2
 |none=>false
def FZ (Γ:bc)(F:bt)(o c:Option Expr)(st:St):Prop:=ag o λe=>match c with
 |none=>yY Γ F e st
 |some _=>False
def IY (w:World)(Γ:bc)(F:bt)(ts:List Expr)(e:Expr)(st:St)(k:KF):Prop:=match F8 ts with
 |true=>wi w Γ F ts e st k
 |false=>Lp Γ F ts e st k
def CQ (w:World)(Γ:bc)(F:bt)(t e:Expr)(st:St)(k:KF):Prop:=match t with
 |.Tuple ts _ _=>IY w Γ F ts e st k
 |.Subscript o i _=>Cv Γ w F o i e st k
 |_=>False
def Js (w:World)(Γ:bc)(F:bt)(ts:List Expr)(e:Expr)(st:St)(k:KF):Prop:=ag (hY ts) λt=>CQ w Γ F t.1 e st k
def Kq (Γ:bc)(F:bt)(tgt iter:Expr)(b o:List Stmt)(n:Nat)(st:St)(k:KF):Prop:=match o with
 |[]=>ag (Γ.fors n) λL=>KU Γ F L tgt iter b st k
 |_::_=>False
def Dq (w:World)(Γ:bc)(F:bt)(c:Stmt)(st:St)(k:KF):Prop:=match c with
 |.Raise o c _=>FZ Γ F o c st
 |.Assign ts e _=>Js w Γ F ts e st k
 |.For tgt iter b o pos=>Kq Γ F tgt iter b o pos.line st k
 |.Try _ _ _ _ pos=>ag (Γ.hkS pos.line) λp=>p c F st k
 |_=>False
def K9 (sc:Addr×List Int)(Γ:bc)(F:bt)(v sl:Expr)(st:St)(k:KV):Prop:=match sl with
 |.Slice lo hi stp _=>qa sc Γ F v lo hi stp st k
 |_=>False
def C9 (w:World)(sc:Addr×List Int)(Γ:bc)(F:bt)(e:Expr)(st:St)(k:KV):Prop:=match e with
 |.Subscript v sl _=>K9 sc Γ F v sl st k
 |.Dict keys values _=>Cc w Γ keys values st k
 |.ListComp _ _ _ _=>Cn Γ F e st k
 |_=>False
def IL (op:CmpOp)(a b:SV)(st:St)(k:KV)(e:HE):Prop:=match e with
 |.tup _ _=>Fg op a b st k
 |_=>z9 op a b st k
def CG (op:CmpOp)(a b:SV)(st:St)(k:KV)(o:Option HE):Prop:=match o with
 |some e=>IL op a b st k e
 |none=>z9 op a b st k
def KA (op:CmpOp)(a b:SV)(st:St)(k:KV):Prop:=match b with
 |.top _=>Fg op a b st k
 |_=>CG op a b st k (st.ent b)
noncomputable def M4 (o:Option HE):Option {p:Addr×World×List (Str×Value) // o=some (.map p.1 p.2.1 p.2.2)}:=match o with
 |some e=>match e with
  |.map a w kvs=>some ⟨(a,w,kvs),rfl⟩
  |_=>none
 |none=>none
def LX (w:World)(w':World)(kvs:List (Str×Value))(x:Str)(d:SV)(st:St)(k:KV):Prop:=w'=w∧(∀u,RZ kvs x=some u→∃a,u=Pa a∧k (.opq (.ref a)) st)∧(RZ kvs x=none→k d st)
def Nl (w:World)(sc:Addr×List Int)(id:String)(as:List SV)(c d:SV)(w':World)(kvs:List (Str×Value))(st:St)(k:KV):Prop:=nZ c.b7 (λx=>eT (id == "dict.get") (LX w w' kvs x d st k)) (sy sc id as st k)
def MG (w:World)(sc:Addr×List Int)(id:String)(as:List SV)(a c d:SV)(st:St)(k:KV):Prop:=nZ (M4 (st.ent a)) (λm=>Nl w sc id as c d m.1.2.1 m.1.2.2 st k) (sy sc id as st k)
def vE (w:World)(sc:Addr×List Int)(id:String)(as:List SV)(st:St)(k:KV):Prop:=nZ (pz as) (λq=>MG w sc id as q.1.1 q.1.2.1 q.1.2.2 st k) (sy sc id as st k)
theorem tm {st:St}{id:String}(O:X.Ok)(hh:X.A.handled=none)(h:vE X.w (X.scr,X.sns) id as st k)(I:Inv X st s)(r:IR st.ad as vs)(q:aj X st k Q):Wp X (call (.builtin id) vs) Q E s:=by
 rcases cw h with⟨p,_,h⟩|⟨_,h⟩
 ·rcases cw h with⟨m,_,h⟩|⟨_,h⟩
  ·rcases cw h with⟨x,hx,h⟩|⟨_,h⟩
   ·obtain⟨hid,hw,h1,h2⟩:=aA h
    rcases beq_iff_eq.mp hid with rfl
    rw[p.2]at r
    obtain⟨_,_,_,rfl,ra,rc,rd⟩:=vf r
    rcases SV.bA hx rc with⟨t,rfl⟩
    exact J3 I ra rd (hw▸m.2) (λu hu=>by obtain⟨_,rfl,hk⟩:=h1 u hu;exact hk) h2 q
   ·exact jr O hh h I r q
  ·exact jr O hh h I r q
 ·exact jr O hh h I r q
theorem AG {st:St}(O:X.Ok)(h:KA op a b st k)(I:Inv X st s)(ra:a.R st.ad v)(rb:b.R st.ad u)(q:aj X st k Q):Wp X (Qr op v u) Q E s:=by
 have go:CG op a b st k (st.ent b)→Wp X (Qr op v u) Q E s:=λh=>by
  cases he:st.ent b with
  |none=>rw[he]at h;exact sN O h I ra rb q
  |some e=>
   rw[he]at h
   cases e with
   |tup _ _=>exact rD O h I ra rb q
   |_=>exact sN O h I ra rb q
 cases b with
 |top d=>exact rD O (by exact h) I ra rb q
 |_=>exact go h
noncomputable def xt (w:World)(sc:Addr×List Int):Ext where
 meth:=yN
 call:=vE w sc
 cmp:=KA
 bin:=FJ
 item:=yo
 getA:=rH
 setA:=yv
 expr:=C9 w sc
 stmt:=Dq w
def Jm (X:Fx)(Γ:bc):Prop:=∀n p,Γ.hkS n=some p→∀F c st s k (Q:Flow→Pl→Prop) E,Sound X Γ F→p c F st k→Inv X st s→av X Γ.ke E→(∀fl st' f s',Inv X st' s'→fl.R st'.ad f→k fl st'→Q f s')→Wp X (exec c X.env) Q E s
theorem y4 {st:St}(O:X.Ok)(hh:X.A.handled=none)(hc:X.cs=Γ.cs)(hf:∀a c,Γ.call a=some c→az X a c)(S:Sound X Γ F)(h:C9 X.w (X.scr,X.sns) Γ F e st k)(I:Inv X st s)(hx:av X Γ.ke E)(q:aj X st k Q):Wp X (eval e X.env) Q E s:=by
 cases e with
 |Subscript v sl _=>cases sl with
  |Slice lo hi stp _=>exact u6 O hc S h I hx q
  |_=>exact h.elim
 |Dict keys values _=>exact w3 O hc h I q
 |ListComp _ _ _ _=>exact wR O hh hf S h I hx q
 |_=>exact h.elim
theorem yP {st:St}(O:X.Ok)(hh:X.A.handled=none)(hc:X.cs=Γ.cs)(S:Sound X Γ F)(h:CQ X.w Γ F t e st k)(I:Inv X st s)(hx:av X Γ.ke E)(q:bh X k Q):Wp X (exec (.Assign [t] e pos) X.env) Q E s:=by
 cases t with
 |Tuple ts _ _=>
  rcases mP h with⟨_,h⟩|⟨_,h⟩
  ·exact s9 O hc hh S h I hx q
  ·exact BJ O hc hh S h I hx q
 |Subscript o i _=>exact xE O hc S h I hx q
 |_=>exact h.elim
theorem ye {st:St}(O:X.Ok)(hh:X.A.handled=none)(hc:X.cs=Γ.cs)(hS:Jm X Γ)(S:Sound X Γ F)(h:Dq X.w Γ F c st k)(I:Inv X st s)(hx:av X Γ.ke E)(q:bh X k Q):Wp X (exec c X.env) Q E s:=by
 cases c with
 |Raise o c _=>cases o with
  |some e=>cases c with
   |none=>exact tD O hh S h I hx
   |some _=>exact h.elim
  |none=>exact h.elim
 |Assign ts e _=>
  obtain⟨t,_,h⟩:=aa (show ag (hY ts) _ from h)
  rw[t.2]
  exact yP O hh hc S h I hx q
 |For tgt iter b o pos=>cases o with
  |nil=>
   obtain⟨L,_,h⟩:=aa (show ag (Γ.fors pos.line) _ from h)
   exact zS O hc hh S h I hx q
  |cons _ _=>exact h.elim
 |Try _ _ _ _ pos=>
  obtain⟨p,hp,h⟩:=aa (show ag (Γ.hkS pos.line) _ from h)
  exact hS _ p hp F _ st s k Q E S h I hx q
 |_=>exact h.elim
theorem qL {X:Fx}{Γ:bc}(O:X.Ok)(hh:X.A.handled=none)(hc:X.cs=Γ.cs)(hf:∀a c,Γ.call a=some c→az X a c)(hS:Jm X Γ):aH X Γ (xt X.w (X.scr,X.sns)) where
 cs:=hc
 fn:=λa c e=>⟨hh,hf a c e⟩
 meth:=λrv n st id s v pl Q E h I r q=>wj O h I r q
 call:=λid as vs st s k Q E h I r q=>tm O hh h I r q
 cmp:=λop a b v u st s k Q E h I ra rb q=>AG O h I ra rb q
 bin:=λop a b v u st s k Q E h I ra rb q=>Bw h I ra rb q
 item:=λa b v u st s k Q E e1 e2 h hs I ra rb q=>xZ O h hs I ra rb q
 getA:=λa n v st s k Q E ex h I ra q=>oQ O h I ra q
 setA:=λa n b v u st s k Q E h I ra rb q=>xu O h I ra rb q
 hS:=hS
 expr:=λF e st s k Q E S h I hx q=>y4 O hh hc hf S h I hx q
 stmt:=λF c st s k Q E S h I hx q=>ye O hh hc hS S h I hx q
noncomputable abbrev gm (cs:Scope)(l:List (Addr×cK))(ke:KX):bc:={cs:=cs,call:=aw l,ke:=ke}
noncomputable abbrev Sc:=Addr×List Int
noncomputable def mK:List Str→Bool
 |[]=>true
 |x::r=>!(r.any λy=>y==x)&&mK r
structure c9 (fd:Stmt)(nm qual:Str)(dV pm cd:Value)(ns:List Str):Prop where
 binds:∀vals:List Value,vals.length=ns.length→bindArgs (CL fd nm qual dV pm cd) ⟨vals,[]⟩=pure (ns.zip vals)
 loc:(ns.all λx=>decide ((aK fd).names.lookup x=some .local))=true
 nd:mK ns=true
theorem gp {ns:List Str}(h:(ns.all λx=>decide ((aK fd).names.lookup x=some .local))=true):∀vals:List Value,((ns.zip vals).all λx=>decide ((aK fd).names.lookup x.1=some .local))=true:=by
 induction ns with
 |nil=>intro vals;rfl
 |cons x r ih=>
  intro vals
  rw[Qb,Pe]at h
  cases vals with
  |nil=>rfl
  |cons v vs=>
   rw[R2,Qb,Pe]
   exact⟨h.1,ih h.2 vs⟩
theorem ig {l:List (Str×Value)}{x y:Str}{v:Value}:(l++[(y,v)]).lookup x=match l.lookup x with|some u=>some u|none=>if x==y then some v else none:=by
 induction l with
 |nil=>
  show(match(x==y)with|true=>some v|false=>none)=_
  cases(x==y)<;>rfl
 |cons p r ih=>
  rcases p with⟨z,u⟩
  show(match(x==z)with|true=>some u|false=>List.lookup x (r++[(y,v)]))=(match(match(x==z)with|true=>some u|false=>List.lookup x r)with|some u=>some u|none=>_)
  cases(x==z)with
  |true=>rfl
  |false=>exact ih
theorem uQ {ns:List Str}(h:(ns.any λy=>y==x)=false):∀vals:List Value,(ns.zip vals).reverse.lookup x=none:=by
 induction ns with
 |nil=>intro vals;rfl
 |cons y r ih=>
  intro vals
  rw[RU,SE]at h
  cases vals with
  |nil=>rfl
  |cons v vs=>
   rw[R2,Se,ig,ih h.2 vs]
   have:(x==y)=false:=by
    have h1:=h.1
    cases q:(x==y)with
    |false=>rfl
    |true=>rw[beq_iff_eq.mp q,beq_self_eq_true]at h1;cases h1
   rw[this];rfl
theorem dR (r:IR D svs vals):∀{ns:List Str},mK ns=true→∀x sv,look x (ns.zip svs)=some sv→∃v,(ns.zip vals).reverse.lookup x=some v∧sv.R D v:=by
 induction r with
 |nil=>intro ns _ x sv h;rw[List.zip_nil_right]at h;cases h
 |@cons a v svs vals ra rs ih=>
  intro ns hnd x sv h
  cases ns with
  |nil=>cases h
  |cons y ns=>
   change(!(ns.any λz=>z==y)&&mK ns)=true at hnd
   rw[Pe,PZ]at hnd
   rw[R2]at h
   rw[R2,Se,ig]
   rcases mB h with⟨q,h⟩|⟨q,h⟩
   ·cases h
    rcases beq_iff_eq.mp q with rfl
    rw[uQ hnd.1 vals]
    exact⟨v,by rw[beq_self_eq_true];rfl,ra⟩
   ·obtain⟨u,hu,hr⟩:=ih hnd.2 x sv h
    rw[hu]
    exact⟨u,rfl,hr⟩
theorem IR.c5 (r:IR D svs vals)(h:svs.all SV.c5=true)(h1:D.hp=D'.hp)(h2:D.sk=D'.sk):IR D' svs vals:=by
 induction r with
 |nil=>exact .nil
 |cons a _ ih=>
  rw[Qb,Pe]at h
  exact .cons (mv h.1 h1 h2 a) (ih h.2)
section
variable {X:Fx}{A:SX}{s:Pl}{st:St}{n d N:Nat}{fd:Stmt}{nm qual:Str}{dV pm cd:Value}{f:Addr}{args:List SV}{vals:List Value}{ns:List Str}{k:KV}{ke:KX}{R:Result→Pl→Prop}{Γ:bc}{T:Ext}
theorem vM {Γ:ah→bc}(fn:FnAt f fd nm qual dV pm cd)(fb:c9 fd nm qual dV pm cd ns)(O:X.Ok)(hA:tG X A d)(hn:n+d+1≤X.n)(I:Inv X st s)(ir:IR st.ad args vals)(ht:args.all SV.c5=true)(hlen:args.length=ns.length)
  (ret:∀sv st' v s',Inv X st' s'→st.ad.le st'.ad→sv.R st'.ad v→k sv st'→R (.ok (.ret v)) s') (exc:av X ke (λe s'=>R (.error e) s'))
  (hke:∀tl,(Γ tl).ke=ke)(G:∀tl X',Sub X X' fd n→aH X' (Γ tl) T)
  (h:∀tl,bw (bE (Γ tl) T N) (bz fd) {loc:=ns.zip args,hp:=st.hp,sk:=st.sk,tp:=[],rst:=tl++st.rst,fz:=st.fz} λfl st₂=>bg st tl k (bW fl) st₂) :
  P9 (model pw X.w) A (.call (.ref f) ⟨vals,[]⟩) R s:=
 qf fn O hA hn I.q (.of_eq (fb.binds vals (by rw[ir.length,hlen]))) (gp fb.loc vals) (dR (ir.c5 (D':=⟨st.ad.hp,st.ad.sk,[]⟩) ht rfl rfl) fb.nd) ret exc hke G h
theorem xK (hm:q9 C f fw=true)(fn:FnAt f fd nm qual dV pm cd)(fb:c9 fd nm qual dV pm cd ("self"::ns)) (O:X.Ok)(hA:tG X A d)(hn:n+d+2≤X.n)(I:Inv X st s)(ir:IR st.ad args vals)(ht:args.all SV.c5=true)(hlen:args.length=ns.length)(ret:∀sv st' v s',Inv X st' s'→st.ad.le st'.ad→sv.R st'.ad v→k sv st'→R (.ok (.ret v)) s') (exc:av X ke (λe s'=>R (.error e) s')) (hke:Γ.ke=ke)(G:∀X',Sub X X' fd n→aH X' Γ T)(h:∀tl x dx,bw (bE Γ T N) (bz fd) {loc:=("self",.tmp 0)::ns.zip args,hp:=st.hp,sk:=st.sk,tp:=[.inst x C dx []],rst:=tl++st.rst,fz:=st.fz} λfl st₂=>bW fl=.none∧cx st tl k x st₂) :
  P9 (model pw X.w) A (.call (.ref C) ⟨vals,[]⟩) R s:=
 v5 (binds:=λx=>(("self":Str)::ns).zip (x::vals)) hm fn O hA hn I (λx s' _=>.of_eq (fb.binds (.ref x::vals) (by simp[ir.length,hlen]))) (λx=>gp fb.loc _)
  (λy=>dR (svs:=.tmp 0::args) (vals:=.ref y::vals) (.cons ⟨y,rfl,rfl⟩ (ir.c5 (D':=⟨st.ad.hp,st.ad.sk,[y]⟩) ht rfl rfl)) fb.nd) ret exc hke G h
theorem Cx (hm:mA C f M cnm k0 k1 k2 k3 k5 es)(fn:FnAt f fd nm qual dV pm cd)(fb:c9 fd nm qual dV pm cd ("self"::ns)) (O:X.Ok)(hA:tG X A d)(hn:n+d+2≤X.n)(I:Inv X st s)(ir:IR st.ad args vals)(ht:args.all SV.c5=true)(hlen:args.length=ns.length)(hz:ns.length≤100)(ret:∀sv st' v s',Inv X st' s'→st.ad.le st'.ad→sv.R st'.ad v→k sv st'→R (.ok (.ret v)) s') (exc:av X ke (λe s'=>R (.error e) s')) (hke:Γ.ke=ke)(G:∀X',Sub X X' fd n→aH X' Γ T)(h:∀tl x t,bw (bE Γ T N) (bz fd) {loc:=("self",.tmp 0)::ns.zip args,hp:=st.hp,sk:=st.sk,tp:=[.raw x (c7 C (cY t))],rst:=tl++st.rst,fz:=st.fz} λfl st₂=>bW fl=.none∧cx st tl k x st₂) :
  P9 (model pw X.w) A (.call (.ref C) ⟨vals,[]⟩) R s:=
 EX (binds:=λx=>(("self":Str)::ns).zip (x::vals)) hm fn O hA hn I (λx s' _=>.of_eq (fb.binds (.ref x::vals) (by simp[ir.length,hlen]))) (λx=>gp fb.loc _)
  (λy=>dR (svs:=.tmp 0::args) (vals:=.ref y::vals) (.cons ⟨y,rfl,rfl⟩ (ir.c5 (D':=⟨st.ad.hp,st.ad.sk,[y]⟩) ht rfl rfl)) fb.nd) (by rw[ir.length,hlen];exact hz) ret exc hke G h
theorem ax {st:Stmt}(S:Sub X X' st n)(hl:∀p∈l,az X' p.1 p.2) :
  aH X' {cs:=aK st,call:=aw l,ke:=ke,inv:=inv,fors:=fors,comps:=comps} (xt X.w (X.scr,X.sns)):=by
 have:=qL (Γ:={cs:=aK st,call:=aw l,ke:=ke,inv:=inv,fors:=fors,comps:=comps}) S.ok S.hd S.cs (λa c e=>iX hl e) (λn p e=>by cases e)
 rw[S.w,S.scr,S.sns]at this
 exact this
end
inductive bD (X:Fx)(fd:Stmt)(n:Nat)(ns:List Str)(st:St)(args:List SV)(k:KV)(ke:KX):Prop
 |mk (Γ:ah→bc)(ht:args.all SV.c5=true)(hlen:args.length=ns.length)(hke:∀tl,(Γ tl).ke=ke)(G:∀tl X',Sub X X' fd n→aH X' (Γ tl) (xt X.w (X.scr,X.sns)))
   (h:∀tl,bw (bE (Γ tl) (xt X.w (X.scr,X.sns)) 12) (bz fd) {loc:=ns.zip args,hp:=st.hp,sk:=st.sk,tp:=[],rst:=tl++st.rst,fz:=st.fz} λfl st₂=>bg st tl k (bW fl) st₂)
theorem aP (fn:FnAt f fd nm qual dV pm cd)(fb:c9 fd nm qual dV pm cd ns)(O:X.Ok)(hn:n+1+1≤X.n)(H:∀st args k ke,c args st k ke→bD X fd n ns st args k ke):az X f c:=λA s st args vals k ke R hA I ir hc ret exc=>by
 cases H st args k ke hc with
 |mk Γ ht hlen hke G h=>exact vM fn fb O hA hn I ir ht hlen ret exc hke G h
def Calls (X:Fx)(f:Addr)(st:St)(args:List SV)(k:KV)(ke:KX):Prop:=∀A s vals (R:Result→Pl→Prop),tG X A→Inv X st s→IR st.ad args vals →
 (∀sv st' v s',Inv X st' s'→st.ad.le st'.ad→sv.R st'.ad v→k sv st'→R (.ok (.ret v)) s')→av X ke (λe s'=>R (.error e) s')→P9 (model pw X.w) A (.call (.ref f) ⟨vals,[]⟩) R s
theorem cD (H:∀st args k ke,c args st k ke→Calls X f st args k ke):az X f c:=λA s st args vals k ke R hA I ir hc ret exc=>H st args k ke hc A s vals R hA I ir ret exc
theorem Calls.args {st:St}{args:List SV}(cv:∀vs,IR st.ad args vs→IR st.ad args' vs)(h:Calls X f st args' k ke):Calls X f st args k ke:=λA s vals R hA I ir ret exc=>h A s vals R hA I (cv _ ir) ret exc
theorem bD.calls {st:St}(fn:FnAt f fd nm qual dV pm cd)(fb:c9 fd nm qual dV pm cd ns)(O:X.Ok)(hn:n+1+1≤X.n)(H:bD X fd n ns st args k ke):Calls X f st args k ke:=λA s vals R hA I ir ret exc=>by
 cases H with
 |mk Γ ht hlen hke G h=>exact vM fn fb O hA hn I ir ht hlen ret exc hke G h
inductive jq (X:Fx)(fd:Stmt)(n:Nat)(C:Addr)(ns:List Str)(st:St)(args:List SV)(k:KV)(ke:KX):Prop
 |mk (Γ:bc)(ht:args.all SV.c5=true)(hlen:args.length=ns.length)(hke:Γ.ke=ke)(G:∀X',Sub X X' fd n→aH X' Γ (xt X.w (X.scr,X.sns)))
   (h:∀tl x dx,bw (bE Γ (xt X.w (X.scr,X.sns)) 12) (bz fd) {loc:=("self",.tmp 0)::ns.zip args,hp:=st.hp,sk:=st.sk,tp:=[.inst x C dx []],rst:=tl++st.rst,fz:=st.fz} λfl st₂=>bW fl=.none∧cx st tl k x st₂)
theorem iS (hm:q9 C f fw=true)(fn:FnAt f fd nm qual dV pm cd)(fb:c9 fd nm qual dV pm cd ("self"::ns)) (O:X.Ok)(hn:n+1+2≤X.n)(H:∀st args k ke,c args st k ke→jq X fd n C ns st args k ke):az X C c:=λA s st args vals k ke R hA I ir hc ret exc=>by
 cases H st args k ke hc with
 |mk Γ ht hlen hke G h=>exact xK hm fn fb O hA hn I ir ht hlen ret exc hke G h
theorem jq.calls {st:St}(hm:q9 C f fw=true)(fn:FnAt f fd nm qual dV pm cd)(fb:c9 fd nm qual dV pm cd ("self"::ns)) (O:X.Ok)(hn:n+1+2≤X.n)(H:jq X fd n C ns st args k ke):Calls X C st args k ke:=λA s vals R hA I ir ret exc=>by
 cases H with
 |mk Γ ht hlen hke G h=>exact xK hm fn fb O hA hn I ir ht hlen ret exc hke G h
theorem dJ:∀p∈([]:List (Addr×cK)),az X p.1 p.2:=λ_ h=>nomatch h
theorem cI (h:az X a c)(t:∀p∈l,az X p.1 p.2):∀p∈(a,c)::l,az X p.1 p.2:=λp hp=>by
 rcases List.mem_cons.mp hp with rfl|hp
 ·exact h
 ·exact t p hp
noncomputable def ak (cs:List Int)(i:Int):Int:=if i<cs.length then cs.getD i.toNat 0 else -1
noncomputable abbrev cb (b d:Addr)(p:Int):HE:=.inst b 313 d [("codes",.ref 0),("place",.int p)]
noncomputable def wU (n:Nat)(sv:SV):Bool:=match sv with
 |.ref m=>PD m n
 |_=>false
theorem uR (h:wU n sv=true):sv=.ref n:=by
 cases sv with
 |ref m=>rw[Pu h]
 |_=>exact absurd h nofun
def FA (n:Nat)(args:List SV)(p:List SV→Prop):Prop:=match args with
 |[]=>False
 |a::r=>eT (wU n a) (p r)
theorem sb (h:FA n args p):∃r,args=.ref n::r∧p r:=by
 cases args with
 |nil=>exact h.elim
 |cons a r=>rcases aA h with⟨e,h⟩;rw[uR e];exact⟨r,rfl,h⟩
def pY (args:List SV)(p:Prop):Prop:=eT (vG args) p
theorem fq (h:pY args p):args=[]∧p:=by
 rcases aA h with⟨e,h⟩;exact⟨iW e,h⟩
def GY (n:Nat)(args:List SV)(p:Prop):Prop:=FA n args λr=>pY r p
theorem zK (h:GY n args p):args=[.ref n]∧p:=by
 obtain⟨r,e,h1⟩:=sb h
 rcases fq h1 with⟨e2,h1⟩
 exact⟨e2▸e,h1⟩
noncomputable def LU (sv:SV):Option {i:Int // sv=.num i}:=match sv with
 |.num i=>some ⟨i,rfl⟩
 |_=>none
noncomputable def gY (sv:SV):Option {i:Int // sv=.int i}:=match sv with
 |.int i=>some ⟨i,rfl⟩
 |_=>none
def DR (args:List SV)(p:SV→List SV→Prop):Prop:=match args with
 |[]=>False
 |a::r=>p a r
theorem rk (h:DR args p):∃a r,args=a::r∧p a r:=by
 cases args with
 |nil=>exact h.elim
 |cons a r=>exact⟨a,r,rfl,h⟩
def HW (args:List SV)(p:Int→List SV→Prop):Prop:=DR args λa r=>ag (LU a) λi=>p i.1 r
theorem B7 (h:HW args p):∃i r,args=.num i::r∧p i r:=by
 obtain⟨a,r,rfl,h⟩:=rk h
 obtain⟨i,_,h⟩:=aa h
 exact⟨i.1,r,congrArg (λz=>z::r) i.2,h⟩
def BL (args:List SV)(p:Int→List SV→Prop):Prop:=DR args λa r=>ag (gY a) λi=>p i.1 r
theorem l9 (h:BL args p):∃i r,args=.int i::r∧p i r:=by
 obtain⟨a,r,rfl,h⟩:=rk h
 obtain⟨i,_,h⟩:=aa h
 exact⟨i.1,r,congrArg (λz=>z::r) i.2,h⟩
noncomputable def vj {α:Type}(l:List α):Option (α×List α):=match l with
 |[]=>none
 |a::r=>some (a,r)
noncomputable def l7 (sv:SV):Option {a:SV // sv=a}:=some ⟨sv,rfl⟩
noncomputable def dF (n:Nat)(sv:SV):Option {_u:Unit // sv=.ref n}:=match sv with
 |.ref m=>if h:PD m n=true then some ⟨(),congrArg SV.ref (Pu h)⟩else none
 |_=>none
noncomputable def zF (n:Nat)(sv:SV):Option {_u:Unit // sv=.stk n}:=match sv with
 |.stk m=>if h:PD m n=true then some ⟨(),congrArg SV.stk (Pu h)⟩else none
 |_=>none
noncomputable def Lf (n:Nat)(sv:SV):Option {_u:Unit // sv=.tmp n}:=match sv with
 |.tmp m=>if h:PD m n=true then some ⟨(),congrArg SV.tmp (Pu h)⟩else none
 |_=>none
noncomputable def w8 (n:Int)(sv:SV):Option {_u:Unit // sv=.num n}:=match sv with
 |.num m=>if h:m=n then some ⟨(),congrArg SV.num h⟩else none
 |_=>none
noncomputable def Hr (x:Str)(sv:SV):Option {_u:Unit // sv=.txt x}:=match sv with
 |.txt y=>if h:(y==x)=true then some ⟨(),congrArg SV.txt (beq_iff_eq.mp h)⟩else none
 |_=>none
noncomputable def C4 (sv:SV):Option {_u:Unit // sv=.none}:=match sv with
 |.none=>some ⟨(),rfl⟩
 |_=>none
noncomputable def mW (sv:SV):Option {x:Str // sv=.str x}:=match sv with
 |.str x=>some ⟨x,rfl⟩
 |_=>none
noncomputable def JU (sv:SV):Option {x:Str // sv=.txt x}:=match sv with
 |.txt x=>some ⟨x,rfl⟩
 |_=>none
noncomputable def FW (sv:SV):Option {v:Value // sv=.opq v}:=match sv with
 |.opq v=>some ⟨v,rfl⟩
 |_=>none
noncomputable def sf (sv:SV):Option {a:Addr // sv=.opq (.ref a)}:=match FW sv with
 |some q=>match AJ q.1 with
  |some a=>some ⟨a.1,q.2.trans (congrArg SV.opq a.2)⟩
  |none=>none
 |none=>none
section
variable {α β γ δ:Type}{ma:α→SV}{mb:β→SV}{mc:γ→SV}{md:δ→SV}
def qT (f:(sv:SV)→Option {a:α // sv=ma a}) (args:List SV)(p:α→Prop):Prop:=ag (hY args) λq=>ag (f q.1) λa=>p a.1
theorem cf {f:(sv:SV)→Option {a:α // sv=ma a}} (h:qT f args p):∃a,args=[ma a]∧p a:=by
 obtain⟨q,_,h⟩:=aa h
 obtain⟨a,_,h⟩:=aa h
 exact⟨a.1,q.2.trans (congrArg (λz=>[z]) a.2),h⟩
def ou (f:(sv:SV)→Option {a:α // sv=ma a}) (g:(sv:SV)→Option {a:β // sv=mb a}) (args:List SV)(p:α→β→Prop):Prop:=ag (iG args) λq=>ag (f q.1.1) λa=>ag (g q.1.2) λb=>p a.1 b.1
theorem cc {f:(sv:SV)→Option {a:α // sv=ma a}} {g:(sv:SV)→Option {a:β // sv=mb a}} (h:ou f g args p):∃a b,args=[ma a,mb b]∧p a b:=by
 obtain⟨q,_,h⟩:=aa h
 obtain⟨a,_,h⟩:=aa h
 obtain⟨b,_,h⟩:=aa h
 exact⟨a.1,b.1,q.2.trans (congr (congrArg List.cons a.2) (congrArg (λz=>[z]) b.2)),h⟩
def FE (f:(sv:SV)→Option {a:α // sv=ma a}) (g:(sv:SV)→Option {a:β // sv=mb a}) (e:(sv:SV)→Option {a:γ // sv=mc a}) (args:List SV)(p:α→β→γ→Prop):Prop:=ag (vj args) λq=>ag (f q.1) λa=>ou g e q.2 λb c=>p a.1 b c
theorem zd {l:List α}{q:α×List α}(h:vj l=some q):l=q.1::q.2:=by
 cases l with
 |nil=>exact absurd h nofun
 |cons a r=>cases h;rfl
theorem hM {f:(sv:SV)→Option {a:α // sv=ma a}} {g:(sv:SV)→Option {a:β // sv=mb a}} {e:(sv:SV)→Option {a:γ // sv=mc a}} (h:FE f g e args p):∃a b c,args=[ma a,mb b,mc c]∧p a b c:=by
 obtain⟨q,hq,h⟩:=aa h
 obtain⟨a,_,h⟩:=aa h
 obtain⟨b,c,hr,h⟩:=cc h
 exact⟨a.1,b,c,(zd hq).trans (congr (congrArg List.cons a.2) hr),h⟩
def Jj (f:(sv:SV)→Option {a:α // sv=ma a}) (g:(sv:SV)→Option {a:β // sv=mb a}) (e:(sv:SV)→Option {a:γ // sv=mc a}) (i:(sv:SV)→Option {a:δ // sv=md a}) (args:List SV)(p:α→β→γ→δ→Prop):Prop:=ag (vj args) λq=>ag (f q.1) λa=>FE g e i q.2 λb c d=>p a.1 b c d
theorem m3 {f:(sv:SV)→Option {a:α // sv=ma a}} {g:(sv:SV)→Option {a:β // sv=mb a}} {e:(sv:SV)→Option {a:γ // sv=mc a}} {i:(sv:SV)→Option {a:δ // sv=md a}} (h:Jj f g e i args p):∃a b c d,args=[ma a,mb b,mc c,md d]∧p a b c d:=by
 obtain⟨q,hq,h⟩:=aa h
 obtain⟨a,_,h⟩:=aa h
 obtain⟨b,c,d,hr,h⟩:=hM h
 exact⟨a.1,b,c,d,(zd hq).trans (congr (congrArg List.cons a.2) hr),h⟩
end
noncomputable abbrev St.LG (st:St)(t:List HE):St:=⟨st.loc,st.hp,st.sk,t,st.rst,st.fz⟩
noncomputable abbrev St.Mv (st:St)(z:ah):St:=⟨st.loc,st.hp,st.sk,st.tp,st.rst,z⟩
noncomputable abbrev St.Gj (st:St)(sk:List HE)(z:ah):St:=⟨st.loc,st.hp,sk,st.tp,st.rst,z⟩
noncomputable def OV (e:HE):Option (Addr×List Int):=match e with
 |.nlist a cs=>some (a,cs)
 |_=>none
noncomputable def Ca (e:HE):Option (Addr×Addr×List (Str×SV)):=match e with
 |.inst b _ d fs=>some (b,d,fs)
 |_=>none
def eL (st:St)(K:List Int→Int→Prop):Prop:=
 ag (vj st.hp) λq0=>ag (OV q0.1) λc=>ag (vj q0.2) λq1=>ag (vj q1.2) λq2=>ag (vj q2.2) λq3=>ag (vj q3.2) λq4=>ag (Ca q4.1) λt=>ag (iG t.2.2) λfs=>ag (gY fs.1.2.2) λp=>
  st.hp=.nlist c.1 c.2::q1.1::q2.1::q3.1::cb t.1 t.2.1 p.1::q4.2∧K c.2 p.1
noncomputable def Ko (q:Int)(fs:List (Str×SV)):List (Str×SV):=match fs with
 |[]=>[]
 |f::r=>f::match r with
  |[]=>[]
  |g::r2=>(g.1,.int q)::r2
noncomputable def MK (q:Int)(e:HE):HE:=match e with
 |.inst b c d fs=>.inst b c d (Ko q fs)
 |e=>e
noncomputable def zo (q:Int)(n:Nat)(l:List HE):List HE:=match l with
 |[]=>[]
 |e::r=>match n with
  |0=>MK q e::r
  |n+1=>e::zo q n r
noncomputable def qE (st:St)(q:Int):St:={st with hp:=zo q 4 st.hp}
theorem bP {st:St}{K:List Int→Int→Prop}(h:eL st K):∃a cs e1 e2 e3 b d p r,st.hp=.nlist a cs::e1::e2::e3::cb b d p::r∧K cs p:=by
 obtain⟨q0,_,h⟩:=aa h
 obtain⟨c,_,h⟩:=aa h
 obtain⟨q1,_,h⟩:=aa h
 obtain⟨q2,_,h⟩:=aa h
 obtain⟨q3,_,h⟩:=aa h
 obtain⟨q4,_,h⟩:=aa h
 obtain⟨t,_,h⟩:=aa h
 obtain⟨fs,_,h⟩:=aa h
 obtain⟨p,_,h⟩:=aa h
 exact⟨_,_,_,_,_,_,_,_,_,h⟩
def eN:cK:=λargs st k _=>eL st λcs p=>(0≤p∧cs.length<2^40)∧FA 4 args λr=>match r with
 |[]=>k (.int (ak cs p)) st
 |_::_=>HW r λj r=>pY r (0≤j∧k (.int (ak cs (p+j))) st)
theorem AM (w:World)(sc:Sc)(call:Addr→Option cK)(ke:KX)(a b d:Addr)(cs:List Int)(p j:Int)(e1 e2 e3:HE)(r sk:List HE)(rs fz:ah)(K:SV→St→Prop) :
  (vc cs<1152921504606846976 ∧
 (decide (p+j<↑(vc cs))=true →
   ((0:Int)≤p+j∧p+j<↑(vc cs)∧vc cs<1152921504606846976) ∧
    K (SV.int (List.getD cs (Pf (p+j)) (0:Int)))
     {loc:=[(p' "self",SV.ref (4)),(p' "ahead",SV.num j),(p' "at",SV.int (p+j))],
      hp:=HE.nlist a cs::e1::e2::e3::HE.inst b (313) d [(p' "codes",SV.ref (0)),(p' "place",SV.int p)]::r,sk:=sk,tp:=[],rst:=rs,
      fz:=fz}) ∧
  (decide (p+j<↑(vc cs))=false →
   K (SV.num (-1:Int))
    {loc:=[(p' "self",SV.ref (4)),(p' "ahead",SV.num j),(p' "at",SV.int (p+j))],
     hp:=HE.nlist a cs::e1::e2::e3::HE.inst b (313) d [(p' "codes",SV.ref (0)),(p' "place",SV.int p)]::r,sk:=sk,tp:=[],rst:=rs,
     fz:=fz})) →
  bw (bE {cs:=aK (aI 46 1),call:=call,ke:=ke} (xt w sc) 12) (bz (aI 46 1)) {loc:=[("self",.ref 4),("ahead",.num j)],hp:=.nlist a cs::e1::e2::e3::cb b d p::r,sk:=sk,tp:=[],rst:=rs,fz:=fz} (λfl st=>K (bW fl) st):=
 Qg (by kernel_rfl)
theorem rq (P:PJ):(Kf P).lookup 233=some ⟨.type "tuple",none,.seq #[.int 0 620] 0,#[]⟩:=by kernel_rfl
theorem nK {st:St}{e3:HE}{k:KV}(O:X.Ok)(hn:dd+1≤X.n)(hA:tG X A dd)(I:Inv X st s)(hhp:st.hp=.nlist a cs::e1::e2::e3::cb b d p::r)(hb:BindsTo s (CL (aI 46 1) "code" "Tokens.code" (.ref 233) (.str "emacs.lisptokens" 500) (.ref 239)) ⟨vals,[]⟩ ((["self","ahead"]:List Str).zip [v0,v1])) (ir:IR st.ad [.ref 4,.num j] [v0,v1])(h0:0≤p)(hj:0≤j)(hz:cs.length<2^40)(hk:k (.int (ak cs (p+j))) st) (ret:∀sv st' v s',Inv X st' s'→st.ad.le st'.ad→sv.R st'.ad v→k sv st'→R (.ok (.ret v)) s') (exc:av X ke (λe s'=>R (.error e) s')) :
  P9 (model pw X.w) A (.call (.ref 240) ⟨vals,[]⟩) R s:=by
 obtain⟨loc,hp,sk,tp,rst,fz⟩:=st
 dsimp only at hhp
 subst hhp
 refine qf (n:=0) (N:=12) (Γ:=λtl=>{cs:=aK (aI 46 1),call:=aw [],ke:=ke}) (T:=xt X.w (X.scr,X.sns)) (bs:=(["self","ahead"]:List Str).zip [.ref 4,.num j]) Lx O hA (by lia) I.q hb (by kernel_rfl) (dR (ir.c5 (D':=⟨_,_,[]⟩) rfl rfl rfl) (by kernel_rfl)) ret exc (λ_=>rfl) (λ_ X' S=>ax S (λ_ h=>nomatch h)) λtl=>?_
 refine AM _ _ _ _ a b d cs p j e1 e2 e3 r sk (tl++rst) fz _ ⟨by lia,λh=>⟨⟨by lia,of_decide_eq_true h,by lia⟩,?_⟩,λh=>?_⟩
 ·have e:ak cs (p+j)=cs.getD (p+j).toNat 0:=if_pos (of_decide_eq_true h)
  exact bg.same (sv':=.int (cs.getD (p+j).toNat 0)) (by rw[←e];exact hk) rfl rfl rfl rfl λD v r=>r
 ·have e:ak cs (p+j)=-1:=if_neg (of_decide_eq_false h)
  exact bg.same (sv':=.int (-1)) (by rw[←e];exact hk) rfl rfl rfl rfl λD v r=>r
theorem gG (O:X.Ok)(hn:2≤X.n):az X 240 eN:=by
 intro A s st args vals k ke R hA I ir hc ret exc
 obtain⟨a,cs,e1,e2,e3,b,d,p,r,hhp,⟨h0,hz⟩,hc⟩:=bP hc
 obtain⟨r',rfl,hk⟩:=sb hc
 clear hc
 cases r' with
 |nil=>
  obtain⟨v0,rfl,r0⟩:=Gp ir
  exact nK (v0:=v0) (v1:=.int 0 620) O hn hA I hhp (binds_K (O.dg I) rfl (rq _) rfl rfl rfl) (.cons r0 (.cons ⟨_,rfl⟩ .nil)) h0 (Int.le_refl 0) hz (by rw[Int.add_zero];exact hk) ret exc
 |cons _ _=>
  obtain⟨j,r2,e,hk⟩:=B7 hk
  cases e
  rcases fq hk with⟨rfl,hk⟩
  obtain⟨v0,v1,rfl,r0,t,rfl⟩:=nJ ir
  exact nK (v0:=v0) (v1:=.int _ t) O hn hA I hhp (binds_K (O.dg I) rfl (rq _) rfl rfl rfl) (.cons r0 (.cons ⟨_,rfl⟩ .nil)) h0 hk.1 hz hk.2 ret exc
section
variable {X:Fx}{st st':St}{s:Pl}
theorem Inv.re (I:Inv X st s)(hl:∀x sv',look x st'.loc=some sv'→∃sv,look x st.loc=some sv∧∀v,sv.R st.ad v→sv'.R st'.ad v)
  (hL:∀l,LL st.ad.low (st.hp++st.sk) l→LL st'.ad.low (st'.hp++st'.sk) l)(hT:∀l,LL st.ad.bot st.tp l→LL st'.ad.bot st'.tp l)(h1:st'.rst=st.rst)(h2:st'.fz=st.fz):Inv X st' s:=by
 obtain⟨m,l,l',L1,L2,hlo,F,N,nd⟩:=I.ex
 have e:st'.rf=st.rf:=by unfold St.rf;rw[h1,h2]
 refine⟨⟨m,l,l',hL l L1,hT l' L2,λx sv' q=>?_,F,by rw[e];exact N,by rw[e];exact nd⟩,I.gens,I.os⟩
 obtain⟨sv,q1,q2⟩:=hl x sv' q
 obtain⟨v,a,b⟩:=hlo x sv q1
 exact⟨v,a,q2 v b⟩
theorem LL.dm (h:LL D (e::es) l):∃le lr,l=le++lr∧HL D e le∧LL D es lr:=by
 cases h with
 |cons a b=>exact⟨_,_,rfl,a,b⟩
theorem Ent.weak (hl:∀x sv,look x loc'=some sv→look x st.loc=some sv)(hn:∀x sv,look x loc'=some sv→sv.c5=true)(h:P {st with loc:=loc',tp:=[]}):Ent st P:=⟨λX s f I=>by
 refine⟨_,h,?_⟩
 obtain⟨m,l,l',L1,L2,hlo,F,N,nd⟩:=I.ex
 have sub:(l++([]++(st.fr f).rf)).Sublist (l++(l'++(st.fr f).rf)):=(QA l).append ((List.nil_sublist l').append (.refl _))
 refine⟨⟨m,l,[],L1,.nil,λx sv e=>?_,F,λp hp=>N p (sub.mem hp),nd.sub sub⟩,I.gens,I.os⟩
 obtain⟨v,a,b⟩:=hlo x sv (hl x sv e)
 exact⟨v,a,mv (D:=st.ad) (hn x sv e) rfl rfl b⟩⟩
theorem Inv.DL {j:Nat}(I:Inv X st s)(h:st.tp[j]?=some e):Inv X {st with loc:=[],tp:=[e]} s:=by
 obtain⟨m,l,l',L1,L2,hlo,F,N,nd⟩:=I.ex
 obtain⟨pre,le,post,rfl,H,_⟩:=L2.cut h
 have sub:(l++(le++st.rf)).Sublist (l++((pre++(le++post))++st.rf)):=(QA l).append (TX ((Q8 _ _).trans (RO _ _)) (.refl _))
 exact⟨⟨m,l,le,L1,.one H,(λx sv e=>nomatch e),F,λp hp=>N p (sub.mem hp),nd.sub sub⟩,I.gens,I.os⟩
theorem bg.one (hk:k (.tmp st.tp.length) {st with hp:=st₂.hp,sk:=st₂.sk,tp:=st.tp++[e],fz:=st₂.fz}) (h0:st₂.tp[j]?=some e)(h1:st₂.hp.map HE.addr=st.hp.map HE.addr)(h2:st₂.sk.map HE.addr=st.sk.map HE.addr)(h3:st₂.rst=tl++st.rst):bg st tl k (.tmp j) st₂:=λX s v I r=>by
 obtain⟨a,ha,rfl⟩:=r
 have ha':a=e.addr:=by
  have:(st₂.tp.map HE.addr)[j]?=some a:=ha
  rw[QL,h0]at this
  exact(Pd this).symm
 refine⟨.tmp 0,{st₂ with loc:=[],tp:=[e]},I.DL h0,⟨a,by rw[ha'];rfl,rfl⟩,st.loc,h3,?_,λx sv0 q=>⟨sv0,q,λv r=>?_⟩,hk⟩
 ·show st.hp.map _ <+: st₂.hp.map _
  rw[h1];exact Pp
 ·refine r.mono ⟨?_,?_,?_⟩
  ·show st.hp.map _ <+: st₂.hp.map _
   rw[h1];exact Pp
  ·exact Qh _ _
  ·show st.sk.map _ <+: st₂.sk.map _
   rw[h2];exact Pp
theorem Inv.dh (I:Inv X st s)(h:st.tp[j]?=some e):∃le,HL st.ad.bot e le∧Inv X {st with tp:=st.tp.set j (.gone e.addr),fz:=le++st.fz} s:=by
 obtain⟨m,l,l',L1,L2,hlo,F,N,nd⟩:=I.ex
 obtain⟨pre,le,post,rfl,H,re⟩:=L2.cut h
 have ea:St.ad {st with tp:=st.tp.set j (.gone e.addr),fz:=le++st.fz}=st.ad:=by
  show Ad.mk _ _ ((st.tp.set j _).map HE.addr)=_
  rw[bK (e':=.gone e.addr) h rfl]
 have pm:(l++((pre++(le++post))++(st.rst++st.fz))).Perm (l++((pre++([]++post))++(st.rst++(le++st.fz)))):=by
  refine P4 _ ?_
  have e1:(pre++(le++post))++(st.rst++st.fz)=pre++(le++((post++st.rst)++st.fz)):=by simp
  have e2:(pre++([]++post))++(st.rst++(le++st.fz))=pre++((post++st.rst)++(le++st.fz)):=by simp
  rw[e1,e2]
  exact P4 _ (QV _ _ _)
 refine⟨le,H,⟨⟨m,l,pre++([]++post),by rw[ea];exact L1,?_,λx sv q=>?_,F,λp hp=>N p (pm.mem_iff.mpr hp),nd.perm pm⟩,I.gens,I.os⟩⟩
 ·rw[ea]
  exact re (.gone e.addr) [] .gone
 ·rw[ea];exact hlo x sv q
theorem Inv.BP (I:Inv X st s)(h:st.sk[j]?=some e):∃le,HL st.ad.low e le∧Inv X {st with sk:=st.sk.set j (.gone e.addr),fz:=le++st.fz} s:=by
 obtain⟨m,l,l',L1,L2,hlo,F,N,nd⟩:=I.ex
 have hk:(st.hp++st.sk)[st.hp.length+j]?=some e:=by rw[QM (PY _ _),QG];exact h
 obtain⟨pre,le,post,rfl,H,re⟩:=L1.cut hk
 have ea:St.ad {st with sk:=st.sk.set j (.gone e.addr),fz:=le++st.fz}=st.ad:=by
  show Ad.mk _ ((st.sk.set j _).map HE.addr) _=_
  rw[bK (e':=.gone e.addr) h rfl]
 have pm:((pre++(le++post))++(l'++(st.rst++st.fz))).Perm ((pre++([]++post))++(l'++(st.rst++(le++st.fz)))):=by
  have e1:(pre++(le++post))++(l'++(st.rst++st.fz))=pre++(le++((post++(l'++st.rst))++st.fz)):=by simp
  have e2:(pre++([]++post))++(l'++(st.rst++(le++st.fz)))=pre++((post++(l'++st.rst))++(le++st.fz)):=by simp
  rw[e1,e2]
  exact P4 _ (QV _ _ _)
 refine⟨le,H,⟨⟨m,pre++([]++post),l',?_,by rw[ea];exact L2,λx sv q=>?_,F,λp hp=>N p (pm.mem_iff.mpr hp),nd.perm pm⟩,I.gens,I.os⟩⟩
 ·rw[ea]
  have:=re (.gone e.addr) [] .gone
  rwa [List.set_append_right _ _ (PY _ _),QG]at this
 ·rw[ea];exact hlo x sv q
end
inductive fF (P:SV→SV→Prop):List (Str×SV)→List (Str×SV)→Prop
 |nil:fF P [] []
 |cons {x:Str}{sv sv':SV}{r r':List (Str×SV)}(h:P sv sv')(t:fF P r r'):fF P ((x,sv)::r) ((x,sv')::r')
theorem fF.look {P:SV→SV→Prop}{r r':List (Str×SV)}(h:fF P r r'){x:Str}{sv':SV}(e:look x r'=some sv'):∃sv,look x r=some sv∧P sv sv':=by
 induction h with
 |nil=>exact absurd e nofun
 |@cons y a b r r' hp _ ih=>
  show ∃sv,(match y==x with|true=>some a|false=>Internal.look x r)=some sv∧P sv sv'
  rcases mB e with⟨q,e⟩|⟨q,e⟩
  ·cases e
   rw[q]
   exact⟨a,rfl,hp⟩
  ·rw[q]
   exact ih e
theorem Calls.JZ {st:St}{args:List SV}(he:st.sk[j]?=some e)(h:∀le,HL st.ad.low e le→Calls X f {st with sk:=st.sk.set j (.gone e.addr),fz:=le++st.fz} args k ke):Calls X f st args k ke:=λA s vals R hA I ir ret exc=>by
 obtain⟨le,H,I'⟩:=I.BP he
 have ea:St.ad {st with sk:=st.sk.set j (.gone e.addr),fz:=le++st.fz}=st.ad:=by
  show Ad.mk _ ((st.sk.set j (HE.gone e.addr)).map HE.addr) _=Ad.mk _ (st.sk.map HE.addr) _
  rw[bK (e':=.gone e.addr) he rfl]
 exact h le H A s vals R hA I' (ea.symm▸ir) (λsv st' v s' I2 le=>ret sv st' v s' I2 (ea▸le)) exc
theorem Calls.tw {st:St}{args:List SV}(he:st.tp[j]?=some e)(h:∀le,HL st.ad.bot e le→Calls X f {st with tp:=st.tp.set j (.gone e.addr),fz:=le++st.fz} args k ke):Calls X f st args k ke:=λA s vals R hA I ir ret exc=>by
 obtain⟨le,H,I'⟩:=I.dh he
 have ea:St.ad {st with tp:=st.tp.set j (.gone e.addr),fz:=le++st.fz}=st.ad:=by
  show Ad.mk _ _ ((st.tp.set j (HE.gone e.addr)).map HE.addr)=Ad.mk _ _ (st.tp.map HE.addr)
  rw[bK (e':=.gone e.addr) he rfl]
 exact h le H A s vals R hA I' (ea.symm▸ir) (λsv st' v s' I2 le=>ret sv st' v s' I2 (ea▸le)) exc
theorem Jb {P:List Value→Prop}(h:P [])(vs:List Value)(e:vs.length=0):P vs:=by
 cases vs with
 |nil=>exact h
 |cons a r=>exact absurd e nofun
theorem rY {P:List Value→Prop}(h:∀a r,r.length=n→P (a::r))(vs:List Value)(e:vs.length=n+1):P vs:=by
 cases vs with
 |nil=>exact absurd e nofun
 |cons a r=>exact h a r (Nat.succ.inj e)
theorem cH {P:List Value→Prop}(h:∀a,P [a])(vs:List Value)(e:vs.length=1):P vs:=rY (λa r e=>Jb (P:=λr=>P (a::r)) (h a) r e) vs e
theorem eh {P:List Value→Prop}(h:∀a b,P [a,b])(vs:List Value)(e:vs.length=2):P vs:=rY (λa r e=>cH (P:=λr=>P (a::r)) (h a) r e) vs e
theorem fX {P:List Value→Prop}(h:∀a b c,P [a,b,c])(vs:List Value)(e:vs.length=3):P vs:=rY (λa r e=>eh (P:=λr=>P (a::r)) (h a) r e) vs e
theorem oq {P:List Value→Prop}(h:∀a b c d,P [a,b,c,d])(vs:List Value)(e:vs.length=4):P vs:=rY (λa r e=>fX (P:=λr=>P (a::r)) (h a) r e) vs e
theorem Mr:c9 (aI 2 0) "__init__" "EndOfText.__init__" .none (.str "emacs.lisperrors" 194) (.ref 34) ["self","place"]:=⟨eh λ_ _=>by kernel_rfl,by kernel_rfl,by kernel_rfl⟩
theorem Nk:c9 (aI 3 0) "__init__" "BadSyntax.__init__" .none (.str "emacs.lisperrors" 194) (.ref 54) ["self","word","place"]:=⟨fX λ_ _ _=>by kernel_rfl,by kernel_rfl,by kernel_rfl⟩
theorem KJ:c9 (aJ 39) "is_break" "is_break" .none (.str "emacs.lisptokens" 500) (.ref 177) ["code"]:=⟨cH λ_=>by kernel_rfl,by kernel_rfl,by kernel_rfl⟩
theorem GU:c9 (aJ 40) "value_in" "value_in" .none (.str "emacs.lisptokens" 500) (.ref 184) ["words","radix"]:=⟨eh λ_ _=>by kernel_rfl,by kernel_rfl,by kernel_rfl⟩
theorem Kl:c9 (aJ 41) "integer_of" "integer_of" .none (.str "emacs.lisptokens" 500) (.ref 191) ["words"]:=⟨cH λ_=>by kernel_rfl,by kernel_rfl,by kernel_rfl⟩
theorem HK:c9 (aJ 42) "are_figures" "are_figures" .none (.str "emacs.lisptokens" 500) (.ref 196) ["words"]:=⟨cH λ_=>by kernel_rfl,by kernel_rfl,by kernel_rfl⟩
theorem Jo:c9 (aJ 44) "is_float" "is_float" .none (.str "emacs.lisptokens" 500) (.ref 210) ["words"]:=⟨cH λ_=>by kernel_rfl,by kernel_rfl,by kernel_rfl⟩
theorem Jn:c9 (aJ 45) "sign_of" "sign_of" .none (.str "emacs.lisptokens" 500) (.ref 217) ["code","place"]:=⟨eh λ_ _=>by kernel_rfl,by kernel_rfl,by kernel_rfl⟩
theorem Hk:c9 (aI 46 0) "__init__" "Tokens.__init__" .none (.str "emacs.lisptokens" 500) (.ref 231) ["self","codes","place"]:=⟨fX λ_ _ _=>by kernel_rfl,by kernel_rfl,by kernel_rfl⟩
theorem GC:c9 (aI 46 2) "skip_line" "Tokens.skip_line" .none (.str "emacs.lisptokens" 500) (.ref 246) ["self"]:=⟨cH λ_=>by kernel_rfl,by kernel_rfl,by kernel_rfl⟩
theorem Lv:c9 (aI 46 3) "skip_blanks" "Tokens.skip_blanks" .none (.str "emacs.lisptokens" 500) (.ref 253) ["self"]:=⟨cH λ_=>by kernel_rfl,by kernel_rfl,by kernel_rfl⟩
theorem Lo:c9 (aI 46 4) "token" "Tokens.token" .none (.str "emacs.lisptokens" 500) (.ref 260) ["self"]:=⟨cH λ_=>by kernel_rfl,by kernel_rfl,by kernel_rfl⟩
theorem Kn:c9 (aI 46 7) "name" "Tokens.name" .none (.str "emacs.lisptokens" 500) (.ref 281) ["self"]:=⟨cH λ_=>by kernel_rfl,by kernel_rfl,by kernel_rfl⟩
theorem J8:c9 (aI 46 8) "word" "Tokens.word" .none (.str "emacs.lisptokens" 500) (.ref 288) ["self","start"]:=⟨eh λ_ _=>by kernel_rfl,by kernel_rfl,by kernel_rfl⟩
theorem KL:c9 (aI 48 0) "__init__" "Symbol.__init__" .none (.str "emacs.objects" 735) (.ref 330) ["self","number","name"]:=⟨fX λ_ _ _=>by kernel_rfl,by kernel_rfl,by kernel_rfl⟩
theorem GS:c9 (aI 51 0) "__init__" "Cons.__init__" .none (.str "emacs.objects" 735) (.ref 357) ["self","car","cdr"]:=⟨fX λ_ _ _=>by kernel_rfl,by kernel_rfl,by kernel_rfl⟩
theorem HY:c9 (aI 53 0) "__init__" "Vector.__init__" .none (.str "emacs.objects" 735) (.ref 400) ["self","things"]:=⟨eh λ_ _=>by kernel_rfl,by kernel_rfl,by kernel_rfl⟩
theorem H5:c9 (aI 60 0) "__init__" "Placeholder.__init__" .none (.str "emacs.lispreader" 925) (.ref 459) ["self"]:=⟨cH λ_=>by kernel_rfl,by kernel_rfl,by kernel_rfl⟩
theorem Ig:c9 (aI 61 0) "__init__" "OpenForm.__init__" .none (.str "emacs.lispreader" 925) (.ref 487) ["self","word","place","number"]:=⟨oq λ_ _ _ _=>by kernel_rfl,by kernel_rfl,by kernel_rfl⟩
theorem IM:c9 (aI 61 1) "take" "OpenForm.take" .none (.str "emacs.lispreader" 925) (.ref 494) ["self","datum","place"]:=⟨fX λ_ _ _=>by kernel_rfl,by kernel_rfl,by kernel_rfl⟩
theorem II:c9 (aJ 62) "noted_list" "noted_list" .none (.str "emacs.lispreader" 925) (.ref 508) ["things","tail"]:=⟨eh λ_ _=>by kernel_rfl,by kernel_rfl,by kernel_rfl⟩
theorem Jd:c9 (aJ 63) "noted_things" "noted_things" .none (.str "emacs.lispreader" 925) (.ref 515) ["things"]:=⟨cH λ_=>by kernel_rfl,by kernel_rfl,by kernel_rfl⟩
theorem HI:c9 (aI 65 2) "read" "LispReader.read" .none (.str "emacs.lispreader" 925) (.ref 551) ["self"]:=⟨cH λ_=>by kernel_rfl,by kernel_rfl,by kernel_rfl⟩
theorem JF:c9 (aI 65 3) "opened" "LispReader.opened" .none (.str "emacs.lispreader" 925) (.ref 558) ["self","word","value","start"]:=⟨oq λ_ _ _ _=>by kernel_rfl,by kernel_rfl,by kernel_rfl⟩
theorem Kb:c9 (aI 65 4) "atom" "LispReader.atom" .none (.str "emacs.lispreader" 925) (.ref 565) ["self","word","value","start"]:=⟨oq λ_ _ _ _=>by kernel_rfl,by kernel_rfl,by kernel_rfl⟩
theorem Ji:c9 (aI 65 5) "dotted" "LispReader.dotted" .none (.str "emacs.lispreader" 925) (.ref 572) ["self","forms","start"]:=⟨fX λ_ _ _=>by kernel_rfl,by kernel_rfl,by kernel_rfl⟩
theorem Hz:c9 (aI 65 6) "closed" "LispReader.closed" .none (.str "emacs.lispreader" 925) (.ref 579) ["self","forms","word","start"]:=⟨oq λ_ _ _ _=>by kernel_rfl,by kernel_rfl,by kernel_rfl⟩
theorem HS:c9 (aI 65 8) "given" "LispReader.given" .none (.str "emacs.lispreader" 925) (.ref 593) ["self","forms","datum","start"]:=⟨oq λ_ _ _ _=>by kernel_rfl,by kernel_rfl,by kernel_rfl⟩
theorem Hl:c9 (aJ 66) "read_all" "read_all" .none (.str "emacs.lispreader" 925) (.ref 614) ["codes","obarray"]:=⟨eh λ_ _=>by kernel_rfl,by kernel_rfl,by kernel_rfl⟩
theorem G9:c9 (aI 68 0) "__init__" "Obarray.__init__" .none (.str "emacs.obarray" 1210) (.ref 628) ["self"]:=⟨cH λ_=>by kernel_rfl,by kernel_rfl,by kernel_rfl⟩
theorem Ke:c9 (aI 68 1) "intern" "Obarray.intern" .none (.str "emacs.obarray" 1210) (.ref 635) ["self","name"]:=⟨eh λ_ _=>by kernel_rfl,by kernel_rfl,by kernel_rfl⟩
theorem IP:c9 (aI 68 3) "fresh" "Obarray.fresh" .none (.str "emacs.obarray" 1210) (.ref 649) ["self","name"]:=⟨eh λ_ _=>by kernel_rfl,by kernel_rfl,by kernel_rfl⟩
theorem JT:c9 (aJ 71) "_law_draw" "_law_draw" .none (.str "law_oj0032_01" 1305) (.ref 699) ["deck","many"]:=⟨eh λ_ _=>by kernel_rfl,by kernel_rfl,by kernel_rfl⟩
theorem H9:c9 (aJ 72) "_law_pick" "_law_pick" .none (.str "law_oj0032_01" 1305) (.ref 706) ["deck","items"]:=⟨eh λ_ _=>by kernel_rfl,by kernel_rfl,by kernel_rfl⟩
theorem KD:c9 (aJ 73) "_law_deck" "_law_deck" .none (.str "law_oj0032_01" 1305) (.ref 711) ["script","most"]:=⟨eh λ_ _=>by kernel_rfl,by kernel_rfl,by kernel_rfl⟩
theorem Iq:c9 (aJ 74) "_law_shape" "_law_shape" .none (.str "law_oj0032_01" 1305) (.ref 716) ["datum"]:=⟨cH λ_=>by kernel_rfl,by kernel_rfl,by kernel_rfl⟩
theorem CD:c9 (aJ 75) "_law_told" "_law_told" .none (.str "law_oj0032_01" 1305) (.ref 721) ["text"]:=⟨cH λ_=>by kernel_rfl,by kernel_rfl,by kernel_rfl⟩
theorem IX:c9 (aJ 76) "_law_tokens" "_law_tokens" .none (.str "law_oj0032_01" 1305) (.ref 728) ["text"]:=⟨cH λ_=>by kernel_rfl,by kernel_rfl,by kernel_rfl⟩
theorem JP:c9 (aJ 77) "_law_closed" "_law_closed" .none (.str "law_oj0032_01" 1305) (.ref 735) ["top"]:=⟨cH λ_=>by kernel_rfl,by kernel_rfl,by kernel_rfl⟩
theorem Hn:c9 (aJ 78) "_law_taken" "_law_taken" .none (.str "law_oj0032_01" 1305) (.ref 742) ["opened_here","data","thing"]:=⟨fX λ_ _ _=>by kernel_rfl,by kernel_rfl,by kernel_rfl⟩
theorem IS:c9 (aJ 79) "_law_due" "_law_due" .none (.str "law_oj0032_01" 1305) (.ref 749) ["text"]:=⟨cH λ_=>by kernel_rfl,by kernel_rfl,by kernel_rfl⟩
theorem Jx:c9 (aJ 80) "_law_text" "_law_text" .none (.str "law_oj0032_01" 1305) (.ref 756) ["deck","many","is_fair"]:=⟨fX λ_ _ _=>by kernel_rfl,by kernel_rfl,by kernel_rfl⟩
noncomputable def cA (pr:Int→Bool)(cs:List Int)(p:Nat):Nat:=p+((cs.drop p).takeWhile pr).length
theorem fy (h:cs.length≤p):cA pr cs p=p:=by
 unfold cA;rw[List.drop_eq_nil_iff.mpr h];rfl
theorem mU (h:p<cs.length)(hp:pr (cs.getD p 0)=false):cA pr cs p=p:=by
 unfold cA
 rw[Qx h,Rc]
 have:cs.getD p 0=cs[p]:=by simp[h]
 rw[this]at hp
 rw[hp];rfl
theorem ej (h:p<cs.length)(hp:pr (cs.getD p 0)=true):cA pr cs p=cA pr cs (p+1):=by
 unfold cA
 rw[Qx h,Rc]
 have:cs.getD p 0=cs[p]:=by simp[h]
 rw[this]at hp
 rw[hp]
 simp;lia
theorem iO (h:p≤cs.length):cA pr cs p≤cs.length:=by
 unfold cA
 have:=(List.takeWhile_sublist (p:=pr) (l:=cs.drop p)).length_le
 rw[Ri]at this
 lia
theorem sr:p≤cA pr cs p:=PY _ _
theorem hO {cs:List Int}{p:Nat}(h:p<cs.length):ak cs (p:Int)=cs.getD p 0:=by
 unfold ak;rw[if_pos (by lia),Qf]
theorem jD {cs:List Int}{p:Nat}(h:cs.length≤p):ak cs (p:Int)=-1:=by
 unfold ak;rw[if_neg (by lia)]
noncomputable def brk (c:Int):Bool:=decide (c≤32)||c==160||gw.any (·==c)
noncomputable def jF (c:Int):Bool:=([40,41,91,93,39,97,98,99,32,46,10,59]:List Int).any (·==c)
def jX (cs:List Int):Prop:=∀c∈cs,jF c=true
theorem i5 {P:Int→Prop}(h:jF c=true)(hp:∀x∈([40,41,91,93,39,97,98,99,32,46,10,59]:List Int),P x):P c:=by
 obtain⟨x,hx,e⟩:=List.any_eq_true.mp h
 rw[←beq_iff_eq.mp e]
 exact hp x hx
theorem hV (h:jF c=true):c=40∨c=41∨c=91∨c=93∨c=39∨c=97∨c=98∨c=99∨c=32∨c=46∨c=10∨c=59:=
 i5 (P:=λc=>c=40∨c=41∨c=91∨c=93∨c=39∨c=97∨c=98∨c=99∨c=32∨c=46∨c=10∨c=59) h (by decide)
theorem ng (h:jX cs)(hp:p<cs.length):jF (cs.getD p 0)=true:=by
 have:cs.getD p 0=cs[p]:=by simp[hp]
 rw[this];exact h _ (Tz hp)
theorem mq (w:World)(sc:Sc)(ke:KX)(a b d:Addr)(cs:List Int)(p:Int)(e1 e2 e3:HE)(r sk:List HE)(rs fz:ah)(K:SV→St→Prop)(ι:Type)(pl:ι→Int)(μ:ι→Nat) :
  ((Ent
  {loc:=[(p' "self",SV.ref (4))],
   hp:=HE.nlist a cs::e1::e2::e3::HE.inst b (313) d [(p' "codes",SV.ref (0)),(p' "place",SV.int p)]::r,sk:=sk,tp:=[],rst:=rs,fz:=fz}
  λ(st':St)=>
  ∃(i:ι),
   st' =
    {loc:=[(p' "self",SV.ref (4))],
     hp:=HE.nlist a cs::e1::e2::e3::HE.inst b (313) d [(p' "codes",SV.ref (0)),(p' "place",SV.int (pl i))]::r,sk:=sk,tp:=[],rst:=rs,
     fz:=fz}) ∧
 ∀(i:ι),
  HE.nlist a cs::e1::e2::e3::HE.inst b (313) d [(p' "codes",SV.ref (0)),(p' "place",SV.int (pl i))]::r =
    HE.nlist a cs::e1::e2::e3::HE.inst b (313) d [(p' "codes",SV.ref (0)),(p' "place",SV.int (pl i))]::r ∧
   ((0:Int)≤pl i∧vc cs<1099511627776) ∧
    ∀(a_1:Nat),
     ((!QX [(-1:Int),(10:Int)] λ(x:Int)=>x==ak cs (pl i))=true →
       Ent
        {loc:=[(p' "self",SV.ref (4))],
         hp:=HE.nlist a cs::e1::e2::e3::HE.inst b (313) d [(p' "codes",SV.ref (0)),(p' "place",SV.int (pl i+(1:Int)))]::r,sk:=sk,
         tp:=[HE.tup a_1 [SV.num (-1:Int),SV.num (10:Int)]],rst:=rs,fz:=fz}
        λ(st':St)=>
        ∃(j:ι),
         μ j<μ i ∧
          st' =
           {loc:=[(p' "self",SV.ref (4))],
            hp:=HE.nlist a cs::e1::e2::e3::HE.inst b (313) d [(p' "codes",SV.ref (0)),(p' "place",SV.int (pl j))]::r,sk:=sk,tp:=[],
            rst:=rs,fz:=fz}) ∧
      ((!QX [(-1:Int),(10:Int)] λ(x:Int)=>x==ak cs (pl i))=false →
       K SV.none
        {loc:=[(p' "self",SV.ref (4))],
         hp:=HE.nlist a cs::e1::e2::e3::HE.inst b (313) d [(p' "codes",SV.ref (0)),(p' "place",SV.int (pl i))]::r,sk:=sk,
         tp:=[HE.tup a_1 [SV.num (-1:Int),SV.num (10:Int)]],rst:=rs,fz:=fz})) →
  bw (bE {cs:=aK (aI 46 2),call:=aw [(240,eN)],ke:=ke,inv:=λ_ _=>some {ι:=ι,S:=λi=>{loc:=[("self",.ref 4)],hp:=.nlist a cs::e1::e2::e3::cb b d (pl i)::r,sk:=sk,tp:=[],rst:=rs,fz:=fz},μ:=μ,ok:=λ_ h=>h}} (xt w sc) 12) (bz (aI 46 2)) {loc:=[("self",.ref 4)],hp:=.nlist a cs::e1::e2::e3::cb b d p::r,sk:=sk,tp:=[],rst:=rs,fz:=fz} (λfl st=>K (bW fl) st):=
 Qg (by kernel_rfl)
theorem nW (w:World)(sc:Sc)(ke:KX)(c:Int)(hp sk:List HE)(rs fz:ah)(K:SV→St→Prop) :
  ((decide (c≤(32:Int))=true→K (SV.bool (decide (c≤(32:Int)))) {loc:=[(p' "code",SV.int c)],hp:=hp,sk:=sk,tp:=[],rst:=rs,fz:=fz}) ∧
 (decide (c≤(32:Int))=false →
  ((c==(160:Int))=true→K (SV.bool (c==(160:Int))) {loc:=[(p' "code",SV.int c)],hp:=hp,sk:=sk,tp:=[],rst:=rs,fz:=fz}) ∧
   ((c==(160:Int))=false→K (SV.bool (QX gw λ(x:Int)=>x==c)) {loc:=[(p' "code",SV.int c)],hp:=hp,sk:=sk,tp:=[],rst:=rs,fz:=fz}))) →
  bw (bE {cs:=aK (aJ 39),call:=aw [],ke:=ke} (xt w sc) 12) (bz (aJ 39)) {loc:=[("code",.int c)],hp:=hp,sk:=sk,tp:=[],rst:=rs,fz:=fz} (λfl st=>K (bW fl) st):=
 Qg (by kernel_rfl)
theorem qc (w:World)(sc:Sc)(ke:KX)(c p:Int)(hp sk:List HE)(rs fz:ah)(K:SV→St→Prop) :
  ((decide (c≥(1114112:Int))=true→False) ∧
 (decide (c≥(1114112:Int))=false →
  (decide ((55296:Int)≤c)=true →
    (decide (c<(57344:Int))=true→False) ∧
     (decide (c<(57344:Int))=false →
      ((0:Int)≤c∧c≤(1114111:Int)) ∧
       K (SV.str {cps:=#[Pf c]}) {loc:=[(p' "code",SV.int c),(p' "place",SV.int p)],hp:=hp,sk:=sk,tp:=[],rst:=rs,fz:=fz})) ∧
   (decide ((55296:Int)≤c)=false →
    ((0:Int)≤c∧c≤(1114111:Int)) ∧
     K (SV.str {cps:=#[Pf c]}) {loc:=[(p' "code",SV.int c),(p' "place",SV.int p)],hp:=hp,sk:=sk,tp:=[],rst:=rs,fz:=fz}))) →
  bw (bE {cs:=aK (aJ 45),call:=aw [],ke:=ke} (xt w sc) 12) (bz (aJ 45)) {loc:=[("code",.int c),("place",.int p)],hp:=hp,sk:=sk,tp:=[],rst:=rs,fz:=fz} (λfl st=>K (bW fl) st):=
 Qg (by kernel_rfl)
def jE:cK:=λargs st k _=>BL args λc r=>pY r (k (.bool (brk c)) st)
def yS:cK:=λargs st k _=>BL args λc r=>BL r λ_ r=>pY r ((0≤c∧c<55296)∧k (.str ⟨#[c.toNat]⟩) st)
theorem nI (O:X.Ok)(hn:2≤X.n):az X 178 jE:=by
 refine aP (n:=0) HZ KJ O hn λst args k ke hc=>?_
 obtain⟨c,r,rfl,h1⟩:=l9 hc
 rcases fq h1 with⟨rfl,hc⟩
 refine bD.mk (λtl=>{cs:=aK (aJ 39),call:=aw [],ke:=ke}) rfl rfl (λ_=>rfl) (λ_ X' S=>ax S dJ) λtl=>?_
 have e:∀x,brk c=x→bg st tl k (.bool x) ⟨[("code",.int c)],st.hp,st.sk,[],tl++st.rst,st.fz⟩:=λx hx=>bg.same (sv':=.bool x) (by rw[←hx];exact hc) rfl rfl rfl rfl λD v r=>r
 refine nW _ _ _ c st.hp st.sk (tl++st.rst) st.fz _ ⟨λh=>e _ ?_,λh=>⟨λh2=>e _ ?_,λh2=>e _ ?_⟩⟩
 ·unfold brk;rw[h];rfl
 ·unfold brk;rw[h,h2];rfl
 ·unfold brk;rw[h,h2];rfl
theorem BB (O:X.Ok)(hn:2≤X.n):az X 218 yS:=by
 refine aP (n:=0) KR Jn O hn λst args k ke hc=>?_
 obtain⟨c,r,rfl,h2⟩:=l9 hc
 obtain⟨p,r,rfl,h3⟩:=l9 h2
 obtain⟨rfl,⟨h0,h1⟩,hc⟩:=fq h3
 refine bD.mk (λtl=>{cs:=aK (aJ 45),call:=aw [],ke:=ke}) rfl rfl (λ_=>rfl) (λ_ X' S=>ax S dJ) λtl=>?_
 have e:=bg.same (st:=st) (tl:=tl) (st₂:=⟨[("code",.int c),("place",.int p)],st.hp,st.sk,[],tl++st.rst,st.fz⟩) (sv:=.str ⟨#[c.toNat]⟩) hc rfl rfl rfl rfl λD v r=>r
 have h2:c≤1114111:=by lia
 refine qc _ _ _ c p st.hp st.sk (tl++st.rst) st.fz _ ⟨λh=>?_,λh=>⟨λh2=>⟨λh3=>?_,λh3=>⟨⟨h0,by lia⟩,e⟩⟩,λ_=>⟨⟨h0,h2⟩,e⟩⟩⟩
 ·have:=of_decide_eq_true h;lia
 ·have:=of_decide_eq_true h2;lia
theorem gk {q:Int}{e3:HE} :
  qE ⟨loc,.nlist a cs::e1::e2::e3::cb b d p::r,sk,tp,rst,fz⟩ q=⟨loc,.nlist a cs::e1::e2::e3::cb b d q::r,sk,tp,rst,fz⟩:=rfl
def hQ:cK:=λargs st k _=>GY 4 args (eL st λcs p=>(0≤p∧p≤cs.length∧cs.length<2^40∧jX cs)∧k .none (qE st (cA (λc=>c !=10) cs p.toNat:Nat)))
noncomputable def nl (c:Int):Bool:=c !=10
theorem Ll {i:Nat}(h:(!QX [(-1:Int),(10:Int)] λ(x:Int)=>x==ak cs i)=true):i<cs.length∧cA nl cs i=cA nl cs (i+1):=by
 simp only[RU,List.any_nil,Bool.or_false,PZ,SE,beq_eq_false_iff_ne]at h
 have hlt:i<cs.length:=by
  rcases Sf i cs.length with h1|h1
  ·exact h1
  ·exact absurd (jD h1).symm h.1
 rw[hO hlt]at h
 exact⟨hlt,ej hlt (by unfold nl;simpa using λe=>h.2 e.symm)⟩
theorem DZ {i:Nat}(hok:jX cs)(h:(!QX [(-1:Int),(10:Int)] λ(x:Int)=>x==ak cs i)=false):cA nl cs i=i:=by
 simp only[RU,List.any_nil,Bool.or_false,QZ,Rt,beq_iff_eq]at h
 rcases Sf i cs.length with h1|h1
 ·rw[hO h1]at h
  refine mU h1 ?_
  rcases h with h|h
  ·exact absurd h (i5 (P:=λx=>¬-1=x) (ng hok h1) (by decide))
  ·rw[←h];rfl
 ·exact fy h1
theorem m5 (O:X.Ok)(hn:4≤X.n):az X 247 hQ:=by
 refine aP (n:=2) Jl GC O hn λst args k ke hc=>?_
 rcases zK hc with⟨rfl,h⟩
 clear hc
 obtain⟨a,cs,e1,e2,e3,b,d,p,r,hhp,⟨h0,h1,hz,hok⟩,hc⟩:=bP h
 clear h
 obtain⟨loc,hp,sk,tp,rst,fz⟩:=st
 dsimp only at hhp
 subst hhp
 obtain⟨q,rfl⟩:∃q:Nat,p=(q:Int):=⟨p.toNat,by lia⟩
 rw[gk,Qf]at hc
 have h1:q≤cs.length:=Int.ofNat_le.mp h1
 let T0:={i:Nat // i≤cs.length∧cA nl cs i=cA nl cs q}
 refine bD.mk (λtl=>{cs:=aK (aI 46 2),call:=aw [(240,eN)],ke:=ke,inv:=λ_ _=>some {ι:=T0,S:=λi=>{loc:=[("self",.ref 4)],hp:=.nlist a cs::e1::e2::e3::cb b d (i.1:Int)::r,sk:=sk,tp:=[],rst:=tl++rst,fz:=fz},μ:=λi=>cs.length-i.1,ok:=λ_ h=>h}}) rfl rfl (λ_=>rfl)
  (λ_ X' S=>ax S (cI (gG S.ok (by rw[S.n];decide)) dJ)) λtl=>?_
 refine mq _ _ _ a b d cs q e1 e2 e3 r sk (tl++rst) fz _ T0 (λi=>(i.1:Int)) (λi=>cs.length-i.1) ⟨.refl ⟨⟨q,h1,rfl⟩,rfl⟩,λi=>⟨rfl,⟨PG _,hz⟩,λa1=>⟨λh=>?_,λh=>?_⟩⟩⟩
 ·have hy:=Ll h
  exact Ent.weak (loc':=[("self",.ref 4)]) (λ_ _ h=>h) (λx sv h=>by rcases mB h with⟨_,h⟩|⟨_,h⟩<;>cases h;rfl) ⟨⟨i.1+1,hy.1,hy.2▸i.2.2⟩,Qk hy.1 (P0 _),rfl⟩
 ·have e:=DZ hok h
  rw[i.2.2]at e
  rw[show cA (λc=>c !=10) cs q=i.1 from e]at hc
  exact bg.same (sv':=.none) hc rfl rfl rfl rfl λD v r=>r
noncomputable def bS:List Int→Bool→Nat
 |[],_=>0
 |c::r,true=>1+bS r (c !=10)
 |c::r,false=>if c=59 then 1+bS r true else if c=10∨c=32 then 1+bS r false else 0
theorem yM:bS (c::r) true=1+bS r (c !=10):=rfl
theorem oM:bS (c::r) false=if c=59 then 1+bS r true else if c=10∨c=32 then 1+bS r false else 0:=rfl
noncomputable def ae (cs:List Int)(p:Nat):Nat:=p+bS (cs.drop p) false
theorem i8:∀l:List Int,bS l true=(l.takeWhile (λc=>c !=10)).length+bS (l.drop (l.takeWhile (λc=>c !=10)).length) false
 |[]=>rfl
 |c::r=>by
  rw[yM]
  cases h:(c !=10)with
  |true=>
   rw[Rc,h,if_pos rfl,PQ,List.drop_succ_cons,i8 r]
   lia
  |false=>
   rw[Rc,h]
   have hc:c=10:=by simpa using h
   subst hc
   rw[if_neg (by decide)]
   show 1+bS r false=0+bS (10::r) false
   rw[oM,if_neg (by decide),if_pos (.inl rfl),Sh]
theorem i4 {cs:List Int}(h:p<cs.length):cs.drop p=cs.getD p 0::cs.drop (p+1):=by
 rw[Qx h]
 have:cs.getD p 0=cs[p]:=by simp[h]
 rw[this]
theorem kU (h:cs.length≤p):ae cs p=p:=by
 unfold ae;rw[List.drop_eq_nil_iff.mpr h];rfl
theorem jc (h:p<cs.length)(e:cs.getD p 0=59):ae cs p=ae cs (cA (λc=>c !=10) cs p):=by
 unfold ae cA
 rw[i4 h,e]
 rw[Rc,if_pos (by decide),PQ]
 have:bS (59::cs.drop (p+1)) false=1+bS (cs.drop (p+1)) true:=if_pos rfl
 rw[this,i8]
 rw[List.drop_drop]
 have e2:p+1+(List.takeWhile (λc=>c !=10) (cs.drop (p+1))).length=p+((List.takeWhile (λc=>c !=10) (cs.drop (p+1))).length+1):=by lia
 rw[e2]
 lia
theorem il (h:p<cs.length)(e:cs.getD p 0=10∨cs.getD p 0=32):ae cs p=ae cs (p+1):=by
 unfold ae
 rw[i4 h]
 have:bS (cs.getD p 0::cs.drop (p+1)) false=1+bS (cs.drop (p+1)) false:=by
  rw[oM,if_neg (by lia),if_pos e]
 rw[this];lia
theorem jg (h:p<cs.length)(e1:cs.getD p 0≠59)(e2:cs.getD p 0≠10)(e3:cs.getD p 0≠32):ae cs p=p:=by
 unfold ae
 rw[i4 h,oM,if_neg e1,if_neg (λq=>q.elim e2 e3)]
 rfl
theorem f9:∀(l:List Int)(b:Bool),bS l b≤l.length
 |[],_=>P5 _
 |c::r,true=>by
  rw[yM];have:=f9 r (c !=10);rw[PQ];lia
 |c::r,false=>by
  rw[oM]
  have h1:=f9 r true
  have h2:=f9 r false
  rw[PQ]
  split
  ·lia
  ·split<;>lia
theorem dA (h:p≤cs.length):ae cs p≤cs.length:=by
 unfold ae
 have:=f9 (cs.drop p) false
 rw[Ri]at this
 lia
theorem dz:p≤ae cs p:=PY _ _
set_option tactic.hygienic true in
theorem eK:∀(l:List Int)(b:Bool),bS l b<l.length→l.getD (bS l b) 0≠59∧l.getD (bS l b) 0≠10∧l.getD (bS l b) 0≠32
 |[],_,h=>absurd h (QW 0)
 |c::r,true,h=>by
  rw[yM]at h ⊢
  rw[PQ]at h
  have:=eK r (c !=10) (by lia)
  rw[RL,SM]
  exact this
 |c::r,false,h=>by
  rw[oM]at h ⊢
  rw[PQ]at h
  split at h
  ·rename_i e
   rw[if_pos e,RL,SM]
   exact eK r true (by lia)
  ·rename_i e
   split at h
   ·rename_i e2
    rw[if_neg e,if_pos e2,RL,SM]
    exact eK r false (by lia)
   ·rename_i e2
    rw[if_neg e,if_neg e2,List.getD_cons_zero]
    lia
theorem B4 (n j:Nat):n-(j+1)=n-1-j:=Nat.sub_right_comm n j 1
theorem CA (h:j<n):n-1-j+1=n-j:=(congrArg (·+1) (B4 n j)).symm.trans (Nat.sub_add_cancel (n:=n-j) (m:=1) (Tp h))
theorem cT (hp:p≤cs.length)(h:ae cs p<cs.length):cs.getD (ae cs p) 0≠59∧cs.getD (ae cs p) 0≠10∧cs.getD (ae cs p) 0≠32:=by
 unfold ae at h ⊢
 have:=eK (cs.drop p) false (by rw[Ri];exact Nat.lt_sub_of_add_lt (RL _ _▸h))
 have e:(cs.drop p).getD (bS (cs.drop p) false) 0=cs.getD (p+bS (cs.drop p) false) 0:=by
  simp[QN]
 rw[e]at this
 exact this
noncomputable def cj (cs:List Int)(p q:Nat):Str:=⟨(((cs.drop p).take (q-p)).map Pf).toArray⟩
noncomputable def cX (cs:List Int)(p q:Nat):List Str:=((cs.drop p).take (q-p)).map λc=>⟨#[c.toNat]⟩
theorem qP (l:List Int):∀acc:Array Nat,(l.map λc=>(⟨#[c.toNat]⟩:Str)).foldl (λacc p=>acc++Str.empty.cps++p.cps) acc=acc++(l.map Pf).toArray:=by
 induction l with
 |nil=>intro acc;simp
 |cons c r ih=>
  intro acc
  rw[QJ,TM,ih,QJ]
  have:Str.empty.cps=#[]:=rfl
  rw[this]
  simp
theorem jl (cs:List Int)(p q:Nat):bU (cX cs p q)=cj cs p q:=by
 unfold bU cX cj Builtin.Str.glued
 cases h:(cs.drop p).take (q-p)with
 |nil=>rfl
 |cons c r=>
  rw[QJ,List.drop_succ_cons,Si,qP]
  show(⟨#[c.toNat]++(r.map Pf).toArray⟩:Str)=_
  congr 1
  simp
theorem ql {q:Nat}(h:p≤q)(hq:q<cs.length):cX cs p (q+1)=cX cs p q++[⟨#[(cs.getD q 0).toNat]⟩]:=by
 unfold cX
 have e:q+1-p=(q-p)+1:=Nat.succ_sub h
 rw[e,TQ]
 have e2:(cs.drop p)[q-p]?=some (cs.getD q 0):=by
  rw[List.getElem?_drop]
  have:p+(q-p)=q:=Nat.add_sub_of_le h
  rw[this]
  simp[hq]
 rw[e2]
 simp
theorem lg {cs:List Int}{p q:Nat}:(cX cs p q).length≤cs.length:=by
 unfold cX
 rw[PM,RM,Ri]
 exact Pk (TB _ _) (TL _ _)
theorem oF {cs:List Int}{p q:Nat}:(cj cs p q).length≤cs.length:=by
 show(((cs.drop p).take (q-p)).map Pf).toArray.size≤_
 rw[Pw,PM,RM,Ri]
 lia
noncomputable def aW (cs:List Int)(p:Nat):Nat:=cA (λc=>!brk c) cs p
set_option genCtorIdx true in
inductive Tk where
 |opn (b:Bool)
 |cls (b:Bool)
 |quo
 |dot
 |sym (x:Str)
noncomputable def aS (cs:List Int)(s:Nat):Tk×Nat:=
 if cs.getD s 0=40 then(.opn true,s+1)
 else if cs.getD s 0=41 then(.cls true,s+1)
 else if cs.getD s 0=91 then(.opn false,s+1)
 else if cs.getD s 0=93 then(.cls false,s+1)
 else if cs.getD s 0=39 then(.quo,s+1)
 else(if cj cs s (aW cs s)=p' "." then .dot else .sym (cj cs s (aW cs s)),aW cs s)
theorem sa (hs:s<cs.length)(h:brk (cs.getD s 0)=false):s<aW cs s:=by
 unfold aW
 rw[ej hs (by rw[h];rfl)]
 exact PV (P0 s) sr
theorem rT (h:jF c=true)(h1:c≠40)(h2:c≠41)(h3:c≠91)(h4:c≠93)(h5:c≠39)(h6:c≠59)(h7:c≠10)(h8:c≠32):brk c=false:=by
 rcases hV h with rfl|rfl|rfl|rfl|rfl|rfl|rfl|rfl|rfl|rfl|rfl|rfl<;>first|contradiction|kernel_rfl
theorem JR (h:jF c=true)(hb:brk c=false):ve c.toNat=true:=by
 rcases hV h with rfl|rfl|rfl|rfl|rfl|rfl|rfl|rfl|rfl|rfl|rfl|rfl<;>first|rfl|(exact absurd hb (by decide +kernel))
theorem iR (hs:s<cs.length)(hok:jX cs)(h6:cs.getD s 0≠59)(h7:cs.getD s 0≠10)(h8:cs.getD s 0≠32):s<(aS cs s).2:=by
 unfold aS
 repeat' split
 all_goals first|exact P0 s|skip
 all_goals exact sa hs (rT (ng hok hs) (by assumption) (by assumption) (by assumption) (by assumption) (by assumption) h6 h7 h8)
noncomputable def gM (cs:List Int):Nat→Nat→List (Tk×Nat)
 |0,_=>[]
 |n+1,p=>if ae cs p<cs.length then((aS cs (ae cs p)).1,ae cs p)::gM cs n (aS cs (ae cs p)).2 else[]
theorem kH:gM cs (n+1) p=if ae cs p<cs.length then((aS cs (ae cs p)).1,ae cs p)::gM cs n (aS cs (ae cs p)).2 else[]:=rfl
theorem pE (hok:jX cs):∀(n m p:Nat),p≤cs.length→cs.length-p<n→cs.length-p<m→gM cs n p=gM cs m p:=by
 intro n
 induction n with
 |zero=>intro m p _ h;exact absurd h (RY _)
 |succ n ih=>
  intro m p hp h1 h2
  cases m with
  |zero=>exact absurd h2 (RY _)
  |succ m=>
   rw[kH,kH]
   by_cases hs:ae cs p<cs.length
   ·rw[if_pos hs,if_pos hs]
    obtain⟨a,b,c⟩:=cT hp hs
    have g:=iR hs hok a b c
    have ge:p≤ae cs p:=dz
    rcases Sf cs.length (aS cs (ae cs p)).2 with hl|hl
    ·exfalso
     have:(aS cs (ae cs p)).2≤cs.length:=by
      unfold aS
      repeat' split
      all_goals first|exact hs|exact iO (QD hs)
     exact Nat.not_le_of_lt hl this
    ·have l:=Pr ge g
     have d:=Qk (PV l hl) l
     rw[ih m _ hl (PV d (Nat.le_of_lt_succ h1)) (PV d (Nat.le_of_lt_succ h2))]
   ·rw[if_neg hs,if_neg hs]
theorem f5 (hs:s<cs.length):(aS cs s).2≤cs.length:=by
 unfold aS
 repeat' split
 all_goals first|exact hs|exact iO (QD hs)
noncomputable def toks (cs:List Int)(p:Nat):List (Tk×Nat):=gM cs (cs.length-p+1) p
theorem fg (h:cs.length≤ae cs p):toks cs p=[]:=by
 unfold toks;rw[kH,if_neg (by lia)]
theorem ec (hok:jX cs)(hp:p≤cs.length)(h:ae cs p<cs.length):toks cs p=((aS cs (ae cs p)).1,ae cs p)::toks cs (aS cs (ae cs p)).2:=by
 obtain⟨a,b,c⟩:=cT hp h
 have g:=iR h hok a b c
 have ge:p≤ae cs p:=dz
 have e:toks cs p=((aS cs (ae cs p)).1,ae cs p)::gM cs (cs.length-p) (aS cs (ae cs p)).2:=by
  unfold toks;rw[kH,if_pos h]
 rw[e]
 congr 1
 have l:=Pr ge g
 exact pE hok _ _ _ (f5 h) (Qk (PV l (f5 h)) l) (P0 _)
structure cQ where
 w:Nat
 things:List Pz
 dots:Nat
 tail:Pz
noncomputable def gI:Pz:=.str "nil"
noncomputable def iw (a b:Pz):Pz:=.list [.str "cons",a,b]
noncomputable def dZ (d:Pz):Pz:=iw (.str "quote") (iw d gI)
noncomputable def fH (tail:Pz):List Pz→Pz
 |[]=>tail
 |d::r=>iw d (fH tail r)
noncomputable def bk (f:cQ):Pz:=if f.w=1 then .list (.str "vector"::f.things)else fH f.tail f.things
set_option genCtorIdx true in
inductive nh where
 |data (ds:List Pz)
 |bad (w:Str)(p:Nat)
 |fin (p:Nat)
noncomputable def bB:List cQ→List Pz→Pz→Option (List cQ×List Pz)
 |[],ds,d=>some ([],ds++[d])
 |f::r,ds,d=>if f.w=2 then bB r ds (dZ d)
  else if f.dots=0 then some ({f with things:=f.things++[d]}::r,ds)
  else if f.dots=1 then some ({f with dots:=2,tail:=d}::r,ds)
  else none
theorem JH:bB (f::r) ds d=if f.w=2 then bB r ds (dZ d)
  else if f.dots=0 then some ({f with things:=f.things++[d]}::r,ds)
  else if f.dots=1 then some ({f with dots:=2,tail:=d}::r,ds)
  else none:=rfl
noncomputable def ik:Tk→Str
 |.opn true=>"("
 |.opn false=>"["
 |.cls true=>")"
 |.cls false=>"]"
 |.quo=>"'"
 |.dot=>"."
 |.sym x=>x
noncomputable def cB:Str:="more than one thing behind a dot"
noncomputable def fC (fs:List cQ):Option (List cQ):=match fs with
 |f::r=>if f.w=0∧f.dots=0 then some ({f with dots:=1}::r)else none
 |[]=>none
noncomputable def ey (b:Bool)(fs:List cQ):Option (cQ×List cQ):=match fs with
 |f::r=>if f.w=(if b then 0 else 1)∧f.dots≠1 then some (f,r)else none
 |[]=>none
noncomputable def bx (n:Nat):List (Tk×Nat)→List cQ→List Pz→nh
 |[],[],ds=>.data ds
 |[],_::_,_=>.fin n
 |(t,p)::ts,fs,ds=>match t with
  |.opn b=>bx n ts (⟨if b then 0 else 1,[],0,gI⟩::fs) ds
  |.quo=>bx n ts (⟨2,[],0,gI⟩::fs) ds
  |.dot=>match fC fs with
   |some fs'=>bx n ts fs' ds
   |none=>.bad "." p
  |.cls b=>match ey b fs with
   |none=>.bad (ik (.cls b)) p
   |some (f,r)=>match bB r ds (bk f)with
    |some (fs',ds')=>bx n ts fs' ds'
    |none=>.bad cB p
  |.sym x=>match bB fs ds (.str x)with
   |some (fs',ds')=>bx n ts fs' ds'
   |none=>.bad cB p
theorem m7 {n p:Nat}{ts:List (Tk×Nat)}{fs:List cQ}{ds:List Pz}:bx n ((.dot,p)::ts) fs ds=match fC fs with|some fs'=>bx n ts fs' ds|none=>.bad "." p:=rfl
theorem mn {n p:Nat}{ts:List (Tk×Nat)}{fs:List cQ}{ds:List Pz}{b:Bool}:bx n ((.cls b,p)::ts) fs ds=match ey b fs with
 |none=>.bad (ik (.cls b)) p
 |some (f,r)=>match bB r ds (bk f)with
  |some (fs',ds')=>bx n ts fs' ds'
  |none=>.bad cB p:=rfl
theorem D6 {n p:Nat}{ts:List (Tk×Nat)}{fs:List cQ}{ds:List Pz}{x:Str}:bx n ((.sym x,p)::ts) fs ds=match bB fs ds (.str x)with
 |some (fs',ds')=>bx n ts fs' ds'
 |none=>.bad cB p:=rfl
theorem pV (hok:jX cs):bG (cj cs s (aW cs s)):=by
 intro c hc
 have hc:c∈(((cs.drop s).take (aW cs s-s)).map Pf).toArray:=hc
 rw[Tq,List.mem_map]at hc
 obtain⟨i,hi,rfl⟩:=hc
 have e:aW cs s-s=((cs.drop s).takeWhile (λc=>!brk c)).length:=by unfold aW cA;exact QG _ _
 rw[e]at hi
 have e2:(cs.drop s).take ((cs.drop s).takeWhile (λc=>!brk c)).length=(cs.drop s).takeWhile (λc=>!brk c):=by
  exact(List.prefix_iff_eq_take.mp (List.takeWhile_prefix _)).symm
 rw[e2]at hi
 have h1:brk i=false:=by
  have:=List.all_takeWhile (l:=cs.drop s) (p:=λc=>!brk c)
  have:=List.all_eq_true.mp this i hi
  simpa using this
 exact JR (hok i (List.mem_of_mem_drop ((List.takeWhile_sublist _).mem hi))) h1
theorem zf (h:bG x)(hx:0<x.cps.size):(PA x).cps.size≠0:=by
 intro e
 have e0:(placed x λi _=>RV x.cps i)=#[]:=Array.size_eq_zero_iff.mp e
 unfold placed at e0
 have:=Array.flatten_eq_empty_iff.mp e0 (RV x.cps 0).toArray (by
  rw[Array.mem_mapIdx]
  exact⟨0,hx,rfl⟩)
 unfold RV at this
 rw[RN hx]at this
 have hw:=h _ (QK hx)
 have ne:(x.cps[0]==0x3A3)=false:=by
  rcases dq hw with e|e|e|e<;>rw[e]<;>rfl
 dsimp only at this
 rw[ne,Bool.false_and,if_neg (by decide),lx hw]at this
 cases this
theorem nt (x y:Str):(Ph x y).1.length≤x.length∧(Ph x y).2.2.length≤x.length:=by
 unfold Ph
 have sub:∀i j,Pg ⟨x.cps.extract i j⟩≤x.length:=λi j=>by
  show(x.cps.extract i j).size≤x.cps.size
  rw[Array.size_extract];exact Pk (TL _ _) (TB _ _)
 split
 ·exact⟨sub _ _,sub _ _⟩
 ·exact⟨P5 _,Ql _⟩
theorem zR (x y:Str):(x++y).length=x.length+y.length:=Sj
theorem cO:∀{loc:List (Str×SV)},(loc.all λp=>p.2.c5)=true→look x loc=some sv→sv.c5=true
 |[],_,h=>nomatch h
 |(y,w)::r,hl,h=>by
  rw[Qb,Pe]at hl
  rcases mB h with⟨_,h⟩|⟨_,h⟩
  ·cases h;exact hl.1
  ·exact cO hl.2 h
theorem St.kk {st:St}(h:st.hp=H):∃loc sk tp rst fz,st=⟨loc,H,sk,tp,rst,fz⟩:=⟨st.loc,st.sk,st.tp,st.rst,st.fz,by rw[←h]⟩
theorem St.litS {st:St}(h:st.sk=S):∃loc hp tp rst fz,st=⟨loc,hp,S,tp,rst,fz⟩:=⟨st.loc,st.hp,st.tp,st.rst,st.fz,by rw[←h]⟩
theorem St.lit {st:St}(h:st.hp=H)(k:st.sk=S):∃loc tp rst fz,st=⟨loc,H,S,tp,rst,fz⟩:=⟨st.loc,st.tp,st.rst,st.fz,by rw[←h,←k]⟩
theorem bg.Hh {st:St}(h:bg st tl k sv {st₂ with fz:=z}) (hz:z.Sublist st₂.fz):bg st tl k sv st₂:=λX s v I r=>
 h X s v (I.sub (λ_ _ e=>e) ((QA _).append hz)) r
def zv (x:Str):Prop:=bG x∧x.length≤100000
theorem zv.slice (h:zv x)(l u:Option Int):zv (PC x l u):=⟨h.1.slice l u,Pk (Txt.slice_le x l u) h.2⟩
def vR (pr:Str→Prop):cK:=λargs st k _=>ou mW (w8 10) args λy _=>pr y∧k .none st
def pO (pr:Str→Prop):cK:=λargs st k _=>qT mW args λy=>pr y∧k .none st
def gW (pr:Str→Prop):cK:=λargs st k _=>qT mW args λy=>pr y∧k (.lit false) st
abbrev kE (x:Str)(hp sk:List HE)(rs fz:ah)(K:SV→St→Prop)(it:Nat→Str)(j I:Nat)(o:Obj):Prop:=
  (decide (Qw (p' "0123456789abcdefghijklmnopqrstuvwxyz") (it j)≥(10:Int))=true→(I,o)::rs=(I,o)::rs∧K SV.none {loc:=[("words",SV.str x),("radix",SV.num (10:Int)),("body",SV.str x),("found",SV.num (0:Int)),("sign",SV.str (it j)),("figure",SV.int (Qw (p' "0123456789abcdefghijklmnopqrstuvwxyz") (it j)))],hp:=hp,sk:=sk,tp:=[],rst:=rs,fz:=fz})∧(decide (Qw (p' "0123456789abcdefghijklmnopqrstuvwxyz") (it j)≥(10:Int))=false→Tw (0:Int) (10:Int)∧(I,o)::rs=(I,o)::rs∧Ent {loc:=[("words",SV.str x),("radix",SV.num (10:Int)),("body",SV.str x),("found",SV.int ((0:Int)*(10:Int)+Qw (p' "0123456789abcdefghijklmnopqrstuvwxyz") (it j))),("sign",SV.str (it j)),("figure",SV.int (Qw (p' "0123456789abcdefghijklmnopqrstuvwxyz") (it j)))],hp:=hp,sk:=sk,tp:=[],rst:=rs,fz:=fz} λ(st':St)=>∃(i':Unit),j+(1:Nat)=0∧st'={loc:=[("words",SV.str x),("radix",SV.num (10:Int)),("body",SV.str x),("found",SV.num (0:Int))],hp:=hp,sk:=sk,tp:=[],rst:=rs,fz:=fz})
abbrev j4 (x:Str)(hp sk:List HE)(rs fz:ah)(K:SV→St→Prop)(n:Nat)(it:Nat→Str):Prop:=
  (∀(j:Nat)(i:Unit)(I:Nat)(o:Obj),j<n→j=0→(decide (Qw (p' "0123456789abcdefghijklmnopqrstuvwxyz") (it j)<(0:Int))=true→(I,o)::rs=(I,o)::rs∧K SV.none {loc:=[("words",SV.str x),("radix",SV.num (10:Int)),("body",SV.str x),("found",SV.num (0:Int)),("sign",SV.str (it j)),("figure",SV.int (Qw (p' "0123456789abcdefghijklmnopqrstuvwxyz") (it j)))],hp:=hp,sk:=sk,tp:=[],rst:=rs,fz:=fz})∧(decide (Qw (p' "0123456789abcdefghijklmnopqrstuvwxyz") (it j)<(0:Int))=false→kE x hp sk rs fz K it j I o))∧∀(i:Unit),n=0→Pg x≤1000000∧((PC x none (some (1:Int))==p' "-")=true→K (SV.int ((0:Int)-(0:Int))) {loc:=[("words",SV.str x),("radix",SV.num (10:Int)),("body",SV.str x),("found",SV.num (0:Int))],hp:=hp,sk:=sk,tp:=[],rst:=rs,fz:=fz})∧((PC x none (some (1:Int))==p' "-")=false→K (SV.num (0:Int)) {loc:=[("words",SV.str x),("radix",SV.num (10:Int)),("body",SV.str x),("found",SV.num (0:Int))],hp:=hp,sk:=sk,tp:=[],rst:=rs,fz:=fz})
abbrev j8 (x:Str)(hp sk:List HE)(rs fz:ah)(K:SV→St→Prop)(n:Nat)(it:Nat→Str)(a:Nat):Prop:=
  ((PC x (some (1:Int)) none==p' "")=true→K SV.none {loc:=[("words",SV.str x),("radix",SV.num (10:Int)),("body",SV.str (PC x (some (1:Int)) none))],hp:=hp,sk:=sk,tp:=[HE.tup a [SV.txt (p' "+"),SV.txt (p' "-")]],rst:=rs,fz:=fz})∧((PC x (some (1:Int)) none==p' "")=false→Qc (Pg (PA (PC x (some (1:Int)) none)))=false∧(n=Py (SS (PA (PC x (some (1:Int)) none)))∧∀(j:Nat),[SV.str (it j)]=[SV.str {cps:=#[Array.getD (SS (PA (PC x (some (1:Int)) none))) j (0:Nat)]}])∧(∀(j:Nat),j<n→1=1)∧(Ent {loc:=[("words",SV.str x),("radix",SV.num (10:Int)),("body",SV.str (PC x (some (1:Int)) none)),("found",SV.num (0:Int))],hp:=hp,sk:=sk,tp:=[HE.tup a [SV.txt (p' "+"),SV.txt (p' "-")]],rst:=rs,fz:=fz} λ(st':St)=>∃(i:Unit),0=0∧st'={loc:=[("words",SV.str x),("radix",SV.num (10:Int)),("body",SV.str x),("found",SV.num (0:Int))],hp:=hp,sk:=sk,tp:=[],rst:=rs,fz:=fz})∧j4 x hp sk rs fz K n it)
abbrev j7 (x:Str)(hp sk:List HE)(rs fz:ah)(K:SV→St→Prop)(it:Nat→Str)(j I:Nat)(o:Obj):Prop:=
  (decide (Qw (p' "0123456789abcdefghijklmnopqrstuvwxyz") (it j)≥(10:Int))=true→(I,o)::rs=(I,o)::rs∧K SV.none {loc:=[("words",SV.str x),("radix",SV.num (10:Int)),("body",SV.str x),("found",SV.num (0:Int)),("sign",SV.str (it j)),("figure",SV.int (Qw (p' "0123456789abcdefghijklmnopqrstuvwxyz") (it j)))],hp:=hp,sk:=sk,tp:=[],rst:=rs,fz:=fz})∧(decide (Qw (p' "0123456789abcdefghijklmnopqrstuvwxyz") (it j)≥(10:Int))=false→Tw (0:Int) (10:Int)∧(I,o)::rs=(I,o)::rs∧Ent {loc:=[("words",SV.str x),("radix",SV.num (10:Int)),("body",SV.str x),("found",SV.int ((0:Int)*(10:Int)+Qw (p' "0123456789abcdefghijklmnopqrstuvwxyz") (it j))),("sign",SV.str (it j)),("figure",SV.int (Qw (p' "0123456789abcdefghijklmnopqrstuvwxyz") (it j)))],hp:=hp,sk:=sk,tp:=[],rst:=rs,fz:=fz} λ(st':St)=>∃(i':Unit),j+(1:Nat)=0∧st'={loc:=[("words",SV.str x),("radix",SV.num (10:Int)),("body",SV.str x),("found",SV.num (0:Int))],hp:=hp,sk:=sk,tp:=[],rst:=rs,fz:=fz})
abbrev jY (x:Str)(hp sk:List HE)(rs fz:ah)(K:SV→St→Prop)(n:Nat)(it:Nat→Str):Prop:=
  (∀(j:Nat)(i:Unit)(I:Nat)(o:Obj),j<n→j=0→(decide (Qw (p' "0123456789abcdefghijklmnopqrstuvwxyz") (it j)<(0:Int))=true→(I,o)::rs=(I,o)::rs∧K SV.none {loc:=[("words",SV.str x),("radix",SV.num (10:Int)),("body",SV.str x),("found",SV.num (0:Int)),("sign",SV.str (it j)),("figure",SV.int (Qw (p' "0123456789abcdefghijklmnopqrstuvwxyz") (it j)))],hp:=hp,sk:=sk,tp:=[],rst:=rs,fz:=fz})∧(decide (Qw (p' "0123456789abcdefghijklmnopqrstuvwxyz") (it j)<(0:Int))=false→j7 x hp sk rs fz K it j I o))∧∀(i:Unit),n=0→Pg x≤1000000∧((PC x none (some (1:Int))==p' "-")=true→K (SV.int ((0:Int)-(0:Int))) {loc:=[("words",SV.str x),("radix",SV.num (10:Int)),("body",SV.str x),("found",SV.num (0:Int))],hp:=hp,sk:=sk,tp:=[],rst:=rs,fz:=fz})∧((PC x none (some (1:Int))==p' "-")=false→K (SV.num (0:Int)) {loc:=[("words",SV.str x),("radix",SV.num (10:Int)),("body",SV.str x),("found",SV.num (0:Int))],hp:=hp,sk:=sk,tp:=[],rst:=rs,fz:=fz})
abbrev j6 (x:Str)(hp sk:List HE)(rs fz:ah)(K:SV→St→Prop)(n:Nat)(it:Nat→Str)(a:Nat):Prop:=
  (QX [p' "+",p' "-"] λ(x_1:Str)=>x_1==PC x none (some (1:Int)))=false→((x==p' "")=true→K SV.none {loc:=[("words",SV.str x),("radix",SV.num (10:Int)),("body",SV.str x)],hp:=hp,sk:=sk,tp:=[HE.tup a [SV.txt (p' "+"),SV.txt (p' "-")]],rst:=rs,fz:=fz})∧((x==p' "")=false→Qc (Pg (PA x))=false∧(n=Py (SS (PA x))∧∀(j:Nat),[SV.str (it j)]=[SV.str {cps:=#[Array.getD (SS (PA x)) j (0:Nat)]}])∧(∀(j:Nat),j<n→1=1)∧(Ent {loc:=[("words",SV.str x),("radix",SV.num (10:Int)),("body",SV.str x),("found",SV.num (0:Int))],hp:=hp,sk:=sk,tp:=[HE.tup a [SV.txt (p' "+"),SV.txt (p' "-")]],rst:=rs,fz:=fz} λ(st':St)=>∃(i:Unit),0=0∧st'={loc:=[("words",SV.str x),("radix",SV.num (10:Int)),("body",SV.str x),("found",SV.num (0:Int))],hp:=hp,sk:=sk,tp:=[],rst:=rs,fz:=fz})∧jY x hp sk rs fz K n it)
theorem nQ (w:World)(sc:Sc)(ke:KX)(x:Str)(hp sk:List HE)(rs fz:ah)(K:SV→St→Prop)(n:Nat)(it:Nat→Str) :
  (Pg x≤1000000∧∀(a:Nat),((QX [p' "+",p' "-"] λ(x_1:Str)=>x_1==PC x none (some (1:Int)))=true→Pg x≤1000000∧j8 x hp sk rs fz K n it a)∧(j6 x hp sk rs fz K n it a)) →
  bw (bE {cs:=aK (aJ 40),call:=aw [],ke:=ke,fors:=λ_=>some λ_=>{ι:=Unit,n:=n,items:=λj=>[.str (it j)],S:=λ_ _=>{loc:=[("words",.str x),("radix",.num 10),("body",.str x),("found",.num 0)],hp:=hp,sk:=sk,tp:=[],rst:=rs,fz:=fz},J:=λj _=>j=0,ok:=λ_ h=>h}} (xt w sc) 12) (bz (aJ 40)) {loc:=[("words",.str x),("radix",.num 10)],hp:=hp,sk:=sk,tp:=[],rst:=rs,fz:=fz} (λfl st=>K (bW fl) st):=
 Qg (by kernel_rfl)
theorem oB (O:X.Ok)(hn:2≤X.n):az X 185 (vR zv):=by
 refine aP (n:=0) JA GU O hn λst args k ke hc=>?_
 obtain⟨x,_,rfl,hk⟩:=cc hc
 clear hc
 obtain⟨⟨hw,hl⟩,hc⟩:=hk
 let n:=(PA x).cps.size
 let it:Nat→Str:=λj=>⟨#[(PA x).cps.getD j 0]⟩
 refine bD.mk (λtl=>{cs:=aK (aJ 40),call:=aw [],ke:=ke,fors:=λ_=>some λ_=>{ι:=Unit,n:=n,items:=λj=>[.str (it j)],S:=λj _=>{loc:=[("words",.str x),("radix",.num 10),("body",.str x),("found",.num 0)],hp:=st.hp,sk:=st.sk,tp:=[],rst:=tl++st.rst,fz:=st.fz},J:=λj _=>j=0,ok:=λ_ h=>h}}) rfl rfl (λ_=>rfl) (λ_ X' S=>ax S dJ) λtl=>?_
 have ok:∀loc tp,bg st tl k .none ⟨loc,st.hp,st.sk,tp,tl++st.rst,st.fz⟩:=λloc tp=>bg.same (sv':=.none) hc rfl rfl rfl rfl λD v r=>r
 refine nQ _ _ _ x st.hp st.sk (tl++st.rst) st.fz _ n it ⟨by lia,λa=>⟨λh=>?_,λh=>⟨λh2=>ok _ _,λh2=>⟨fit_lower (by lia),⟨rfl,λj=>rfl⟩,λ_ _=>rfl,?_,λj i I o hj h0=>⟨λh3=>⟨rfl,ok _ _⟩,λh3=>⟨λh4=>⟨rfl,ok _ _⟩,λh4=>?_⟩⟩,λi h0=>?_⟩⟩⟩⟩
 ·rw[(hw.slice none (some 1)).sign]at h;cases h
 ·exact Ent.weak (λ_ _ h=>h) (λx sv h=>cO rfl h) ⟨(),rfl,rfl⟩
 ·exfalso
  have hb:=hw.lower.at hj
  rcases Em hb with q|q
  ·exact absurd (decide_eq_true q) (by rw[h3];decide)
  ·exact absurd (decide_eq_true q) (by rw[h4];decide)
 ·exfalso
  have:x.cps.size=0:=by
   rcases Nat.eq_zero_or_pos x.cps.size with q|q
   ·exact q
   ·exact absurd h0 (zf hw q)
  rw[beq_eq_false_iff_ne]at h2
  apply h2
  cases x with|mk a=>rw[show a=#[]from Array.size_eq_zero_iff.mp this];rfl
theorem ku (w:World)(sc:Sc)(ke:KX)(x:Str)(hp sk:List HE)(rs fz:ah)(K:SV→St→Prop)(vi:Str→Prop) :
  (Pg x≤1000000∧((PC x (some (-1:Int)) none==p' ".")=true→Pg x≤1000000∧vi (PC x none (some (-1:Int)))∧K SV.none {loc:=[("words",SV.str x)],hp:=hp,sk:=sk,tp:=[],rst:=rs,fz:=fz})∧((PC x (some (-1:Int)) none==p' ".")=false→vi x∧K SV.none {loc:=[("words",SV.str x)],hp:=hp,sk:=sk,tp:=[],rst:=rs,fz:=fz})) →
  bw (bE {cs:=aK (aJ 41),call:=aw [(185,vR vi)],ke:=ke} (xt w sc) 12) (bz (aJ 41)) {loc:=[("words",.str x)],hp:=hp,sk:=sk,tp:=[],rst:=rs,fz:=fz} (λfl st=>K (bW fl) st):=
 Qg (by kernel_rfl)
theorem kd (O:X.Ok)(hn:4≤X.n):az X 192 (pO zv):=by
 refine aP (n:=2) Jw Kl O hn λst args k ke hc=>?_
 obtain⟨x,rfl,hk⟩:=cf hc
 clear hc
 rcases hk with⟨hw,hc⟩
 refine bD.mk (λtl=>{cs:=aK (aJ 41),call:=aw [(185,vR zv)],ke:=ke}) rfl rfl (λ_=>rfl)
  (λ_ X' S=>ax S (cI (oB S.ok (by rw[S.n];decide)) dJ)) λtl=>?_
 have e:bg st tl k .none ⟨[("words",.str x)],st.hp,st.sk,[],tl++st.rst,st.fz⟩:=bg.same (sv':=.none) hc rfl rfl rfl rfl λD v r=>r
 have hl:=hw.2
 exact ku _ _ _ x st.hp st.sk (tl++st.rst) st.fz _ _ ⟨by lia,λ_=>⟨by lia,hw.slice _ _,e⟩,λ_=>⟨hw,e⟩⟩
theorem jx (w:World)(sc:Sc)(ke:KX)(x:Str)(hp sk:List HE)(rs fz:ah)(K:SV→St→Prop) :
  (((x !=p' "")=true→Py (SS x)≤100000∧∀(d:Nat)(vs:List Value)(nn:Nat),RK vs (R6 (λ(c:Nat)=>aN {cps:=#[c]} (p' "0123456789")) (Array.toList (SS x)))→∃(l:Nat),∃(vs_1:List Value),∃(n:Nat),∃(bs:List Bool),(Pa d=Pa l∧(l,P' (PE vs_1) n)∈(d,P' (PE vs) nn)::fz∧RK vs_1 bs)∧K (SV.bool (List.all bs λ(b:Bool)=>b)) {loc:=[("words",SV.str x)],hp:=hp,sk:=sk,tp:=[],rst:=rs,fz:=(d,P' (PE vs) nn)::fz})∧((x !=p' "")=false→K (SV.bool (x !=p' "")) {loc:=[("words",SV.str x)],hp:=hp,sk:=sk,tp:=[],rst:=rs,fz:=fz})) →
  bw (bE {cs:=aK (aJ 42),call:=aw [],ke:=ke} (xt w sc) 12) (bz (aJ 42)) {loc:=[("words",.str x)],hp:=hp,sk:=sk,tp:=[],rst:=rs,fz:=fz} (λfl st=>K (bW fl) st):=
 Qg (by kernel_rfl)
theorem jN (O:X.Ok)(hn:2≤X.n):az X 197 (gW zv):=by
 refine aP (n:=0) Ka HK O hn λst args k ke hc=>?_
 obtain⟨x,rfl,hk⟩:=cf hc
 clear hc
 obtain⟨⟨hw,hl⟩,hc⟩:=hk
 refine bD.mk (λtl=>{cs:=aK (aJ 42),call:=aw [],ke:=ke}) rfl rfl (λ_=>rfl) (λ_ X' S=>ax S dJ) λtl=>?_
 refine jx _ _ _ x st.hp st.sk (tl++st.rst) st.fz _ ⟨λh=>⟨hl,λd vs nn hb=>⟨d,vs,nn,_,⟨rfl,.head _,hb⟩,bg.Hh (z:=st.fz) (bg.same (sv':=.lit false) hc rfl rfl rfl rfl λD v r=>?_) (Sb _ _)⟩⟩,λh=>?_⟩
 ·have e:SV.R D (.bool false) v:=by
   have:=DP hw h
   rw[←this];exact r
  exact e
 ·rw[h]
  exact bg.same (sv':=.lit false) hc rfl rfl rfl rfl λD v r=>r
abbrev kD (x:Str)(hp sk:List HE)(rs fz:ah)(K:SV→St→Prop)(a l l_1:Nat):Prop:=
  K (SV.lit false) {loc:=[("words",SV.str x),("body",SV.str (PC x (some (1:Int)) none)),("head",SV.str (Pn (Ph (PA (PC x (some (1:Int)) none)) (p' "e")))),("mark",SV.str (Pn (Pc (Ph (PA (PC x (some (1:Int)) none)) (p' "e"))))),("tail",SV.str (Pc (Pc (Ph (PA (PC x (some (1:Int)) none)) (p' "e"))))),("whole",SV.str (Pn (Ph (Pn (Ph (PA (PC x (some (1:Int)) none)) (p' "e"))) (p' ".")))),("point",SV.str (Pn (Pc (Ph (Pn (Ph (PA (PC x (some (1:Int)) none)) (p' "e"))) (p' "."))))),("part",SV.str (Pc (Pc (Ph (Pn (Ph (PA (PC x (some (1:Int)) none)) (p' "e"))) (p' ".")))))],hp:=hp,sk:=sk,tp:=[HE.tup a [SV.txt (p' "+"),SV.txt (p' "-")],HE.tup l [SV.str (Pn (Ph (PA (PC x (some (1:Int)) none)) (p' "e"))),SV.str (Pn (Pc (Ph (PA (PC x (some (1:Int)) none)) (p' "e")))),SV.str (Pc (Pc (Ph (PA (PC x (some (1:Int)) none)) (p' "e"))))],HE.tup l_1 [SV.str (Pn (Ph (Pn (Ph (PA (PC x (some (1:Int)) none)) (p' "e"))) (p' "."))),SV.str (Pn (Pc (Ph (Pn (Ph (PA (PC x (some (1:Int)) none)) (p' "e"))) (p' ".")))),SV.str (Pc (Pc (Ph (Pn (Ph (PA (PC x (some (1:Int)) none)) (p' "e"))) (p' "."))))]],rst:=rs,fz:=fz}
abbrev kA (x:Str)(hp sk:List HE)(rs fz:ah)(K:SV→St→Prop)(vi:Str→Prop)(a:Nat):Prop:=
  Pg x≤1000000∧Qc (Pg (PA (PC x (some (1:Int)) none)))=false∧((Pg (p' "e")==(0:Nat))=false∧Pg (PA (PC x (some (1:Int)) none))≤16777216)∧∀(l:Nat),((Pg (p' ".")==(0:Nat))=false∧Pg (Pn (Ph (PA (PC x (some (1:Int)) none)) (p' "e")))≤16777216)∧∀(l_1:Nat),Pg (Pn (Ph (Pn (Ph (PA (PC x (some (1:Int)) none)) (p' "e"))) (p' ".")))+Pg (Pc (Pc (Ph (Pn (Ph (PA (PC x (some (1:Int)) none)) (p' "e"))) (p' "."))))≤16777216∧vi (Pn (Ph (Pn (Ph (PA (PC x (some (1:Int)) none)) (p' "e"))) (p' "."))++Pc (Pc (Ph (Pn (Ph (PA (PC x (some (1:Int)) none)) (p' "e"))) (p' "."))))∧kD x hp sk rs fz K a l l_1
abbrev kl (x:Str)(hp sk:List HE)(rs fz:ah)(K:SV→St→Prop)(a l l_1:Nat):Prop:=
  K (SV.lit false) {loc:=[("words",SV.str x),("body",SV.str x),("head",SV.str (Pn (Ph (PA x) (p' "e")))),("mark",SV.str (Pn (Pc (Ph (PA x) (p' "e"))))),("tail",SV.str (Pc (Pc (Ph (PA x) (p' "e"))))),("whole",SV.str (Pn (Ph (Pn (Ph (PA x) (p' "e"))) (p' ".")))),("point",SV.str (Pn (Pc (Ph (Pn (Ph (PA x) (p' "e"))) (p' "."))))),("part",SV.str (Pc (Pc (Ph (Pn (Ph (PA x) (p' "e"))) (p' ".")))))],hp:=hp,sk:=sk,tp:=[HE.tup a [SV.txt (p' "+"),SV.txt (p' "-")],HE.tup l [SV.str (Pn (Ph (PA x) (p' "e"))),SV.str (Pn (Pc (Ph (PA x) (p' "e")))),SV.str (Pc (Pc (Ph (PA x) (p' "e"))))],HE.tup l_1 [SV.str (Pn (Ph (Pn (Ph (PA x) (p' "e"))) (p' "."))),SV.str (Pn (Pc (Ph (Pn (Ph (PA x) (p' "e"))) (p' ".")))),SV.str (Pc (Pc (Ph (Pn (Ph (PA x) (p' "e"))) (p' "."))))]],rst:=rs,fz:=fz}
abbrev j9 (x:Str)(hp sk:List HE)(rs fz:ah)(K:SV→St→Prop)(vi:Str→Prop)(a:Nat):Prop:=
  ((QX [p' "+",p' "-"] λ(x_1:Str)=>x_1==PC x none (some (1:Int)))=true→kA x hp sk rs fz K vi a)∧((QX [p' "+",p' "-"] λ(x_1:Str)=>x_1==PC x none (some (1:Int)))=false→Qc (Pg (PA x))=false∧((Pg (p' "e")==(0:Nat))=false∧Pg (PA x)≤16777216)∧∀(l:Nat),((Pg (p' ".")==(0:Nat))=false∧Pg (Pn (Ph (PA x) (p' "e")))≤16777216)∧∀(l_1:Nat),Pg (Pn (Ph (Pn (Ph (PA x) (p' "e"))) (p' ".")))+Pg (Pc (Pc (Ph (Pn (Ph (PA x) (p' "e"))) (p' "."))))≤16777216∧vi (Pn (Ph (Pn (Ph (PA x) (p' "e"))) (p' "."))++Pc (Pc (Ph (Pn (Ph (PA x) (p' "e"))) (p' "."))))∧kl x hp sk rs fz K a l l_1)
theorem n7 (w:World)(sc:Sc)(ke:KX)(x:Str)(hp sk:List HE)(rs fz:ah)(K:SV→St→Prop)(vi:Str→Prop) :
  (Pg x≤1000000∧∀(a:Nat),j9 x hp sk rs fz K vi a) →
  bw (bE {cs:=aK (aJ 44),call:=aw [(197,gW vi)],ke:=ke} (xt w sc) 12) (bz (aJ 44)) {loc:=[("words",.str x)],hp:=hp,sk:=sk,tp:=[],rst:=rs,fz:=fz} (λfl st=>K (bW fl) st):=
 Qg (by kernel_rfl)
theorem ot (O:X.Ok)(hn:4≤X.n):az X 211 (gW λx=>bG x∧x.length≤10000):=by
 refine aP (n:=2) Lw Jo O hn λst args k ke hc=>?_
 obtain⟨x,rfl,hk⟩:=cf hc
 clear hc
 obtain⟨⟨hw,hl⟩,hc⟩:=hk
 refine bD.mk (λtl=>{cs:=aK (aJ 44),call:=aw [(197,gW zv)],ke:=ke}) rfl rfl (λ_=>rfl)
  (λ_ X' S=>ax S (cI (jN S.ok (by rw[S.n];decide)) dJ)) λtl=>?_
 have l1:=len_lower x
 have l2:=nt (PA x) (p' "e")
 have l3:=nt (Ph (PA x) (p' "e")).1 (p' ".")
 have w1:=(hw.lower.part (y:=p' "e")).1.part (y:=p' ".")
 have a1:=Pk l2.1 (Pk l1 (SN 3 hl))
 have a2:=RF (Pk l3.1 a1) (Pk l3.2 a1)
 refine n7 _ _ _ x st.hp st.sk (tl++st.rst) st.fz _ _ ⟨by lia,λa=>⟨λh=>?_,λh=>⟨fit_lower (by lia),⟨by decide +kernel,by lia⟩,λl=>⟨⟨by decide +kernel,Pk a1 (by decide)⟩,λl1=>⟨Pk a2 (by decide),⟨w1.1.app w1.2,?_⟩,bg.same (sv':=.lit false) hc rfl rfl rfl rfl λD v r=>r⟩⟩⟩⟩⟩
 ·rw[(hw.slice none (some 1)).sign]at h;cases h
 ·rw[zR];exact Pk a2 (by decide)
noncomputable def bM (a:Addr)(cs:List Int)(e1 e2 e3:HE)(b d:Addr)(r:List HE)(p:Int):List HE:=.nlist a cs::e1::e2::e3::.inst b 313 d [("codes",.ref 0),("place",.int p)]::r
noncomputable def CI (b:Bool):List (Str×SV):=[("self",.ref 4),("found",.tmp 0),("is_quoted",.lit b)]
abbrev hU (a b d:Addr)(cs:List Int)(e1 e2 e3:HE)(r sk:List HE)(rs fz:ah)(K:SV→St→Prop)(ι:Type)(pl:ι→Int)(μ:ι→Nat)(i:ι):Prop:=
  bM a cs e1 e2 e3 b d r (pl i)=bM a cs e1 e2 e3 b d r (pl i)∧((0:Int)≤pl i∧vc cs<1099511627776)∧(decide (ak cs (pl i)≤(32:Int))=true→Ent {loc:=[("self",SV.ref (4))],hp:=bM a cs e1 e2 e3 b d r (pl i+(1:Int)),sk:=sk,tp:=[],rst:=rs,fz:=fz} λ(st':St)=>∃(j:ι),μ j<μ i∧st'={loc:=[("self",SV.ref (4))],hp:=bM a cs e1 e2 e3 b d r (pl j),sk:=sk,tp:=[],rst:=rs,fz:=fz})∧(decide (ak cs (pl i)≤(32:Int))=false→bM a cs e1 e2 e3 b d r (pl i)=bM a cs e1 e2 e3 b d r (pl i)∧((0:Int)≤pl i∧vc cs<1099511627776)∧((ak cs (pl i)==(160:Int))=true→Ent {loc:=[("self",SV.ref (4))],hp:=bM a cs e1 e2 e3 b d r (pl i+(1:Int)),sk:=sk,tp:=[],rst:=rs,fz:=fz} λ(st':St)=>∃(j:ι),μ j<μ i∧st'={loc:=[("self",SV.ref (4))],hp:=bM a cs e1 e2 e3 b d r (pl j),sk:=sk,tp:=[],rst:=rs,fz:=fz})∧((ak cs (pl i)==(160:Int))=false→K SV.none {loc:=[("self",SV.ref (4))],hp:=bM a cs e1 e2 e3 b d r (pl i),sk:=sk,tp:=[],rst:=rs,fz:=fz}))
abbrev ic (a b d:Addr)(cs:List Int)(e1 e2 e3:HE)(r sk:List HE)(rs fz:ah)(K:SV→St→Prop)(ι:Type)(pl:ι→Int)(μ:ι→Nat)(i:ι):Prop:=
  bM a cs e1 e2 e3 b d r (pl i)=bM a cs e1 e2 e3 b d r (pl i)∧((0:Int)≤pl i∧vc cs<1099511627776)∧(decide (ak cs (pl i)≤(32:Int))=true→Ent {loc:=[("self",SV.ref (4))],hp:=bM a cs e1 e2 e3 b d r (pl i+(1:Int)),sk:=sk,tp:=[],rst:=rs,fz:=fz} λ(st':St)=>∃(j:ι),μ j<μ i∧st'={loc:=[("self",SV.ref (4))],hp:=bM a cs e1 e2 e3 b d r (pl j),sk:=sk,tp:=[],rst:=rs,fz:=fz})∧(decide (ak cs (pl i)≤(32:Int))=false→bM a cs e1 e2 e3 b d r (pl i)=bM a cs e1 e2 e3 b d r (pl i)∧((0:Int)≤pl i∧vc cs<1099511627776)∧((ak cs (pl i)==(160:Int))=true→Ent {loc:=[("self",SV.ref (4))],hp:=bM a cs e1 e2 e3 b d r (pl i+(1:Int)),sk:=sk,tp:=[],rst:=rs,fz:=fz} λ(st':St)=>∃(j:ι),μ j<μ i∧st'={loc:=[("self",SV.ref (4))],hp:=bM a cs e1 e2 e3 b d r (pl j),sk:=sk,tp:=[],rst:=rs,fz:=fz})∧((ak cs (pl i)==(160:Int))=false→K SV.none {loc:=[("self",SV.ref (4))],hp:=bM a cs e1 e2 e3 b d r (pl i),sk:=sk,tp:=[],rst:=rs,fz:=fz}))
abbrev hX (a b d:Addr)(cs:List Int)(e1 e2 e3:HE)(r sk:List HE)(rs fz:ah)(K:SV→St→Prop)(ι:Type)(pl:ι→Int)(μ:ι→Nat)(i:ι):Prop:=
  bM a cs e1 e2 e3 b d r (pl i)=bM a cs e1 e2 e3 b d r (pl i)∧((0:Int)≤pl i∧vc cs<1099511627776)∧((ak cs (pl i)==(35:Int))=true→bM a cs e1 e2 e3 b d r (pl i)=bM a cs e1 e2 e3 b d r (pl i)∧((0:Int)≤pl i∧vc cs<1099511627776)∧(0:Int)≤(1:Int)∧((ak cs (pl i+(1:Int))==(33:Int))=true→bM a cs e1 e2 e3 b d r (pl i)=bM a cs e1 e2 e3 b d r (pl i)∧((0:Int)≤pl i∧pl i≤(↑(vc cs):Int)∧vc cs<1099511627776∧∀(c:Int),c∈cs→jF c=true)∧Ent {loc:=[("self",SV.ref (4))],hp:=bM a cs e1 e2 e3 b d r (↑(cA (λ(c:Int)=>c !=(10:Int)) cs (Pf (pl i))):Int),sk:=sk,tp:=[],rst:=rs,fz:=fz} λ(st':St)=>∃(j:ι),μ j<μ i∧st'={loc:=[("self",SV.ref (4))],hp:=bM a cs e1 e2 e3 b d r (pl j),sk:=sk,tp:=[],rst:=rs,fz:=fz})∧((ak cs (pl i+(1:Int))==(33:Int))=false→hU a b d cs e1 e2 e3 r sk rs fz K ι pl μ i))∧((ak cs (pl i)==(35:Int))=false→ic a b d cs e1 e2 e3 r sk rs fz K ι pl μ i)
abbrev gV (a b d:Addr)(cs:List Int)(e1 e2 e3:HE)(r sk:List HE)(rs fz:ah)(K:SV→St→Prop)(ι:Type)(pl:ι→Int)(μ:ι→Nat)(i:ι):Prop:=
  bM a cs e1 e2 e3 b d r (pl i)=bM a cs e1 e2 e3 b d r (pl i)∧((0:Int)≤pl i∧vc cs<1099511627776)∧((ak cs (pl i) !=(-1:Int))=true→bM a cs e1 e2 e3 b d r (pl i)=bM a cs e1 e2 e3 b d r (pl i)∧((0:Int)≤pl i∧vc cs<1099511627776)∧((ak cs (pl i)==(59:Int))=true→bM a cs e1 e2 e3 b d r (pl i)=bM a cs e1 e2 e3 b d r (pl i)∧((0:Int)≤pl i∧pl i≤(↑(vc cs):Int)∧vc cs<1099511627776∧∀(c:Int),c∈cs→jF c=true)∧Ent {loc:=[("self",SV.ref (4))],hp:=bM a cs e1 e2 e3 b d r (↑(cA (λ(c:Int)=>c !=(10:Int)) cs (Pf (pl i))):Int),sk:=sk,tp:=[],rst:=rs,fz:=fz} λ(st':St)=>∃(j:ι),μ j<μ i∧st'={loc:=[("self",SV.ref (4))],hp:=bM a cs e1 e2 e3 b d r (pl j),sk:=sk,tp:=[],rst:=rs,fz:=fz})∧((ak cs (pl i)==(59:Int))=false→hX a b d cs e1 e2 e3 r sk rs fz K ι pl μ i))∧((ak cs (pl i) !=(-1:Int))=false→K SV.none {loc:=[("self",SV.ref (4))],hp:=bM a cs e1 e2 e3 b d r (pl i),sk:=sk,tp:=[],rst:=rs,fz:=fz})
theorem jG (w:World)(sc:Sc)(ke:KX)(a b d:Addr)(cs:List Int)(p:Int)(e1 e2 e3:HE)(r sk:List HE)(rs fz:ah)(K:SV→St→Prop)(ι:Type)(pl:ι→Int)(μ:ι→Nat) :
  ((Ent {loc:=[("self",SV.ref (4))],hp:=bM a cs e1 e2 e3 b d r p,sk:=sk,tp:=[],rst:=rs,fz:=fz} λ(st':St)=>∃(i:ι),st'={loc:=[("self",SV.ref (4))],hp:=bM a cs e1 e2 e3 b d r (pl i),sk:=sk,tp:=[],rst:=rs,fz:=fz})∧∀(i:ι),gV a b d cs e1 e2 e3 r sk rs fz K ι pl μ i) →
  bw (bE {cs:=aK (aI 46 3),call:=aw [(240,eN),(247,hQ)],ke:=ke,inv:=λ_ _=>some {ι:=ι,S:=λi=>{loc:=[("self",.ref 4)],hp:=.nlist a cs::e1::e2::e3::cb b d (pl i)::r,sk:=sk,tp:=[],rst:=rs,fz:=fz},μ:=μ,ok:=λ_ h=>h}} (xt w sc) 12) (bz (aI 46 3)) {loc:=[("self",.ref 4)],hp:=.nlist a cs::e1::e2::e3::cb b d p::r,sk:=sk,tp:=[],rst:=rs,fz:=fz} (λfl st=>K (bW fl) st):=
 Qg (by kernel_rfl)
abbrev t6 (a b d:Addr)(cs:List Int)(e1 e2 e3:HE)(r sk:List HE)(rs fz:ah)(ι:Type)(pl:ι→Int)(μ:ι→Nat)(fa:ι→Addr)(ws:ι→List Str)(i:ι):Prop:=
  ((ak cs (pl i)==(92:Int))=true→bM a cs e1 e2 e3 b d r (pl i+(1:Int))=bM a cs e1 e2 e3 b d r (pl i+(1:Int))∧((0:Int)≤pl i+(1:Int)∧vc cs<1099511627776)∧((ak cs (pl i+(1:Int))==(-1:Int))=true→False)∧((ak cs (pl i+(1:Int))==(-1:Int))=false→bM a cs e1 e2 e3 b d r (pl i+(1:Int))=bM a cs e1 e2 e3 b d r (pl i+(1:Int))∧((0:Int)≤pl i+(1:Int)∧vc cs<1099511627776)∧((0:Int)≤ak cs (pl i+(1:Int))∧ak cs (pl i+(1:Int))<(55296:Int))∧vc (ws i)<1048576∧Ent {loc:=CI true,hp:=bM a cs e1 e2 e3 b d r (pl i+(1:Int)+(1:Int)),sk:=sk,tp:=[HE.slist (fa i) (ws i++[{cps:=#[Pf (ak cs (pl i+(1:Int)))]}])],rst:=rs,fz:=fz} λ(st':St)=>∃(j:ι),μ j<μ i∧st'={loc:=CI false,hp:=bM a cs e1 e2 e3 b d r (pl j),sk:=sk,tp:=[HE.slist (fa j) (ws j)],rst:=rs,fz:=fz}))∧((ak cs (pl i)==(92:Int))=false→bM a cs e1 e2 e3 b d r (pl i)=bM a cs e1 e2 e3 b d r (pl i)∧((0:Int)≤pl i∧vc cs<1099511627776)∧((0:Int)≤ak cs (pl i)∧ak cs (pl i)<(55296:Int))∧vc (ws i)<1048576∧Ent {loc:=CI false,hp:=bM a cs e1 e2 e3 b d r (pl i+(1:Int)),sk:=sk,tp:=[HE.slist (fa i) (ws i++[{cps:=#[Pf (ak cs (pl i))]}])],rst:=rs,fz:=fz} λ(st':St)=>∃(j:ι),μ j<μ i∧st'={loc:=CI false,hp:=bM a cs e1 e2 e3 b d r (pl j),sk:=sk,tp:=[HE.slist (fa j) (ws j)],rst:=rs,fz:=fz})
abbrev uc (a b d:Addr)(cs:List Int)(e1 e2 e3:HE)(r sk:List HE)(rs fz:ah)(K:SV→St→Prop)(ι:Type)(pl:ι→Int)(μ:ι→Nat)(fa:ι→Addr)(ws:ι→List Str)(i:ι):Prop:=
  ((ak cs (pl i) !=(-1:Int))=true→bM a cs e1 e2 e3 b d r (pl i)=bM a cs e1 e2 e3 b d r (pl i)∧((0:Int)≤pl i∧vc cs<1099511627776)∧((!brk (ak cs (pl i)))=true→bM a cs e1 e2 e3 b d r (pl i)=bM a cs e1 e2 e3 b d r (pl i)∧((0:Int)≤pl i∧vc cs<1099511627776)∧t6 a b d cs e1 e2 e3 r sk rs fz ι pl μ fa ws i)∧((!brk (ak cs (pl i)))=false→p' ""=Rv∧(Qc (Array.foldl (λ(x1:Nat)(x2:Str)=>x1+Pg x2+Pg Rv) (0) (PE (ws i)) (0))=false∧Pg (bU (ws i))≤16777216)∧∀(a_4:Nat),K (SV.tmp (1)) {loc:=CI false,hp:=bM a cs e1 e2 e3 b d r (pl i),sk:=sk,tp:=[HE.slist (fa i) (ws i),HE.tup a_4 [SV.str (bU (ws i)),SV.lit false]],rst:=rs,fz:=fz}))∧((ak cs (pl i) !=(-1:Int))=false→p' ""=Rv∧(Qc (Array.foldl (λ(x1:Nat)(x2:Str)=>x1+Pg x2+Pg Rv) (0) (PE (ws i)) (0))=false∧Pg (bU (ws i))≤16777216)∧∀(a_3:Nat),K (SV.tmp (1)) {loc:=CI false,hp:=bM a cs e1 e2 e3 b d r (pl i),sk:=sk,tp:=[HE.slist (fa i) (ws i),HE.tup a_3 [SV.str (bU (ws i)),SV.lit false]],rst:=rs,fz:=fz})
theorem AQ (w:World)(sc:Sc)(ke:KX)(a b d:Addr)(cs:List Int)(p:Int)(e1 e2 e3:HE)(r sk:List HE)(rs fz:ah)(K:SV→St→Prop)(ι:Type)(pl:ι→Int)(μ:ι→Nat)(fa:ι→Addr)(ws:ι→List Str) :
  (∀(a_1:Nat),(Ent {loc:=CI false,hp:=bM a cs e1 e2 e3 b d r p,sk:=sk,tp:=[HE.list a_1 [] []],rst:=rs,fz:=fz} λ(st':St)=>∃(i:ι),st'={loc:=CI false,hp:=bM a cs e1 e2 e3 b d r (pl i),sk:=sk,tp:=[HE.slist (fa i) (ws i)],rst:=rs,fz:=fz})∧∀(i:ι),bM a cs e1 e2 e3 b d r (pl i)=bM a cs e1 e2 e3 b d r (pl i)∧((0:Int)≤pl i∧vc cs<1099511627776)∧uc a b d cs e1 e2 e3 r sk rs fz K ι pl μ fa ws i) →
  bw (bE {cs:=aK (aI 46 7),call:=aw [(240,eN),(178,jE),(218,yS)],ke:=ke,inv:=λ_ _=>some {ι:=ι,S:=λi=>{loc:=[("self",.ref 4),("found",.tmp 0),("is_quoted",.lit false)],hp:=.nlist a cs::e1::e2::e3::cb b d (pl i)::r,sk:=sk,tp:=[.slist (fa i) (ws i)],rst:=rs,fz:=fz},μ:=μ,ok:=λ_ h=>h}} (xt w sc) 12) (bz (aI 46 7)) {loc:=[("self",.ref 4)],hp:=.nlist a cs::e1::e2::e3::cb b d p::r,sk:=sk,tp:=[],rst:=rs,fz:=fz} (λfl st=>K (bW fl) st):=
 Qg (by kernel_rfl)
theorem bg.MS {st:St}(h:bg st tl k sv {st₂ with loc:=[],tp:=tp'}) (ha:tp'.map HE.addr=st₂.tp.map HE.addr)(hT:∀D l,LL D st₂.tp l→LL D tp' l):bg st tl k sv st₂:=λX s v I r=>by
 have e:St.ad {st₂ with loc:=[],tp:=tp'}=st₂.ad:=by show Ad.mk _ _ (tp'.map HE.addr)=_;rw[ha]
 exact h X s v (I.re (st':={st₂ with loc:=[],tp:=tp'}) (λ_ _ h=>nomatch h) (λl L=>by rw[e];exact L) (λl L=>by rw[e];exact hT _ _ L) rfl rfl) (by rw[e];exact r)
theorem Ent.Mt {st:St}(htp:st.tp=[.list a [] []])(h:P {st with tp:=[.slist a []]}):Ent st P:=⟨λX s f I=>by
 have e:St.ad (St.fr {st with tp:=[.slist a []]} f)=(st.fr f).ad:=by show Ad.mk _ _ _=Ad.mk _ _ (st.tp.map HE.addr);rw[htp];rfl
 refine⟨_,h,I.re (st':=St.fr {st with tp:=[.slist a []]} f) (λx sv q=>⟨sv,q,λv r=>by rw[e];exact r⟩) (λl L=>by rw[e];exact L) (λl L=>?_) rfl rfl⟩
 rw[e]
 have L:LL (st.fr f).ad.bot st.tp l:=L
 rw[htp]at L
 obtain⟨le,lr,rfl,H,T⟩:=LL.dm L
 cases T
 obtain⟨_,_,i,rfl⟩:=H.listI
 cases i;exact .cons (.slist .nil) .nil⟩
theorem LL.Jg (h:∀vs,IR D xs vs→IR D ys vs)(L:LL D [.tup a xs] l):LL D [.tup a ys] l:=by
 obtain⟨le,lr,rfl,H,T⟩:=LL.dm L
 cases T
 obtain⟨_,i,rfl⟩:=H.tupI
 exact .cons (.tup (h _ i)) .nil
theorem IR.txt (h:IR D (.str y::xs) vs):IR D (.txt y::xs) vs:=by
 cases h with
 |cons a b=>exact .cons a b
theorem dC {q:Nat}(hok:jX cs)(hq:q≤cs.length):(cs.length≤q∧ak cs (q:Int)=-1)∨(q<cs.length∧ak cs (q:Int)=cs.getD q 0∧jF (cs.getD q 0)=true):=by
 rcases Sf q cs.length with h|h
 ·exact .inr ⟨h,hO h,ng hok h⟩
 ·exact .inl ⟨h,jD h⟩
theorem eC (h:jF c=true)(hk:jF k=false):(c==k)=false:=by
 cases e:c==k with
 |false=>rfl
 |true=>rw[beq_iff_eq.mp e,hk]at h;exact bF h
theorem DU (h:jF c=true):0≤c∧c<55296:=i5 (P:=λc=>0≤c∧c<55296) h (by decide)
theorem AD (h:jF c=true):decide (c≤32)=true→c=10∨c=32:=i5 (P:=λc=>decide (c≤32)=true→c=10∨c=32) h (by decide)
theorem qD (h:jF c=true):(c !=-1)=true:=by rw[bne,eC h rfl];rfl
def rn (cs:List Int)(p:Int):Prop:=0≤p∧p≤cs.length∧cs.length<10000∧jX cs
def gQ:cK:=λargs st k _=>qT (dF 4) args λ_=>eL st λcs p=>rn cs p∧k .none (qE st (ae cs p.toNat:Nat))
def zm:cK:=λargs st k _=>qT (dF 4) args λ_=>eL st λcs p=>rn cs p∧∀a,k (.tmp st.tp.length) ((qE st (aW cs p.toNat:Nat)).LG (st.tp++[.tup a [.str (cj cs p.toNat (aW cs p.toNat)),.lit false]]))
def vC:cK:=λargs st k _=>ou (dF 4) gY args λ_ b=>eL st λcs p=>rn cs p∧∀a,
   (cj cs p.toNat (aW cs p.toNat)=p' "."→k (.tmp st.tp.length) ((qE st (aW cs p.toNat:Nat)).LG (st.tp++[.tup a [.txt ".",.none,.int b]]))) ∧
   (cj cs p.toNat (aW cs p.toNat)≠p' "."→k (.tmp st.tp.length) ((qE st (aW cs p.toNat:Nat)).LG (st.tp++[.tup a [.txt "symbol",.str (cj cs p.toNat (aW cs p.toNat)),.int b]])))
theorem e8 (O:X.Ok)(hn:6≤X.n):az X 254 gQ:=by
 refine aP (n:=4) JM Lv O hn λst args k ke hc=>?_
 obtain⟨_,rfl,hk⟩:=cf hc
 clear hc
 obtain⟨a,cs,e1,e2,e3,b,d,p,r,hhp,⟨h0,h1,hz,hok⟩,hc⟩:=bP hk
 clear hk
 have e:=St.kk hhp
 clear hhp
 obtain⟨loc,sk,tp,rst,fz,rfl⟩:=e
 rw[gk]at hc
 let T0:={q:Nat // q≤cs.length∧ae cs q=ae cs p.toNat}
 refine bD.mk (λtl=>{cs:=aK (aI 46 3),call:=aw [(240,eN),(247,hQ)],ke:=ke,inv:=λ_ _=>some {ι:=T0,S:=λi=>{loc:=[("self",.ref 4)],hp:=.nlist a cs::e1::e2::e3::cb b d (i.1:Int)::r,sk:=sk,tp:=[],rst:=tl++rst,fz:=fz},μ:=λi=>cs.length-i.1,ok:=λ_ h=>h}}) rfl rfl (λ_=>rfl)
  (λ_ X' S=>ax S (cI (gG S.ok (by rw[S.n];decide)) (cI (m5 S.ok (by rw[S.n];decide)) dJ))) λtl=>?_
 obtain⟨q,rfl⟩:∃q:Nat,p=(q:Int):=⟨p.toNat,by lia⟩
 rw[Qf]at hc
 have hz':cs.length<1099511627776:=by lia
 refine jG _ _ _ a b d cs q e1 e2 e3 r sk (tl++rst) fz _ T0 (λi=>(i.1:Int)) (λi=>cs.length-i.1) ⟨.refl ⟨⟨q,by lia,by rw[Qf]⟩,rfl⟩,λ⟨i,hi,hs⟩=>?_⟩
 rw[Qf]at hs
 have n0:(0:Int)≤(i:Int):=PG _
 have fin:ae cs i=i→bg ⟨loc,.nlist a cs::e1::e2::e3::cb b d (q:Int)::r,sk,tp,rst,fz⟩ tl k .none ⟨[("self",.ref 4)],.nlist a cs::e1::e2::e3::cb b d (i:Int)::r,sk,[],tl++rst,fz⟩:=λe=>by
  rw[←hs,e]at hc
  exact bg.same (sv':=.none) hc rfl rfl rfl rfl λD v r=>r
 rcases dC hok hi with⟨hl,hcd⟩|⟨hl,hcd,hL⟩
 ·exact⟨rfl,⟨n0,hz'⟩,λh=>(by rw[hcd]at h;cases h),λ_=>fin (kU hl)⟩
 ·rw[←hcd]at hL
  have p1:=qD hL;have p2:(_==(35:Int))=false:=eC hL rfl;have p3:(_==(160:Int))=false:=eC hL rfl;have p4:=AD hL
  refine⟨rfl,⟨n0,hz'⟩,λ_=>⟨rfl,⟨n0,hz'⟩,λh=>⟨rfl,⟨n0,by lia,hz',hok⟩,.refl ⟨⟨cA (λc=>c !=10) cs i,iO hi,?_⟩,?_,rfl⟩⟩,λh=>⟨rfl,⟨n0,hz'⟩,λh2=>?_,λ_=>⟨rfl,⟨n0,hz'⟩,λh2=>.refl ⟨⟨i+1,hl,?_⟩,?_,rfl⟩,λh2=>⟨rfl,⟨n0,hz'⟩,λh3=>?_,λ_=>fin (jg hl ?_ ?_ ?_)⟩⟩⟩⟩,λh=>?_⟩
  ·rw[Qf,←hs,←jc hl (by rw[hcd]at h;simpa using h)]
  ·have e59:cs.getD i 0=59:=hcd▸beq_iff_eq.mp h
   exact Qk hl (PV (P0 i) (show i+1≤cA (λc=>c !=10) cs i by rw[ej hl (by rw[e59];rfl)];exact sr))
  ·rw[p2]at h2;cases h2
  ·rw[Qf,←hs,←il hl (hcd▸p4 h2)]
  ·exact Qk hl (P0 i)
  ·rw[p3]at h3;cases h3
  ·intro e;rw[hcd,e]at h;cases h
  ·intro e;rw[hcd,e]at h2;cases h2
  ·intro e;rw[hcd,e]at h2;cases h2
  ·rw[p1]at h;cases h
theorem k9 {q:Nat}(h:q<cs.length)(hb:brk (cs.getD q 0)=true):aW cs q=q:=mU h (by rw[hb];rfl)
theorem l8 {q:Nat}(h:q<cs.length)(hb:brk (cs.getD q 0)=false):aW cs q=aW cs (q+1):=ej h (by rw[hb];rfl)
theorem Ay (O:X.Ok)(hn:4≤X.n):az X 282 zm:=by
 refine aP (n:=2) Ls Kn O hn λst args k ke hc=>?_
 obtain⟨_,rfl,hk⟩:=cf hc
 clear hc
 obtain⟨a,cs,e1,e2,e3,b,d,p,r,hhp,⟨h0,h1,hz,hok⟩,hc⟩:=bP hk
 clear hk
 have e:=St.kk hhp
 clear hhp
 obtain⟨loc,sk,tp,rst,fz,rfl⟩:=e
 rw[gk]at hc
 obtain⟨q,rfl⟩:∃q:Nat,p=(q:Int):=⟨p.toNat,by lia⟩
 rw[Qf]at hc
 let T0:=Addr×{i:Nat // i≤cs.length∧q≤i∧aW cs i=aW cs q}
 refine bD.mk (λtl=>{cs:=aK (aI 46 7),call:=aw [(240,eN),(178,jE),(218,yS)],ke:=ke,inv:=λ_ _=>some {ι:=T0,S:=λi=>{loc:=[("self",.ref 4),("found",.tmp 0),("is_quoted",.lit false)],hp:=.nlist a cs::e1::e2::e3::cb b d (i.2.1:Int)::r,sk:=sk,tp:=[.slist i.1 (cX cs q i.2.1)],rst:=tl++rst,fz:=fz},μ:=λi=>cs.length-i.2.1,ok:=λ_ h=>h}}) rfl rfl (λ_=>rfl)
  (λ_ X' S=>ax S (cI (gG S.ok (by rw[S.n];decide)) (cI (nI S.ok (by rw[S.n];decide)) (cI (BB S.ok (by rw[S.n];decide)) dJ)))) λtl=>?_
 have hz':cs.length<1099511627776:=by lia
 refine AQ _ _ _ a b d cs q e1 e2 e3 r sk (tl++rst) fz _ T0 (λi=>(i.2.1:Int)) (λi=>cs.length-i.2.1) (λi=>i.1) (λi=>cX cs q i.2.1) λa1=>⟨Ent.Mt rfl ⟨⟨a1,⟨q,by lia,P5 _,rfl⟩⟩,?_⟩,λ⟨a2,⟨i,hi,hqi,hs⟩⟩=>?_⟩
 ·unfold cX
  rw[Nat.sub_self];rfl
 have n0:(0:Int)≤(i:Int):=PG _
 have lj:(bU (cX cs q i)).length≤cs.length:=by rw[jl];exact oF
 have lq:(bU (cX cs q i)).length≤16777216:=Pk lj (QD (PF hz (by decide)))
 have fin:aW cs i=i→∀a3,bg ⟨loc,.nlist a cs::e1::e2::e3::cb b d (q:Int)::r,sk,tp,rst,fz⟩ tl k (.tmp 1) ⟨[("self",.ref 4),("found",.tmp 0),("is_quoted",.lit false)],.nlist a cs::e1::e2::e3::cb b d (i:Int)::r,sk,[.slist a2 (cX cs q i),.tup a3 [.str (bU (cX cs q i)),.lit false]],tl++rst,fz⟩:=λe a3=>by
  rw[←hs,e]at hc
  have:=hc a3
  rw[←jl]at this
  exact bg.one this rfl rfl rfl rfl
 have tl0:Qc ((cX cs q i).toArray.foldl (λx1 x2=>x1+x2.length+Str.empty.length) 0)=false:=by
  have e:∀(l:List Int)(n:Nat),(l.map λc=>(⟨#[c.toNat]⟩:Str)).foldl (λx1 x2=>x1+x2.length+Str.empty.length) n=n+l.length:=by
   intro l
   induction l with
   |nil=>intro n;rfl
   |cons c r ih=>
    intro n
    rw[QJ,TM,ih,PQ]
    have:(⟨#[c.toNat]⟩:Str).length=1:=rfl
    have:Str.empty.length=0:=rfl
    lia
  have:=@lg cs q i
  unfold cX at this
  rw[PM]at this
  rw[List.foldl_toArray]
  unfold cX
  rw[e,Sh]
  exact short24 (Pk this (QD (PF hz (by decide))))
 rcases dC hok hi with⟨hl,hcd⟩|⟨hl,hcd,hL⟩
 ·exact⟨rfl,⟨n0,hz'⟩,λh=>(by rw[hcd]at h;cases h),λ_=>⟨rfl,⟨tl0,lq⟩,fin (fy hl)⟩⟩
 ·rw[←hcd]at hL
  have p1:=qD hL;have p4:(_==(92:Int))=false:=eC hL rfl;have⟨p5,p6⟩:=DU hL
  refine⟨rfl,⟨n0,hz'⟩,λ_=>⟨rfl,⟨n0,hz'⟩,λhb=>⟨rfl,⟨n0,hz'⟩,λh=>?_,λ_=>⟨rfl,⟨n0,hz'⟩,⟨p5,p6⟩,?_,?_⟩⟩,λhb=>⟨rfl,⟨tl0,lq⟩,fin (k9 hl (by rw[hcd]at hb;simpa using hb))⟩⟩,λh=>?_⟩
  ·rw[p4]at h;cases h
  ·exact Pr lg (PF hz (by decide))
  ·rw[hcd,←ql hqi hl]
   exact .refl ⟨⟨a2,⟨i+1,hl,PK hqi,by rw[←hs,←l8 hl (by rw[hcd]at hb;simpa using hb)]⟩⟩,QH _ _ hl,rfl⟩
  ·rw[p1]at h;cases h
abbrev uz (a b d:Addr)(cs:List Int)(p q:Int)(e1 e2 e3:HE)(r sk:List HE)(rs fz:ah)(K:SV→St→Prop)(a_1:Nat):Prop:=
  ((cj cs (Pf p) (aW cs (Pf p))==p' ".")=true→∀(a_3:Nat),K (SV.tmp (1)) {loc:=[("self",SV.ref (4)),("start",SV.int q),("words",SV.str (cj cs (Pf p) (aW cs (Pf p)))),("is_quoted",SV.lit false)],hp:=bM a cs e1 e2 e3 b d r (↑(aW cs (Pf p)):Int),sk:=sk,tp:=[HE.tup a_1 [SV.str (cj cs (Pf p) (aW cs (Pf p))),SV.lit false],HE.tup a_3 [SV.txt (p' "."),SV.none,SV.int q]],rst:=rs,fz:=fz})∧((cj cs (Pf p) (aW cs (Pf p))==p' ".")=false→((∀(c:Nat),c∈SS (cj cs (Pf p) (aW cs (Pf p)))→ve c=true)∧Pg (cj cs (Pf p) (aW cs (Pf p)))≤100000)∧((∀(c:Nat),c∈SS (cj cs (Pf p) (aW cs (Pf p)))→ve c=true)∧Pg (cj cs (Pf p) (aW cs (Pf p)))≤10000)∧∀(a_3:Nat),K (SV.tmp (1)) {loc:=[("self",SV.ref (4)),("start",SV.int q),("words",SV.str (cj cs (Pf p) (aW cs (Pf p)))),("is_quoted",SV.lit false),("number",SV.none)],hp:=bM a cs e1 e2 e3 b d r (↑(aW cs (Pf p)):Int),sk:=sk,tp:=[HE.tup a_1 [SV.str (cj cs (Pf p) (aW cs (Pf p))),SV.lit false],HE.tup a_3 [SV.txt (p' "symbol"),SV.str (cj cs (Pf p) (aW cs (Pf p))),SV.int q]],rst:=rs,fz:=fz})
theorem zE (w:World)(sc:Sc)(ke:KX)(a b d:Addr)(cs:List Int)(p q:Int)(e1 e2 e3:HE)(r sk:List HE)(rs fz:ah)(K:SV→St→Prop) :
  (bM a cs e1 e2 e3 b d r p=bM a cs e1 e2 e3 b d r p∧((0:Int)≤p∧p≤(↑(vc cs):Int)∧vc cs<10000∧∀(c:Int),c∈cs→jF c=true)∧∀(a_1:Nat),uz a b d cs p q e1 e2 e3 r sk rs fz K a_1) →
  bw (bE {cs:=aK (aI 46 8),call:=aw [(282,zm),(192,pO zv),(211,gW λx=>bG x∧x.length≤10000)],ke:=ke} (xt w sc) 12) (bz (aI 46 8)) {loc:=[("self",.ref 4),("start",.int q)],hp:=.nlist a cs::e1::e2::e3::cb b d p::r,sk:=sk,tp:=[],rst:=rs,fz:=fz} (λfl st=>K (bW fl) st):=
 Qg (by kernel_rfl)
abbrev qx (a b d:Addr)(cs:List Int)(p:Int)(e1 e2 e3:HE)(r sk:List HE)(rs fz:ah)(K:SV→St→Prop):Prop:=
  ((ak cs ((↑(ae cs (Pf p)):Int)+(1:Int))==(64:Int))=true→∀(a_6:Nat),K (SV.tmp (0)) {loc:=[("self",SV.ref (4)),("start",SV.int (↑(ae cs (Pf p)):Int)),("code",SV.int (ak cs (↑(ae cs (Pf p)):Int))),("is_splice",SV.bool (ak cs ((↑(ae cs (Pf p)):Int)+(1:Int))==(64:Int)))],hp:=bM a cs e1 e2 e3 b d r ((↑(ae cs (Pf p)):Int)+(2:Int)),sk:=sk,tp:=[HE.tup a_6 [SV.txt (p' ",@"),SV.none,SV.int (↑(ae cs (Pf p)):Int)]],rst:=rs,fz:=fz})∧((ak cs ((↑(ae cs (Pf p)):Int)+(1:Int))==(64:Int))=false→∀(a_6:Nat),K (SV.tmp (0)) {loc:=[("self",SV.ref (4)),("start",SV.int (↑(ae cs (Pf p)):Int)),("code",SV.int (ak cs (↑(ae cs (Pf p)):Int))),("is_splice",SV.bool (ak cs ((↑(ae cs (Pf p)):Int)+(1:Int))==(64:Int)))],hp:=bM a cs e1 e2 e3 b d r ((↑(ae cs (Pf p)):Int)+(2:Int)),sk:=sk,tp:=[HE.tup a_6 [SV.txt (p' ","),SV.none,SV.int (↑(ae cs (Pf p)):Int)]],rst:=rs,fz:=fz})
abbrev qH (a b d:Addr)(cs:List Int)(p:Int)(e1 e2 e3:HE)(r sk:List HE)(rs fz:ah)(K:SV→St→Prop):Prop:=
  ((ak cs ((↑(ae cs (Pf p)):Int)+(1:Int))==(64:Int))=true→∀(a_6:Nat),K (SV.tmp (0)) {loc:=[("self",SV.ref (4)),("start",SV.int (↑(ae cs (Pf p)):Int)),("code",SV.int (ak cs (↑(ae cs (Pf p)):Int))),("is_splice",SV.bool (ak cs ((↑(ae cs (Pf p)):Int)+(1:Int))==(64:Int)))],hp:=bM a cs e1 e2 e3 b d r ((↑(ae cs (Pf p)):Int)+(1:Int)),sk:=sk,tp:=[HE.tup a_6 [SV.txt (p' ",@"),SV.none,SV.int (↑(ae cs (Pf p)):Int)]],rst:=rs,fz:=fz})∧((ak cs ((↑(ae cs (Pf p)):Int)+(1:Int))==(64:Int))=false→∀(a_6:Nat),K (SV.tmp (0)) {loc:=[("self",SV.ref (4)),("start",SV.int (↑(ae cs (Pf p)):Int)),("code",SV.int (ak cs (↑(ae cs (Pf p)):Int))),("is_splice",SV.bool (ak cs ((↑(ae cs (Pf p)):Int)+(1:Int))==(64:Int)))],hp:=bM a cs e1 e2 e3 b d r ((↑(ae cs (Pf p)):Int)+(1:Int)),sk:=sk,tp:=[HE.tup a_6 [SV.txt (p' ","),SV.none,SV.int (↑(ae cs (Pf p)):Int)]],rst:=rs,fz:=fz})
abbrev q8 (a b d:Addr)(cs:List Int)(p:Int)(e1 e2 e3:HE)(r sk:List HE)(rs fz:ah)(K:SV→St→Prop)(a_7:Nat):Prop:=
  (cj cs (Pf (↑(ae cs (Pf p)):Int)) (aW cs (Pf (↑(ae cs (Pf p)):Int)))=p' "."→K (SV.tmp (0)) {loc:=[("self",SV.ref (4)),("start",SV.int (↑(ae cs (Pf p)):Int)),("code",SV.int (ak cs (↑(ae cs (Pf p)):Int)))],hp:=bM a cs e1 e2 e3 b d r (↑(aW cs (Pf (↑(ae cs (Pf p)):Int))):Int),sk:=sk,tp:=[HE.tup a_7 [SV.txt (p' "."),SV.none,SV.int (↑(ae cs (Pf p)):Int)]],rst:=rs,fz:=fz})∧(cj cs (Pf (↑(ae cs (Pf p)):Int)) (aW cs (Pf (↑(ae cs (Pf p)):Int)))≠p' "."→K (SV.tmp (0)) {loc:=[("self",SV.ref (4)),("start",SV.int (↑(ae cs (Pf p)):Int)),("code",SV.int (ak cs (↑(ae cs (Pf p)):Int)))],hp:=bM a cs e1 e2 e3 b d r (↑(aW cs (Pf (↑(ae cs (Pf p)):Int))):Int),sk:=sk,tp:=[HE.tup a_7 [SV.txt (p' "symbol"),SV.str (cj cs (Pf (↑(ae cs (Pf p)):Int)) (aW cs (Pf (↑(ae cs (Pf p)):Int)))),SV.int (↑(ae cs (Pf p)):Int)]],rst:=rs,fz:=fz})
abbrev qA (a b d:Addr)(cs:List Int)(p:Int)(e1 e2 e3:HE)(r sk:List HE)(rs fz:ah)(K:SV→St→Prop):Prop:=
  ((ak cs (↑(ae cs (Pf p)):Int)==(44:Int))=true→bM a cs e1 e2 e3 b d r (↑(ae cs (Pf p)):Int)=bM a cs e1 e2 e3 b d r (↑(ae cs (Pf p)):Int)∧((0:Int)≤(↑(ae cs (Pf p)):Int)∧vc cs<1099511627776)∧(0:Int)≤(1:Int)∧((ak cs ((↑(ae cs (Pf p)):Int)+(1:Int))==(64:Int))=true→qx a b d cs p e1 e2 e3 r sk rs fz K)∧((ak cs ((↑(ae cs (Pf p)):Int)+(1:Int))==(64:Int))=false→qH a b d cs p e1 e2 e3 r sk rs fz K))∧((ak cs (↑(ae cs (Pf p)):Int)==(44:Int))=false→((ak cs (↑(ae cs (Pf p)):Int)==(34:Int))=true→False)∧((ak cs (↑(ae cs (Pf p)):Int)==(34:Int))=false→((ak cs (↑(ae cs (Pf p)):Int)==(63:Int))=true→False)∧((ak cs (↑(ae cs (Pf p)):Int)==(63:Int))=false→((ak cs (↑(ae cs (Pf p)):Int)==(35:Int))=true→False)∧((ak cs (↑(ae cs (Pf p)):Int)==(35:Int))=false→bM a cs e1 e2 e3 b d r (↑(ae cs (Pf p)):Int)=bM a cs e1 e2 e3 b d r (↑(ae cs (Pf p)):Int)∧((0:Int)≤(↑(ae cs (Pf p)):Int)∧(↑(ae cs (Pf p)):Int)≤(↑(vc cs):Int)∧vc cs<10000∧∀(c:Int),c∈cs→jF c=true)∧∀(a_7:Nat),q8 a b d cs p e1 e2 e3 r sk rs fz K a_7))))
abbrev pZ (a b d:Addr)(cs:List Int)(p:Int)(e1 e2 e3:HE)(r sk:List HE)(rs fz:ah)(K:SV→St→Prop):Prop:=
  ((ak cs (↑(ae cs (Pf p)):Int)==(-1:Int))=true→∀(a_2:Nat),K (SV.tmp (0)) {loc:=[("self",SV.ref (4)),("start",SV.int (↑(ae cs (Pf p)):Int)),("code",SV.int (ak cs (↑(ae cs (Pf p)):Int)))],hp:=bM a cs e1 e2 e3 b d r (↑(ae cs (Pf p)):Int),sk:=sk,tp:=[HE.tup a_2 [SV.txt (p' "end"),SV.none,SV.int (↑(ae cs (Pf p)):Int)]],rst:=rs,fz:=fz})∧((ak cs (↑(ae cs (Pf p)):Int)==(-1:Int))=false→(Option.isSome (bb (ak cs (↑(ae cs (Pf p)):Int)))=true→∃(y:Str),bb (ak cs (↑(ae cs (Pf p)):Int))=some y∧∀(a_3:Nat),K (SV.tmp (0)) {loc:=[("self",SV.ref (4)),("start",SV.int (↑(ae cs (Pf p)):Int)),("code",SV.int (ak cs (↑(ae cs (Pf p)):Int)))],hp:=bM a cs e1 e2 e3 b d r ((↑(ae cs (Pf p)):Int)+(1:Int)),sk:=sk,tp:=[HE.tup a_3 [SV.str y,SV.none,SV.int (↑(ae cs (Pf p)):Int)]],rst:=rs,fz:=fz})∧(Option.isSome (bb (ak cs (↑(ae cs (Pf p)):Int)))=false→qA a b d cs p e1 e2 e3 r sk rs fz K))
theorem wC (w:World)(sc:Sc)(ke:KX)(a b d:Addr)(cs:List Int)(p:Int)(e1 e2 e3:HE)(r sk:List HE)(rs fz:ah)(K:SV→St→Prop) :
  (bM a cs e1 e2 e3 b d r p=bM a cs e1 e2 e3 b d r p∧((0:Int)≤p∧p≤(↑(vc cs):Int)∧vc cs<10000∧∀(c:Int),c∈cs→jF c=true)∧bM a cs e1 e2 e3 b d r (↑(ae cs (Pf p)):Int)=bM a cs e1 e2 e3 b d r (↑(ae cs (Pf p)):Int)∧((0:Int)≤(↑(ae cs (Pf p)):Int)∧vc cs<1099511627776)∧pZ a b d cs p e1 e2 e3 r sk rs fz K) →
  bw (bE {cs:=aK (aI 46 4),call:=aw [(240,eN),(254,gQ),(289,vC)],ke:=ke} (xt w sc) 12) (bz (aI 46 4)) {loc:=[("self",.ref 4)],hp:=.nlist a cs::e1::e2::e3::cb b d p::r,sk:=sk,tp:=[],rst:=rs,fz:=fz} (λfl st=>K (bW fl) st):=
 Qg (by kernel_rfl)
theorem A6 (O:X.Ok)(hn:6≤X.n):az X 289 vC:=by
 refine aP (n:=4) Gs J8 O hn λst args k ke hc=>?_
 obtain⟨_,p0,rfl,hk⟩:=cc hc
 clear hc
 obtain⟨a,cs,e1,e2,e3,b,d,p,r,hhp,⟨h0,h1,hz,hok⟩,hc⟩:=bP hk
 clear hk
 have e:=St.kk hhp
 clear hhp
 obtain⟨loc,sk,tp,rst,fz,rfl⟩:=e
 rw[gk]at hc
 refine bD.mk (λtl=>{cs:=aK (aI 46 8),call:=aw [(282,zm),(192,pO zv),(211,gW λx=>bG x∧x.length≤10000)],ke:=ke}) rfl rfl (λ_=>rfl)
  (λ_ X' S=>ax S (cI (Ay S.ok (by rw[S.n];decide)) (cI (kd S.ok (by rw[S.n];decide)) (cI (ot S.ok (by rw[S.n];decide)) dJ)))) λtl=>?_
 have hw:=pV hok (s:=p.toNat)
 have hl:=@oF cs p.toNat (aW cs p.toNat)
 refine zE _ _ _ a b d cs p p0 e1 e2 e3 r sk (tl++rst) fz _ ⟨rfl,⟨h0,h1,hz,hok⟩,λa1=>⟨λh a3=>bg.one ((hc a3).1 (beq_iff_eq.mp h)) rfl rfl rfl rfl,λh=>⟨⟨hw,by lia⟩,⟨hw,by lia⟩,λa3=>bg.one ((hc a3).2 (beq_eq_false_iff_ne.mp h)) rfl rfl rfl rfl⟩⟩⟩
def zB (st:St)(k:KV)(a:Addr)(q:Nat)(xs:List SV):Prop:=k (.tmp st.tp.length) ((qE st (q:Int)).LG (st.tp++[.tup a xs]))
def mM:cK:=λargs st k _=>qT (dF 4) args λ_=>eL st λcs p=>rn cs p∧∀a,
   (cs.length≤ae cs p.toNat→zB st k a (ae cs p.toNat) [.txt "end",.none,.int (ae cs p.toNat:Nat)]) ∧
   (ae cs p.toNat<cs.length →
    ((aS cs (ae cs p.toNat)).1=.opn true→zB st k a (aS cs (ae cs p.toNat)).2 [.txt "(",.none,.int (ae cs p.toNat:Nat)]) ∧
    ((aS cs (ae cs p.toNat)).1=.opn false→zB st k a (aS cs (ae cs p.toNat)).2 [.txt "[",.none,.int (ae cs p.toNat:Nat)]) ∧
    ((aS cs (ae cs p.toNat)).1=.quo→zB st k a (aS cs (ae cs p.toNat)).2 [.txt "'",.none,.int (ae cs p.toNat:Nat)]) ∧
    ((aS cs (ae cs p.toNat)).1=.dot→zB st k a (aS cs (ae cs p.toNat)).2 [.txt ".",.none,.int (ae cs p.toNat:Nat)]) ∧
    ((aS cs (ae cs p.toNat)).1=.cls true→zB st k a (aS cs (ae cs p.toNat)).2 [.txt ")",.none,.int (ae cs p.toNat:Nat)]) ∧
    ((aS cs (ae cs p.toNat)).1=.cls false→zB st k a (aS cs (ae cs p.toNat)).2 [.txt "]",.none,.int (ae cs p.toNat:Nat)]) ∧
    (∀x,(aS cs (ae cs p.toNat)).1=.sym x→zB st k a (aS cs (ae cs p.toNat)).2 [.txt "symbol",.str x,.int (ae cs p.toNat:Nat)]))
noncomputable def IK (b:Bool):Str:=match b with
 |true=>"("
 |false=>"["
noncomputable def K4 (b:Bool):Str:=match b with
 |true=>")"
 |false=>"]"
noncomputable def LN (t:Tk)(q:Nat):List SV:=match t with
 |.opn b=>[.txt (IK b),.none,.int (q:Nat)]
 |.cls b=>[.txt (K4 b),.none,.int (q:Nat)]
 |.quo=>[.txt "'",.none,.int (q:Nat)]
 |.dot=>[.txt ".",.none,.int (q:Nat)]
 |.sym x=>[.txt "symbol",.str x,.int (q:Nat)]
section
variable {cs:List Int}{q:Nat}
theorem BA {P:Nat→List SV→Prop}(h:((aS cs q).1=.opn true→P (aS cs q).2 [.txt "(",.none,.int (q:Nat)])∧((aS cs q).1=.opn false→P (aS cs q).2 [.txt "[",.none,.int (q:Nat)])∧((aS cs q).1=.quo→P (aS cs q).2 [.txt "'",.none,.int (q:Nat)])∧((aS cs q).1=.dot→P (aS cs q).2 [.txt ".",.none,.int (q:Nat)]) ∧
  ((aS cs q).1=.cls true→P (aS cs q).2 [.txt ")",.none,.int (q:Nat)])∧((aS cs q).1=.cls false→P (aS cs q).2 [.txt "]",.none,.int (q:Nat)])∧(∀x,(aS cs q).1=.sym x→P (aS cs q).2 [.txt "symbol",.str x,.int (q:Nat)])) (e:aS cs q=(t,n)):P n (LN t q):=by
 rw[e]at h
 cases t with
 |opn b=>cases b with
  |true=>exact h.1 rfl
  |false=>exact h.2.1 rfl
 |quo=>exact h.2.2.1 rfl
 |dot=>exact h.2.2.2.1 rfl
 |cls b=>cases b with
  |true=>exact h.2.2.2.2.1 rfl
  |false=>exact h.2.2.2.2.2.1 rfl
 |sym x=>exact h.2.2.2.2.2.2 x rfl
inductive qY (cs:List Int)(q:Nat)(y:Str):Prop
 |mk (t:Tk)(e:aS cs q=(t,q+1))(s:LN t q=[.txt y,.none,.int (q:Nat)])
theorem lH (hL:jF (cs.getD q 0)=true)(f:bb (cs.getD q 0)=some y):qY cs q y:=by
 suffices h:∀c,jF c=true→bb c=some y→cs.getD q 0=c→qY cs q y from h _ hL f rfl
 exact λc hc=>i5 (P:=λc=>bb c=some y→cs.getD q 0=c→qY cs q y) hc (by
  intro x hx f e
  simp only[QB,Qv,or_false]at hx
  rcases hx with rfl|rfl|rfl|rfl|rfl|rfl|rfl|rfl|rfl|rfl|rfl|rfl
  ·exact Pd f▸⟨.opn true,by unfold aS;rw[e];rfl,rfl⟩
  ·exact Pd f▸⟨.cls true,by unfold aS;rw[e];rfl,rfl⟩
  ·exact Pd f▸⟨.opn false,by unfold aS;rw[e];rfl,rfl⟩
  ·exact Pd f▸⟨.cls false,by unfold aS;rw[e];rfl,rfl⟩
  ·exact Pd f▸⟨.quo,by unfold aS;rw[e];rfl,rfl⟩
  all_goals exact nS f)
theorem oZ (f:bb (cs.getD q 0)=none):aS cs q=(if cj cs q (aW cs q)=p' "." then .dot else .sym (cj cs q (aW cs q)),aW cs q):=by
 have no:∀k:Int,(bb k).isSome=true→cs.getD q 0≠k:=λk hk e=>by rw[←e,f]at hk;exact bF hk
 unfold aS
 rw[if_neg (no 40 rfl),if_neg (no 41 rfl),if_neg (no 91 rfl),if_neg (no 93 rfl),if_neg (no 39 rfl)]
end
theorem yT (O:X.Ok)(hn:8≤X.n):az X 261 mM:=by
 refine aP (n:=6) Hq Lo O hn λst args k ke hc=>?_
 obtain⟨_,rfl,hk⟩:=cf hc
 clear hc
 obtain⟨a,cs,e1,e2,e3,b,d,p,r,hhp,⟨h0,h1,hz,hok⟩,hc⟩:=bP hk
 clear hk
 have e:=St.kk hhp
 clear hhp
 obtain⟨loc,sk,tp,rst,fz,rfl⟩:=e
 refine bD.mk (λtl=>{cs:=aK (aI 46 4),call:=aw [(240,eN),(254,gQ),(289,vC)],ke:=ke}) rfl rfl (λ_=>rfl)
  (λ_ X' S=>ax S (cI (gG S.ok (by rw[S.n];decide)) (cI (e8 S.ok (by rw[S.n];decide)) (cI (A6 S.ok (by rw[S.n];decide)) dJ)))) λtl=>?_
 have hle:ae cs p.toNat≤cs.length:=dA (by lia)
 refine wC _ _ _ a b d cs p e1 e2 e3 r sk (tl++rst) fz _ ⟨rfl,⟨h0,h1,hz,hok⟩,rfl,⟨PG _,PF hz (by decide)⟩,?_⟩
 rcases dC hok hle with⟨hl,hcd⟩|⟨hl,hcd,hL0⟩
 ·exact⟨λ_ a2=>bg.one ((hc a2).1 hl) rfl rfl rfl rfl,λh=>(by rw[hcd]at h;exact bT h)⟩
 ·have hL:=hL0
  rw[←hcd]at hL
  have arm:∀{t n} (a2:Addr),aS cs (ae cs p.toNat)=(t,n)→zB _ k a2 n (LN t (ae cs p.toNat)):=λa2 e=>BA (P:=zB _ k a2) ((hc a2).2 hl) e
  clear hc
  refine⟨λh=>bF ((eC hL rfl).symm.trans h),λ_=>⟨λh=>?_,λh=>⟨λh2=>bF ((eC hL rfl).symm.trans h2),λ_=>⟨λh2=>bF ((eC hL rfl).symm.trans h2),λ_=>⟨λh2=>bF ((eC hL rfl).symm.trans h2),λ_=>⟨λh2=>bF ((eC hL rfl).symm.trans h2),λ_=>⟨rfl,⟨PG _,Int.ofNat_le.mpr hle,hz,hok⟩,λa7=>?_⟩⟩⟩⟩⟩⟩⟩
  ·rcases Option.isSome_iff_exists.mp h with⟨y,f⟩
   obtain⟨t,e,hs⟩:=lH hL0 (hcd▸f)
   refine⟨y,f,λa2=>?_⟩
   have c:=arm a2 e
   rw[hs]at c
   exact bg.MS (tp':=[.tup a2 [.txt y,.none,.int ((ae cs p.toNat:Nat):Int)]]) (bg.one (e:=.tup a2 [.txt y,.none,.int ((ae cs p.toNat:Nat):Int)]) c rfl rfl rfl rfl) rfl λD l L=>L.Jg λvs i=>i.txt
  ·have f:=Option.isNone_iff_eq_none.mp (Option.isSome_eq_false_iff.mp h)
   rw[hcd]at f
   have e:=oZ f
   show _∧_
   rw[Qf]
   exact⟨λh7=>by rw[if_pos h7]at e;exact bg.one (arm a7 e) rfl rfl rfl rfl,λh7=>by rw[if_neg h7]at e;exact bg.one (arm a7 e) rfl rfl rfl rfl⟩
noncomputable def SV.okN (n:Nat):SV→Bool
 |.ref k=>Nat.blt k n
 |.stk _=>false
 |.tmp _=>false
 |_=>true
theorem SV.jW (h:D.hp.take n=D'.hp.take n){sv:SV}(ok:sv.okN n=true)(r:sv.R D v):sv.R D' v:=by
 cases sv<;>first|exact r|(cases ok;done)|skip
 obtain⟨a,e,rfl⟩:=r
 have hk:_<n:=PT ok
 refine⟨a,?_,rfl⟩
 have e1:=List.getElem?_take_of_lt (l:=D.hp) hk
 have e2:=List.getElem?_take_of_lt (l:=D'.hp) hk
 rw[←e2,←h,e1];exact e
theorem FR.okN (h:D.hp.take n=D'.hp.take n)(f:FR D fs es)(ok:(fs.all λp=>p.2.okN n)=true):FR D' fs es:=by
 induction f with
 |nil=>exact .nil
 |cons r _ ih=>
  rw[Qb,Pe]at ok
  exact .cons (SV.jW h ok.1 r) (ih ok.2)
theorem IR.okN (h:D.hp.take n=D'.hp.take n)(f:IR D xs vs)(ok:(xs.all (·.okN n))=true):IR D' xs vs:=by
 induction f with
 |nil=>exact .nil
 |cons r _ ih=>
  rw[Qb,Pe]at ok
  exact .cons (SV.jW h ok.1 r) (ih ok.2)
noncomputable def HE.okN (n:Nat):HE→Bool
 |.inst _ _ _ fs=>fs.all λp=>p.2.okN n
 |.exc _ _ _ fs _=>fs.all λp=>p.2.okN n
 |.list _ pre suf=>(pre++suf).all (·.okN n)
 |.tup _ xs=>xs.all (·.okN n)
 |.dict _ fs=>fs.all λp=>p.2.okN n
 |_=>true
theorem HL.okN (h:D.hp.take n=D'.hp.take n)(H:HL D e l)(ok:e.okN n=true):HL D' e l:=by
 cases H with
 |inst f=>exact .inst (f.okN h ok)
 |exc f=>exact .exc (f.okN h ok)
 |list i=>exact .list (i.okN h ok)
 |tup i=>exact .tup (i.okN h ok)
 |nlist i=>exact .nlist i
 |slist i=>exact .slist i
 |vlist=>exact .vlist
 |dict f=>exact .dict (f.okN h ok)
 |map i j=>exact .map i j
 |raw=>exact .raw
 |gone=>exact .gone
theorem LL.okN (h:D.hp.take n=D'.hp.take n)(H:LL D es l)(ok:(es.all (·.okN n))=true):LL D' es l:=by
 induction H with
 |nil=>exact .nil
 |cons r _ ih=>
  rw[Qb,Pe]at ok
  exact .cons (r.okN h ok.1) (ih ok.2)
theorem Inv.lay {st:St}(I:Inv X st s)(hl:∀x sv',look x st'.loc=some sv'→∃sv,look x st.loc=some sv∧∀v,sv.R st.ad v→sv'.R st'.ad v)(h:∀l l',LL st.ad.low (st.hp++st.sk) l→LL st.ad.bot st.tp l'→∃k k' z,LL st'.ad.low (st'.hp++st'.sk) k∧LL st'.ad.bot st'.tp k'∧(l++(l'++st.rf)).Perm ((k++(k'++st'.rf))++z)):Inv X st' s:=by
 obtain⟨m,l,l',L1,L2,hlo,F,N,nd⟩:=I.ex
 obtain⟨k,k',z,K1,K2,pm⟩:=h l l' L1 L2
 have sub:=Q8 (k++(k'++st'.rf)) z
 refine⟨⟨m,k,k',K1,K2,λx sv' q=>?_,F,λp hp=>N p (pm.mem_iff.mpr (sub.mem hp)),(nd.perm pm).sub sub⟩,I.gens,I.os⟩
 obtain⟨sv,q1,q2⟩:=hl x sv' q
 obtain⟨v,a,b⟩:=hlo x sv q1
 exact⟨v,a,q2 v b⟩
theorem bj {l:ah}(h:∀(b:BEq (Addr×Obj))(_:LawfulBEq (Addr×Obj))(p:Addr×Obj),l.count p=k.count p):l.Perm k:=by
 haveI:DecidableEq (Addr×Obj):=Classical.typeDecidableEq _
 exact List.perm_iff_count.mpr λp=>h _ inferInstance p
noncomputable def SV.val?:SV→Option Value
 |.opq v=>some v
 |.top a=>some (.ref a)
 |_=>Tg
theorem SV.lz {sv:SV}(h:sv.val?=some u)(r:sv.R D v):v=u:=by
 cases sv<;>first|(cases h;exact r)|cases h
theorem cx.frozen {st:St}(htp:st₂.tp=[.inst x C dx fs])(hhp:st₂.hp.map HE.addr=st.hp.map HE.addr)(hsk:st₂.sk.map HE.addr=st.sk.map HE.addr)(hr:st₂.rst=tl++st.rst)(hk:∀es n,FR st₂.ad.bot fs es→k (.opq (.ref x)) {st with hp:=st₂.hp,sk:=st₂.sk,fz:=(x,QT C dx)::(dx,Qj es n)::st₂.fz}):cx st tl k x st₂:=λX s I=>by
 obtain⟨m,l,l',L1,L2,hlo,F,N,nd⟩:=I.ex
 have L2':=L2
 rw[htp]at L2'
 obtain⟨le,lr,rfl,H,T⟩:=LL.dm L2'
 cases T
 obtain⟨es,n,f,rfl⟩:=H.yO
 have pm:(l++(([(x,QT C dx),(dx,Qj es n)]++[])++(st₂.rst++st₂.fz))).Perm (l++([]++(st₂.rst++((x,QT C dx)::(dx,Qj es n)::st₂.fz)))):=by
  refine P4 _ ?_
  rw[Qt,Q1]
  exact QV _ _ _
 refine⟨.opq (.ref x),{st₂ with loc:=[],tp:=[],fz:=(x,QT C dx)::(dx,Qj es n)::st₂.fz},⟨⟨m,l,[],L1,.nil,(λx sv e=>nomatch e),F,λp hp=>N p (pm.mem_iff.mpr hp),nd.perm pm⟩,I.gens,I.os⟩,rfl,st.loc,hr,?_,λx sv0 q=>⟨sv0,q,λv r=>?_⟩,?_⟩
 ·show st.hp.map _ <+: st₂.hp.map _
  rw[hhp];exact Pp
 ·refine r.mono ⟨?_,?_,?_⟩
  ·show st.hp.map _ <+: st₂.hp.map _
   rw[hhp];exact Pp
  ·exact Qh _ _
  ·show st.sk.map _ <+: st₂.sk.map _
   rw[hsk];exact Pp
 ·have:=hk es n f
  rw[show st.tp++[]=st.tp from Qt _]
  exact this
theorem FR.fld (f:FR D fs es)(h:Internal.look x fs=some (.opq u)):getL x es=some (some u):=by
 obtain⟨v,e,r⟩:=f.look h
 rw[e,show v=u from r]
noncomputable def M9 (D D':Ad):List (Str×SV)→List (Str×SV)→Prop
 |[],[]=>True
 |(n,a)::r,(m,b)::t=>n=m∧(∀v,a.R D v→b.R D' v)∧M9 D D' r t
 |_,_=>False
theorem FR.cv (f:FR D fs es):∀{gs:List (Str×SV)},M9 D D' fs gs→FR D' gs es:=by
 induction f with
 |nil=>intro gs h;cases gs with
  |nil=>exact .nil
  |cons=>exact h.elim
 |cons r _ ih=>intro gs h;cases gs with
  |nil=>exact h.elim
  |cons p gs=>rcases p with⟨m,b⟩;obtain⟨rfl,h1,h2⟩:=h;exact .cons (h1 _ r) (ih h2)
theorem HL.eU (H:HL D (.inst a C d fs) l)(h:M9 D D' fs gs):HL D' (.inst a C d gs) l:=by
 obtain⟨_,_,f,rfl⟩:=H.yO
 exact .inst (f.cv h)
theorem cx.re {st:St}(h0:(tp'.map HE.addr)[0]?=some x)(hT:∀l,LL st₂.ad.bot st₂.tp l→LL st₂.ad.bot tp' l)(hhp:st₂.hp.map HE.addr=st.hp.map HE.addr)(hsk:st₂.sk.map HE.addr=st.sk.map HE.addr)(hr:st₂.rst=tl++st.rst)(hk:k (.tmp st.tp.length) {st with hp:=st₂.hp,sk:=st₂.sk,tp:=st.tp++tp',fz:=st₂.fz}):cx st tl k x st₂:=λX s I=>by
 refine⟨.tmp 0,{st₂ with loc:=[],tp:=tp'},I.re (st':={st₂ with loc:=[],tp:=tp'}) (λx sv e=>nomatch e) (λl h=>h) hT rfl rfl,⟨x,h0,rfl⟩,st.loc,hr,?_,λx sv0 q=>⟨sv0,q,λv r=>?_⟩,hk⟩
 ·show st.hp.map _ <+: st₂.hp.map _
  rw[hhp];exact Pp
 ·refine r.mono ⟨?_,?_,?_⟩
  ·show st.hp.map _ <+: st₂.hp.map _
   rw[hhp];exact Pp
  ·exact Qh _ _
  ·show st.sk.map _ <+: st₂.sk.map _
   rw[hsk];exact Pp
theorem cx.gone {st:St}(hhp:st₂.hp.map HE.addr=st.hp.map HE.addr)(hsk:st₂.sk.map HE.addr=st.sk.map HE.addr)(hr:st₂.rst=tl++st.rst)(hk:k (.opq (.ref x)) {st with hp:=st₂.hp,sk:=st₂.sk,fz:=st₂.fz}):cx st tl k x st₂:=λX s I=>by
 refine⟨.opq (.ref x),{st₂ with loc:=[],tp:=[]},I.drop,rfl,st.loc,hr,?_,λx sv0 q=>⟨sv0,q,λv r=>?_⟩,by rw[show st.tp++[]=st.tp from Qt _];exact hk⟩
 ·show st.hp.map _ <+: st₂.hp.map _
  rw[hhp];exact Pp
 ·refine r.mono ⟨?_,?_,?_⟩
  ·show st.hp.map _ <+: st₂.hp.map _
   rw[hhp];exact Pp
  ·exact Qh _ _
  ·show st.sk.map _ <+: st₂.sk.map _
   rw[hsk];exact Pp
theorem LL.Ie {pre:List SV}(h:∀ws,IR D (pre++suf) ws→ws=vs)(L:LL D (.list a pre suf::es) l):LL D (.vlist a vs::es) l:=by
 cases L with
 |cons H T=>
  obtain⟨_,_,i,rfl⟩:=H.listI
  cases h _ i;exact .cons .vlist T
def EV:cK:=λargs st k _=>ou gY mW args λ_ x=>∀(v:Addr) z t,dD z (.ref v) 334 [("name",.str x t)]→k (.opq (.ref v)) {st with fz:=z++st.fz}
def vo:cK:=λargs st k _=>ou l7 l7 args λa b=>ag a.val? λu=>ag b.val? λw=>(Rg u=true∧Rg w=true)∧∀(v:Addr) z,dD z (.ref v) 361 [("car",u),("cdr",w)]→k (.opq (.ref v)) {st with fz:=z++st.fz}
theorem Gg (w:World)(sc:Sc)(ke:KX)(n:Int)(y:Str)(x dx:Addr)(hp sk:List HE)(rs fz:ah)(K:SV→St→Prop) :
  (K SV.none {loc:=[("self",SV.tmp (0)),("number",SV.int n),("name",SV.str y)],hp:=hp,sk:=sk,tp:=[HE.inst x (334) dx [("number",SV.int n),("name",SV.str y)]],rst:=rs,fz:=fz}) →
  bw (bE {cs:=aK (aI 48 0),call:=aw [],ke:=ke} (xt w sc) 12) (bz (aI 48 0)) {loc:=[("self",.tmp 0),("number",.int n),("name",.str y)],hp:=hp,sk:=sk,tp:=[.inst x 334 dx []],rst:=rs,fz:=fz} (λfl st=>K (bW fl) st):=
 Qg (by kernel_rfl)
theorem Gb (O:X.Ok)(hn:3≤X.n):az X 334 EV:=by
 refine iS (n:=0) (C:=334) (ns:=["number","name"]) rfl Lg KL O hn λst args k ke hc=>?_
 obtain⟨i,y,rfl,hk⟩:=cc hc
 clear hc
 refine jq.mk ({cs:=aK (aI 48 0),call:=aw [],ke:=ke}) rfl rfl rfl (λX' S=>ax S dJ) λtl x dx=>?_
 refine Gg _ _ _ i y x dx st.hp st.sk (tl++st.rst) st.fz (λsv st₂=>sv=.none∧cx st tl k x st₂) ⟨rfl,cx.frozen rfl rfl rfl rfl λes n f=>?_⟩
 obtain⟨v,h1,t,rfl⟩:=f.look (x:="name") (sv:=.str y) rfl
 exact hk x [(x,QT 334 dx),(dx,Qj es n)] t ⟨.inl ⟨x,dx,es,n,rfl,.head _,.tail _ (.head _),λp hp=>by rw[Rl]at hp;subst hp;exact⟨h1,rfl⟩⟩⟩
theorem Bv (w:World)(sc:Sc)(ke:KX)(u v:Value)(x dx:Addr)(hp sk:List HE)(rs fz:ah)(K:SV→St→Prop) :
  (K SV.none {loc:=[("self",SV.tmp (0)),("car",SV.opq u),("cdr",SV.opq v)],hp:=hp,sk:=sk,tp:=[HE.inst x (361) dx [("car",SV.opq u),("cdr",SV.opq v)]],rst:=rs,fz:=fz}) →
  bw (bE {cs:=aK (aI 51 0),call:=aw [],ke:=ke} (xt w sc) 12) (bz (aI 51 0)) {loc:=[("self",.tmp 0),("car",.opq u),("cdr",.opq v)],hp:=hp,sk:=sk,tp:=[.inst x 361 dx []],rst:=rs,fz:=fz} (λfl st=>K (bW fl) st):=
 Qg (by kernel_rfl)
theorem AO (O:X.Ok)(hn:3≤X.n):az X 361 vo:=by
 intro A s st args vals k ke R hA I ir hc ret exc
 obtain⟨a,b,rfl,hk⟩:=cc hc
 clear hc
 obtain⟨u,ha,hk⟩:=aa hk
 obtain⟨w,hb,hk⟩:=aa hk
 obtain⟨⟨h1,h2⟩,hc⟩:=hk
 have ir':IR st.ad [.opq u,.opq w] vals:=by
  cases ir with|cons r1 ir=>cases ir with|cons r2 ir=>cases ir with|nil=>exact .cons (SV.lz ha r1) (.cons (SV.lz hb r2) .nil)
 refine xK (n:=0) (N:=12) (C:=361) (ns:=["car","cdr"]) (Γ:={cs:=aK (aI 51 0),call:=aw [],ke:=ke}) (T:=xt X.w (X.scr,X.sns)) rfl J5 GS O hA hn I ir' rfl rfl ret exc rfl (λX' S=>ax S dJ) λtl x dx=>?_
 refine Bv _ _ _ u w x dx st.hp st.sk (tl++st.rst) st.fz (λsv st₂=>sv=.none∧cx st tl k x st₂) ⟨rfl,cx.frozen rfl rfl rfl rfl λes n f=>?_⟩
 exact hc x [(x,QT 361 dx),(dx,Qj es n)] ⟨.inl ⟨x,dx,es,n,rfl,.head _,.tail _ (.head _),λp hp=>by
  rw[QB,Rl]at hp
  rcases hp with rfl|rfl
  ·exact⟨f.fld rfl,h1⟩
  ·exact⟨f.fld rfl,h2⟩⟩⟩
theorem Gf (w:World)(sc:Sc)(ke:KX)(x dx a:Addr)(hp sk:List HE)(rs fz:ah)(K:SV→St→Prop) :
  (K SV.none {loc:=[("self",SV.tmp (0)),("things",SV.opq (Pa a))],hp:=hp,sk:=sk,tp:=[HE.inst x (404) dx [("things",SV.opq (Pa a))]],rst:=rs,fz:=fz}) →
  bw (bE {cs:=aK (aI 53 0),call:=aw [],ke:=ke} (xt w sc) 12) (bz (aI 53 0)) {loc:=[("self",.tmp 0),("things",.opq (.ref a))],hp:=hp,sk:=sk,tp:=[.inst x 404 dx []],rst:=rs,fz:=fz} (λfl st=>K (bW fl) st):=
 Qg (by kernel_rfl)
noncomputable def Mb (l:List HE):Option {q:HE×Addr×List Value×List HE // l=q.1::.vlist q.2.1 q.2.2.1::q.2.2.2}:=match l with
 |[]=>none
 |a::r=>match r with
  |[]=>none
  |b::r=>match b with
   |.vlist x vs=>some ⟨(a,x,vs,r),rfl⟩
   |_=>none
def kp:cK:=λargs st k _=>qT (zF 1) args λ_=>ag (Mb st.sk) λq=>∀(v:Addr) z,dD z (.ref v) 404 [("things",.ref q.1.2.1)]→(∃n,(q.1.2.1,listOf q.1.2.2.1.toArray n)∈z)→k (.opq (.ref v)) {st with sk:=q.1.1::.gone q.1.2.1::q.1.2.2.2,fz:=z++st.fz}
theorem EL (O:X.Ok)(hn:3≤X.n):az X 404 kp:=by
 refine cD λst args k ke hc=>?_
 obtain⟨_,rfl,hk⟩:=cf hc
 clear hc
 obtain⟨⟨⟨e0,a,vs,sk⟩,hsk⟩,_,hk⟩:=aa hk
 obtain⟨loc,hp,sk',tp,rst,fz⟩:=st
 dsimp only at hsk
 subst hsk
 refine Calls.args (args':=[.opq (.ref a)]) (λus ir=>by
  obtain⟨_,rfl,⟨b,hb,rfl⟩⟩:=Gp ir
  cases hb
  exact .cons rfl .nil) (Calls.JZ (j:=1) (e:=.vlist a vs) rfl λle H=>?_)
 rcases H.dW with⟨nn,rfl⟩
 refine jq.calls (n:=0) (C:=404) (ns:=["things"]) rfl JX HY O hn (jq.mk {cs:=aK (aI 53 0),call:=aw [],ke:=ke} rfl rfl rfl (λX' S=>ax S dJ) λtl x dx=>?_)
 refine Gf _ _ _ x dx a hp _ (tl++rst) _ (λsv st₂=>sv=.none∧cx _ tl k x st₂) ⟨rfl,cx.frozen rfl rfl rfl rfl λes n f=>?_⟩
 exact hk x [(x,QT 404 dx),(dx,Qj es n),(a,listOf vs.toArray nn)] ⟨.inl ⟨x,dx,es,n,rfl,.head _,.tail _ (.head _),λp hp=>by
  rw[Rl]at hp;subst hp
  exact⟨f.fld rfl,rfl⟩⟩⟩ ⟨nn,.tail _ (.tail _ (.head _))⟩
def Ga:cK:=λargs st k _=>pY args (∀v,k (.opq (.ref v)) st)
theorem Ej (w:World)(sc:Sc)(ke:KX)(x dx:Addr)(hp sk:List HE)(rs fz:ah)(K:SV→St→Prop) :
  (∀(a a_1 a_2:Nat),K SV.none {loc:=[("self",SV.tmp (0))],hp:=hp,sk:=sk,tp:=[HE.inst x (470) dx [("conses",SV.opq (Pa a)),("tails",SV.opq (Pa a_1)),("cells",SV.opq (Pa a_2))],HE.list a [] [],HE.list a_1 [] [],HE.list a_2 [] []],rst:=rs,fz:=fz}) →
  bw (bE {cs:=aK (aI 60 0),call:=aw [],ke:=ke} (xt w sc) 12) (bz (aI 60 0)) {loc:=[("self",.tmp 0)],hp:=hp,sk:=sk,tp:=[.inst x 470 dx []],rst:=rs,fz:=fz} (λfl st=>K (bW fl) st):=
 Qg (by kernel_rfl)
theorem EN (O:X.Ok)(hn:3≤X.n):az X 470 Ga:=by
 refine iS (n:=0) (C:=470) (ns:=[]) rfl GJ H5 O hn λst args k ke hc=>?_
 rcases fq hc with⟨rfl,hk⟩
 clear hc
 refine jq.mk ({cs:=aK (aI 60 0),call:=aw [],ke:=ke}) rfl rfl rfl (λX' S=>ax S dJ) λtl x dx=>?_
 exact Ej _ _ _ x dx st.hp st.sk (tl++st.rst) st.fz (λsv st₂=>sv=.none∧cx st tl k x st₂) λ_ _ _=>⟨rfl,cx.gone rfl rfl rfl (hk x)⟩
theorem Bl (w:World)(sc:Sc)(ke:KX)(x dx:Addr)(y:Str)(p:Int)(hp sk:List HE)(rs fz:ah)(K:SV→St→Prop) :
  (∀(a v:Nat),K SV.none {loc:=[("self",SV.tmp (0)),("word",SV.str y),("place",SV.int p),("number",SV.none)],hp:=hp,sk:=sk,tp:=[HE.inst x (498) dx [("word",SV.str y),("place",SV.int p),("number",SV.none),("things",SV.opq (Pa a)),("tail",SV.top (340)),("dots",SV.num (0:Int)),("holder",SV.opq (Pa v))],HE.list a [] []],rst:=rs,fz:=fz}) →
  bw (bE {cs:=aK (aI 61 0),call:=aw [(470,Ga)],ke:=ke} (xt w sc) 12) (bz (aI 61 0)) {loc:=[("self",.tmp 0),("word",.str y),("place",.int p),("number",.none)],hp:=hp,sk:=sk,tp:=[.inst x 498 dx []],rst:=rs,fz:=fz} (λfl st=>K (bW fl) st):=
 Qg (by kernel_rfl)
def nC:cK:=λargs st k _=>FE l7 gY C4 args λa p _=>ag a.b7 λy=>∀fa fd ta h,k (.tmp st.tp.length) {st with tp:=st.tp++[.inst fa 498 fd [("word",.str y),("place",.int p),("number",.none),("things",.opq (.ref ta)),("tail",.opq (.ref 340)),("dots",.int 0),("holder",.opq (.ref h))],.vlist ta []]}
theorem B6 (O:X.Ok)(hn:6≤X.n):az X 498 nC:=by
 refine cD λst args k ke hc=>?_
 obtain⟨a,p,_,rfl,hk⟩:=hM hc
 clear hc
 obtain⟨y,ha,hk⟩:=aa hk
 refine Calls.args (args':=[.str y,.int p,.none]) (λvs ir=>by
  obtain⟨_,_,_,rfl,r1,r2,r3⟩:=vf ir
  exact .cons (SV.bA ha r1) (.cons r2 (.cons r3 .nil))) ?_
 refine jq.calls (n:=3) (C:=498) (ns:=["word","place","number"]) rfl Kx Ig O hn (jq.mk {cs:=aK (aI 61 0),call:=aw [(470,Ga)],ke:=ke} rfl rfl rfl (λX' S=>ax S (cI (EN S.ok (by rw[S.n];decide)) dJ)) λtl x dx=>?_)
 refine Bl _ _ _ x dx y p st.hp st.sk (tl++st.rst) st.fz (λsv st₂=>sv=.none∧cx st tl k x st₂) λa1 v=>⟨rfl,cx.re (tp':=[.inst x 498 dx [("word",.str y),("place",.int p),("number",.none),("things",.opq (.ref a1)),("tail",.opq (.ref 340)),("dots",.int 0),("holder",.opq (.ref v))],.vlist a1 []]) rfl (λl L=>?_) rfl rfl rfl (hk x dx a1 v)⟩
 cases L with
 |cons H T=>
  refine .cons (H.eU ⟨rfl,λ_ r=>r,rfl,λ_ r=>r,rfl,λ_ r=>r,rfl,λ_ r=>r,rfl,λ_ r=>r,rfl,λ_ r=>r,rfl,λ_ r=>r,trivial⟩) (T.Ie λws i=>?_)
  cases i;rfl
def wg:cK:=λargs st k _=>ou (dF 0) (w8 0) args λ_ _=>∀td d,k (.tmp st.tp.length) {st with tp:=st.tp++[.inst td 313 d [("codes",.ref 0),("place",.num 0)]]}
theorem FQ (w:World)(sc:Sc)(ke:KX)(x dx:Addr)(hp sk:List HE)(rs fz:ah)(K:SV→St→Prop) :
  (K SV.none {loc:=[("self",SV.tmp (0)),("codes",SV.ref (0)),("place",SV.num (0:Int))],hp:=hp,sk:=sk,tp:=[HE.inst x (313) dx [("codes",SV.ref (0)),("place",SV.num (0:Int))]],rst:=rs,fz:=fz}) →
  bw (bE {cs:=aK (aI 46 0),call:=aw [],ke:=ke} (xt w sc) 12) (bz (aI 46 0)) {loc:=[("self",.tmp 0),("codes",.ref 0),("place",.num 0)],hp:=hp,sk:=sk,tp:=[.inst x 313 dx []],rst:=rs,fz:=fz} (λfl st=>K (bW fl) st):=
 Qg (by kernel_rfl)
theorem A8 (O:X.Ok)(hn:3≤X.n):az X 313 wg:=by
 refine iS (n:=0) (C:=313) (ns:=["codes","place"]) rfl Ip Hk O hn λst args k ke hc=>?_
 obtain⟨_,_,rfl,hk⟩:=cc hc
 clear hc
 refine jq.mk ({cs:=aK (aI 46 0),call:=aw [],ke:=ke}) rfl rfl rfl (λX' S=>ax S dJ) λtl x dx=>?_
 exact FQ _ _ _ x dx st.hp st.sk (tl++st.rst) st.fz (λsv st₂=>sv=.none∧cx st tl k x st₂) ⟨rfl,cx.re rfl (λl L=>L) rfl rfl rfl (hk x dx)⟩
theorem tI (w:World)(sc:Sc)(ke:KX)(x dx:Addr)(hp sk:List HE)(rs fz:ah)(K:SV→St→Prop) :
  (∀(td d d_1:Nat),K SV.none {loc:=[("self",SV.tmp (0)),("codes",SV.ref (0)),("obarray",SV.ref (1)),("place",SV.num (0:Int)),("spans_of",SV.none)],hp:=hp,sk:=sk,tp:=[HE.inst x (604) dx [("tokens",SV.opq (Pa td)),("obarray",SV.ref (1)),("spans_of",SV.none),("labels",SV.opq (Pa d_1))],HE.inst td (313) d [("codes",SV.ref (0)),("place",SV.num (0:Int))]],rst:=rs,fz:=fz}) →
  bw (bE {cs:=aK (aI 65 0),call:=aw [(313,wg)],ke:=ke} (xt w sc) 12) (bz (aI 65 0)) {loc:=[("self",.tmp 0),("codes",.ref 0),("obarray",.ref 1),("place",.num 0),("spans_of",.none)],hp:=hp,sk:=sk,tp:=[.inst x 604 dx []],rst:=rs,fz:=fz} (λfl st=>K (bW fl) st):=
 Qg (by kernel_rfl)
def iT:cK:=λargs st k _=>ou (dF 0) (dF 1) args λ_ _=>∀rd rr td d lab,k (.tmp st.tp.length) {st with tp:=st.tp++[.inst rd 604 rr [("tokens",.opq (.ref td)),("obarray",.ref 1),("spans_of",.none),("labels",.opq (.ref lab))],.inst td 313 d [("codes",.ref 0),("place",.int 0)]]}
theorem AU (P:PJ):(Kf P).lookup 531=some ⟨.type "tuple",none,.seq #[.int 0 1084,.none] 0,#[]⟩:=by kernel_rfl
theorem uv (O:X.Ok)(hn:6≤X.n):az X 604 iT:=by
 intro A s st args vals k ke R hA I ir hc ret exc
 obtain⟨_,_,rfl,hk⟩:=cc hc
 clear hc
 cases ir with|@cons _ v0 _ _ r0 ir=>cases ir with|@cons _ v1 _ _ r1 ir=>cases ir with|nil=>
  refine v5 (n:=3) (N:=12) (bs:=(["self","codes","obarray","place","spans_of"]:List Str).zip [.tmp 0,.ref 0,.ref 1,.num 0,.none]) (binds:=λx=>(["self","codes","obarray","place","spans_of"]:List Str).zip [x,v0,v1,.int 0 1084,.none]) (Γ:={cs:=aK (aI 65 0),call:=aw [(313,wg)],ke:=ke}) (T:=xt X.w (X.scr,X.sns)) (C:=604) rfl G5 O hA hn I (λx s' hK=>binds_K hK rfl (AU _) rfl rfl rfl) (λx=>by kernel_rfl) (λy=>dR (D:=⟨st.ad.hp,st.ad.sk,[y]⟩) (svs:=[.tmp 0,.ref 0,.ref 1,.num 0,.none]) (.cons ⟨y,rfl,rfl⟩ (.cons r0 (.cons r1 (.cons ⟨_,rfl⟩ (.cons rfl .nil))))) (by kernel_rfl)) ret exc rfl (λX' S=>ax S (cI (A8 S.ok (by rw[S.n];decide)) dJ)) λtl x dx=>?_
  refine tI _ _ _ x dx st.hp st.sk (tl++st.rst) st.fz (λsv st₂=>sv=.none∧cx st tl k x st₂) λtd d lab=>⟨rfl,cx.re (tp':=[.inst x 604 dx [("tokens",.opq (.ref td)),("obarray",.ref 1),("spans_of",.none),("labels",.opq (.ref lab))],.inst td 313 d [("codes",.ref 0),("place",.int 0)]]) rfl (λl L=>?_) rfl rfl rfl (hk x dx td d lab)⟩
  cases L with
  |cons H T=>
   cases T with
   |cons H2 T=>exact .cons H (.cons (H2.eU ⟨rfl,λ_ r=>r,rfl,λ_ r=>r,trivial⟩) (by cases T with|nil=>exact .nil))
theorem p9 (w:World)(sc:Sc)(ke:KX)(x dx:Addr)(hp sk:List HE)(rs fz:ah)(K:SV→St→Prop) :
  (∀(a d:Nat),K SV.none {loc:=[("self",SV.tmp (0))],hp:=hp,sk:=sk,tp:=[HE.inst x (688) dx [("rows",SV.opq (Pa a)),("names",SV.opq (Pa d))],HE.list a [] [SV.top (340),SV.top (343)],HE.map d w [("nil",Pa (340)),("t",Pa (343))]],rst:=rs,fz:=fz}) →
  bw (bE {cs:=aK (aI 68 0),call:=aw [],ke:=ke} (xt w sc) 12) (bz (aI 68 0)) {loc:=[("self",.tmp 0)],hp:=hp,sk:=sk,tp:=[.inst x 688 dx []],rst:=rs,fz:=fz} (λfl st=>K (bW fl) st):=
 Qg (by kernel_rfl)
def jS (w:World):cK:=λargs st k _=>pY args (∀x dx a d,k (.tmp st.tp.length) {st with tp:=st.tp++[.inst x 688 dx [("rows",.opq (.ref a)),("names",.opq (.ref d))],.vlist a [.ref 340,.ref 343],.map d w [("nil",.ref 340),("t",.ref 343)]]})
theorem qq (O:X.Ok)(hn:3≤X.n):az X 688 (jS X.w):=by
 refine iS (n:=0) (C:=688) (ns:=[]) rfl Ku G9 O hn λst args k ke hc=>?_
 rcases fq hc with⟨rfl,hk⟩
 clear hc
 refine jq.mk ({cs:=aK (aI 68 0),call:=aw [],ke:=ke}) rfl rfl rfl (λX' S=>ax S dJ) λtl x dx=>?_
 refine p9 _ _ _ x dx st.hp st.sk (tl++st.rst) st.fz (λsv st₂=>sv=.none∧cx st tl k x st₂) λa d=>⟨rfl,cx.re (tp':=[.inst x 688 dx [("rows",.opq (.ref a)),("names",.opq (.ref d))],.vlist a [.ref 340,.ref 343],.map d X.w [("nil",.ref 340),("t",.ref 343)]]) rfl (λl L=>?_) rfl rfl rfl (hk x dx a d)⟩
 cases L with
 |cons H T=>
  refine .cons H (T.Ie λws i=>?_)
  cases i with|cons a i=>cases i with|cons b i=>cases i with|nil=>cases a;cases b;rfl
noncomputable abbrev pb (oa od:Addr):HE:=.inst oa 688 od [("rows",.ref 2),("names",.ref 3)]
noncomputable def Ox (e:HE):Option (Addr×List Value):=match e with
 |.vlist a vs=>some (a,vs)
 |_=>none
noncomputable def Oq (e:HE):Option (Addr×World×List (Str×Value)):=match e with
 |.map a w kvs=>some (a,w,kvs)
 |_=>none
def qe (st:St)(K:World→List Value→List (Str×Value)→Prop):Prop:=
 ag (vj st.hp) λq0=>ag (vj q0.2) λq1=>ag (Ca q1.1) λo=>ag (vj q1.2) λq2=>ag (Ox q2.1) λv=>ag (vj q2.2) λq3=>ag (Oq q3.1) λm=>
  st.hp=q0.1::pb o.1 o.2.1::.vlist v.1 v.2::.map m.1 m.2.1 m.2.2::q3.2∧K m.2.1 v.2 m.2.2
noncomputable def HP (rows:List Value)(names:List (Str×Value))(e:HE):HE:=match e with
 |.vlist a _=>.vlist a rows
 |.map a w _=>.map a w names
 |e=>e
noncomputable def zc (f:HE→HE)(n:Nat)(l:List HE):List HE:=match l with
 |[]=>[]
 |e::r=>match n with
  |0=>f e::match r with
   |[]=>[]
   |g::r2=>f g::r2
  |n+1=>e::zc f n r
noncomputable def nT (st:St)(rows:List Value)(names:List (Str×Value)):St:={st with hp:=zc (HP rows names) 2 st.hp}
theorem fZ {st:St}{K:World→List Value→List (Str×Value)→Prop}(h:qe st K):∃x0 oa od ra rows na w names r,st.hp=x0::pb oa od::.vlist ra rows::.map na w names::r∧K w rows names:=by
 obtain⟨q0,_,h⟩:=aa h
 obtain⟨q1,_,h⟩:=aa h
 obtain⟨o,_,h⟩:=aa h
 obtain⟨q2,_,h⟩:=aa h
 obtain⟨v,_,h⟩:=aa h
 obtain⟨q3,_,h⟩:=aa h
 obtain⟨m,_,h⟩:=aa h
 exact⟨_,_,_,_,_,_,_,_,_,h⟩
def pG:cK:=λargs st k _=>ou (dF 1) mW args λ_ x=>qe st λ_ rows names=>rows.length<2^20∧∀(v:Addr) z t,dD z (.ref v) 334 [("name",.str x t)]→k (.opq (.ref v)) ((nT st (rows++[.ref v]) names).Mv (z++st.fz))
theorem xU (w w2:World)(sc:Sc)(ke:KX)(y:Str)(x0:HE)(oa od ra na:Addr)(rows:List Value)(names:List (Str×Value))(r sk:List HE)(rs fz:ah)(K:SV→St→Prop) :
  (vc rows<1152921504606846976∧∀(v:Nat)(z:List (Addr×Obj))(t:Nat),dD z (Pa v) (334) [("name",Qn y t)]→vc rows<1048576∧∀(u:Value),u=Pa v→K (SV.opq (Pa v)) {loc:=[("self",SV.ref (1)),("name",SV.str y),("found",SV.opq (Pa v))],hp:=x0::HE.inst oa (688) od [("rows",SV.ref (2)),("names",SV.ref (3))]::HE.vlist ra (rows++[u])::HE.map na w2 names::r,sk:=sk,tp:=[],rst:=rs,fz:=z++fz}) →
  bw (bE {cs:=aK (aI 68 3),call:=aw [(334,EV)],ke:=ke} (xt w sc) 12) (bz (aI 68 3)) {loc:=[("self",.ref 1),("name",.str y)],hp:=x0::pb oa od::.vlist ra rows::.map na w2 names::r,sk:=sk,tp:=[],rst:=rs,fz:=fz} (λfl st=>K (bW fl) st):=
 Qg (by kernel_rfl)
theorem x9 (O:X.Ok)(hn:5≤X.n):az X 650 pG:=by
 refine aP (n:=3) Hg IP O hn λst args k ke hc=>?_
 obtain⟨_,y,rfl,hk⟩:=cc hc
 clear hc
 obtain⟨x0,oa,od,ra,rows,na,w,names,r,hhp,hz,hc⟩:=fZ hk
 clear hk
 have e:=St.kk hhp
 clear hhp
 obtain⟨loc,sk,tp,rst,fz,rfl⟩:=e
 refine bD.mk (λtl=>{cs:=aK (aI 68 3),call:=aw [(334,EV)],ke:=ke}) rfl rfl (λ_=>rfl) (λ_ X' S=>ax S (cI (Gb S.ok (by rw[S.n];decide)) dJ)) λtl=>?_
 refine xU _ w _ _ y x0 oa od ra na rows names r sk (tl++rst) fz _ ⟨by lia,λv z t fr=>⟨hz,λu hu=>?_⟩⟩
 subst hu
 exact bg.same (sv':=.opq (.ref v)) (hc v z t fr) rfl rfl rfl rfl λD v r=>r
theorem bX:∀{l m:List (Str×SV)},look x l=some sv→look x (l++m)=some sv
 |[],_,h=>nomatch h
 |(y,w)::r,m,h=>by
  rw[List.cons_append]
  show(match y==x with|true=>some w|false=>look x (r++m))=some sv
  rcases mB h with⟨q,h⟩|⟨q,h⟩
  ·rw[q];exact h
  ·rw[q];exact bX h
def e9 (fz:ah)(v:Value)(x:Str):Prop:=∃a t,v=.ref a∧dD fz (.ref a) 334 [("name",.str x t)]
def vw (x:Str):Prop:=bG x∨x=p' "quote"
def aG (fz:ah)(names:List (Str×Value)):Prop:=∀x u,vw x→RZ names x=some u→e9 fz u x
inductive Chain (fz:ah)(tv:Value):Value→List Value→Prop
 |nil:Chain fz tv tv []
 |cons {v u w:Value}{us:List Value}:dD fz v 361 [("car",u),("cdr",w)]→Chain fz tv w us→Chain fz tv v (u::us)
mutual
inductive dc (fz:ah):Value→Pz→Prop
 |sym {v:Value}{x:Str}:e9 fz v x→dc fz v (.str x)
 |cons {v a b:Value}{d e:Pz}:dD fz v 361 [("car",a),("cdr",b)]→dc fz a d→dc fz b e→dc fz v (iw d e)
 |vec {v:Value}{l:Addr}{n:Nat}{vs:List Value}{ds:List Pz}:dD fz v 404 [("things",.ref l)]→(l,listOf vs.toArray n)∈fz→bH fz vs ds→dc fz v (.list (.str "vector"::ds))
inductive bH (fz:ah):List Value→List Pz→Prop
 |nil:bH fz [] []
 |cons {v:Value}{d:Pz}{vs:List Value}{ds:List Pz}:dc fz v d→bH fz vs ds→bH fz (v::vs) (d::ds)
end
theorem dD.mono (z:dD fz u D fs)(k:∀p∈fz,p∈fz'):dD fz' u D fs:=by
 rcases z.ex with⟨a,d,es,n,e,h1,h2,h3⟩|h
 ·exact⟨.inl ⟨a,d,es,n,e,k _ h1,k _ h2,h3⟩⟩
 ·exact⟨.inr h⟩
theorem e9.mono (h:e9 fz v x)(k:∀p∈fz,p∈fz'):e9 fz' v x:=by
 obtain⟨a,t,e,f⟩:=h
 exact⟨a,t,e,f.mono k⟩
theorem aG.mono (h:aG fz names)(k:∀p∈fz,p∈fz'):aG fz' names:=λx u hx hu=>(h x u hx hu).mono k
theorem Chain.mono (h:Chain fz tv v us)(k:∀p∈fz,p∈fz'):Chain fz' tv v us:=by
 induction h with
 |nil=>exact .nil
 |cons f _ ih=>exact .cons (f.mono k) ih
theorem dc.mono (h:dc fz v d)(k:∀p∈fz,p∈fz'):dc fz' v d:=
 dc.rec (motive_1:=λv d _=>dc fz' v d) (motive_2:=λvs ds _=>bH fz' vs ds) (λs=>.sym (s.mono k)) (λf _ _ a b=>.cons (f.mono k) a b) (λf m _ i=>.vec (f.mono k) (k _ m) i) .nil (λ_ _ a b=>.cons a b) h
theorem bH.ind {P:List Value→List Pz→Prop}(h0:P [] [])(h1:∀v d vs ds,dc fz v d→bH fz vs ds→P vs ds→P (v::vs) (d::ds))(h:bH fz vs ds):P vs ds:=
 bH.rec (motive_1:=λ_ _ _=>True) (motive_2:=λvs ds _=>P vs ds) (λ_=>trivial) (λ_ _ _ _ _=>trivial) (λ_ _ _ _=>trivial) h0 (λa b _ p=>h1 _ _ _ _ a b p) h
theorem bH.mono (h:bH fz vs ds)(k:∀p∈fz,p∈fz'):bH fz' vs ds:=bH.ind (P:=bH fz') .nil (λ_ _ _ _ a _ b=>.cons (a.mono k) b) h
theorem bH.append (h:bH fz vs ds)(g:bH fz us es):bH fz (vs++us) (ds++es):=bH.ind (P:=λvs ds=>bH fz (vs++us) (ds++es)) g (λ_ _ _ _ a _ b=>.cons a b) h
theorem bH.len (h:bH fz vs ds):vs.length=ds.length:=bH.ind (P:=λvs ds=>vs.length=ds.length) rfl (λ_ _ _ _ _ _ b=>congrArg (·+1) b) h
theorem bH.both (h:bH fz vs ds){j:Nat}(e:vs[j]?=some v):∃d,ds[j]?=some d∧dc fz v d:=
 bH.ind (P:=λvs ds=>∀j v,vs[j]?=some v→∃d,ds[j]?=some d∧dc fz v d) (λj v e=>by rw[List.getElem?_nil]at e;exact nS e) (λv d vs ds a _ b j u e=>by
  cases j with
  |zero=>exact⟨d,rfl,Pd e▸a⟩
  |succ j=>exact b j u e) h j v e
theorem dc.j' (h:dc fz v d):d6 fz v:=by
 cases h with
 |sym s=>obtain⟨a,t,rfl,f⟩:=s;exact⟨_,_,f,rfl⟩
 |cons f _ _=>exact⟨_,_,f,rfl⟩
 |vec f _ _=>exact⟨_,_,f,rfl⟩
theorem dD.ref (z:dD fz u D fs):∃a,u=.ref a:=by
 rcases z.ex with⟨a,_,_,_,e,_⟩|⟨e,_⟩
 ·exact⟨a,e⟩
 ·exact⟨_,e⟩
theorem dc.ref (h:dc fz v d):∃a,v=.ref a:=by
 obtain⟨_,_,f,_⟩:=h.j'
 exact f.ref
theorem dc.handed (h:dc fz v d):Rg v=true:=by
 rcases h.ref with⟨a,rfl⟩;rfl
theorem dc.nil:dc fz (.ref 340) gI:=.sym ⟨340,769,rfl,⟨.inr ⟨rfl,rfl,λp hp=>by rw[Rl]at hp;exact hp⟩⟩⟩
theorem Chain.OR (h:Chain fz tv v us)(ht:dc fz tv td):∀{ds:List Pz},bH fz us ds→dc fz v (fH td ds):=by
 induction h with
 |nil=>intro ds hd;cases hd;exact ht
 |cons f _ ih=>intro ds hd;cases hd with|cons a b=>exact .cons f a (ih b)
theorem bH.get (h:bH fz vs ds){j:Nat}(e:vs[j]?=some v):∃d,dc fz v d:=let⟨d,_,a⟩:=h.both e;⟨d,a⟩
def ft (w0:World):cK:=λargs st k _=>ou (dF 1) l7 args λ_ s=>ag s.b7 λx=>qe st λw rows names=>(w=w0∧rows.length<2^19∧names.length≤rows.length∧aG st.fz names∧vw x) ∧
    ∀(v:Addr) rows' names' z,e9 (z++st.fz) (.ref v) x→aG (z++st.fz) names'→rows'.length≤rows.length+1→names'.length≤rows'.length→k (.opq (.ref v)) ((nT st rows' names').Mv (z++st.fz))
abbrev nG (w:World)(y:Str)(x0:HE)(oa od ra na:Addr)(rows:List Value)(names:List (Str×Value))(r sk:List HE)(rs fz:ah)(K:SV→St→Prop):Prop:=
  (∀(u:Value),RZ names y=some u→∃(a:Nat),u=Pa a∧K (SV.opq (Pa a)) {loc:=[("self",SV.ref (1)),("name",SV.str y),("found",SV.opq (Pa a))],hp:=x0::HE.inst oa (688) od [("rows",SV.ref (2)),("names",SV.ref (3))]::HE.vlist ra rows::HE.map na w names::r,sk:=sk,tp:=[],rst:=rs,fz:=fz})∧(RZ names y=none→x0::HE.inst oa (688) od [("rows",SV.ref (2)),("names",SV.ref (3))]::HE.vlist ra rows::HE.map na w names::r=x0::HE.inst oa (688) od [("rows",SV.ref (2)),("names",SV.ref (3))]::HE.vlist ra rows::HE.map na w names::r∧vc rows<1048576∧∀(v:Nat)(z:List (Addr×Obj))(t:Nat),dD z (Pa v) (334) [("name",Qn y t)]→w=w∧vc names<1048576∧∀(u:Value),u=Pa v→K (SV.opq (Pa v)) {loc:=[("self",SV.ref (1)),("name",SV.str y),("found",SV.opq (Pa v))],hp:=x0::HE.inst oa (688) od [("rows",SV.ref (2)),("names",SV.ref (3))]::HE.vlist ra (rows++[Pa v])::HE.map na w (stored names y u)::r,sk:=sk,tp:=[],rst:=rs,fz:=z++fz})
theorem tK (w:World)(sc:Sc)(ke:KX)(y:Str)(x0:HE)(oa od ra na:Addr)(rows:List Value)(names:List (Str×Value))(r sk:List HE)(rs fz:ah)(K:SV→St→Prop) :
  (w=w∧nG w y x0 oa od ra na rows names r sk rs fz K) →
  bw (bE {cs:=aK (aI 68 1),call:=aw [(650,pG)],ke:=ke} (xt w sc) 12) (bz (aI 68 1)) {loc:=[("self",.ref 1),("name",.str y)],hp:=x0::pb oa od::.vlist ra rows::.map na w names::r,sk:=sk,tp:=[],rst:=rs,fz:=fz} (λfl st=>K (bW fl) st):=
 Qg (by kernel_rfl)
theorem nR (h:aG fz names)(hy:RZ names y=none)(hu:e9 fz u y):aG fz (stored names y u):=by
 rw[stored_absent hy]
 intro x w hx hw
 unfold RZ at hw
 rw[List.find?_append]at hw
 cases e:names.find? (λkv=>kv.1=x)with
 |some p=>
  rw[e]at hw
  exact h x w hx (by unfold RZ;rw[e];exact hw)
 |none=>
  rw[e]at hw
  by_cases q:y=x
  ·subst q
   rw[List.find?_cons_of_pos (by simp)]at hw
   cases hw
   exact hu
  ·rw[Sk (by simpa using q)]at hw
   cases hw
theorem lL (O:X.Ok)(hn:7≤X.n):az X 636 (ft X.w):=by
 refine cD λst args k ke hc=>?_
 obtain⟨_,sv,rfl,hk⟩:=cc hc
 clear hc
 obtain⟨y,hy,hk⟩:=aa hk
 refine Calls.args (args':=[.ref 1,.str y]) (λvs ir=>by
  obtain⟨v,w,rfl,r1,r2⟩:=nJ ir
  exact .cons r1 (.cons (SV.bA hy r2) .nil)) ?_
 obtain⟨x0,oa,od,ra,rows,na,w,names,r,hhp,⟨rfl,hz,hz2,hno,hask⟩,hc⟩:=fZ hk
 clear hk
 have e:=St.kk hhp
 clear hhp
 obtain⟨loc,sk,tp,rst,fz,rfl⟩:=e
 refine bD.calls (n:=5) Hd Ke O hn (bD.mk (λtl=>{cs:=aK (aI 68 1),call:=aw [(650,pG)],ke:=ke}) rfl rfl (λ_=>rfl) (λ_ X' S=>ax S (cI (x9 S.ok (by rw[S.n];decide)) dJ)) λtl=>?_)
 refine tK X.w _ _ y x0 oa od ra na rows names r sk (tl++rst) fz _ ⟨rfl,λu hu=>?_,λhnone=>⟨rfl,by lia,λv z t fr=>⟨rfl,by lia,λu hu=>?_⟩⟩⟩
 ·obtain⟨a,t,rfl,f⟩:=hno y u hask hu
  exact⟨a,rfl,bg.same (sv':=.opq (.ref a)) (hc a rows names [] ⟨a,t,rfl,f⟩ hno (Q3 _) hz2) rfl rfl rfl rfl λD v r=>r⟩
 ·subst hu
  have so:e9 (z++fz) (.ref v) y:=⟨v,t,rfl,fr.mono λp hp=>Px _ hp⟩
  refine bg.same (sv':=.opq (.ref v)) (hc v (rows++[Pa v]) (stored names y (.ref v)) z so (nR (hno.mono λp hp=>Pb _ hp) hnone so) (by simp) ?_) rfl rfl rfl rfl λD v r=>r
  rw[stored_absent hnone];simpa using hz2
inductive Dz (fz:ah)(l:Addr)(tv:Value)(P:Value→ah→Prop):Prop
 |mk (vs:List Value)(n:Nat)(h:(l,listOf vs.toArray n)∈fz∧vs.length<100000∧(∀v∈vs,Rg v=true)∧Rg tv=true)(hk:∀v z,Chain (z++fz) tv v vs→P v z)
def zb:cK:=λargs st k _=>ou sf FW args λl tv=>Dz st.fz l tv λv z=>k (.opq v) {st with fz:=z++st.fz}
abbrev mF (l:Addr)(tv:Value)(hp sk:List HE)(rs fz:ah)(K:SV→St→Prop)(n:Nat)(a:Int)(J:Nat→Value×ah→Prop):Prop:=
  (∀(j:Nat)(i:Value×ah)(I:Nat)(o:Obj),j<n→J j i→∃(l_1:Nat),∃(vs:List Value),∃(nn:Nat),∃(n:Nat),∃(v:Value),Pa l=Pa l_1∧(l_1,P' (PE vs) nn)∈Pc i++fz∧a-(↑j:Int)=(↑n:Int)∧n<1152921504606846976∧vs[n]?=some v∧(Rg v=true∧Rg (Pn i)=true)∧∀(v_1:Nat)(z:List (Addr×Obj)),dD z (Pa v_1) (361) [("car",v),("cdr",Pn i)]→(I,o)::rs=(I,o)::rs∧Ent {loc:=[("things",SV.opq (Pa l)),("tail",SV.opq tv),("found",SV.opq (Pa v_1)),("place",SV.int (a-(↑j:Int)))],hp:=hp,sk:=sk,tp:=[],rst:=rs,fz:=z++(Pc i++fz)} λ(st':St)=>∃(i':Value×ah),J (j+(1:Nat)) i'∧st'={loc:=[("things",SV.opq (Pa l)),("tail",SV.opq tv),("found",SV.opq (Pn i'))],hp:=hp,sk:=sk,tp:=[],rst:=rs,fz:=Pc i'++fz})∧∀(i:Value×ah),J n i→K (SV.opq (Pn i)) {loc:=[("things",SV.opq (Pa l)),("tail",SV.opq tv),("found",SV.opq (Pn i))],hp:=hp,sk:=sk,tp:=[],rst:=rs,fz:=Pc i++fz}
theorem q5 (w:World)(sc:Sc)(ke:KX)(l:Addr)(tv:Value)(hp sk:List HE)(rs fz:ah)(K:SV→St→Prop)(n:Nat)(a:Int)(J:Nat→Value×ah→Prop) :
  (∃(n_1:Nat),jO sc fz (Pa l) n_1∧n_1<1152921504606846976∧(((-5:Int)≤(↑n_1:Int)-(1:Int)∧(↑n_1:Int)-(1:Int)<(1000000:Int))∧(-1:Int)=(-1:Int)∧n=Pf ((↑n_1:Int)-(1:Int)+(1:Int))∧∀(j:Nat),[SV.int (a-(↑j:Int))]=[SV.int ((↑n_1:Int)-(1:Int)-(↑j:Int))])∧(∀(j:Nat),j<n→1=1)∧(Ent {loc:=[("things",SV.opq (Pa l)),("tail",SV.opq tv),("found",SV.opq tv)],hp:=hp,sk:=sk,tp:=[],rst:=rs,fz:=fz} λ(st':St)=>∃(i:Value×ah),J (0) i∧st'={loc:=[("things",SV.opq (Pa l)),("tail",SV.opq tv),("found",SV.opq (Pn i))],hp:=hp,sk:=sk,tp:=[],rst:=rs,fz:=Pc i++fz})∧mF l tv hp sk rs fz K n a J) →
  bw (bE {cs:=aK (aJ 55),call:=aw [(361,vo)],ke:=ke,fors:=λ_=>some λ_=>{ι:=Value×ah,n:=n,items:=λj=>[.int (a-(j:Int))],S:=λ_ i=>{loc:=[("things",.opq (.ref l)),("tail",.opq tv),("found",.opq i.1)],hp:=hp,sk:=sk,tp:=[],rst:=rs,fz:=i.2++fz},J:=J,ok:=λ_ h=>h}} (xt w sc) 12) (bz (aJ 55)) {loc:=[("things",.opq (.ref l)),("tail",.opq tv)],hp:=hp,sk:=sk,tp:=[],rst:=rs,fz:=fz} (λfl st=>K (bW fl) st):=
 Qg (by kernel_rfl)
theorem BZ (P:PJ):(Kf P).lookup 430=some ⟨.type "tuple",none,.seq #[.ref 340] 0,#[]⟩:=by kernel_rfl
theorem pQ (O:X.Ok)(hn:5≤X.n):az X 437 zb:=by
 intro A s st args vals k ke R hA I ir hc ret exc
 obtain⟨l,tv,rfl,hk⟩:=cc hc
 clear hc
 obtain⟨vs,m,⟨hm,hz,hh,ht⟩,hc⟩:=hk
 cases ir with|@cons _ v0 _ _ r0 ir=>cases ir with|@cons _ v1 _ _ r1 ir=>cases ir with|nil=>
  let J:Nat→Value×ah→Prop:=λj i=>Chain (i.2++st.fz) tv i.1 (vs.drop (vs.length-j))∧Rg i.1=true
  refine qf (n:=3) (N:=12) (Γ:=λtl=>{cs:=aK (aJ 55),call:=aw [(361,vo)],ke:=ke,fors:=λ_=>some λ_=>{ι:=Value×ah,n:=vs.length,items:=λj=>[.int ((vs.length:Int)-1-(j:Int))],S:=λ_ i=>{loc:=[("things",.opq (.ref l)),("tail",.opq tv),("found",.opq i.1)],hp:=st.hp,sk:=st.sk,tp:=[],rst:=tl++st.rst,fz:=i.2++st.fz},J:=J,ok:=λ_ h=>h}}) (T:=xt X.w (X.scr,X.sns)) (binds:=(["things","tail"]:List Str).zip [v0,v1]) (bs:=(["things","tail"]:List Str).zip [.opq (.ref l),.opq tv]) Im O hA hn I.q (binds_K (O.dg I) rfl (BZ _) rfl rfl rfl) (by kernel_rfl) (dR (D:=⟨st.ad.hp,st.ad.sk,[]⟩) (svs:=[.opq (.ref l),.opq tv]) (.cons r0 (.cons r1 .nil)) (by kernel_rfl)) ret exc (λ_=>rfl) (λ_ X' S=>ax S (cI (AO S.ok (by rw[S.n];decide)) dJ)) λtl=>?_
  refine q5 _ _ _ l tv st.hp st.sk (tl++st.rst) st.fz _ vs.length _ J ⟨vs.length,.inr ⟨l,vs,m,rfl,hm,rfl⟩,by lia,⟨⟨by lia,by lia⟩,rfl,by rw[Int.sub_add_cancel];exact(Qf _).symm,λj=>rfl⟩,λ_ _=>rfl,.refl ⟨(tv,[]),⟨?_,ht⟩,rfl⟩,λj i I' o hj hJ=>?_,λi hJ=>?_⟩
  ·show Chain _ tv tv (vs.drop (vs.length-0))
   rw[Nat.sub_zero,Sy];exact .nil
  ·have h0:0<vs.length:=Pr (Ql j) hj
   have hlt:vs.length-1-j<vs.length:=Pr (TL _ j) (Nat.sub_lt h0 Nat.one_pos)
   refine⟨l,vs,m,vs.length-1-j,vs[vs.length-1-j],rfl,Pb _ hm,by rw[Int.ofNat_sub (Nat.le_sub_one_of_lt hj),Int.ofNat_sub h0];rfl,PF hlt (PF hz (by decide)),Qi hlt,⟨hh _ (Tz hlt),hJ.2⟩,λv z f=>⟨rfl,?_⟩⟩
   refine Ent.weak (loc':=[("things",.opq (.ref l)),("tail",.opq tv),("found",.opq (.ref v))]) ?_ (λx sv h=>cO rfl h) ⟨(.ref v,z++i.2),⟨?_,rfl⟩,by rw[Pj]⟩
   ·exact λx sv h=>bX (l:=[("things",.opq (.ref l)),("tail",.opq tv),("found",.opq (.ref v))]) (m:=[("place",.int ((vs.length:Int)-1-(j:Int)))]) h
   ·have e:vs.length-(j+1)=vs.length-1-j:=B4 _ _
    show Chain ((z++i.2)++st.fz) tv (.ref v) (vs.drop (vs.length-(j+1)))
    rw[e,Qx hlt]
    have e2:vs.length-1-j+1=vs.length-j:=CA hj
    rw[e2]
    exact .cons (f.mono λp hp=>Px _ (Px _ hp)) (hJ.1.mono λp hp=>by rw[Pj];exact Pb _ hp)
  ·have:=hJ.1
   rw[Nat.sub_self,Si]at this
   exact bg.same (sv':=.opq i.1) (hc i.1 i.2 this) rfl rfl rfl rfl λD v r=>r
abbrev ix (l:Addr)(tv:Value)(hp sk:List HE)(rs fz:ah)(K:SV→St→Prop)(n:Nat)(it:Nat→Value)(J:Nat→Value×Value×ah→Prop)(v:Value):Prop:=
  (∀(j:Nat)(i:Value×Value×ah)(I:Nat)(o:Obj),j<n→J j i→d6 (Pc (Pc i)++fz) (it j)∧qm (Pc (Pc i)++fz) (Pn (Pc i)) (p' "cdr") λ(v:Value)=>d6 (Pc (Pc i)++fz) v∧qm (Pc (Pc i)++fz) (Pn (Pc i)) (p' "cdr") λ(v:Value)=>(I,o)::rs=(I,o)::rs∧Ent {loc:=[("things",SV.opq (Pa l)),("tail",SV.opq tv),("found",SV.opq (Pn i)),("at",SV.opq v),("thing",SV.opq (it j))],hp:=hp,sk:=sk,tp:=[],rst:=rs,fz:=Pc (Pc i)++fz} λ(st':St)=>∃(i':Value×Value×ah),J (j+(1:Nat)) i'∧st'={loc:=[("things",SV.opq (Pa l)),("tail",SV.opq tv),("found",SV.opq (Pn i')),("at",SV.opq (Pn (Pc i')))],hp:=hp,sk:=sk,tp:=[],rst:=rs,fz:=Pc (Pc i')++fz})∧∀(i:Value×Value×ah),J n i→K (SV.opq (Pn i)) {loc:=[("things",SV.opq (Pa l)),("tail",SV.opq tv),("found",SV.opq (Pn i)),("at",SV.opq (Pn (Pc i)))],hp:=hp,sk:=sk,tp:=[],rst:=rs,fz:=Pc (Pc i)++fz}
theorem j5 (w:World)(sc:Sc)(ke:KX)(l:Addr)(tv:Value)(hp sk:List HE)(rs fz:ah)(K:SV→St→Prop)(n:Nat)(it:Nat→Value)(J:Nat→Value×Value×ah→Prop) :
  (Dz fz l tv λ(v:Value)(z:ah)=>∃(l_1:Nat),∃(vs:List Value),∃(nn:Nat),Pa l=Pa l_1∧((l_1,P' (PE vs) nn)∈z++fz∧(∀(j:Nat)(i:Value×Value×ah),J j i→(l_1,P' (PE vs) nn)∈Pc (Pc i)++fz)∧n=vc vs)∧(∀(j:Nat)(v:Value),vs[j]?=some v→IR {hp:=[],sk:=[],tp:=[]} [SV.opq (it j)] [v])∧(∀(j:Nat),j<n→1=1)∧(Ent {loc:=[("things",SV.opq (Pa l)),("tail",SV.opq tv),("found",SV.opq v),("at",SV.opq v)],hp:=hp,sk:=sk,tp:=[],rst:=rs,fz:=z++fz} λ(st':St)=>∃(i:Value×Value×ah),J (0) i∧st'={loc:=[("things",SV.opq (Pa l)),("tail",SV.opq tv),("found",SV.opq (Pn i)),("at",SV.opq (Pn (Pc i)))],hp:=hp,sk:=sk,tp:=[],rst:=rs,fz:=Pc (Pc i)++fz})∧ix l tv hp sk rs fz K n it J v) →
  bw (bE {cs:=aK (aJ 62),call:=aw [(437,zb)],ke:=ke,fors:=λ_=>some λ_=>{ι:=Value×Value×ah,n:=n,items:=λj=>[.opq (it j)],S:=λ_ i=>{loc:=[("things",.opq (.ref l)),("tail",.opq tv),("found",.opq i.1),("at",.opq i.2.1)],hp:=hp,sk:=sk,tp:=[],rst:=rs,fz:=i.2.2++fz},J:=J,ok:=λ_ h=>h}} (xt w sc) 12) (bz (aJ 62)) {loc:=[("things",.opq (.ref l)),("tail",.opq tv)],hp:=hp,sk:=sk,tp:=[],rst:=rs,fz:=fz} (λfl st=>K (bW fl) st):=
 Qg (by kernel_rfl)
theorem Chain.j' (h:Chain fz tv v us)(ht:dc fz tv td):d6 fz v:=by
 cases h with
 |nil=>exact ht.j'
 |cons f _=>exact⟨_,_,f,rfl⟩
theorem jt {st:St}(O:X.Ok)(hn:7≤X.n)(hm:(l,listOf vs.toArray m)∈st.fz)(hz:vs.length<100000)(hd:bH st.fz vs ds)(ht:dc st.fz tv td)(hc:∀(v:Addr) z,dc (z++st.fz) (.ref v) (fH td ds)→k (.opq (.ref v)) {st with fz:=z++st.fz}):Calls X 509 st [.opq (.ref l),.opq tv] k ke:=by
 let J:Nat→Value×Value×ah→Prop:=λj i=>Chain (i.2.2++st.fz) tv i.1 vs∧Chain (i.2.2++st.fz) tv i.2.1 (vs.drop j)
 refine bD.calls (n:=5) HM II O hn (bD.mk (λtl=>{cs:=aK (aJ 62),call:=aw [(437,zb)],ke:=ke,fors:=λ_=>some λ_=>{ι:=Value×Value×ah,n:=vs.length,items:=λj=>[.opq (vs.getD j .none)],S:=λ_ i=>{loc:=[("things",.opq (.ref l)),("tail",.opq tv),("found",.opq i.1),("at",.opq i.2.1)],hp:=st.hp,sk:=st.sk,tp:=[],rst:=tl++st.rst,fz:=i.2.2++st.fz},J:=J,ok:=λ_ h=>h}}) rfl rfl (λ_=>rfl) (λ_ X' S=>ax S (cI (pQ S.ok (by rw[S.n];decide)) dJ)) λtl=>?_)
 have hh:∀v∈vs,Rg v=true:=λv hv=>by
  obtain⟨j,hj,e⟩:=List.getElem_of_mem hv
  rcases hd.get (j:=j) (v:=v) (by rw[Qi hj,e])with⟨d,hd'⟩
  exact hd'.handed
 refine j5 _ _ _ l tv st.hp st.sk (tl++st.rst) st.fz _ vs.length (λj=>vs.getD j .none) J ⟨vs,m,⟨hm,hz,hh,ht.handed⟩,λv z hch=>⟨l,vs,m,rfl,⟨Pb _ hm,λj i _=>Pb _ hm,rfl⟩,λj u hu=>.cons (by simp[QN,hu];rfl) .nil,λ_ _=>rfl,.refl ⟨(v,v,z),⟨hch,by rw[Si];exact hch⟩,rfl⟩,λj i I' o hj hJ=>?_,λi hJ=>?_⟩⟩
 ·have up:∀p∈st.fz,p∈i.2.2++st.fz:=λp hp=>Pb _ hp
  have e0:vs.getD j .none=vs[j]:=by simp[hj]
  rcases hd.get (j:=j) (v:=vs[j]) (Qi hj)with⟨d,hd'⟩
  obtain⟨D0,f0,z0,m0⟩:=(hd'.mono up).j'
  rcases hJ with⟨h1,h2⟩
  rw[Qx hj]at h2
  generalize hat:i.2.1=at' at h2
  cases h2 with
  |@cons _ u w _ f g=>
   obtain⟨D1,f1,z1,m1⟩:=g.j' (ht.mono up)
   refine⟨⟨D0,f0,by show dD _ (vs.getD j .none) _ _;rw[e0];exact z0,m0⟩,361,_,w,f,rfl,rfl,⟨D1,f1,z1,m1⟩,361,_,w,f,rfl,rfl,rfl,?_⟩
   exact Ent.weak (loc':=[("things",.opq (.ref l)),("tail",.opq tv),("found",.opq i.1),("at",.opq w)]) (λx sv h=>bX (l:=[("things",.opq (.ref l)),("tail",.opq tv),("found",.opq i.1),("at",.opq w)]) (m:=[("thing",.opq (vs.getD j .none))]) h) (λx sv h=>cO rfl h) ⟨(i.1,w,i.2.2),⟨h1,g⟩,rfl⟩
 ·have up:∀p∈st.fz,p∈i.2.2++st.fz:=λp hp=>Pb _ hp
  have hi:=hJ.1.OR (ht.mono up) (hd.mono up)
  rcases hi.ref with⟨a,ea⟩
  rw[ea]at hi ⊢
  exact bg.same (sv':=.opq (.ref a)) (hc a i.2.2 hi) rfl rfl rfl rfl λD v r=>r
inductive KH (fz:ah)(us:List Value)(tv:Value)(P:Addr→ah→Prop):Prop
 |mk (ds:List Pz)(td:Pz)(h:us.length<100000∧bH fz us ds∧dc fz tv td)(hc:∀(v:Addr) z,dc (z++fz) (.ref v) (fH td ds)→P v z)
def yi (st:St)(k:KV)(tv:Value):Prop:=ag (Mb st.sk) λq=>KH st.fz q.1.2.2.1 tv λv z=>k (.opq (.ref v)) {st with sk:=q.1.1::.gone q.1.2.1::q.1.2.2.2,fz:=z++st.fz}
noncomputable def OA (o:Option HE):Option {q:Addr×SV×SV // o=some (.list q.1 [] [q.2.1,q.2.2])}:=match o with
 |some e=>match e with
  |.list a pre suf=>match pre with
   |[]=>match iG suf with
    |some q=>some ⟨(a,q.1),congrArg (λl=>some (HE.list a [] l)) q.2⟩
    |none=>none
   |_::_=>none
  |_=>none
 |none=>none
inductive Jy (fz:ah)(u w tv:Value)(P:Addr→ah→Prop):Prop
 |mk (d e td:Pz)(h:dc fz u d∧dc fz w e∧dc fz tv td)(hc:∀(v:Addr) z,dc (z++fz) (.ref v) (fH td [d,e])→P v z)
def wZ (st:St)(k:KV)(tv:Value)(j:Nat):Prop:=ag (OA st.tp[j]?) λq=>ag q.1.2.1.val? λu=>ag q.1.2.2.val? λw=>
 Jy st.fz u w tv λv z=>k (.opq (.ref v)) {st with tp:=st.tp.set j (.gone q.1.1),fz:=z++st.fz}
def DI (st:St)(k:KV)(tv:Value)(s:SV):Prop:=match s with
 |.stk n=>eT (PD n 1) (yi st k tv)
 |.tmp j=>wZ st k tv j
 |_=>False
def cU:cK:=λargs st k _=>ou l7 l7 args λs t=>ag t.val? λtv=>DI st k tv s
theorem Aw {st:St}(O:X.Ok)(hn:7≤X.n)(ht:t.val?=some tv)(hk:yi st k tv):Calls X 509 st [.stk 1,t] k ke:=by
 obtain⟨⟨⟨e0,a,vs,sk⟩,hsk⟩,_,hk⟩:=aa hk
 obtain⟨ds,td,⟨hz,hd,htd⟩,hc⟩:=hk
 obtain⟨loc,hp,sk',tp,rst,fz⟩:=st
 dsimp only at hsk
 subst hsk
 refine Calls.args (args':=[.opq (.ref a),.opq tv]) (λus ir=>by
  obtain⟨_,w,rfl,⟨b,hb,rfl⟩,r2⟩:=nJ ir
  cases hb
  exact .cons rfl (.cons (SV.lz ht r2) .nil)) (Calls.JZ (j:=1) (e:=.vlist a vs) rfl λle H=>?_)
 rcases H.dW with⟨nn,rfl⟩
 refine jt O hn (.head _) hz (hd.mono λp hp=>.tail _ hp) (htd.mono λp hp=>.tail _ hp) λv z h=>?_
 have:=hc v (z++[(a,listOf vs.toArray nn)]) (by rw[Pj];exact h)
 rw[Pj]at this
 exact this
theorem zY {st:St}(O:X.Ok)(hn:7≤X.n)(ht:t.val?=some tv)(hk:wZ st k tv j):Calls X 509 st [.tmp j,t] k ke:=by
 obtain⟨⟨⟨a,x,y⟩,hj⟩,_,hk⟩:=aa hk
 obtain⟨u,hx,hk⟩:=aa hk
 obtain⟨w,hy,hk⟩:=aa hk
 obtain⟨d,e,td,⟨hd,he,htd⟩,hc⟩:=hk
 refine Calls.args (args':=[.opq (.ref a),.opq tv]) (λus ir=>by
  obtain⟨_,w,rfl,⟨b,hb,rfl⟩,r2⟩:=nJ ir
  rw[QL,hj]at hb
  cases hb
  exact .cons rfl (.cons (SV.lz ht r2) .nil)) (Calls.tw hj λle H=>?_)
 obtain⟨vs,nn,i,rfl⟩:=H.listI
 obtain⟨v1,v2,rfl,rx,ry⟩:=nJ i
 rcases SV.lz hx rx with rfl
 rcases SV.lz hy ry with rfl
 refine jt O hn (.head _) (by decide:2<100000) (.cons (hd.mono λp hp=>.tail _ hp) (.cons (he.mono λp hp=>.tail _ hp) .nil)) (htd.mono λp hp=>.tail _ hp) λv z h=>?_
 have:=hc v (z++[(a,listOf [v1,v2].toArray nn)]) (by rw[Pj];exact h)
 rw[Pj]at this
 exact this
theorem oN (O:X.Ok)(hn:7≤X.n):az X 509 cU:=by
 refine cD λst args k ke hc=>?_
 obtain⟨s1,t,rfl,hk⟩:=cc hc
 clear hc
 obtain⟨tv,ht,hk⟩:=aa hk
 cases s1 with
 |stk n=>
  rcases aA hk with⟨e,hk⟩
  rcases Pu e with rfl
  exact Aw O hn ht hk
 |tmp j=>exact zY O hn ht hk
 |_=>exact hk.elim
abbrev gE (e0:HE)(a:Addr)(vs:List Value)(hp sk:List HE)(rs fz:ah)(K:SV→St→Prop)(n:Nat):Prop:=
  (((0:Int)≤(↑(vc vs):Int)∧(↑(vc vs):Int)<(1000000:Int))∧n=Pf (↑(vc vs):Int)∧∀(j:Nat),[SV.int (↑j:Int)]=[SV.int (↑j:Int)])∧(∀(j:Nat),j<n→1=1)∧(Ent {loc:=[("things",SV.stk (1))],hp:=hp,sk:=e0::HE.vlist a vs::sk,tp:=[],rst:=rs,fz:=fz} λ(st':St)=>∃(i:Unit),True∧st'={loc:=[("things",SV.stk (1))],hp:=hp,sk:=e0::HE.vlist a vs::sk,tp:=[],rst:=rs,fz:=fz})∧(∀(j:Nat)(i:Unit)(I:Nat)(o:Obj),j<n→True→∃(n:Nat),∃(v:Value),(↑j:Int)=(↑n:Int)∧n<1152921504606846976∧vs[n]?=some v∧d6 fz v∧(I,o)::rs=(I,o)::rs∧Ent {loc:=[("things",SV.stk (1)),("place",SV.int (↑j:Int))],hp:=hp,sk:=e0::HE.vlist a vs::sk,tp:=[],rst:=rs,fz:=fz} λ(st':St)=>∃(i':Unit),True∧st'={loc:=[("things",SV.stk (1))],hp:=hp,sk:=e0::HE.vlist a vs::sk,tp:=[],rst:=rs,fz:=fz})∧∀(i:Unit),True→K (SV.stk (1)) {loc:=[("things",SV.stk (1))],hp:=hp,sk:=e0::HE.vlist a vs::sk,tp:=[],rst:=rs,fz:=fz}
theorem iD (w:World)(sc:Sc)(ke:KX)(e0:HE)(a:Addr)(vs:List Value)(hp sk:List HE)(rs fz:ah)(K:SV→St→Prop)(n:Nat) :
  (vc vs<1152921504606846976∧gE e0 a vs hp sk rs fz K n) →
  bw (bE {cs:=aK (aJ 63),call:=aw [],ke:=ke,fors:=λ_=>some λ_=>{ι:=Unit,n:=n,items:=λj=>[.int (j:Int)],S:=λ_ _=>{loc:=[("things",.stk 1)],hp:=hp,sk:=e0::.vlist a vs::sk,tp:=[],rst:=rs,fz:=fz},J:=λ_ _=>True,ok:=λ_ h=>h}} (xt w sc) 12) (bz (aJ 63)) {loc:=[("things",.stk 1)],hp:=hp,sk:=e0::.vlist a vs::sk,tp:=[],rst:=rs,fz:=fz} (λfl st=>K (bW fl) st):=
 Qg (by kernel_rfl)
def cV:cK:=λargs st k _=>qT (zF 1) args λ_=>ag (Mb st.sk) λq=>(q.1.2.2.1.length<100000∧∃ds,bH st.fz q.1.2.2.1 ds)∧k (.stk 1) st
theorem tE (O:X.Ok)(hn:2≤X.n):az X 516 cV:=by
 refine aP (n:=0) IZ Jd O hn λst args k ke hc=>?_
 obtain⟨_,rfl,hk⟩:=cf hc
 clear hc
 obtain⟨⟨⟨e0,a,vs,sk⟩,hsk⟩,_,hk⟩:=aa hk
 obtain⟨⟨hz,ds,hd⟩,hc⟩:=hk
 have hz:vs.length<100000:=hz
 have hd:bH st.fz vs ds:=hd
 obtain⟨loc,hp,sk',tp,rst,fz⟩:=st
 dsimp only at hsk
 subst hsk
 refine bD.mk (λtl=>{cs:=aK (aJ 63),call:=aw [],ke:=ke,fors:=λ_=>some λ_=>{ι:=Unit,n:=vs.length,items:=λj=>[.int (j:Int)],S:=λ_ _=>{loc:=[("things",.stk 1)],hp:=hp,sk:=e0::.vlist a vs::sk,tp:=[],rst:=tl++rst,fz:=fz},J:=λ_ _=>True,ok:=λ_ h=>h}}) rfl rfl (λ_=>rfl) (λ_ X' S=>ax S dJ) λtl=>?_
 refine iD _ _ _ e0 a vs hp sk (tl++rst) fz _ vs.length ⟨by lia,⟨⟨by lia,by lia⟩,by lia,λj=>rfl⟩,λ_ _=>rfl,.refl ⟨(),trivial,rfl⟩,λj i I o hj _=>?_,λi _=>bg.same (sv':=.stk 1) hc rfl rfl rfl rfl λD v r=>r⟩
 rcases hd.get (j:=j) (v:=vs[j]) (Qi hj)with⟨d,hd'⟩
 obtain⟨D0,f0,z0,m0⟩:=hd'.j'
 exact⟨j,vs[j],rfl,by lia,Qi hj,⟨D0,f0,z0,m0⟩,rfl,Ent.weak (loc':=[("things",.stk 1)]) (λx sv h=>bX (l:=[("things",.stk 1)]) (m:=[("place",.int (j:Int))]) h) (λx sv h=>cO rfl h) ⟨(),trivial,rfl⟩⟩
def d9:cK:=λargs st k _=>ou l7 gY args λa p=>ag a.b7 λy=>∀x d vs,(1<vs.size∧vs[1]?=some .none)→k (.tmp st.tp.length) {st with tp:=st.tp++[.exc x 58 d [("word",.str y),("place",.int p)] vs]}
def qs:cK:=λargs st k _=>qT gY args λp=>∀x d vs,(1<vs.size∧vs[1]?=some .none)→k (.tmp st.tp.length) {st with tp:=st.tp++[.exc x 38 d [("place",.int p)] vs]}
theorem DT (w:World)(sc:Sc)(ke:KX)(x:Addr)(t:Nat)(y:Str)(p:Int)(hp sk:List HE)(rs fz:ah)(K:SV→St→Prop) :
  (c7 (58:Addr) (cY t)=c7 (58) (cY t)∧∀(d:Nat),K SV.none {loc:=[("self",SV.tmp (0)),("word",SV.str y),("place",SV.int p)],hp:=hp,sk:=sk,tp:=[HE.exc x (58) d [("word",SV.str y),("place",SV.int p)] (cY t)],rst:=rs,fz:=fz}) →
  bw (bE {cs:=aK (aI 3 0),call:=aw [],ke:=ke} (xt w sc) 12) (bz (aI 3 0)) {loc:=[("self",.tmp 0),("word",.str y),("place",.int p)],hp:=hp,sk:=sk,tp:=[.raw x (c7 58 (cY t))],rst:=rs,fz:=fz} (λfl st=>K (bW fl) st):=
 Qg (by kernel_rfl)
theorem mr (O:X.Ok)(hn:3≤X.n):az X 58 d9:=by
 intro A s st args vals k ke R hA I ir hc ret exc
 obtain⟨a,p,rfl,hk⟩:=cc hc
 clear hc
 obtain⟨y,hy,hk⟩:=aa hk
 have ir':IR st.ad [.str y,.int p] vals:=by
  cases ir with|cons r1 ir=>exact .cons (SV.bA hy r1) ir
 refine Cx (n:=0) (N:=12) (ns:=["word","place"]) (Γ:={cs:=aK (aI 3 0),call:=aw [],ke:=ke}) (T:=xt X.w (X.scr,X.sns)) H7 Mn Nk O hA hn I ir' rfl rfl (by decide) ret exc rfl (λX' S=>ax S dJ) λtl x t=>?_
 exact DT _ _ _ x t y p st.hp st.sk (tl++st.rst) st.fz (λsv st₂=>sv=.none∧cx st tl k x st₂) ⟨rfl,λd=>⟨rfl,cx.re rfl (λl L=>L) rfl rfl rfl (hk x d _ ⟨(by decide:1<6),rfl⟩)⟩⟩
theorem DV (w:World)(sc:Sc)(ke:KX)(x:Addr)(t:Nat)(p:Int)(hp sk:List HE)(rs fz:ah)(K:SV→St→Prop) :
  (c7 (38:Addr) (cY t)=c7 (38) (cY t)∧∀(d:Nat),K SV.none {loc:=[("self",SV.tmp (0)),("place",SV.int p)],hp:=hp,sk:=sk,tp:=[HE.exc x (38) d [("place",SV.int p)] (cY t)],rst:=rs,fz:=fz}) →
  bw (bE {cs:=aK (aI 2 0),call:=aw [],ke:=ke} (xt w sc) 12) (bz (aI 2 0)) {loc:=[("self",.tmp 0),("place",.int p)],hp:=hp,sk:=sk,tp:=[.raw x (c7 38 (cY t))],rst:=rs,fz:=fz} (λfl st=>K (bW fl) st):=
 Qg (by kernel_rfl)
theorem vJ (O:X.Ok)(hn:3≤X.n):az X 38 qs:=by
 intro A s st args vals k ke R hA I ir hc ret exc
 obtain⟨p,rfl,hk⟩:=cf hc
 clear hc
 refine Cx (n:=0) (N:=12) (ns:=["place"]) (Γ:={cs:=aK (aI 2 0),call:=aw [],ke:=ke}) (T:=xt X.w (X.scr,X.sns)) Io MI Mr O hA hn I ir rfl rfl (by decide) ret exc rfl (λX' S=>ax S dJ) λtl x t=>?_
 exact DV _ _ _ x t p st.hp st.sk (tl++st.rst) st.fz (λsv st₂=>sv=.none∧cx st tl k x st₂) ⟨rfl,λd=>⟨rfl,cx.re rfl (λl L=>L) rfl rfl rfl (hk x d _ ⟨(by decide:1<6),rfl⟩)⟩⟩
set_option genCtorIdx true in
inductive WK where
 |rnd
 |sqr
 |quo
noncomputable def wT:WK→Str
 |.rnd=>"("
 |.sqr=>"["
 |.quo=>"'"
structure ai where
 fa:Addr
 fd:Addr
 ta:Addr
 w:WK
 pl:Int
 dt:Int
 vs:List Value
 tl:Addr
 hv:Value
noncomputable def jT (f:ai)(th:SV):HE:=.inst f.fa 498 f.fd [("word",.txt (wT f.w)),("place",.int f.pl),("number",.none),("things",th),("tail",.opq (.ref f.tl)),("dots",.int f.dt),("holder",.opq f.hv)]
noncomputable def fN (f:ai)(r:List HE):List HE:=jT f (.stk 1)::.vlist f.ta f.vs::r
noncomputable def cR:List ai→List HE
 |[]=>[]
 |f::r=>jT f (.opq (.ref f.ta))::.vlist f.ta f.vs::cR r
noncomputable def bf:List ai→List HE
 |[]=>[]
 |f::r=>fN f (cR r)
noncomputable def aB:List ai→List SV
 |[]=>[]
 |_::r=>r.reverse.map λf=>.opq (.ref f.fa)
noncomputable def di:List ai→List SV
 |[]=>[]
 |_::_=>[.stk 0]
noncomputable def ar (fo:Addr)(fs:List ai):HE:=.list fo (aB fs) (di fs)
theorem bg.EG {st:St}(h:bg st tl k sv {st₂ with loc:=[],sk:=sk'}) (ha:sk'.map HE.addr=st₂.sk.map HE.addr)(hT:∀D l,LL D st₂.sk l→LL D sk' l):bg st tl k sv st₂:=λX s v I r=>by
 have e:St.ad {st₂ with loc:=[],sk:=sk'}=st₂.ad:=by show Ad.mk _ (sk'.map HE.addr) _=_;rw[ha]
 exact h X s v (I.re (st':={st₂ with loc:=[],sk:=sk'}) (λ_ _ h=>nomatch h) (λl L=>by
  rw[e]
  obtain⟨l1,l2,rfl,a,b⟩:=LL.split L
  exact a.append (hT _ _ b)) (λl L=>by rw[e];exact L) rfl rfl) (by rw[e];exact r)
inductive Dr (sk:List HE)(v:Addr)(p:Int)(P:List HE→Prop)(ke:KX):Prop
 |mk (f:ai)(r:List HE)(hsk:sk=fN f r)(hz:f.vs.length<2^20)(h0:f.dt=0→P (fN {f with vs:=f.vs++[.ref v]} r)) (h1:f.dt=1→P (fN {f with dt:=2,tl:=v} r)) (h2:f.dt≠0→f.dt≠1→ke 58 [("word",.str cB),("place",.int p)])
def sL:cK:=λargs st k ke=>FE (zF 0) sf gY args λ_ v p=>Dr st.sk v p (λz=>k .none {st with sk:=z}) ke
theorem BQ (w:World)(sc:Sc)(ke:KX)(fa fd ta:Addr)(wk:Str)(pl dt:Int)(vs:List Value)(tl v:Addr)(hv:Value)(p:Int)(hp r:List HE)(rs fz:ah)(K:SV→St→Prop) :
  (((dt==(0:Int))=true→vc vs<1048576∧∀(u:Value),u=Pa v→K SV.none {loc:=[("self",SV.stk (0)),("datum",SV.opq (Pa v)),("place",SV.int p)],hp:=hp,sk:=HE.inst fa (498) fd [("word",SV.txt wk),("place",SV.int pl),("number",SV.none),("things",SV.stk (1)),("tail",SV.opq (Pa tl)),("dots",SV.int dt),("holder",SV.opq hv)]::HE.vlist ta (vs++[u])::r,tp:=[],rst:=rs,fz:=fz})∧((dt==(0:Int))=false→((dt==(1:Int))=true→K SV.none {loc:=[("self",SV.stk (0)),("datum",SV.opq (Pa v)),("place",SV.int p)],hp:=hp,sk:=HE.inst fa (498) fd [("word",SV.txt wk),("place",SV.int pl),("number",SV.none),("things",SV.stk (1)),("tail",SV.opq (Pa v)),("dots",SV.num (2:Int)),("holder",SV.opq hv)]::HE.vlist ta vs::r,tp:=[],rst:=rs,fz:=fz})∧((dt==(1:Int))=false→∀(x d:Nat)(vs:Array Value),1<Py vs∧vs[(1:Nat)]?=some Pt→(1<Py vs∧vs[1]?=some Pt)∧ke (58) [("word",SV.str (p' "more than one thing behind a dot")),("place",SV.int p)]))) →
  bw (bE {cs:=aK (aI 61 1),call:=aw [(58,d9)],ke:=ke} (xt w sc) 12) (bz (aI 61 1)) {loc:=[("self",.stk 0),("datum",.opq (.ref v)),("place",.int p)],hp:=hp,sk:=.inst fa 498 fd [("word",.txt wk),("place",.int pl),("number",.none),("things",.stk 1),("tail",.opq (.ref tl)),("dots",.int dt),("holder",.opq hv)]::.vlist ta vs::r,tp:=[],rst:=rs,fz:=fz} (λfl st=>K (bW fl) st):=
 Qg (by kernel_rfl)
theorem BF (O:X.Ok)(hn:5≤X.n):az X 495 sL:=by
 refine aP (n:=3) Kc IM O hn λst args k ke hc=>?_
 obtain⟨_,v,p,rfl,hk⟩:=hM hc
 clear hc
 obtain⟨f,r,hsk,hz,h0,h1,h2⟩:=hk
 have e:=St.litS hsk
 clear hsk
 obtain⟨loc,hp,tp,rst,fz,rfl⟩:=e
 refine bD.mk (λtl=>{cs:=aK (aI 61 1),call:=aw [(58,d9)],ke:=ke}) rfl rfl (λ_=>rfl) (λ_ X' S=>ax S (cI (mr S.ok (by rw[S.n];decide)) dJ)) λtl=>?_
 refine BQ _ _ _ f.fa f.fd f.ta (wT f.w) f.pl f.dt f.vs f.tl v f.hv p hp r (tl++rst) fz _ ⟨λh=>⟨hz,λu hu=>?_⟩,λh=>⟨λh'=>?_,λh' x d vs hv=>⟨hv,h2 (by simpa using h) (by simpa using h')⟩⟩⟩
 ·subst hu
  exact bg.same (sv':=.none) (h0 (by simpa using h)) rfl rfl rfl rfl λD v r=>r
 ·refine bg.EG (sk':=fN {f with dt:=2,tl:=v} r) (bg.same (sv':=.none) (h1 (by simpa using h')) rfl rfl rfl rfl λD v r=>r) rfl λD l L=>?_
  cases L with
  |cons H T=>exact .cons (H.eU ⟨rfl,λ_ r=>r,rfl,λ_ r=>r,rfl,λ_ r=>r,rfl,λ_ r=>r,rfl,λ_ r=>r,rfl,λ_ r=>r,rfl,λ_ r=>r,trivial⟩) T
theorem bg.two {st:St}(hk:k (.tmp st.tp.length) {st with hp:=st₂.hp,sk:=st₂.sk,tp:=st.tp++st₂.tp,fz:=st₂.fz}) (h1:st₂.hp.map HE.addr=st.hp.map HE.addr)(h2:st₂.sk.map HE.addr=st.sk.map HE.addr)(h3:st₂.rst=tl++st.rst):bg st tl k (.tmp 0) st₂:=λX s v I r=>by
 refine⟨.tmp 0,{st₂ with loc:=[]},I.re (λ_ _ h=>nomatch h) (λl L=>L) (λl L=>L) rfl rfl,r,st.loc,h3,?_,λx sv0 q=>⟨sv0,q,λv r=>?_⟩,hk⟩
 ·show st.hp.map _ <+: st₂.hp.map _
  rw[h1];exact Pp
 ·refine r.mono ⟨?_,?_,?_⟩
  ·show st.hp.map _ <+: st₂.hp.map _
   rw[h1];exact Pp
  ·exact Qh _ _
  ·show st.sk.map _ <+: st₂.sk.map _
   rw[h2];exact Pp
def iQ:cK:=λargs st k _=>Jj (dF 5) JU C4 gY args λ_ w _ p=>(w = "("∨w = "["∨w = "'")∧∀fa fd ta h,k (.tmp st.tp.length) {st with tp:=st.tp++[.inst fa 498 fd [("word",.str w),("place",.int p),("number",.none),("things",.opq (.ref ta)),("tail",.opq (.ref 340)),("dots",.int 0),("holder",.opq (.ref h))],.vlist ta []]}
theorem kC (w:World)(sc:Sc)(ke:KX)(p:Int)(hp sk:List HE)(rs fz:ah)(K:SV→St→Prop) :
  (∀(fa fd ta h:Nat),K (SV.tmp (0)) {loc:=[("self",SV.ref (5)),("word",SV.txt (p' "(")),("value",SV.none),("start",SV.int p),("form",SV.tmp (0))],hp:=hp,sk:=sk,tp:=[HE.inst fa (498) fd [("word",SV.str (p' "(")),("place",SV.int p),("number",SV.none),("things",SV.opq (Pa ta)),("tail",SV.opq (Pa (340))),("dots",SV.int (0:Int)),("holder",SV.opq (Pa h))],HE.vlist ta []],rst:=rs,fz:=fz}) →
  bw (bE {cs:=aK (aI 65 3),call:=aw [(498,nC)],ke:=ke} (xt w sc) 12) (bz (aI 65 3)) {loc:=[("self",.ref 5),("word",.txt "("),("value",.none),("start",.int p)],hp:=hp,sk:=sk,tp:=[],rst:=rs,fz:=fz} (λfl st=>K (bW fl) st):=
 Qg (by kernel_rfl)
theorem kz (w:World)(sc:Sc)(ke:KX)(p:Int)(hp sk:List HE)(rs fz:ah)(K:SV→St→Prop) :
  (∀(fa fd ta h:Nat),K (SV.tmp (0)) {loc:=[("self",SV.ref (5)),("word",SV.txt (p' "[")),("value",SV.none),("start",SV.int p),("form",SV.tmp (0))],hp:=hp,sk:=sk,tp:=[HE.inst fa (498) fd [("word",SV.str (p' "[")),("place",SV.int p),("number",SV.none),("things",SV.opq (Pa ta)),("tail",SV.opq (Pa (340))),("dots",SV.int (0:Int)),("holder",SV.opq (Pa h))],HE.vlist ta []],rst:=rs,fz:=fz}) →
  bw (bE {cs:=aK (aI 65 3),call:=aw [(498,nC)],ke:=ke} (xt w sc) 12) (bz (aI 65 3)) {loc:=[("self",.ref 5),("word",.txt "["),("value",.none),("start",.int p)],hp:=hp,sk:=sk,tp:=[],rst:=rs,fz:=fz} (λfl st=>K (bW fl) st):=
 Qg (by kernel_rfl)
theorem kg (w:World)(sc:Sc)(ke:KX)(p:Int)(hp sk:List HE)(rs fz:ah)(K:SV→St→Prop) :
  (∀(fa fd ta h:Nat),K (SV.tmp (0)) {loc:=[("self",SV.ref (5)),("word",SV.txt (p' "'")),("value",SV.none),("start",SV.int p),("form",SV.tmp (0))],hp:=hp,sk:=sk,tp:=[HE.inst fa (498) fd [("word",SV.str (p' "'")),("place",SV.int p),("number",SV.none),("things",SV.opq (Pa ta)),("tail",SV.opq (Pa (340))),("dots",SV.int (0:Int)),("holder",SV.opq (Pa h))],HE.vlist ta []],rst:=rs,fz:=fz}) →
  bw (bE {cs:=aK (aI 65 3),call:=aw [(498,nC)],ke:=ke} (xt w sc) 12) (bz (aI 65 3)) {loc:=[("self",.ref 5),("word",.txt "'"),("value",.none),("start",.int p)],hp:=hp,sk:=sk,tp:=[],rst:=rs,fz:=fz} (λfl st=>K (bW fl) st):=
 Qg (by kernel_rfl)
theorem tj (O:X.Ok)(hn:8≤X.n):az X 559 iQ:=by
 refine aP (n:=6) HB JF O hn λst args k ke hc=>?_
 obtain⟨_,w,_,p,rfl,hk⟩:=m3 hc
 clear hc
 rcases hk with⟨hw,hc⟩
 refine bD.mk (λtl=>{cs:=aK (aI 65 3),call:=aw [(498,nC)],ke:=ke}) rfl rfl (λ_=>rfl) (λ_ X' S=>ax S (cI (B6 S.ok (by rw[S.n];decide)) dJ)) λtl=>?_
 rcases hw with rfl|rfl|rfl
 ·exact kC _ _ _ p st.hp st.sk (tl++st.rst) st.fz _ λfa fd ta h=>bg.two (hc fa fd ta h) rfl rfl rfl
 ·exact kz _ _ _ p st.hp st.sk (tl++st.rst) st.fz _ λfa fd ta h=>bg.two (hc fa fd ta h) rfl rfl rfl
 ·exact kg _ _ _ p st.hp st.sk (tl++st.rst) st.fz _ λfa fd ta h=>bg.two (hc fa fd ta h) rfl rfl rfl
theorem Al (w:World)(sc:Sc)(ke:KX)(y:Str)(p:Int)(x0 x4:HE)(oa od ra na rd rr:Addr)(rows:List Value)(names:List (Str×Value))(lab:Value)(r sk:List HE)(rs fz:ah)(K:SV→St→Prop) :
  (x0::HE.inst oa (688) od [("rows",SV.ref (2)),("names",SV.ref (3))]::HE.vlist ra rows::HE.map na w names::x4::HE.inst rd (604) rr [("tokens",SV.ref (4)),("obarray",SV.ref (1)),("spans_of",SV.none),("labels",SV.opq lab)]::r=x0::HE.inst oa (688) od [("rows",SV.ref (2)),("names",SV.ref (3))]::HE.vlist ra rows::HE.map na w names::x4::HE.inst rd (604) rr [("tokens",SV.ref (4)),("obarray",SV.ref (1)),("spans_of",SV.none),("labels",SV.opq lab)]::r∧(w=w∧vc rows<524288∧vc names≤vc rows∧aG fz names∧vw y)∧∀(v:Nat)(rows':List Value)(names':List (Str×Value))(z:List (Addr×Obj)),e9 (z++fz) (Pa v) y→aG (z++fz) names'→vc rows'≤vc rows+1→vc names'≤vc rows'→K (SV.opq (Pa v)) {loc:=[("self",SV.ref (5)),("word",SV.txt (p' "symbol")),("value",SV.str y),("start",SV.int p)],hp:=x0::HE.inst oa (688) od [("rows",SV.ref (2)),("names",SV.ref (3))]::HE.vlist ra rows'::HE.map na w names'::x4::HE.inst rd (604) rr [("tokens",SV.ref (4)),("obarray",SV.ref (1)),("spans_of",SV.none),("labels",SV.opq lab)]::r,sk:=sk,tp:=[],rst:=rs,fz:=z++fz}) →
  bw (bE {cs:=aK (aI 65 4),call:=aw [(636,ft w)],ke:=ke} (xt w sc) 12) (bz (aI 65 4)) {loc:=[("self",.ref 5),("word",.txt "symbol"),("value",.str y),("start",.int p)],hp:=x0::pb oa od::.vlist ra rows::.map na w names::x4::.inst rd 604 rr [("tokens",.ref 4),("obarray",.ref 1),("spans_of",.none),("labels",.opq lab)]::r,sk:=sk,tp:=[],rst:=rs,fz:=fz} (λfl st=>K (bW fl) st):=
 Qg (by kernel_rfl)
noncomputable abbrev qU (rd rr:Addr)(lab:Value):HE:=.inst rd 604 rr [("tokens",.ref 4),("obarray",.ref 1),("spans_of",.none),("labels",.opq lab)]
inductive B8 (w0:World)(hp:List HE)(fz:ah)(x:Str)(P:Addr→List Value→List (Str×Value)→ah→Prop):Prop
 |mk (x0 x4:HE)(oa od ra na rd rr:Addr)(rows:List Value)(names:List (Str×Value))(lab:Value)(r:List HE)(hhp:hp=x0::pb oa od::.vlist ra rows::.map na w0 names::x4::qU rd rr lab::r)(h:rows.length<2^19∧names.length≤rows.length∧aG fz names∧vw x)
   (hc:∀(v:Addr) rows' names' z,e9 (z++fz) (.ref v) x→aG (z++fz) names'→rows'.length≤rows.length+1→names'.length≤rows'.length→P v rows' names' z)
def si (w0:World):cK:=λargs st k _=>Jj (dF 5) (Hr "symbol") mW gY args λ_ _ x _=>B8 w0 st.hp st.fz x λv rows' names' z=>k (.opq (.ref v)) ((nT st rows' names').Mv (z++st.fz))
theorem vy (O:X.Ok)(hn:9≤X.n):az X 566 (si X.w):=by
 refine aP (n:=7) KC Kb O hn λst args k ke hc=>?_
 obtain⟨_,_,y,p,rfl,hk⟩:=m3 hc
 clear hc
 obtain⟨x0,x4,oa,od,ra,na,rd,rr,rows,names,lab,r,hhp,⟨h1,h2,h3,h4⟩,hc⟩:=hk
 have e:=St.kk hhp
 clear hhp
 obtain⟨loc,sk,tp,rst,fz,rfl⟩:=e
 refine bD.mk (λtl=>{cs:=aK (aI 65 4),call:=aw [(636,ft X.w)],ke:=ke}) rfl rfl (λ_=>rfl) (λ_ X' S=>ax S (cI (S.w▸lL S.ok (by rw[S.n];decide)) dJ)) λtl=>?_
 exact Al X.w _ _ y p x0 x4 oa od ra na rd rr rows names lab r sk (tl++rst) fz _ ⟨rfl,⟨rfl,h1,h2,h3,h4⟩,λv rows' names' z g1 g2 g3 g4=>bg.same (sv':=.opq (.ref v)) (hc v rows' names' z g1 g2 g3 g4) rfl rfl rfl rfl λD v r=>r⟩
theorem ko (w:World)(sc:Sc)(ke:KX)(p:Int)(b0 b1 b2 b3 b4 b5:HE)(fo:Addr)(sk:List HE)(rs fz:ah)(K:SV→St→Prop) :
  (0<1152921504606846976∧(((↑(vc ([]:List SV)+vc ([]:List SV)):Int)==(0:Int))=true→∀(x d:Nat)(vs:Array Value),1<Py vs∧vs[(1:Nat)]?=some Pt→(1<Py vs∧vs[1]?=some Pt)∧ke (58) [("word",SV.str (p' ".")),("place",SV.int p)])∧(((↑(vc ([]:List SV)+vc ([]:List SV)):Int)==(0:Int))=false→False)) →
  bw (bE {cs:=aK (aI 65 5),call:=aw [(58,d9)],ke:=ke} (xt w sc) 12) (bz (aI 65 5)) {loc:=[("self",.ref 5),("forms",.ref 6),("start",.int p)],hp:=[b0,b1,b2,b3,b4,b5,.list fo [] []],sk:=sk,tp:=[],rst:=rs,fz:=fz} (λfl st=>K (bW fl) st):=
 Qg (by kernel_rfl)
abbrev iz (w:World)(ke:KX)(p:Int)(b0 b1 b2 b3 b4 b5:HE)(fo:Addr)(pre:List SV)(fa fd ta:Addr)(pl dt:Int)(vs:List Value)(tl:Addr)(hv:Value)(r:List HE)(rs fz:ah)(K:SV→St→Prop):Prop:=
  (((↑(vc pre+vc [SV.stk (0:Nat)]):Int)==(0:Int))=true→∀(x d:Nat)(vs:Array Value),1<Py vs∧vs[(1:Nat)]?=some Pt→(1<Py vs∧vs[1]?=some Pt)∧ke (58) [("word",SV.str (p' ".")),("place",SV.int p)])∧(((↑(vc pre+vc [SV.stk (0:Nat)]):Int)==(0:Int))=false→(decide (ai.dt {fa:=fa,fd:=fd,ta:=ta,w:=WK.rnd,pl:=pl,dt:=dt,vs:=vs,tl:=tl,hv:=hv}>(0:Int))=true→∀(x d:Nat)(vs:Array Value),1<Py vs∧vs[(1:Nat)]?=some Pt→(1<Py vs∧vs[1]?=some Pt)∧ke (58) [("word",SV.str (p' ".")),("place",SV.int p)])∧(decide (ai.dt {fa:=fa,fd:=fd,ta:=ta,w:=WK.rnd,pl:=pl,dt:=dt,vs:=vs,tl:=tl,hv:=hv}>(0:Int))=false→K SV.none {loc:=[("self",SV.ref (5)),("forms",SV.ref (6)),("start",SV.int p)],hp:=[b0,b1,b2,b3,b4,b5,HE.list fo pre [SV.stk (0)]],sk:=HE.inst fa (498) fd [("word",SV.txt (wT WK.rnd)),("place",SV.int pl),("number",SV.none),("things",SV.stk (1)),("tail",SV.opq (Pa tl)),("dots",SV.num (1:Int)),("holder",SV.opq hv)]::HE.vlist ta vs::r,tp:=[],rst:=rs,fz:=fz}))
theorem j3 (w:World)(sc:Sc)(ke:KX)(p:Int)(b0 b1 b2 b3 b4 b5:HE)(fo:Addr)(pre:List SV)(fa fd ta:Addr)(pl dt:Int)(vs:List Value)(tl:Addr)(hv:Value)(r:List HE)(rs fz:ah)(K:SV→St→Prop) :
  (vc pre+vc [SV.stk (0:Nat)]<1152921504606846976∧iz w ke p b0 b1 b2 b3 b4 b5 fo pre fa fd ta pl dt vs tl hv r rs fz K) →
  bw (bE {cs:=aK (aI 65 5),call:=aw [(58,d9)],ke:=ke} (xt w sc) 12) (bz (aI 65 5)) {loc:=[("self",.ref 5),("forms",.ref 6),("start",.int p)],hp:=[b0,b1,b2,b3,b4,b5,.list fo pre [.stk 0]],sk:=fN ⟨fa,fd,ta,.rnd,pl,dt,vs,tl,hv⟩ r,tp:=[],rst:=rs,fz:=fz} (λfl st=>K (bW fl) st):=
 Qg (by kernel_rfl)
theorem kn (w:World)(sc:Sc)(ke:KX)(p:Int)(b0 b1 b2 b3 b4 b5:HE)(fo:Addr)(pre:List SV)(fa fd ta:Addr)(pl dt:Int)(vs:List Value)(tl:Addr)(hv:Value)(r:List HE)(rs fz:ah)(K:SV→St→Prop) :
  (vc pre+vc [SV.stk (0:Nat)]<1152921504606846976∧(((↑(vc pre+vc [SV.stk (0:Nat)]):Int)==(0:Int))=true→∀(x d:Nat)(vs:Array Value),1<Py vs∧vs[(1:Nat)]?=some Pt→(1<Py vs∧vs[1]?=some Pt)∧ke (58) [("word",SV.str (p' ".")),("place",SV.int p)])∧(((↑(vc pre+vc [SV.stk (0:Nat)]):Int)==(0:Int))=false→∀(x d:Nat)(vs:Array Value),1<Py vs∧vs[(1:Nat)]?=some Pt→(1<Py vs∧vs[1]?=some Pt)∧ke (58) [("word",SV.str (p' ".")),("place",SV.int p)])) →
  bw (bE {cs:=aK (aI 65 5),call:=aw [(58,d9)],ke:=ke} (xt w sc) 12) (bz (aI 65 5)) {loc:=[("self",.ref 5),("forms",.ref 6),("start",.int p)],hp:=[b0,b1,b2,b3,b4,b5,.list fo pre [.stk 0]],sk:=fN ⟨fa,fd,ta,.sqr,pl,dt,vs,tl,hv⟩ r,tp:=[],rst:=rs,fz:=fz} (λfl st=>K (bW fl) st):=
 Qg (by kernel_rfl)
theorem kr (w:World)(sc:Sc)(ke:KX)(p:Int)(b0 b1 b2 b3 b4 b5:HE)(fo:Addr)(pre:List SV)(fa fd ta:Addr)(pl dt:Int)(vs:List Value)(tl:Addr)(hv:Value)(r:List HE)(rs fz:ah)(K:SV→St→Prop) :
  (vc pre+vc [SV.stk (0:Nat)]<1152921504606846976∧(((↑(vc pre+vc [SV.stk (0:Nat)]):Int)==(0:Int))=true→∀(x d:Nat)(vs:Array Value),1<Py vs∧vs[(1:Nat)]?=some Pt→(1<Py vs∧vs[1]?=some Pt)∧ke (58) [("word",SV.str (p' ".")),("place",SV.int p)])∧(((↑(vc pre+vc [SV.stk (0:Nat)]):Int)==(0:Int))=false→∀(x d:Nat)(vs:Array Value),1<Py vs∧vs[(1:Nat)]?=some Pt→(1<Py vs∧vs[1]?=some Pt)∧ke (58) [("word",SV.str (p' ".")),("place",SV.int p)])) →
  bw (bE {cs:=aK (aI 65 5),call:=aw [(58,d9)],ke:=ke} (xt w sc) 12) (bz (aI 65 5)) {loc:=[("self",.ref 5),("forms",.ref 6),("start",.int p)],hp:=[b0,b1,b2,b3,b4,b5,.list fo pre [.stk 0]],sk:=fN ⟨fa,fd,ta,.quo,pl,dt,vs,tl,hv⟩ r,tp:=[],rst:=rs,fz:=fz} (λfl st=>K (bW fl) st):=
 Qg (by kernel_rfl)
noncomputable def wc:List ai→Option (List ai)
 |f::r=>match f.w with
  |.rnd=>if f.dt≤0 then some ({f with dt:=1}::r)else none
  |_=>none
 |[]=>none
inductive Kv (hp sk:List HE)(p:Int)(P:List ai→Prop)(ke:KX):Prop
 |mk (b0 b1 b2 b3 b4 b5:HE)(fo:Addr)(fs:List ai)(hhp:hp=[b0,b1,b2,b3,b4,b5,ar fo fs])(hsk:sk=bf fs)(hz:fs.length<100000)(h1:∀fs',wc fs=some fs'→P fs')(h2:wc fs=none→ke 58 [("word",.str "."),("place",.int p)])
def iL:cK:=λargs st k ke=>FE (dF 5) (dF 6) gY args λ_ _ p=>Kv st.hp st.sk p (λfs'=>k .none {st with sk:=bf fs'}) ke
theorem te (O:X.Ok)(hn:5≤X.n):az X 573 iL:=by
 refine aP (n:=3) Ja Ji O hn λst args k ke hc=>?_
 obtain⟨_,_,p,rfl,hk⟩:=hM hc
 clear hc
 obtain⟨b0,b1,b2,b3,b4,b5,fo,fs,hhp,hsk,hz,h1,h2⟩:=hk
 have e:=St.lit hhp hsk
 clear hhp hsk
 obtain⟨loc,tp,rst,fz,rfl⟩:=e
 refine bD.mk (λtl=>{cs:=aK (aI 65 5),call:=aw [(58,d9)],ke:=ke}) rfl rfl (λ_=>rfl) (λ_ X' S=>ax S (cI (mr S.ok (by rw[S.n];decide)) dJ)) λtl=>?_
 cases fs with
 |nil=>exact ko _ _ _ p b0 b1 b2 b3 b4 b5 fo [] (tl++rst) fz _ ⟨by decide,λ_ x d vs hv=>⟨hv,h2 rfl⟩,λh=>by cases h⟩
 |cons f r=>
  have hl:(aB (f::r)).length+[SV.stk 0].length<1152921504606846976:=by
   show(r.reverse.map _).length+1<_
   rw[PM,Qp]
   rw[PQ]at hz
   lia
  obtain⟨fa,fd,ta,w,pl,dt,vs,t,hv⟩:=f
  cases w with
  |rnd=>
   refine j3 _ _ _ p b0 b1 b2 b3 b4 b5 fo _ fa fd ta pl dt vs t hv (cR r) (tl++rst) fz _ ⟨hl,λh=>?_,λ_=>⟨λh x d us hv=>⟨hv,h2 ?_⟩,λh=>?_⟩⟩
   ·rw[beq_iff_eq]at h;simp at h;lia
   ·have:dt>0:=of_decide_eq_true h
    show(if dt≤0 then _ else none)=none
    rw[if_neg (by lia)]
   ·have:¬dt>0:=of_decide_eq_false h
    have e:wc (⟨fa,fd,ta,.rnd,pl,dt,vs,t,hv⟩::r)=some (⟨fa,fd,ta,.rnd,pl,1,vs,t,hv⟩::r):=by
     show(if dt≤0 then _ else none)=_
     rw[if_pos (by lia)]
    refine bg.EG (sk':=fN ⟨fa,fd,ta,.rnd,pl,1,vs,t,hv⟩ (cR r)) (bg.same (sv':=.none) (h1 _ e) rfl rfl rfl rfl λD v r=>r) rfl λD l L=>?_
    cases L with
    |cons H T=>exact .cons (H.eU ⟨rfl,λ_ r=>r,rfl,λ_ r=>r,rfl,λ_ r=>r,rfl,λ_ r=>r,rfl,λ_ r=>r,rfl,λ_ r=>r,rfl,λ_ r=>r,trivial⟩) T
  |sqr=>exact kn _ _ _ p b0 b1 b2 b3 b4 b5 fo _ fa fd ta pl dt vs t hv (cR r) (tl++rst) fz _ ⟨hl,λh=>by rw[beq_iff_eq]at h;simp at h;lia,λ_ x d us hv=>⟨hv,h2 rfl⟩⟩
  |quo=>exact kr _ _ _ p b0 b1 b2 b3 b4 b5 fo _ fa fd ta pl dt vs t hv (cR r) (tl++rst) fz _ ⟨hl,λh=>by rw[beq_iff_eq]at h;simp at h;lia,λ_ x d us hv=>⟨hv,h2 rfl⟩⟩
noncomputable def SV.cF:SV→Bool
 |.stk _=>false
 |_=>true
noncomputable def SV.flat:SV→Bool
 |.ref _=>false
 |.stk _=>false
 |.tmp _=>false
 |_=>true
theorem SV.Fi {sv:SV}(h:sv.flat=true)(r:sv.R D v):sv.R D' v:=by
 cases sv<;>first|exact r|cases h
theorem SV.B1 {sv:SV}(h:sv.cF=true)(h1:D.hp <+: D'.hp)(h2:D.tp <+: D'.tp)(r:sv.R D v):sv.R D' v:=by
 cases sv<;>first
  |exact r
  |(cases h;done)
  |(obtain⟨a,e,rfl⟩:=r;first|exact⟨a,cW h1 e,rfl⟩|exact⟨a,cW h2 e,rfl⟩)
theorem bg.lay {st:St}(hI:∀X s,Inv X st₂ s→Inv X st₃ s)(htp:st₃.tp=[])(hk:k sv' {st with hp:=st₃.hp,sk:=st₃.sk,fz:=st₃.fz}) (hhp:st.hp.map HE.addr <+: st₃.hp.map HE.addr)(hloc:(st.loc.all λp=>p.2.cF)=true)(hf:sv'.flat=true)(hsv:∀D v,sv.R D v→sv'.R D v)(hr:st₃.rst=tl++st.rst):bg st tl k sv st₂:=λX s v I r=>by
 refine⟨sv',st₃,hI X s I,SV.Fi hf (hsv _ v r),st.loc,hr,hhp,λx sv0 q=>⟨sv0,q,λv r=>?_⟩,?_⟩
 ·have hs:sv0.cF=true:=by
   clear r hk hI
   revert q hloc
   generalize st.loc=loc
   intro hloc q
   induction loc with
   |nil=>cases q
   |cons p l ih=>
    rcases p with⟨y,w⟩
    rw[Qb,Pe]at hloc
    rcases mB q with⟨_,q⟩|⟨_,q⟩
    ·cases q;exact hloc.1
    ·exact ih hloc.2 q
  exact SV.B1 hs hhp (Qh _ _) r
 ·rw[htp,Qt]
  have e:sv'.shift st.tp.length=sv':=by cases sv'<;>first|rfl|cases hf
  rw[e];exact hk
theorem mX (n:Nat):∀fs,((cR fs).all (·.okN n))=true
 |[]=>rfl
 |f::r=>by
  show((jT f (.opq (.ref f.ta))).okN n&&(HE.okN n (.vlist f.ta f.vs)&&(cR r).all (·.okN n)))=true
  rw[mX n r];rfl
theorem nk (h:∀v,a.R D v→b.R D' v)(H:HL D (jT f a) l):HL D' (jT f b) l:=
 H.eU ⟨rfl,λ_ r=>r,rfl,λ_ r=>r,rfl,λ_ r=>r,rfl,h,rfl,λ_ r=>r,rfl,λ_ r=>r,rfl,λ_ r=>r,trivial⟩
theorem Fh (hh:D.hp=D'.hp):∀{fs:List ai}{l:ah},D.sk=(bf fs).map HE.addr→LL D (bf fs) l→LL D' (cR fs) l
 |[],l,_,L=>by cases L;exact .nil
 |f::r,l,hs,L=>by
  cases L with
  |cons H T=>
   cases T with
   |cons H2 T=>
    refine .cons (nk (λv rv=>?_) H) (.cons (by cases H2;exact .vlist) (LL.okN (n:=0) (show D.hp.take 0=D'.hp.take 0 from rfl) T (mX 0 r)))
    obtain⟨a,e,rfl⟩:=rv
    rw[hs]at e
    cases e
    rfl
theorem Fw:∀{fs:List ai}{l:ah},D'.sk=(bf fs).map HE.addr→LL D (cR fs) l→LL D' (bf fs) l
 |[],l,_,L=>by cases L;exact .nil
 |f::r,l,hs,L=>by
  cases L with
  |cons H T=>
   cases T with
   |cons H2 T=>
    refine .cons (nk (λv rv=>?_) H) (.cons (by cases H2;exact .vlist) (LL.okN (n:=0) (show D.hp.take 0=D'.hp.take 0 from rfl) T (mX 0 r)))
    cases rv
    exact⟨f.ta,by rw[hs];rfl,rfl⟩
theorem IR.app (h:IR D (xs++ys) vs):∃us ws,vs=us++ws∧IR D xs us∧IR D ys ws:=by
 induction xs generalizing vs with
 |nil=>exact⟨[],vs,rfl,.nil,h⟩
 |cons x xs ih=>
  cases h with
  |cons a b=>
   obtain⟨us,ws,rfl,h1,h2⟩:=ih b
   exact⟨_::us,ws,rfl,.cons a h1,h2⟩
theorem IR.join (h:IR D xs us)(g:IR D ys ws):IR D (xs++ys) (us++ws):=by
 induction h with
 |nil=>exact g
 |cons a _ ih=>exact .cons a ih
theorem rA {fs:List ai}(h:IR D (fs.map λf=>.opq (.ref f.fa)) vs):IR D' (fs.map λf=>.opq (.ref f.fa)) vs:=by
 induction fs generalizing vs with
 |nil=>cases h;exact .nil
 |cons f r ih=>cases h with|cons a b=>exact .cons a (ih b)
theorem jV (hs:D.sk=(bf fs).map HE.addr)(hs':D'.sk=(bf (f::fs)).map HE.addr) (H:HL D (.list fo (aB fs) (di fs++[.opq (.ref f.fa)])) l):HL D' (ar fo (f::fs)) l:=by
 obtain⟨_,_,i,rfl⟩:=H.listI
 refine .list ?_
 have e0:(SV.stk 0).R D' (.ref f.fa):=⟨f.fa,by rw[hs'];rfl,rfl⟩
 cases fs with
 |nil=>
  cases i with|cons a i=>cases i with|nil=>cases a;exact .cons e0 .nil
 |cons g r=>
  obtain⟨us,ws,rfl,h1,h2⟩:=IR.app i
  cases h2 with|cons a h2=>cases h2 with|cons b h2=>cases h2 with|nil=>
   cases b
   obtain⟨x,e,rfl⟩:=a
   rw[hs]at e
   cases e
   have:aB (f::g::r)=aB (g::r)++[.opq (.ref g.fa)]:=by
    show((g::r).reverse.map _)=(r.reverse.map _)++_
    rw[Se,PI];rfl
   rw[this,Pj]
   exact(rA h1).join (.cons rfl (.cons e0 .nil))
theorem lG (hs':D'.sk=(bf fs).map HE.addr)(H:HL D (.list fo (aB (f::fs)) []) l):HL D' (ar fo fs) l:=by
 obtain⟨_,_,i,rfl⟩:=H.listI
 refine .list ?_
 rw[Qt]at i
 cases fs with
 |nil=>cases i;exact .nil
 |cons g r=>
  have:aB (f::g::r)=aB (g::r)++[.opq (.ref g.fa)]:=by
   show((g::r).reverse.map _)=(r.reverse.map _)++_
   rw[Se,PI];rfl
  rw[this]at i
  obtain⟨us,ws,rfl,h1,h2⟩:=IR.app i
  cases h2 with|cons a h2=>cases h2 with|nil=>
   cases a
   exact(rA h1).join (.cons ⟨g.fa,by rw[hs'];rfl,rfl⟩ .nil)
theorem u5 {lB lF lS lt li lv rf:ah}:((lB++lF++lS)++((lt++(li++(lv++[])))++rf)).Perm (((lB++lF++(li++(lv++lS)))++([]++rf))++lt):=bj λ_ _ p=>by
 simp only[PL,Qa];lia
theorem ug {lB lF l0 l1 lS l' rf:ah}:((lB++lF++(l0++(l1++lS)))++(l'++rf)).Perm (((lB++lF++lS)++([]++rf))++(l0++(l1++l'))):=bj λ_ _ p=>by
 simp only[PL,Qa];lia
theorem Inv.push {st:St}{B:List HE}(hB:(B.all (·.okN 6))=true) (h6:B.length=6)(hhp:st.hp=B++[.list fo (aB fs) (di fs++[.opq (.ref f.fa)])]) (hsk:st.sk=bf fs)(htp:st.tp=[t,.inst f.fa 498 f.fd gs,.vlist f.ta f.vs])(hg:∀D D':Ad,D'.sk=(bf (f::fs)).map HE.addr→∀l,HL D (.inst f.fa 498 f.fd gs) l→HL D' (jT f (.stk 1)) l) (hl:∀x sv',look x loc'=some sv'→look x st.loc=some sv'∧sv'.okN 7=true)(I:Inv X st s):Inv X {st with loc:=loc',hp:=B++[ar fo (f::fs)],sk:=bf (f::fs),tp:=[]} s:=by
 have ehp:st.ad.hp=(B++[ar fo (f::fs)]).map HE.addr:=by
  show st.hp.map HE.addr=_
  rw[hhp,PI,PI];rfl
 have esk:st.ad.sk=(bf fs).map HE.addr:=by show st.sk.map HE.addr=_;rw[hsk]
 refine I.lay (λx sv' q=>?_) λl l' L1 L2=>?_
 ·rcases hl x sv' q with⟨q1,q2⟩
  exact⟨sv',q1,λv r=>SV.jW (n:=7) (by rw[ehp]) q2 r⟩
 ·rw[hhp,hsk]at L1
  rw[htp]at L2
  obtain⟨l1,lS,rfl,L1,LS⟩:=L1.split
  obtain⟨lB,lF,rfl,LB,LF⟩:=L1.split
  obtain⟨lF',e,rfl,HF,e2⟩:=LL.dm LF
  cases e2
  cases L2 with|cons Ht L2=>cases L2 with|cons Hi L2=>cases L2 with|cons Hv L2=>cases L2 with|nil=>
   let D':Ad:=⟨(B++[ar fo (f::fs)]).map HE.addr,(bf (f::fs)).map HE.addr,[]⟩
   have kB:LL D' B lB:=LB.okN (n:=6) (by show st.ad.hp.take 6=_;rw[ehp]) hB
   have kF:HL D' (ar fo (f::fs)) lF':=jV (f:=f) (D:=st.ad.low) esk rfl HF
   have kS:LL D' (cR fs) lS:=Fh (D:=st.ad.low) (D':=D') ehp esk LS
   rcases Hv.dW with⟨_,rfl⟩
   exact⟨_,[],_,(kB.append (LL.cons kF .nil)).append (.cons (hg _ _ rfl _ Hi) (.cons .vlist kS)),.nil,u5⟩
theorem Inv.pop {st:St}{B:List HE}(hB:(B.all (·.okN 6))=true) (h6:B.length=6)(hhp:st.hp=B++[.list fo (aB (f::fs)) []]) (hsk:st.sk=e0::e1::cR fs)(hl:∀x sv',look x loc'=some sv'→look x st.loc=some sv'∧sv'.okN 7=true)(I:Inv X st s):Inv X {st with loc:=loc',hp:=B++[ar fo fs],sk:=bf fs,tp:=[]} s:=by
 have ehp:st.ad.hp=(B++[ar fo fs]).map HE.addr:=by
  show st.hp.map HE.addr=_
  rw[hhp,PI,PI];rfl
 refine I.lay (λx sv' q=>?_) λl l' L1 L2=>?_
 ·rcases hl x sv' q with⟨q1,q2⟩
  exact⟨sv',q1,λv r=>SV.jW (n:=7) (by rw[ehp]) q2 r⟩
 ·rw[hhp,hsk]at L1
  obtain⟨l1,lS,rfl,L1,LS⟩:=L1.split
  obtain⟨lB,lF,rfl,LB,LF⟩:=L1.split
  obtain⟨lF',e,rfl,HF,e2⟩:=LL.dm LF
  cases e2
  cases LS with|cons H0 LS=>cases LS with|cons H1 LS=>
   let D':Ad:=⟨(B++[ar fo fs]).map HE.addr,(bf fs).map HE.addr,[]⟩
   have kB:LL D' B lB:=LB.okN (n:=6) (by show st.ad.hp.take 6=_;rw[ehp]) hB
   have kF:HL D' (ar fo fs) lF':=lG (f:=f) rfl HF
   exact⟨_,[],_,(kB.append (LL.cons kF .nil)).append (Fw rfl LS),.nil,ug⟩
noncomputable def fe (b:Bool):List ai→Option (ai×List ai)
 |f::r=>match f.w,b with
  |.rnd,true=>if f.dt=1 then none else some (f,r)
  |.sqr,false=>if f.dt=1 then none else some (f,r)
  |_,_=>none
 |[]=>none
theorem gH (w:World)(sc:Sc)(ke:KX)(p:Int)(b0 b1 b2 b3 b4 b5:HE)(fo:Addr)(sk:List HE)(rs fz:ah)(K:SV→St→Prop) :
  (0<1152921504606846976∧(((↑(vc ([]:List SV)+vc ([]:List SV)):Int)==(0:Int))=true→∀(x d:Nat)(vs:Array Value),1<Py vs∧vs[(1:Nat)]?=some Pt→(1<Py vs∧vs[1]?=some Pt)∧ke (58) [("word",SV.str (p' ")")),("place",SV.int p)])∧(((↑(vc ([]:List SV)+vc ([]:List SV)):Int)==(0:Int))=false→False)) →
  bw (bE {cs:=aK (aI 65 6),call:=aw [(58,d9),(509,cU),(404,kp),(516,cV)],ke:=ke} (xt w sc) 12) (bz (aI 65 6)) {loc:=[("self",.ref 5),("forms",.ref 6),("word",.txt ")"),("start",.int p)],hp:=[b0,b1,b2,b3,b4,b5,.list fo [] []],sk:=sk,tp:=[],rst:=rs,fz:=fz} (λfl st=>K (bW fl) st):=
 Qg (by kernel_rfl)
abbrev fA (w:World)(p:Int)(b0 b1 b2 b3 b4 b5:HE)(fo:Addr)(pre:List SV)(fa fd ta:Addr)(pl dt:Int)(vs:List Value)(tl:Addr)(hv:Value)(r:List HE)(rs fz:ah)(K:SV→St→Prop):Prop:=
  (decide ((↑(vc (ai.vs {fa:=fa,fd:=fd,ta:=ta,w:=WK.rnd,pl:=pl,dt:=dt,vs:=vs,tl:=tl,hv:=hv})):Int)>(0:Int))=true→KH fz vs (Pa tl) λ(v:Addr)(z:ah)=>K (SV.opq (Pa v)) {loc:=[("self",SV.ref (5)),("forms",SV.ref (6)),("word",SV.txt (p' ")")),("start",SV.int p),("form",SV.stk (0))],hp:=[b0,b1,b2,b3,b4,b5,HE.list fo pre []],sk:=HE.inst fa (498) fd [("word",SV.txt (wT WK.rnd)),("place",SV.int pl),("number",SV.none),("things",SV.stk (1)),("tail",SV.opq (Pa tl)),("dots",SV.int dt),("holder",SV.opq hv)]::HE.gone ta::r,tp:=[],rst:=rs,fz:=z++fz})∧(decide ((↑(vc (ai.vs {fa:=fa,fd:=fd,ta:=ta,w:=WK.rnd,pl:=pl,dt:=dt,vs:=vs,tl:=tl,hv:=hv})):Int)>(0:Int))=false→K (SV.opq (Pa tl)) {loc:=[("self",SV.ref (5)),("forms",SV.ref (6)),("word",SV.txt (p' ")")),("start",SV.int p),("form",SV.stk (0))],hp:=[b0,b1,b2,b3,b4,b5,HE.list fo pre []],sk:=HE.inst fa (498) fd [("word",SV.txt (wT WK.rnd)),("place",SV.int pl),("number",SV.none),("things",SV.stk (1)),("tail",SV.opq (Pa tl)),("dots",SV.int dt),("holder",SV.opq hv)]::HE.vlist ta vs::r,tp:=[],rst:=rs,fz:=fz})
theorem gh (w:World)(sc:Sc)(ke:KX)(p:Int)(b0 b1 b2 b3 b4 b5:HE)(fo:Addr)(pre:List SV)(fa fd ta:Addr)(pl dt:Int)(vs:List Value)(tl:Addr)(hv:Value)(r:List HE)(rs fz:ah)(K:SV→St→Prop) :
  (vc pre+vc [SV.stk (0:Nat)]<1152921504606846976∧(((↑(vc pre+vc [SV.stk (0:Nat)]):Int)==(0:Int))=true→∀(x d:Nat)(vs:Array Value),1<Py vs∧vs[(1:Nat)]?=some Pt→(1<Py vs∧vs[1]?=some Pt)∧ke (58) [("word",SV.str (p' ")")),("place",SV.int p)])∧(((↑(vc pre+vc [SV.stk (0:Nat)]):Int)==(0:Int))=false→((dt==(1:Int))=true→∀(x d:Nat)(vs:Array Value),1<Py vs∧vs[(1:Nat)]?=some Pt→(1<Py vs∧vs[1]?=some Pt)∧ke (58) [("word",SV.str (p' ")")),("place",SV.int p)])∧((dt==(1:Int))=false→vc pre+vc [SV.stk (0:Nat)]<1048576∧vc vs<1152921504606846976∧fA w p b0 b1 b2 b3 b4 b5 fo pre fa fd ta pl dt vs tl hv r rs fz K))) →
  bw (bE {cs:=aK (aI 65 6),call:=aw [(58,d9),(509,cU),(404,kp),(516,cV)],ke:=ke} (xt w sc) 12) (bz (aI 65 6)) {loc:=[("self",.ref 5),("forms",.ref 6),("word",.txt ")"),("start",.int p)],hp:=[b0,b1,b2,b3,b4,b5,.list fo pre [.stk 0]],sk:=fN ⟨fa,fd,ta,.rnd,pl,dt,vs,tl,hv⟩ r,tp:=[],rst:=rs,fz:=fz} (λfl st=>K (bW fl) st):=
 Qg (by kernel_rfl)
theorem gc (w:World)(sc:Sc)(ke:KX)(p:Int)(b0 b1 b2 b3 b4 b5:HE)(fo:Addr)(pre:List SV)(fa fd ta:Addr)(pl dt:Int)(vs:List Value)(tl:Addr)(hv:Value)(r:List HE)(rs fz:ah)(K:SV→St→Prop) :
  (vc pre+vc [SV.stk (0:Nat)]<1152921504606846976∧(((↑(vc pre+vc [SV.stk (0:Nat)]):Int)==(0:Int))=true→∀(x d:Nat)(vs:Array Value),1<Py vs∧vs[(1:Nat)]?=some Pt→(1<Py vs∧vs[1]?=some Pt)∧ke (58) [("word",SV.str (p' ")")),("place",SV.int p)])∧(((↑(vc pre+vc [SV.stk (0:Nat)]):Int)==(0:Int))=false→∀(x d:Nat)(vs:Array Value),1<Py vs∧vs[(1:Nat)]?=some Pt→(1<Py vs∧vs[1]?=some Pt)∧ke (58) [("word",SV.str (p' ")")),("place",SV.int p)])) →
  bw (bE {cs:=aK (aI 65 6),call:=aw [(58,d9),(509,cU),(404,kp),(516,cV)],ke:=ke} (xt w sc) 12) (bz (aI 65 6)) {loc:=[("self",.ref 5),("forms",.ref 6),("word",.txt ")"),("start",.int p)],hp:=[b0,b1,b2,b3,b4,b5,.list fo pre [.stk 0]],sk:=fN ⟨fa,fd,ta,.sqr,pl,dt,vs,tl,hv⟩ r,tp:=[],rst:=rs,fz:=fz} (λfl st=>K (bW fl) st):=
 Qg (by kernel_rfl)
theorem gz (w:World)(sc:Sc)(ke:KX)(p:Int)(b0 b1 b2 b3 b4 b5:HE)(fo:Addr)(pre:List SV)(fa fd ta:Addr)(pl dt:Int)(vs:List Value)(tl:Addr)(hv:Value)(r:List HE)(rs fz:ah)(K:SV→St→Prop) :
  (vc pre+vc [SV.stk (0:Nat)]<1152921504606846976∧(((↑(vc pre+vc [SV.stk (0:Nat)]):Int)==(0:Int))=true→∀(x d:Nat)(vs:Array Value),1<Py vs∧vs[(1:Nat)]?=some Pt→(1<Py vs∧vs[1]?=some Pt)∧ke (58) [("word",SV.str (p' ")")),("place",SV.int p)])∧(((↑(vc pre+vc [SV.stk (0:Nat)]):Int)==(0:Int))=false→∀(x d:Nat)(vs:Array Value),1<Py vs∧vs[(1:Nat)]?=some Pt→(1<Py vs∧vs[1]?=some Pt)∧ke (58) [("word",SV.str (p' ")")),("place",SV.int p)])) →
  bw (bE {cs:=aK (aI 65 6),call:=aw [(58,d9),(509,cU),(404,kp),(516,cV)],ke:=ke} (xt w sc) 12) (bz (aI 65 6)) {loc:=[("self",.ref 5),("forms",.ref 6),("word",.txt ")"),("start",.int p)],hp:=[b0,b1,b2,b3,b4,b5,.list fo pre [.stk 0]],sk:=fN ⟨fa,fd,ta,.quo,pl,dt,vs,tl,hv⟩ r,tp:=[],rst:=rs,fz:=fz} (λfl st=>K (bW fl) st):=
 Qg (by kernel_rfl)
theorem fW (w:World)(sc:Sc)(ke:KX)(p:Int)(b0 b1 b2 b3 b4 b5:HE)(fo:Addr)(sk:List HE)(rs fz:ah)(K:SV→St→Prop) :
  (0<1152921504606846976∧(((↑(vc ([]:List SV)+vc ([]:List SV)):Int)==(0:Int))=true→∀(x d:Nat)(vs:Array Value),1<Py vs∧vs[(1:Nat)]?=some Pt→(1<Py vs∧vs[1]?=some Pt)∧ke (58) [("word",SV.str (p' "]")),("place",SV.int p)])∧(((↑(vc ([]:List SV)+vc ([]:List SV)):Int)==(0:Int))=false→False)) →
  bw (bE {cs:=aK (aI 65 6),call:=aw [(58,d9),(509,cU),(404,kp),(516,cV)],ke:=ke} (xt w sc) 12) (bz (aI 65 6)) {loc:=[("self",.ref 5),("forms",.ref 6),("word",.txt "]"),("start",.int p)],hp:=[b0,b1,b2,b3,b4,b5,.list fo [] []],sk:=sk,tp:=[],rst:=rs,fz:=fz} (λfl st=>K (bW fl) st):=
 Qg (by kernel_rfl)
theorem gB (w:World)(sc:Sc)(ke:KX)(p:Int)(b0 b1 b2 b3 b4 b5:HE)(fo:Addr)(pre:List SV)(fa fd ta:Addr)(pl dt:Int)(vs:List Value)(tl:Addr)(hv:Value)(r:List HE)(rs fz:ah)(K:SV→St→Prop) :
  (vc pre+vc [SV.stk (0:Nat)]<1152921504606846976∧(((↑(vc pre+vc [SV.stk (0:Nat)]):Int)==(0:Int))=true→∀(x d:Nat)(vs:Array Value),1<Py vs∧vs[(1:Nat)]?=some Pt→(1<Py vs∧vs[1]?=some Pt)∧ke (58) [("word",SV.str (p' "]")),("place",SV.int p)])∧(((↑(vc pre+vc [SV.stk (0:Nat)]):Int)==(0:Int))=false→∀(x d:Nat)(vs:Array Value),1<Py vs∧vs[(1:Nat)]?=some Pt→(1<Py vs∧vs[1]?=some Pt)∧ke (58) [("word",SV.str (p' "]")),("place",SV.int p)])) →
  bw (bE {cs:=aK (aI 65 6),call:=aw [(58,d9),(509,cU),(404,kp),(516,cV)],ke:=ke} (xt w sc) 12) (bz (aI 65 6)) {loc:=[("self",.ref 5),("forms",.ref 6),("word",.txt "]"),("start",.int p)],hp:=[b0,b1,b2,b3,b4,b5,.list fo pre [.stk 0]],sk:=fN ⟨fa,fd,ta,.rnd,pl,dt,vs,tl,hv⟩ r,tp:=[],rst:=rs,fz:=fz} (λfl st=>K (bW fl) st):=
 Qg (by kernel_rfl)
abbrev fG (ke:KX)(p:Int)(b0 b1 b2 b3 b4 b5:HE)(fo:Addr)(pre:List SV)(fa fd ta:Addr)(pl dt:Int)(vs:List Value)(tl:Addr)(hv:Value)(r:List HE)(rs fz:ah)(K:SV→St→Prop):Prop:=
  (((↑(vc pre+vc [SV.stk (0:Nat)]):Int)==(0:Int))=true→∀(x d:Nat)(vs:Array Value),1<Py vs∧vs[(1:Nat)]?=some Pt→(1<Py vs∧vs[1]?=some Pt)∧ke (58) [("word",SV.str (p' "]")),("place",SV.int p)])∧(((↑(vc pre+vc [SV.stk (0:Nat)]):Int)==(0:Int))=false→((dt==(1:Int))=true→∀(x d:Nat)(vs:Array Value),1<Py vs∧vs[(1:Nat)]?=some Pt→(1<Py vs∧vs[1]?=some Pt)∧ke (58) [("word",SV.str (p' "]")),("place",SV.int p)])∧((dt==(1:Int))=false→vc pre+vc [SV.stk (0:Nat)]<1048576∧(vc vs<100000∧∃(ds:List Pz),bH fz vs ds)∧∀(v:Nat)(z:List (Addr×Obj)),dD z (Pa v) (404) [("things",Pa ta)]→(∃(n:Nat),(ta,P' (PE vs) n)∈z)→K (SV.opq (Pa v)) {loc:=[("self",SV.ref (5)),("forms",SV.ref (6)),("word",SV.txt (p' "]")),("start",SV.int p),("form",SV.stk (0))],hp:=[b0,b1,b2,b3,b4,b5,HE.list fo pre []],sk:=HE.inst fa (498) fd [("word",SV.txt (wT WK.sqr)),("place",SV.int pl),("number",SV.none),("things",SV.stk (1)),("tail",SV.opq (Pa tl)),("dots",SV.int dt),("holder",SV.opq hv)]::HE.gone ta::r,tp:=[],rst:=rs,fz:=z++fz}))
theorem f7 (w:World)(sc:Sc)(ke:KX)(p:Int)(b0 b1 b2 b3 b4 b5:HE)(fo:Addr)(pre:List SV)(fa fd ta:Addr)(pl dt:Int)(vs:List Value)(tl:Addr)(hv:Value)(r:List HE)(rs fz:ah)(K:SV→St→Prop) :
  (vc pre+vc [SV.stk (0:Nat)]<1152921504606846976∧fG ke p b0 b1 b2 b3 b4 b5 fo pre fa fd ta pl dt vs tl hv r rs fz K) →
  bw (bE {cs:=aK (aI 65 6),call:=aw [(58,d9),(509,cU),(404,kp),(516,cV)],ke:=ke} (xt w sc) 12) (bz (aI 65 6)) {loc:=[("self",.ref 5),("forms",.ref 6),("word",.txt "]"),("start",.int p)],hp:=[b0,b1,b2,b3,b4,b5,.list fo pre [.stk 0]],sk:=fN ⟨fa,fd,ta,.sqr,pl,dt,vs,tl,hv⟩ r,tp:=[],rst:=rs,fz:=fz} (λfl st=>K (bW fl) st):=
 Qg (by kernel_rfl)
theorem gP (w:World)(sc:Sc)(ke:KX)(p:Int)(b0 b1 b2 b3 b4 b5:HE)(fo:Addr)(pre:List SV)(fa fd ta:Addr)(pl dt:Int)(vs:List Value)(tl:Addr)(hv:Value)(r:List HE)(rs fz:ah)(K:SV→St→Prop) :
  (vc pre+vc [SV.stk (0:Nat)]<1152921504606846976∧(((↑(vc pre+vc [SV.stk (0:Nat)]):Int)==(0:Int))=true→∀(x d:Nat)(vs:Array Value),1<Py vs∧vs[(1:Nat)]?=some Pt→(1<Py vs∧vs[1]?=some Pt)∧ke (58) [("word",SV.str (p' "]")),("place",SV.int p)])∧(((↑(vc pre+vc [SV.stk (0:Nat)]):Int)==(0:Int))=false→∀(x d:Nat)(vs:Array Value),1<Py vs∧vs[(1:Nat)]?=some Pt→(1<Py vs∧vs[1]?=some Pt)∧ke (58) [("word",SV.str (p' "]")),("place",SV.int p)])) →
  bw (bE {cs:=aK (aI 65 6),call:=aw [(58,d9),(509,cU),(404,kp),(516,cV)],ke:=ke} (xt w sc) 12) (bz (aI 65 6)) {loc:=[("self",.ref 5),("forms",.ref 6),("word",.txt "]"),("start",.int p)],hp:=[b0,b1,b2,b3,b4,b5,.list fo pre [.stk 0]],sk:=fN ⟨fa,fd,ta,.quo,pl,dt,vs,tl,hv⟩ r,tp:=[],rst:=rs,fz:=fz} (λfl st=>K (bW fl) st):=
 Qg (by kernel_rfl)
noncomputable def wN:WK→Nat
 |.rnd=>0
 |.sqr=>1
 |.quo=>2
structure ip (fz:ah)(f:ai)(F:cQ):Prop where
 w:F.w=wN f.w
 things:bH fz f.vs F.things
 dots:(F.dots:Int)=f.dt
 tail:dc fz (.ref f.tl) F.tail
theorem ip.mono (h:ip fz f F)(k:∀p∈fz,p∈fz'):ip fz' f F:=⟨h.w,h.things.mono k,h.dots,h.tail.mono k⟩
noncomputable def EE (st:St)(e:HE):St:={st with hp:=st.hp.set 6 e}
inductive MD (fz:ah)(f:ai)(P:Addr→ah→Prop):Prop
 |mk (F:cQ)(ho:ip fz f F)(hl:f.vs.length<100000)(h:∀(v:Addr) z,dc (z++fz) (.ref v) (bk F)→P v z)
inductive GA (hp sk:List HE)(loc:List (Str×SV))(fz:ah)(w:Str)(p:Int)(P:Addr→List ai→Addr→ah→Prop)(ke:KX):Prop
 |mk (b0 b1 b2 b3 b4 b5:HE)(fo:Addr)(fs:List ai)(b:Bool)(hhp:hp=[b0,b1,b2,b3,b4,b5,ar fo fs])(hB:(([b0,b1,b2,b3,b4,b5]:List HE).all (·.okN 6))=true) (hsk:sk=bf fs)(hz:fs.length<100000)(hw:w=ik (.cls b))(hloc:(loc.all λp=>p.2.cF)=true)
   (h1:∀f r,fe b fs=some (f,r)→MD fz f (P fo r))(h2:fe b fs=none→ke 58 [("word",.str w),("place",.int p)])
def iN:cK:=λargs st k ke=>Jj (dF 5) (dF 6) JU gY args λ_ _ w p=>GA st.hp st.sk st.loc st.fz w p (λfo r v z=>k (.opq (.ref v)) ((EE st (ar fo r)).Gj (bf r) (z++st.fz))) ke
theorem tJ (O:X.Ok)(hn:9≤X.n):az X 580 iN:=by
 refine aP (n:=7) Ho Hz O hn λst args k ke hc=>?_
 obtain⟨_,_,w,p,rfl,hk⟩:=m3 hc
 clear hc
 obtain⟨b0,b1,b2,b3,b4,b5,fo,fs,b,hhp,hB,hsk,hz,hw,hloc,h1,h2⟩:=hk
 have e:=St.lit hhp hsk
 clear hhp hsk
 obtain⟨loc,tp,rst,fz,rfl⟩:=e
 dsimp only at hloc
 refine bD.mk (λtl=>{cs:=aK (aI 65 6),call:=aw [(58,d9),(509,cU),(404,kp),(516,cV)],ke:=ke}) rfl rfl (λ_=>rfl) (λ_ X' S=>ax S (cI (mr S.ok (by rw[S.n];decide)) (cI (oN S.ok (by rw[S.n];decide)) (cI (EL S.ok (by rw[S.n];decide)) (cI (tE S.ok (by rw[S.n];decide)) dJ))))) λtl=>?_
 cases fs with
 |nil=>
  cases b with
  |true=>subst hw;exact gH _ _ _ p b0 b1 b2 b3 b4 b5 fo [] (tl++rst) fz _ ⟨by decide,λ_ x d vs hv=>⟨hv,h2 rfl⟩,λh=>by cases h⟩
  |false=>subst hw;exact fW _ _ _ p b0 b1 b2 b3 b4 b5 fo [] (tl++rst) fz _ ⟨by decide,λ_ x d vs hv=>⟨hv,h2 rfl⟩,λh=>by cases h⟩
 |cons f r=>
  have hl:(aB (f::r)).length+[SV.stk 0].length<1048576:=by
   show(r.reverse.map _).length+1<_
   rw[PM,Qp]
   rw[PQ]at hz
   lia
  have hl':(aB (f::r)).length+[SV.stk 0].length<1152921504606846976:=by lia
  have ne:¬((((aB (f::r)).length+[SV.stk 0].length:Nat):Int)==0)=true:=λh=>by
   rw[beq_iff_eq]at h;simp at h;lia
  have out:∀(loc2:List (Str×SV))(e0 e1:HE)(fz2:ah)(v:Addr),k (.opq (.ref v)) ⟨loc,[b0,b1,b2,b3,b4,b5,ar fo r],bf r,tp,rst,fz2⟩ →
    bg ⟨loc,[b0,b1,b2,b3,b4,b5,ar fo (f::r)],bf (f::r),tp,rst,fz⟩ tl k (.opq (.ref v)) ⟨loc2,[b0,b1,b2,b3,b4,b5,.list fo (aB (f::r)) []],e0::e1::cR r,[],tl++rst,fz2⟩:=λloc2 e0 e1 fz2 v hk=>
   bg.lay (st₃:=⟨[],[b0,b1,b2,b3,b4,b5,ar fo r],bf r,[],tl++rst,fz2⟩) (λX s I=>Inv.pop (B:=[b0,b1,b2,b3,b4,b5]) (loc':=[]) hB rfl rfl rfl (λ_ _ h=>by cases h) I) rfl hk Pp hloc rfl (λD v r=>r) rfl
  obtain⟨fa,fd,ta,wk,pl,dt,vs,t,hv⟩:=f
  have bad:fe b (⟨fa,fd,ta,wk,pl,dt,vs,t,hv⟩::r)=none→∀(x d:Addr)(us:Array Value),1<us.size∧us[1]?=some Pt→(1<us.size∧us[1]?=some Pt)∧ke 58 [("word",.str w),("place",.int p)]:=λe x d us hu=>⟨hu,h2 e⟩
  cases b with
  |true=>
   subst hw
   cases wk with
   |rnd=>
    refine gh _ _ _ p b0 b1 b2 b3 b4 b5 fo _ fa fd ta pl dt vs t hv (cR r) (tl++rst) fz _ ⟨hl',λh=>absurd h ne,λ_=>⟨λh=>bad (by
     show(if dt=1 then none else _)=none
     rw[if_pos (beq_iff_eq.mp h)]),λh=>?_⟩⟩
    obtain⟨F,fo',hvs,hk⟩:=h1 ⟨fa,fd,ta,.rnd,pl,dt,vs,t,hv⟩ r (by
     show(if dt=1 then none else _)=_
     rw[if_neg (by simpa using h)])
    have hF:bk F=fH F.tail F.things:=by unfold bk;rw[fo'.w];rfl
    have hvs':vs.length<100000:=hvs
    refine⟨hl,by lia,λhg=>⟨F.things,F.tail,⟨hvs,fo'.things,fo'.tail⟩,λv z hi=>out _ _ _ _ v (hk v z (hF▸hi))⟩,λhg=>out _ _ _ _ t ?_⟩
    have e0:vs=[]:=by
     have:¬((vs.length:Int)>0):=of_decide_eq_false hg
     have h0:vs.length=0:=by lia
     exact List.eq_nil_of_length_eq_zero h0
    have ht:=fo'.things
    have e1:F.things=[]:=by
     have:bH fz vs F.things:=ht
     generalize F.things=ds at this ⊢
     rw[e0]at this
     cases this;rfl
    exact hk t [] (by rw[hF,e1];exact fo'.tail)
   |sqr=>exact gc _ _ _ p b0 b1 b2 b3 b4 b5 fo _ fa fd ta pl dt vs t hv (cR r) (tl++rst) fz _ ⟨hl',λh=>absurd h ne,λ_=>bad rfl⟩
   |quo=>exact gz _ _ _ p b0 b1 b2 b3 b4 b5 fo _ fa fd ta pl dt vs t hv (cR r) (tl++rst) fz _ ⟨hl',λh=>absurd h ne,λ_=>bad rfl⟩
  |false=>
   subst hw
   cases wk with
   |sqr=>
    refine f7 _ _ _ p b0 b1 b2 b3 b4 b5 fo _ fa fd ta pl dt vs t hv (cR r) (tl++rst) fz _ ⟨hl',λh=>absurd h ne,λ_=>⟨λh=>bad (by
     show(if dt=1 then none else _)=none
     rw[if_pos (beq_iff_eq.mp h)]),λh=>?_⟩⟩
    obtain⟨F,fo',hvs,hk⟩:=h1 ⟨fa,fd,ta,.sqr,pl,dt,vs,t,hv⟩ r (by
     show(if dt=1 then none else _)=_
     rw[if_neg (by simpa using h)])
    have hF:bk F=.list (.str "vector"::F.things):=by unfold bk;rw[fo'.w];rfl
    refine⟨hl,⟨hvs,F.things,fo'.things⟩,λv z hz ⟨n,hm⟩=>out _ _ _ _ v (hk v z (hF▸?_))⟩
    exact .vec (hz.mono λp hp=>Px _ hp) (Px _ hm) (fo'.things.mono λp hp=>Pb _ hp)
   |rnd=>exact gB _ _ _ p b0 b1 b2 b3 b4 b5 fo _ fa fd ta pl dt vs t hv (cR r) (tl++rst) fz _ ⟨hl',λh=>absurd h ne,λ_=>bad rfl⟩
   |quo=>exact gP _ _ _ p b0 b1 b2 b3 b4 b5 fo _ fa fd ta pl dt vs t hv (cR r) (tl++rst) fz _ ⟨hl',λh=>absurd h ne,λ_=>bad rfl⟩
set_option genCtorIdx true in
inductive Gv where
 |taken (fs:List cQ)
 |whole (d:Pz)
 |bad
noncomputable def gv:List cQ→Pz→Gv
 |[],d=>.whole d
 |f::r,d=>if f.w=2 then gv r (dZ d)else if f.dots=0 then .taken ({f with things:=f.things++[d]}::r)else if f.dots=1 then .taken ({f with dots:=2,tail:=d}::r)else .bad
theorem Gm:gv (f::r) d=if f.w=2 then gv r (dZ d)else if f.dots=0 then .taken ({f with things:=f.things++[d]}::r)else if f.dots=1 then .taken ({f with dots:=2,tail:=d}::r)else .bad:=rfl
structure GI where
 fs:List ai
 v:Addr
 rows:List Value
 names:List (Str×Value)
 z:ah
structure Lay where
 w:World
 b0:HE
 oa:Addr
 od:Addr
 ra:Addr
 na:Addr
 b4:HE
 rd:Addr
 rr:Addr
 lab:Value
 fo:Addr
noncomputable def iq (y:Lay)(rows:List Value)(names:List (Str×Value))(fs:List ai):List HE:=[y.b0,pb y.oa y.od,.vlist y.ra rows,.map y.na y.w names,y.b4,qU y.rd y.rr y.lab,ar y.fo fs]
noncomputable def fV (y:Lay)(rows:List Value)(names:List (Str×Value))(e:HE):List HE:=[y.b0,pb y.oa y.od,.vlist y.ra rows,.map y.na y.w names,y.b4,qU y.rd y.rr y.lab,e]
noncomputable def ai.as (f:ai)(w:WK):ai:=⟨f.fa,f.fd,f.ta,w,f.pl,f.dt,f.vs,f.tl,f.hv⟩
noncomputable def tf (f:ai)(w:WK)(tl:Addr)(dt:Int)(vs:List Value)(r:List HE):List HE:=.inst f.fa 498 f.fd [("word",.txt (wT w)),("place",.int f.pl),("number",.none),("things",.stk 1),("tail",.opq (.ref tl)),("dots",.int dt),("holder",.opq f.hv)]::.vlist f.ta vs::r
noncomputable def CP (v0:Addr)(p:Int)(v:Addr):List (Str×SV):=[("self",.ref 5),("forms",.ref 6),("datum",.opq (.ref v0)),("start",.int p),("found",.opq (.ref v))]
noncomputable def MC (v0:Addr)(p:Int)(v:Addr):List (Str×SV):=[("self",.ref 5),("forms",.ref 6),("datum",.opq (.ref v0)),("start",.int p),("found",.opq (.ref v)),("form",.stk 0)]
noncomputable def qV (y:Lay)(v0:Addr)(p:Int)(rs fz:ah)(i:GI):St:={loc:=CP v0 p i.v,hp:=fV y i.rows i.names (ar y.fo i.fs),sk:=bf i.fs,tp:=[],rst:=rs,fz:=i.z++fz}
noncomputable def qv (y:Lay)(v0:Addr)(p:Int)(rs fz:ah)(Good:GI→Prop):af where
 ι:={i:GI // Good i}
 S:=λi=>qV y v0 p rs fz i.1
 μ:=λi=>i.1.fs.length
 split:=λP=>(∀v rows names z h,P ⟨⟨[],v,rows,names,z⟩,h⟩)∧(∀f r v rows names z h,P ⟨⟨ai.as f .rnd::r,v,rows,names,z⟩,h⟩)∧(∀f r v rows names z h,P ⟨⟨ai.as f .sqr::r,v,rows,names,z⟩,h⟩)∧(∀f r v rows names z h,P ⟨⟨ai.as f .quo::r,v,rows,names,z⟩,h⟩)
 ok:=λP h i=>by
  obtain⟨⟨fs,v,rows,names,z⟩,hi⟩:=i
  cases fs with
  |nil=>exact h.1 _ _ _ _ _
  |cons f r=>
   obtain⟨fa,fd,ta,w,pl,dt,vs,tl,hv⟩:=f
   cases w with
   |rnd=>exact h.2.1 ⟨fa,fd,ta,.rnd,pl,dt,vs,tl,hv⟩ _ _ _ _ _ _
   |sqr=>exact h.2.2.1 ⟨fa,fd,ta,.sqr,pl,dt,vs,tl,hv⟩ _ _ _ _ _ _
   |quo=>exact h.2.2.2 ⟨fa,fd,ta,.quo,pl,dt,vs,tl,hv⟩ _ _ _ _ _ _
def yW (y:Lay)(v0:Addr)(p:Int)(rs fz:ah)(Good:GI→Prop)(n:Nat)(st:St):Prop:=Ent st λst'=>∃j:{i:GI // Good i},j.1.fs.length<n∧st'=qV y v0 p rs fz j.1
def MO (ke:KX)(K:SV→St→Prop)(y:Lay)(v0:Addr)(p:Int)(rs Z:ah)(rows:List Value)(names:List (Str×Value))(v:Addr)(f:ai)(w:WK)(r:List ai):Prop:=
 Dr (tf f w f.tl f.dt f.vs (cR r)) v p (λ(z:List HE)=>K .none {loc:=MC v0 p v,hp:=fV y rows names (.list y.fo (aB (f.as w::r)) [.stk 0]),sk:=z,tp:=[],rst:=rs,fz:=Z}) ke
abbrev pM (ke:KX)(y:Lay)(v0:Addr)(p:Int)(rows:List Value)(names:List (Str×Value))(fs:List ai)(rs fz:ah)(K:SV→St→Prop)(Good:GI→Prop):Prop:=
  ∀(f:ai)(r:List ai)(v:Nat)(rows:List Value)(names:List (Str×Value))(z:List (Addr×Obj)),Good {fs:=ai.as f WK.rnd::r,v:=v,rows:=rows,names:=names,z:=z}→vc (aB (ai.as f WK.rnd::r))+1<1152921504606846976∧(decide ((↑(vc (aB (GI.fs {fs:=ai.as f WK.rnd::r,v:=v,rows:=rows,names:=names,z:=z}))+vc (di (GI.fs {fs:=ai.as f WK.rnd::r,v:=v,rows:=rows,names:=names,z:=z}))):Int)>(0:Int))=true→MO ke K y v0 p rs (z++fz) rows names v f WK.rnd r)∧(decide ((↑(vc (aB (GI.fs {fs:=ai.as f WK.rnd::r,v:=v,rows:=rows,names:=names,z:=z}))+vc (di (GI.fs {fs:=ai.as f WK.rnd::r,v:=v,rows:=rows,names:=names,z:=z}))):Int)>(0:Int))=false→d6 (z++fz) (Pa v)∧K (SV.opq (Pa v)) {loc:=CP v0 p v,hp:=fV y rows names (HE.list (Lay.fo y) (aB (ai.as f WK.rnd::r)) [SV.stk (0)]),sk:=tf f WK.rnd (ai.tl f) (ai.dt f) (ai.vs f) (cR r),tp:=[],rst:=rs,fz:=z++fz})
abbrev qB (ke:KX)(y:Lay)(v0:Addr)(p:Int)(rows:List Value)(names:List (Str×Value))(fs:List ai)(rs fz:ah)(K:SV→St→Prop)(Good:GI→Prop):Prop:=
  ∀(f:ai)(r:List ai)(v:Nat)(rows:List Value)(names:List (Str×Value))(z:List (Addr×Obj)),Good {fs:=ai.as f WK.sqr::r,v:=v,rows:=rows,names:=names,z:=z}→vc (aB (ai.as f WK.sqr::r))+1<1152921504606846976∧(decide ((↑(vc (aB (GI.fs {fs:=ai.as f WK.sqr::r,v:=v,rows:=rows,names:=names,z:=z}))+vc (di (GI.fs {fs:=ai.as f WK.sqr::r,v:=v,rows:=rows,names:=names,z:=z}))):Int)>(0:Int))=true→MO ke K y v0 p rs (z++fz) rows names v f WK.sqr r)∧(decide ((↑(vc (aB (GI.fs {fs:=ai.as f WK.sqr::r,v:=v,rows:=rows,names:=names,z:=z}))+vc (di (GI.fs {fs:=ai.as f WK.sqr::r,v:=v,rows:=rows,names:=names,z:=z}))):Int)>(0:Int))=false→d6 (z++fz) (Pa v)∧K (SV.opq (Pa v)) {loc:=CP v0 p v,hp:=fV y rows names (HE.list (Lay.fo y) (aB (ai.as f WK.sqr::r)) [SV.stk (0)]),sk:=tf f WK.sqr (ai.tl f) (ai.dt f) (ai.vs f) (cR r),tp:=[],rst:=rs,fz:=z++fz})
abbrev qd (y:Lay)(v0:Addr)(p:Int)(fs:List ai)(rs fz:ah)(Good:GI→Prop)(f:ai)(r:List ai)(v:Nat)(rows:List Value)(names:List (Str×Value))(z:List (Addr×Obj)):Prop:=
  decide ((↑(vc (aB (GI.fs {fs:=ai.as f WK.quo::r,v:=v,rows:=rows,names:=names,z:=z}))+vc (di (GI.fs {fs:=ai.as f WK.quo::r,v:=v,rows:=rows,names:=names,z:=z}))):Int)>(0:Int))=true→vc (aB (ai.as f WK.quo::r))+1<1048576∧fV y rows names (HE.list (Lay.fo y) (aB (ai.as f WK.quo::r)) [])=fV y rows names (HE.list (Lay.fo y) (aB (ai.as f WK.quo::r)) [])∧(Lay.w y=Lay.w y∧vc rows<524288∧vc names≤vc rows∧aG (z++fz) names∧vw (p' "quote"))∧∀(v_1:Nat)(rows':List Value)(names':List (Str×Value))(z_1:List (Addr×Obj)),e9 (z_1++(z++fz)) (Pa v_1) (p' "quote")→aG (z_1++(z++fz)) names'→vc rows'≤vc rows+1→vc names'≤vc rows'→∀(a:Nat),Jy (z_1++(z++fz)) (Pa v_1) (Pa v) (Pa (340)) λ(v:Addr)(z_2:ah)=>yW y v0 p rs fz Good (vc (ai.as f WK.quo::r)) {loc:=MC v0 p v,hp:=fV y rows' names' (HE.list (Lay.fo y) (aB (ai.as f WK.quo::r)) []),sk:=tf f WK.quo (ai.tl f) (ai.dt f) (ai.vs f) (cR r),tp:=[HE.gone a],rst:=rs,fz:=z_2++(z_1++(z++fz))}
abbrev qF (ke:KX)(y:Lay)(v0:Addr)(p:Int)(rows:List Value)(names:List (Str×Value))(fs:List ai)(rs fz:ah)(K:SV→St→Prop)(Good:GI→Prop):Prop:=
  (∀(v:Nat)(rows:List Value)(names:List (Str×Value))(z:List (Addr×Obj)),Good {fs:=[],v:=v,rows:=rows,names:=names,z:=z}→0<1152921504606846976∧(decide ((↑(vc (aB (GI.fs {fs:=[],v:=v,rows:=rows,names:=names,z:=z}))+vc (di (GI.fs {fs:=[],v:=v,rows:=rows,names:=names,z:=z}))):Int)>(0:Int))=true→False)∧(decide ((↑(vc (aB (GI.fs {fs:=[],v:=v,rows:=rows,names:=names,z:=z}))+vc (di (GI.fs {fs:=[],v:=v,rows:=rows,names:=names,z:=z}))):Int)>(0:Int))=false→d6 (z++fz) (Pa v)∧K (SV.opq (Pa v)) {loc:=CP v0 p v,hp:=fV y rows names (HE.list (Lay.fo y) [] []),sk:=[],tp:=[],rst:=rs,fz:=z++fz}))∧(pM ke y v0 p rows names fs rs fz K Good)∧(qB ke y v0 p rows names fs rs fz K Good)∧∀(f:ai)(r:List ai)(v:Nat)(rows:List Value)(names:List (Str×Value))(z:List (Addr×Obj)),Good {fs:=ai.as f WK.quo::r,v:=v,rows:=rows,names:=names,z:=z}→vc (aB (ai.as f WK.quo::r))+1<1152921504606846976∧(qd y v0 p fs rs fz Good f r v rows names z)∧(decide ((↑(vc (aB (GI.fs {fs:=ai.as f WK.quo::r,v:=v,rows:=rows,names:=names,z:=z}))+vc (di (GI.fs {fs:=ai.as f WK.quo::r,v:=v,rows:=rows,names:=names,z:=z}))):Int)>(0:Int))=false→d6 (z++fz) (Pa v)∧K (SV.opq (Pa v)) {loc:=CP v0 p v,hp:=fV y rows names (HE.list (Lay.fo y) (aB (ai.as f WK.quo::r)) [SV.stk (0)]),sk:=tf f WK.quo (ai.tl f) (ai.dt f) (ai.vs f) (cR r),tp:=[],rst:=rs,fz:=z++fz})
theorem wz (sc:Sc)(ke:KX)(y:Lay)(v0:Addr)(p:Int)(rows:List Value)(names:List (Str×Value))(fs:List ai)(rs fz:ah)(K:SV→St→Prop)(Good:GI→Prop) :
  ((Ent {loc:=CP v0 p v0,hp:=fV y rows names (ar (Lay.fo y) fs),sk:=bf fs,tp:=[],rst:=rs,fz:=fz} λ(st':St)=>∃(i:{i:GI // Good i}),st'=qV y v0 p rs fz (TR i))∧qF ke y v0 p rows names fs rs fz K Good) →
  bw (bE {cs:=aK (aI 65 8),call:=aw [(636,ft y.w),(509,cU),(495,sL)],ke:=ke,inv:=λ_ _=>some (qv y v0 p rs fz Good)} (xt y.w sc) 12) (bz (aI 65 8)) {loc:=[("self",.ref 5),("forms",.ref 6),("datum",.opq (.ref v0)),("start",.int p)],hp:=iq y rows names fs,sk:=bf fs,tp:=[],rst:=rs,fz:=fz} (λfl st=>K (bW fl) st):=
 Qg (by kernel_rfl)
theorem eb:∀{loc:List (Str×SV)},(loc.all λp=>p.2.okN n)=true→look x loc=some sv→sv.okN n=true
 |[],_,h=>nomatch h
 |(y,w)::r,hl,h=>by
  rw[Qb,Pe]at hl
  rcases mB h with⟨_,h⟩|⟨_,h⟩
  ·cases h;exact hl.1
  ·exact eb hl.2 h
inductive bo (fz:ah):List ai→List cQ→Prop
 |nil:bo fz [] []
 |cons {f:ai}{F:cQ}{fs:List ai}{Fs:List cQ}:ip fz f F→bo fz fs Fs→bo fz (f::fs) (F::Fs)
theorem bo.mono (h:bo fz fs Fs)(k:∀p∈fz,p∈fz'):bo fz' fs Fs:=by
 induction h with
 |nil=>exact .nil
 |cons a _ ih=>exact .cons (a.mono k) ih
inductive HG (w0:World)(hp sk:List HE)(loc:List (Str×SV))(fz:ah)(v:Addr)(p:Int)(P1:Addr→List Value→List (Str×Value)→List ai→ah→Prop)(P2:Addr→Addr→List Value→List (Str×Value)→ah→Prop)(ke:KX):Prop
 |mk (y:Lay)(rows:List Value)(names:List (Str×Value))(fs:List ai)(Fs:List cQ)(d:Pz)(N:Nat)(h0:y.w=w0∧hp=iq y rows names fs∧(y.b0.okN 6&&y.b4.okN 6)=true∧sk=bf fs∧(loc.all λp=>p.2.cF)=true)
   (h1:bo fz fs Fs∧dc fz (.ref v) d∧aG fz names∧rows.length+fs.length<100000∧names.length≤rows.length∧(∀f∈fs,f.vs.length≤N)∧N<50000)
   (c1:∀Fs',gv Fs d=.taken Fs'→∀fs' rows' names' z,bo (z++fz) fs' Fs'→aG (z++fz) names'→rows'.length+fs'.length≤rows.length+fs.length→names'.length≤rows'.length→(∀f∈fs',f.vs.length≤N+1)→P1 y.fo rows' names' fs' z)
   (c2:∀d',gv Fs d=.whole d'→∀(v':Addr) rows' names' z,dc (z++fz) (.ref v') d'→aG (z++fz) names'→rows'.length≤rows.length+fs.length→names'.length≤rows'.length→P2 v' y.fo rows' names' z)
   (c3:gv Fs d=.bad→ke 58 [("word",.str cB),("place",.int p)])
def mi (w0:World):cK:=λargs st k ke=>Jj (dF 5) (dF 6) sf gY args λ_ _ v p=>HG w0 st.hp st.sk st.loc st.fz v p
 (λfo rows' names' fs' z=>k .none ((EE (nT st rows' names') (ar fo fs')).Gj (bf fs') (z++st.fz)))
 (λv' fo rows' names' z=>k (.opq (.ref v')) ((EE (nT st rows' names') (ar fo [])).Gj ([]) (z++st.fz))) ke
structure vd where
 y:Lay
 v0:Addr
 p:Int
 rows:List Value
 names:List (Str×Value)
 fs:List ai
 loc:List (Str×SV)
 tp:List HE
 rst:ah
 fz:ah
 tl:ah
 k:KV
 ke:KX
 Fs:List cQ
 d:Pz
 N:Nat
noncomputable def vd.st (R:vd):St:=⟨R.loc,iq R.y R.rows R.names R.fs,bf R.fs,R.tp,R.rst,R.fz⟩
def vd.K (R:vd)(sv:SV)(st₂:St):Prop:=bg R.st R.tl R.k sv st₂
noncomputable def vd.rs (R:vd):ah:=R.tl++R.rst
structure vd.Ok (R:vd):Prop where
 b:(R.y.b0.okN 6&&R.y.b4.okN 6)=true
 loc:(R.loc.all λp=>p.2.cF)=true
 z:R.rows.length+R.fs.length<100000
 n:R.N<50000
 tk:∀Fs',gv R.Fs R.d=.taken Fs'→∀fs' rows' names' z,bo (z++R.fz) fs' Fs'→aG (z++R.fz) names'→rows'.length+fs'.length≤R.rows.length+R.fs.length→names'.length≤rows'.length→(∀f∈fs',f.vs.length≤R.N+1)→R.k .none ⟨R.loc,iq R.y rows' names' fs',bf fs',R.tp,R.rst,z++R.fz⟩
 wh:∀d',gv R.Fs R.d=.whole d'→∀(v':Addr) rows' names' z,dc (z++R.fz) (.ref v') d'→aG (z++R.fz) names'→rows'.length≤R.rows.length+R.fs.length→names'.length≤rows'.length→R.k (.opq (.ref v')) ⟨R.loc,iq R.y rows' names' [],[],R.tp,R.rst,z++R.fz⟩
 bad:gv R.Fs R.d=.bad→R.ke 58 [("word",.str cB),("place",.int R.p)]
structure GoodG (R:vd)(i:GI)(Fs:List cQ)(d:Pz):Prop where
 fr:bo (i.z++R.fz) i.fs Fs
 isd:dc (i.z++R.fz) (.ref i.v) d
 go:gv Fs d=gv R.Fs R.d
 nm:aG (i.z++R.fz) i.names
 sz:i.rows.length+i.fs.length≤R.rows.length+R.fs.length
 nr:i.names.length≤i.rows.length
 vs:∀f∈i.fs,f.vs.length≤R.N
def om (R:vd)(i:GI):Prop:=∃Fs d,GoodG R i Fs d
section
variable {R:vd}{Fs:List cQ}{d:Pz}{v:Addr}{rows:List Value}{names:List (Str×Value)}{z:ah}{f:ai}{r:List ai}{w:WK}
theorem vd.Ok.b6 (H:R.Ok)(rows:List Value)(names:List (Str×Value)):(([R.y.b0,pb R.y.oa R.y.od,.vlist R.y.ra rows,.map R.y.na R.y.w names,R.y.b4,qU R.y.rd R.y.rr R.y.lab]:List HE).all (·.okN 6))=true:=by
 have hB:=H.b
 rw[Pe]at hB
 show(R.y.b0.okN 6&&(true&&(true&&(true&&(R.y.b4.okN 6&&(true&&true))))))=true
 rw[hB.1,hB.2];rfl
theorem gX (H:R.Ok)(hf:sv.flat=true)(hk:R.k sv ⟨R.loc,iq R.y rows names fs',bf fs',R.tp,R.rst,z⟩):R.K sv ⟨loc2,fV R.y rows names (ar R.y.fo fs'),bf fs',[],R.rs,z⟩:=
 bg.lay (st₃:=⟨[],iq R.y rows names fs',bf fs',[],R.rs,z⟩) (λX s I=>I.drop) rfl hk Pp H.loc hf (λD v r=>r) rfl
theorem dS (g:GoodG R ⟨f.as w::r,v,rows,names,z⟩ Fs d)(H:R.Ok):(aB (f.as w::r)).length+1<1048576:=by
 have g5:rows.length+(r.length+1)≤R.rows.length+R.fs.length:=g.sz
 have:=H.z
 show(r.reverse.map _).length+1<_
 rw[PM,Qp]
 lia
theorem hH:¬decide ((((aB (f.as w::r)).length+(di (f.as w::r)).length:Nat):Int)>0)=false:=λh=>absurd (of_decide_eq_false h) (λh=>h (Int.natCast_pos.mpr (Nat.succ_pos _)))
theorem nE (H:R.Ok)(hw:wN w≠2)(g:GoodG R ⟨f.as w::r,v,rows,names,z⟩ Fs d):MO R.ke R.K R.y R.v0 R.p R.rs (z++R.fz) rows names v f w r:=by
 have hN:=H.n
 have g7:=g.vs
 have go:=g.go
 have hv:f.vs.length≤R.N:=g7 (f.as w) (.head _)
 have g1:bo (z++R.fz) (f.as w::r) Fs:=g.fr
 cases g1 with
 |@cons _ F _ T gF gR=>
  have hfw:F.w≠2:=by rw[gF.w];exact hw
  have hdt:(F.dots:Int)=f.dt:=gF.dots
  have nx:∀f':ai,f'.vs.length≤R.N+1→∀q∈f'::r,q.vs.length≤R.N+1:=λf' h q hq=>by
   rcases List.mem_cons.mp hq with rfl|hq
   ·exact h
   ·exact PK (g7 q (.tail _ hq))
  refine⟨f.as w,cR r,rfl,Pr hv (PF hN (by decide)),λh0=>?_,λh1=>?_,λh0 h1=>H.bad ?_⟩
  ·have hd0:F.dots=0:=Int.ofNat_inj.mp (hdt.trans h0)
   refine gX (fs':={f.as w with vs:=f.vs++[.ref v]}::r) H rfl (H.tk ({F with things:=F.things++[d]}::T) ?_ _ rows names z (.cons ⟨gF.w,gF.things.append (.cons g.isd .nil),gF.dots,gF.tail⟩ gR) g.nm g.sz g.nr (nx _ ?_))
   ·rw[←go];rw[Gm,if_neg hfw,if_pos hd0]
   ·show(f.vs++[Pa v]).length≤_
    rw[PU];exact Qo hv
  ·have hd0:F.dots=1:=Int.ofNat_inj.mp (hdt.trans h1)
   refine gX (fs':={f.as w with dt:=2,tl:=v}::r) H rfl (H.tk ({F with dots:=2,tail:=d}::T) ?_ _ rows names z (.cons ⟨gF.w,gF.things,rfl,g.isd⟩ gR) g.nm g.sz g.nr (nx _ (PK hv)))
   rw[←go];rw[Gm,if_neg hfw,if_neg (by lia),if_pos hd0]
  ·replace h0:f.dt≠0:=h0
   replace h1:f.dt≠1:=h1
   rw[←go];rw[Gm,if_neg hfw,if_neg (by lia),if_neg (by lia)]
theorem tc (H:R.Ok)(g:GoodG R ⟨f.as .quo::r,v,rows,names,z⟩ Fs d){v1 v2 a:Addr}{rows2:List Value}{names2:List (Str×Value)}{z1 z2:ah}(s2:aG (z1++(z++R.fz)) names2) (s3:rows2.length≤rows.length+1)(s4:names2.length≤rows2.length)(hq:dc (z2++(z1++(z++R.fz))) (.ref v2) (dZ d)) :
  yW R.y R.v0 R.p R.rs R.fz (om R) (f.as .quo::r).length {loc:=MC R.v0 R.p v2,hp:=fV R.y rows2 names2 (.list R.y.fo (aB (f.as .quo::r)) []),sk:=tf f .quo f.tl f.dt f.vs (cR r),tp:=[.gone a],rst:=R.rs,fz:=z2++(z1++(z++R.fz))}:=by
 have g5:rows.length+(r.length+1)≤R.rows.length+R.fs.length:=g.sz
 have g7:=g.vs
 have go:=g.go
 have g1:bo (z++R.fz) (f.as .quo::r) Fs:=g.fr
 cases g1 with
 |@cons _ F _ T gF gR=>
  have ez:z2++(z1++(z++R.fz))=(z2++(z1++z))++R.fz:=by simp
  have gd:om R ⟨r,v2,rows2,names2,z2++(z1++z)⟩:=⟨T,dZ d,by rw[←ez];exact gR.mono λq hq=>Pb _ (Pb _ hq),by rw[←ez];exact hq,by
   rw[←go]
   show _=gv (F::T) d
   rw[Gm,if_pos (by rw[gF.w];rfl)],by rw[←ez];exact s2.mono λq hq=>Pb _ hq,(Pk (SG s3 _) (by rw[Nat.add_right_comm];exact g5)),s4,λq hq=>g7 q (.tail _ hq)⟩
  rw[ez]
  exact⟨λX s f0 I=>⟨_,⟨⟨_,gd⟩,P0 _,rfl⟩,Inv.pop (B:=[R.y.b0,pb R.y.oa R.y.od,.vlist R.y.ra rows2,.map R.y.na R.y.w names2,R.y.b4,qU R.y.rd R.y.rr R.y.lab]) (fs:=r) (f:=f.as .quo) (loc':=CP R.v0 R.p v2) (H.b6 _ _) rfl rfl rfl (λx sv h=>⟨bX (m:=[("form",.stk 0)]) h,eb (loc:=CP R.v0 R.p v2) rfl h⟩) I⟩⟩
theorem zi (H:R.Ok)(h1:bo R.fz R.fs R.Fs)(h2:dc R.fz (.ref R.v0) R.d)(h3:aG R.fz R.names)(h4:R.names.length≤R.rows.length)(h5:∀f∈R.fs,f.vs.length≤R.N)(sc:Sc):bw (bE {cs:=aK (aI 65 8),call:=aw [(636,ft R.y.w),(509,cU),(495,sL)],ke:=R.ke,inv:=λ_ _=>some (qv R.y R.v0 R.p R.rs R.fz (om R))} (xt R.y.w sc) 12) (bz (aI 65 8)) {loc:=[("self",.ref 5),("forms",.ref 6),("datum",.opq (.ref R.v0)),("start",.int R.p)],hp:=iq R.y R.rows R.names R.fs,sk:=bf R.fs,tp:=[],rst:=R.rs,fz:=R.fz} (λfl st=>R.K (bW fl) st):=by
 refine wz sc R.ke R.y R.v0 R.p R.rows R.names R.fs R.rs R.fz R.K (om R) ⟨.refl ⟨⟨⟨R.fs,R.v0,R.rows,R.names,[]⟩,R.Fs,R.d,h1,h2,rfl,h3,P5 _,h4,h5⟩,rfl⟩,λv rows names z h=>?_,λf r v rows names z h=>?_,λf r v rows names z h=>?_,λf r v rows names z h=>?_⟩
 ·obtain⟨Fs,d,g⟩:=h
  have e:Fs=[]:=by
   have:=g.fr
   cases this;rfl
  refine⟨by decide,λh=>absurd (show decide (((0:Nat):Int)>0)=true from h) (by decide),λ_=>⟨g.isd.j',gX (fs':=[]) H rfl (H.wh d ?_ v rows names z g.isd g.nm g.sz g.nr)⟩⟩
  rw[←g.go,e];rfl
 ·obtain⟨Fs,d,g⟩:=h
  exact⟨PF (dS g H) (by decide),λ_=>nE H nofun g,λe=>absurd e hH⟩
 ·obtain⟨Fs,d,g⟩:=h
  exact⟨PF (dS g H) (by decide),λ_=>nE H nofun g,λe=>absurd e hH⟩
 ·obtain⟨Fs,d,g⟩:=h
  have hz:=H.z
  have g5:rows.length+(r.length+1)≤R.rows.length+R.fs.length:=g.sz
  exact⟨PF (dS g H) (by decide),λ_=>⟨dS g H,rfl,⟨rfl,by lia,g.nr,g.nm,.inr rfl⟩,λv1 rows2 names2 z1 s1 s2 s3 s4 a=>⟨.str "quote",d,gI,⟨.sym s1,g.isd.mono λp hp=>Pb _ hp,.nil⟩,λv2 z2 hq=>tc (v1:=v1) H g s2 s3 s4 hq⟩⟩,λe=>absurd e hH⟩
end
theorem wB (O:X.Ok)(hn:9≤X.n):az X 594 (mi X.w):=by
 refine aP (n:=7) Hx HS O hn λst args k ke hc=>?_
 obtain⟨_,_,v0,p,rfl,hk⟩:=m3 hc
 clear hc
 obtain⟨y,rows,names,fs,Fs,d,N,⟨hw,hhp,hB,hsk,hloc⟩,⟨hF,hd,hno,hz,hnr,hN,hN2⟩,c1,c2,c3⟩:=hk
 have e:=St.lit hhp hsk
 clear hhp hsk
 obtain⟨loc,tp,rst,fz,rfl⟩:=e
 dsimp only at hloc
 refine bD.mk (λtl=>{cs:=aK (aI 65 8),call:=aw [(636,ft y.w),(509,cU),(495,sL)],ke:=ke,inv:=λ_ _=>some (qv y v0 p (tl++rst) fz (om ⟨y,v0,p,rows,names,fs,loc,tp,rst,fz,tl,k,ke,Fs,d,N⟩))}) rfl rfl (λ_=>rfl) (λ_ X' S=>ax S (cI (hw▸S.w▸lL S.ok (by rw[S.n];decide)) (cI (oN S.ok (by rw[S.n];decide)) (cI (BF S.ok (by rw[S.n];decide)) dJ)))) λtl=>?_
 rw[←hw]
 exact zi (R:=⟨y,v0,p,rows,names,fs,loc,tp,rst,fz,tl,k,ke,Fs,d,N⟩) ⟨hB,hloc,hz,hN2,c1,c2,c3⟩ hF hd hno hnr hN _
set_option genCtorIdx true in
inductive mS where
 |got (d:Pz)(ts:List (Tk×Nat))
 |bad (w:Str)(p:Nat)
 |fin
noncomputable def iE:List (Tk×Nat)→List cQ→mS
 |[],_=>.fin
 |(t,p)::ts,fs=>match t with
  |.opn b=>iE ts (⟨if b then 0 else 1,[],0,gI⟩::fs)
  |.quo=>iE ts (⟨2,[],0,gI⟩::fs)
  |.dot=>match fC fs with
   |some fs'=>iE ts fs'
   |none=>.bad "." p
  |.cls b=>match ey b fs with
   |none=>.bad (ik (.cls b)) p
   |some (f,r)=>match gv r (bk f)with
    |.taken fs'=>iE ts fs'
    |.whole d=>.got d ts
    |.bad=>.bad cB p
  |.sym x=>match gv fs (.str x)with
   |.taken fs'=>iE ts fs'
   |.whole d=>.got d ts
   |.bad=>.bad cB p
theorem Ac (h:bo fz fs Fs):(wc fs=none→fC Fs=none)∧∀fs',wc fs=some fs'→∃(f:ai)(r:List ai)(F:cQ)(R:List cQ),fs=f::r∧fs'={f with dt:=1}::r∧fC Fs=some ({F with dots:=1}::R)∧ip fz {f with dt:=1} {F with dots:=1}∧bo fz r R:=by
 cases h with
 |nil=>exact⟨λ_=>rfl,λfs' e=>by cases e⟩
 |@cons f F r R a b=>
  obtain⟨fa,fd,ta,w,pl,dt,vs,tl,hv⟩:=f
  have hd:=a.dots
  have hw:=a.w
  dsimp only at hd hw
  cases w with
  |rnd=>
   constructor
   ·intro e
    have e:(if dt≤0 then some _ else none)=none:=e
    split at e
    ·cases e
    ·show(if F.w=0∧F.dots=0 then _ else none)=none
     rw[if_neg (by lia)]
   ·intro fs' e
    have e:(if dt≤0 then some _ else none)=some fs':=e
    split at e
    ·cases e
     refine⟨_,r,F,R,rfl,rfl,?_,⟨a.w,a.things,rfl,a.tail⟩,b⟩
     show(if F.w=0∧F.dots=0 then _ else none)=_
     rw[if_pos ⟨hw,by lia⟩]
    ·cases e
  |sqr=>
   refine⟨λ_=>?_,λfs' e=>by cases e⟩
   have hw:F.w=1:=hw
   show(if F.w=0∧F.dots=0 then _ else none)=none
   rw[if_neg (by lia)]
  |quo=>
   refine⟨λ_=>?_,λfs' e=>by cases e⟩
   have hw:F.w=2:=hw
   show(if F.w=0∧F.dots=0 then _ else none)=none
   rw[if_neg (by lia)]
theorem ur (h:bo fz fs Fs):(fe b fs=none→ey b Fs=none)∧∀f r,fe b fs=some (f,r)→fs=f::r∧∃F R,ey b Fs=some (F,R)∧ip fz f F∧bo fz r R:=by
 cases h with
 |nil=>exact⟨λ_=>rfl,λf r e=>by cases e⟩
 |@cons f F r R a c=>
  obtain⟨fa,fd,ta,w,pl,dt,vs,tl,hv⟩:=f
  have hd:=a.dots
  have hw:=a.w
  dsimp only at hd hw
  have no:∀n:Nat,F.w=n→n≠(if b then 0 else 1)→ey b (F::R)=none:=λn e ne=>by
   show(if F.w=(if b then 0 else 1)∧F.dots≠1 then _ else none)=none
   rw[if_neg (λq=>ne (e▸q.1))]
  have yes:F.w=(if b then 0 else 1)→(if dt=1 then none else some ((⟨fa,fd,ta,w,pl,dt,vs,tl,hv⟩:ai),r))=fe b (⟨fa,fd,ta,w,pl,dt,vs,tl,hv⟩::r)→(fe b (⟨fa,fd,ta,w,pl,dt,vs,tl,hv⟩::r)=none→ey b (F::R)=none)∧∀f r',fe b (⟨fa,fd,ta,w,pl,dt,vs,tl,hv⟩::r)=some (f,r')→(⟨fa,fd,ta,w,pl,dt,vs,tl,hv⟩:ai)::r=f::r'∧∃F' R',ey b (F::R)=some (F',R')∧ip fz f F'∧bo fz r' R':=λe1 e2=>by
   rw[←e2]
   constructor
   ·intro e
    split at e
    ·show(if F.w=(if b then 0 else 1)∧F.dots≠1 then _ else none)=none
     rw[if_neg (λq=>q.2 (by lia))]
    ·cases e
   ·intro f r' e
    split at e
    ·cases e
    ·cases e
     refine⟨rfl,F,R,?_,a,c⟩
     show(if F.w=(if b then 0 else 1)∧F.dots≠1 then _ else none)=_
     rw[if_pos ⟨e1,by lia⟩]
  cases w<;>cases b
  ·exact⟨λ_=>no 0 hw (by decide),λf r e=>by cases e⟩
  ·exact yes hw rfl
  ·exact yes hw rfl
  ·exact⟨λ_=>no 1 hw (by decide),λf r e=>by cases e⟩
  ·exact⟨λ_=>no 2 hw (by decide),λf r e=>by cases e⟩
  ·exact⟨λ_=>no 2 hw (by decide),λf r e=>by cases e⟩
theorem EB (hok:jX cs)(h:(aS cs s).1=.sym x):bG x:=by
 unfold aS at h
 repeat' split at h
 all_goals first|(cases h;done)|skip
 cases h;exact pV hok
theorem z8 (hw:w=wT f.w)(hd:f.dt=0)(hs:D'.sk=(bf (f::fs)).map HE.addr) (H:HL D (.inst f.fa 498 f.fd [("word",.str w),("place",.int f.pl),("number",.none),("things",.opq (.ref f.ta)),("tail",.opq (.ref f.tl)),("dots",.int 0),("holder",.opq f.hv)]) l):HL D' (jT f (.stk 1)) l:=by
 subst hw
 refine H.eU ⟨rfl,λ_ r=>r,rfl,λ_ r=>r,rfl,λ_ r=>r,rfl,λv r=>?_,rfl,λ_ r=>r,rfl,λ_ r=>by rw[hd];exact r,rfl,λ_ r=>r,trivial⟩
 cases r
 exact⟨f.ta,by rw[hs];rfl,rfl⟩
theorem uG {lB lF rf:ah}:(((lB++[])++((lF++[])++rf))).Perm ((((lB++(lF++[]))++[])++([]++rf))++[]):=bj λ_ _ p=>by
 simp only[PL,Qa];lia
theorem Inv.Hw {st:St}{B:List HE}(hB:(B.all (·.okN 6))=true) (h6:B.length=6)(hhp:st.hp=B)(hsk:st.sk=[])(htp:st.tp=[.list fo [] []])(hl:∀x sv',look x loc'=some sv'→∃sv,look x st.loc=some sv∧∀v,sv.R st.ad v→sv'.R ⟨(B++[ar fo []]).map HE.addr,[],[]⟩ v)(I:Inv X st s):Inv X {st with loc:=loc',hp:=B++[ar fo []],sk:=[],tp:=[]} s:=by
 have ehp:st.ad.hp=B.map HE.addr:=by show st.hp.map HE.addr=_;rw[hhp]
 refine I.lay hl λl l' L1 L2=>?_
 rw[hhp,hsk]at L1
 rw[htp]at L2
 obtain⟨lB,lS,rfl,LB,LS⟩:=L1.split
 cases LS
 obtain⟨lF,e,rfl,HF,e2⟩:=LL.dm L2
 cases e2
 let D':Ad:=⟨(B++[ar fo []]).map HE.addr,[],[]⟩
 have kB:LL D' B lB:=LB.okN (n:=6) (by
  show st.ad.hp.take 6=((B++[ar fo []]).map HE.addr).take 6
  rw[ehp,PI,Rk (by rw[PM,h6];exact P5 _)]) hB
 have kF:HL D' (ar fo []) lF:=HL.okN (n:=0) (D':=D') (show st.ad.bot.hp.take 0=D'.hp.take 0 from rfl) HF rfl
 exact⟨((lB++(lF++[]))++[]),[],[],(kB.append (LL.cons kF .nil)).append .nil,.nil,uG⟩
theorem yc {lB lF l' rf:ah}:((((lB++(lF++[]))++[])++(l'++rf))).Perm (((lB++[])++([]++rf))++(lF++l')):=bj λ_ _ p=>by
 simp only[PL,Qa];lia
theorem Inv.Mu {st:St}{B:List HE}(hB:(B.all (·.okN 6))=true) (h6:B.length=6)(hhp:st.hp=B++[e])(hsk:st.sk=[])(I:Inv X st s):Inv X {st with loc:=[],hp:=B,sk:=[],tp:=[]} s:=by
 have ehp:st.ad.hp=(B++[e]).map HE.addr:=by show st.hp.map HE.addr=_;rw[hhp]
 refine I.lay (λ_ _ h=>nomatch h) λl l' L1 L2=>?_
 rw[hhp,hsk]at L1
 obtain⟨l1,lS,rfl,L3,LS⟩:=L1.split
 cases LS
 obtain⟨lB,lF,rfl,LB,LF⟩:=L3.split
 obtain⟨lF',z,rfl,HF,e2⟩:=LL.dm LF
 cases e2
 let D':Ad:=⟨B.map HE.addr,[],[]⟩
 have kB:LL D' B lB:=LB.okN (n:=6) (by
  show st.ad.hp.take 6=(B.map HE.addr).take 6
  rw[ehp,PI,Rk (by rw[PM,h6];exact P5 _)]) hB
 exact⟨lB++[],[],lF'++l',kB.append .nil,.nil,yc⟩
structure RI where
 fs:List ai
 p:Nat
 rows:List Value
 names:List (Str×Value)
 z:ah
 lab:Value
 fo:Addr
structure bC where
 w:World
 ca:Addr
 cs:List Int
 oa:Addr
 od:Addr
 ra:Addr
 na:Addr
 td:Addr
 d4:Addr
 rd:Addr
 rr:Addr
noncomputable def bC.pD (c:bC)(rows:List Value)(names:List (Str×Value))(n:Int)(lab:Value):List HE:=[.nlist c.ca c.cs,pb c.oa c.od,.vlist c.ra rows,.map c.na c.w names,cb c.td c.d4 n,qU c.rd c.rr lab]
noncomputable def bC.hp (c:bC)(rows:List Value)(names:List (Str×Value))(n:Int)(lab:Value)(e:HE):List HE:=[.nlist c.ca c.cs,pb c.oa c.od,.vlist c.ra rows,.map c.na c.w names,cb c.td c.d4 n,qU c.rd c.rr lab,e]
noncomputable def x5 (c:bC)(rs fz:ah)(i:RI):St:={loc:=[("self",.ref 5),("forms",.ref 6)],hp:=c.hp i.rows i.names (i.p:Int) i.lab (ar i.fo i.fs),sk:=bf i.fs,tp:=[],rst:=rs,fz:=i.z++fz}
noncomputable def yV (c:bC)(rs fz:ah)(Good:RI→Prop):af where
 ι:={i:RI // Good i}
 S:=λi=>x5 c rs fz i.1
 μ:=λi=>c.cs.length-i.1.p
 split:=λP=>∀fs p rows names z lab fo h,P ⟨⟨fs,p,rows,names,z,lab,fo⟩,h⟩
 ok:=λP h i=>h _ _ _ _ _ _ _ _
def jf (c:bC)(rs fz:ah)(Good:RI→Prop)(n:Nat)(st:St):Prop:=Ent st λst'=>∃j:{i:RI // Good i},c.cs.length-j.1.p<n∧st'=x5 c rs fz j.1
noncomputable def bC.sk (c:bC)(p:Nat):Nat:=ae c.cs p
noncomputable def bC.tk (c:bC)(p:Nat):Tk:=(aS c.cs (c.sk p)).1
noncomputable def bC.nx (c:bC)(p:Nat):Nat:=(aS c.cs (c.sk p)).2
noncomputable def Ml (w:Str)(v:SV)(n:Nat):List (Str×SV):=[("self",.ref 5),("forms",.ref 6),("word",.txt w),("value",v),("start",.int (n:Int))]
noncomputable def Oy (w:Str)(v:SV)(n:Nat)(d:SV):List (Str×SV):=[("self",.ref 5),("forms",.ref 6),("word",.txt w),("value",v),("start",.int (n:Int)),("datum",d)]
noncomputable def LD (w:Str)(v:SV)(n:Nat)(d f:SV):List (Str×SV):=[("self",.ref 5),("forms",.ref 6),("word",.txt w),("value",v),("start",.int (n:Int)),("datum",d),("found",f)]
noncomputable def Mk (fa fd ta h:Addr)(w:Str)(p:Int):HE:=.inst fa 498 fd [("word",.str w),("place",.int p),("number",.none),("things",.opq (.ref ta)),("tail",.opq (.ref 340)),("dots",.int 0),("holder",.opq (.ref h))]
noncomputable def u9 (a:Addr)(w:Str)(v:SV)(n:Nat):HE:=.tup a [.txt w,v,.int (n:Int)]
def M5 (ke:KX)(K:SV→St→Prop)(c:bC)(rs fz:ah)(Good:RI→Prop)(p:Nat)(lab:Value)(w:Str)(sv:SV)(a a3 fo:Addr)(fs:List ai)(rows:List Value)(names:List (Str×Value))(v:Addr)(Z:ah):Prop:=
 HG c.w (c.hp rows names (c.nx p:Int) lab (ar fo fs)) (bf fs) (Oy w sv (c.sk p) (.opq (.ref v))) Z v (c.sk p:Int)
  (λ(fo1:Nat)(rows':List Value)(names':List (Str×Value))(fs':List ai)(z2:List (Addr×Obj))=>
   (aB fs').length+(di fs').length<1152921504606846976 ∧
   (((((aB fs').length+(di fs').length:Nat):Int)==0)=true→jf c rs fz Good (c.cs.length-p) {loc:=LD w sv (c.sk p) (.opq (.ref v)) .none,hp:=c.hp rows' names' (c.nx p:Int) lab (ar fo1 fs'),sk:=bf fs',tp:=[u9 a w sv (c.sk p),.tup a3 [.txt ")",.txt "]"]],rst:=rs,fz:=z2++Z}) ∧
   (((((aB fs').length+(di fs').length:Nat):Int)==0)=false→jf c rs fz Good (c.cs.length-p) {loc:=LD w sv (c.sk p) (.opq (.ref v)) .none,hp:=c.hp rows' names' (c.nx p:Int) lab (ar fo1 fs'),sk:=bf fs',tp:=[u9 a w sv (c.sk p),.tup a3 [.txt ")",.txt "]"]],rst:=rs,fz:=z2++Z}))
  (λ(v':Nat)(fo1:Nat)(rows':List Value)(names':List (Str×Value))(z2:List (Addr×Obj))=>
   0<1152921504606846976 ∧
   (((((aB []).length+(di []).length:Nat):Int)==0)=true→K (.opq (.ref v')) {loc:=LD w sv (c.sk p) (.opq (.ref v)) (.opq (.ref v')),hp:=c.hp rows' names' (c.nx p:Int) lab (.list fo1 [] []),sk:=[],tp:=[u9 a w sv (c.sk p),.tup a3 [.txt ")",.txt "]"]],rst:=rs,fz:=z2++Z}) ∧
   (((((aB []).length+(di []).length:Nat):Int)==0)=false→jf c rs fz Good (c.cs.length-p) {loc:=LD w sv (c.sk p) (.opq (.ref v)) (.opq (.ref v')),hp:=c.hp rows' names' (c.nx p:Int) lab (.list fo1 [] []),sk:=[],tp:=[u9 a w sv (c.sk p),.tup a3 [.txt ")",.txt "]"]],rst:=rs,fz:=z2++Z})) ke
def A1 (c:bC)(rs fz:ah)(Good:RI→Prop)(p:Nat)(lab:Value)(w:Str)(a fo:Addr)(fs:List ai)(rows:List Value)(names:List (Str×Value))(z:ah):Prop:=
 (w = "("∨w = "["∨w = "'")∧∀(fa fd ta h:Nat),(aB fs).length+(di fs).length<1048576∧jf c rs fz Good (c.cs.length-p) {loc:=Ml w .none (c.sk p),hp:=c.hp rows names (c.nx p:Int) lab (.list fo (aB fs) (di fs++[.opq (.ref fa)])),sk:=bf fs,tp:=[u9 a w .none (c.sk p),Mk fa fd ta h w (c.sk p:Int),.vlist ta []],rst:=rs,fz:=z++fz}
def JW (ke:KX)(c:bC)(rs fz:ah)(Good:RI→Prop)(p:Nat)(lab:Value)(a fo:Addr)(fs:List ai)(rows:List Value)(names:List (Str×Value))(z:ah):Prop:=
 Kv (c.hp rows names (c.nx p:Int) lab (ar fo fs)) (bf fs) (c.sk p:Int) (λ(fs':List ai)=>jf c rs fz Good (c.cs.length-p) {loc:=Ml "." .none (c.sk p),hp:=c.hp rows names (c.nx p:Int) lab (ar fo fs),sk:=bf fs',tp:=[u9 a "." .none (c.sk p)],rst:=rs,fz:=z++fz}) ke
def Ec (ke:KX)(K:SV→St→Prop)(c:bC)(rs fz:ah)(Good:RI→Prop)(p:Nat)(lab:Value)(w:Str)(a a3 fo:Addr)(fs:List ai)(rows:List Value)(names:List (Str×Value))(z:ah):Prop:=
 GA (c.hp rows names (c.nx p:Int) lab (ar fo fs)) (bf fs) (Ml w .none (c.sk p)) (z++fz) w (c.sk p:Int) (λ(fo1:Nat)(r:List ai)(v:Nat)(z1:List (Addr×Obj))=>M5 ke K c rs fz Good p lab w .none a a3 fo1 r rows names v (z1++(z++fz))) ke
def Jk (ke:KX)(K:SV→St→Prop)(c:bC)(rs fz:ah)(Good:RI→Prop)(p:Nat)(lab:Value)(x:Str)(a a3 fo:Addr)(fs:List ai)(rows:List Value)(names:List (Str×Value))(z:ah):Prop:=
 B8 c.w (c.hp rows names (c.nx p:Int) lab (ar fo fs)) (z++fz) x (λ(v:Nat)(rows':List Value)(names':List (Str×Value))(z1:List (Addr×Obj))=>M5 ke K c rs fz Good p lab "symbol" (.str x) a a3 fo fs rows' names' v (z1++(z++fz)))
abbrev uV (ke:KX)(c:bC)(rs fz:ah)(K:SV→St→Prop)(Good:RI→Prop)(a d:Nat)(fs:List ai)(p:Nat)(rows:List Value)(names:List (Str×Value))(z:List (Addr×Obj))(lab:Value)(fo:Nat):Prop:=
  ((0:Int)≤(↑p:Int)∧(↑p:Int)≤(↑(vc (bC.cs c)):Int)∧vc (bC.cs c)<10000∧∀(c_1:Int),c_1∈bC.cs c→jF c_1=true)∧∀(a:Nat),(vc (bC.cs c)≤bC.sk c p→∀(x d:Nat)(vs:Array Value),1<Py vs∧vs[(1:Nat)]?=some Pt→(1<Py vs∧vs[1]?=some Pt)∧ke (38) [("place",SV.int (↑(bC.sk c p):Int))])∧(bC.sk c p<vc (bC.cs c)→(bC.tk c p=Tk.opn true→A1 c rs fz Good p lab (p' "(") a fo fs rows names z)∧(bC.tk c p=Tk.opn false→A1 c rs fz Good p lab (p' "[") a fo fs rows names z)∧(bC.tk c p=Tk.quo→A1 c rs fz Good p lab (p' "'") a fo fs rows names z)∧(bC.tk c p=Tk.dot→JW ke c rs fz Good p lab a fo fs rows names z)∧(bC.tk c p=Tk.cls true→∀(a_3:Nat),Ec ke K c rs fz Good p lab (p' ")") a a_3 fo fs rows names z)∧(bC.tk c p=Tk.cls false→∀(a_3:Nat),Ec ke K c rs fz Good p lab (p' "]") a a_3 fo fs rows names z)∧∀(x:Str),bC.tk c p=Tk.sym x→∀(a_3:Nat),Jk ke K c rs fz Good p lab x a a_3 fo fs rows names z)
theorem BX (sc:Sc)(ke:KX)(c:bC)(p:Int)(rows:List Value)(names:List (Str×Value))(lab:Value)(rs fz:ah)(K:SV→St→Prop)(Good:RI→Prop) :
  (∀(a d:Nat),(Ent {loc:=[("self",SV.ref (5)),("forms",SV.tmp (0))],hp:=bC.pD c rows names p (Pa d),sk:=[],tp:=[HE.list a [] []],rst:=rs,fz:=fz} λ(st':St)=>∃(i:{i:RI // Good i}),st'=x5 c rs fz (TR i))∧∀(fs:List ai)(p:Nat)(rows:List Value)(names:List (Str×Value))(z:List (Addr×Obj))(lab:Value)(fo:Nat),Good {fs:=fs,p:=p,rows:=rows,names:=names,z:=z,lab:=lab,fo:=fo}→bC.hp c rows names (↑p:Int) lab (ar fo fs)=bC.hp c rows names (↑p:Int) lab (ar fo fs)∧uV ke c rs fz K Good a d fs p rows names z lab fo) →
  bw (bE {cs:=aK (aI 65 2),call:=aw [(261,mM),(559,iQ),(573,iL),(580,iN),(566,si c.w),(594,mi c.w),(38,qs)],ke:=ke,inv:=λ_ _=>some (yV c rs fz Good)} (xt c.w sc) 12) (bz (aI 65 2)) {loc:=[("self",.ref 5)],hp:=c.pD rows names p lab,sk:=[],tp:=[],rst:=rs,fz:=fz} (λfl st=>K (bW fl) st):=
 Qg (by kernel_rfl)
theorem gu (h:look x [a,b]=some sv):look x (a::b::m)=some sv:=bX (l:=[a,b]) h
inductive CK (w0:World)(hp sk:List HE)(loc:List (Str×SV))(fz:ah)(P:bC→Addr→List Value→List (Str×Value)→ah→Value→Nat→Prop)(ke:KX):Prop
 |mk (c:bC)(p:Nat)(rows:List Value)(names:List (Str×Value))(lab:Value)(hhp:hp=c.pD rows names (p:Int) lab)(h:c.w=w0∧sk=[]∧(loc.all λp=>p.2.cF)=true∧p≤c.cs.length∧c.cs.length<10000∧jX c.cs∧aG fz names∧rows.length≤2+p∧names.length≤rows.length)
   (c1:∀d ts,iE (toks c.cs p) []=.got d ts→∀(v:Addr) rows' names' z lab q,dc (z++fz) (.ref v) d→aG (z++fz) names'→p<q→q≤c.cs.length→toks c.cs q=ts→rows'.length≤2+q→names'.length≤rows'.length→P c v rows' names' z lab q)
   (c2:∀x q,iE (toks c.cs p) []=.bad x q→ke 58 [("word",.str x),("place",.int (q:Int))])
   (c3:iE (toks c.cs p) []=.fin→ke 38 [("place",.int (c.cs.length:Int))])
def sU (w0:World):cK:=λargs st k ke=>qT (dF 5) args λ_=>CK w0 st.hp st.sk st.loc st.fz (λc v rows' names' z lab q=>k (.opq (.ref v)) {st with hp:=c.pD rows' names' (q:Int) lab,fz:=z++st.fz}) ke
structure rJ where
 c:bC
 p:Nat
 rows:List Value
 names:List (Str×Value)
 lab:Value
 loc:List (Str×SV)
 tp:List HE
 rst:ah
 fz:ah
 tl:ah
 k:KV
 ke:KX
noncomputable def rJ.st (R:rJ):St:=⟨R.loc,R.c.pD R.rows R.names (R.p:Int) R.lab,[],R.tp,R.rst,R.fz⟩
def rJ.K (R:rJ)(sv:SV)(st₂:St):Prop:=bg R.st R.tl R.k sv st₂
noncomputable def rJ.rs (R:rJ):ah:=R.tl++R.rst
noncomputable def rJ.goal (R:rJ):mS:=iE (toks R.c.cs R.p) []
structure rJ.Ok (R:rJ):Prop where
 loc:(R.loc.all λp=>p.2.cF)=true
 p:R.p≤R.c.cs.length
 z:R.c.cs.length<10000
 ok:jX R.c.cs
 got:∀d ts,R.goal=.got d ts→∀(v:Addr) rows' names' z lab q,dc (z++R.fz) (.ref v) d→aG (z++R.fz) names'→R.p<q→q≤R.c.cs.length→toks R.c.cs q=ts→rows'.length≤2+q→names'.length≤rows'.length→R.k (.opq (.ref v)) ⟨R.loc,R.c.pD rows' names' (q:Int) lab,[],R.tp,R.rst,z++R.fz⟩
 bad:∀x q,R.goal=.bad x q→R.ke 58 [("word",.str x),("place",.int ((q:Nat):Int))]
 fin:R.goal=.fin→R.ke 38 [("place",.int (R.c.cs.length:Int))]
structure GoodR (R:rJ)(i:RI)(Fs:List cQ):Prop where
 fr:bo (i.z++R.fz) i.fs Fs
 go:iE (toks R.c.cs i.p) Fs=R.goal
 le:i.p≤R.c.cs.length
 ge:R.p≤i.p
 nm:aG (i.z++R.fz) i.names
 sz:i.rows.length+i.fs.length≤2+i.p
 nr:i.names.length≤i.rows.length
 vs:∀f∈i.fs,f.vs.length≤i.p
def Good (R:rJ)(i:RI):Prop:=∃Fs,GoodR R i Fs
structure Turn (R:rJ)(i:RI)(Fs:List cQ):Prop where
 g:GoodR R i Fs
 go:iE ((R.c.tk i.p,R.c.sk i.p)::toks R.c.cs (R.c.nx i.p)) Fs=R.goal
 lt:i.p<R.c.nx i.p
 le:R.c.nx i.p≤R.c.cs.length
section
variable {R:rJ}{i:RI}{Fs:List cQ}
theorem A5 (H:R.Ok)(g:GoodR R i Fs)(hlt:R.c.sk i.p<R.c.cs.length):Turn R i Fs:=by
 have hst:=cT g.le hlt
 refine⟨g,?_,Pr dz (iR hlt H.ok hst.1 hst.2.1 hst.2.2),f5 hlt⟩
 rw[←g.go,ec H.ok g.le hlt];rfl
theorem oW (h:fs.length<100000):(aB fs).length+(di fs).length<1048576:=by
 cases fs with
 |nil=>decide
 |cons f r=>
  show(r.reverse.map _).length+1<_
  rw[PM,Qp]
  rw[PQ]at h
  lia
theorem Turn.up (T:Turn R i Fs):i.rows.length+i.fs.length+1≤2+R.c.nx i.p:=Pk (Qo T.g.sz) (QO T.lt 2)
theorem Turn.sm (H:R.Ok)(T:Turn R i Fs)(h:a≤2+R.c.nx i.p):a<100000:=PF (Pr h (Nat.add_lt_add_left (Pr T.le H.z) 2)) (by decide)
theorem Turn.fs (H:R.Ok)(T:Turn R i Fs):i.fs.length<100000:=T.sm H (Pk (Nat.le_add_left _ _) (RA T.up))
theorem Turn.next (T:Turn R i Fs)(k1:bo (z'++R.fz) fs' Fs')(k2:iE (toks R.c.cs (R.c.nx i.p)) Fs'=R.goal) (k3:aG (z'++R.fz) names')(k4:rows'.length+fs'.length≤2+R.c.nx i.p)(k5:names'.length≤rows'.length)(k6:∀f∈fs',f.vs.length≤i.p+1) :
  Good R ⟨fs',R.c.nx i.p,rows',names',z',i.lab,i.fo⟩:=⟨Fs',k1,k2,T.le,Pk T.g.ge (QD T.lt),k3,k4,k5,λf hf=>Pk (k6 f hf) T.lt⟩
theorem Turn.at (T:Turn R i Fs)(ht:R.c.tk i.p=t):iE ((t,R.c.sk i.p)::toks R.c.cs (R.c.nx i.p)) Fs=R.goal:=ht▸T.go
theorem Turn.mu (T:Turn R i Fs):R.c.cs.length-R.c.nx i.p<R.c.cs.length-i.p:=Qk (PV T.lt T.le) T.lt
theorem Turn.back (T:Turn R i Fs)(hz:fz2=z'++R.fz)(k1:bo fz2 fs' Fs')(k2:iE (toks R.c.cs (R.c.nx i.p)) Fs'=R.goal) (k3:aG fz2 names')(k4:rows'.length+fs'.length≤2+R.c.nx i.p)(k5:names'.length≤rows'.length)(k6:∀f∈fs',f.vs.length≤i.p+1)(hl:∀x sv,look x [("self",.ref 5),("forms",.ref 6)]=some sv→look x loc2=some sv):jf R.c R.rs R.fz (Good R) (R.c.cs.length-i.p) ⟨loc2,R.c.hp rows' names' (R.c.nx i.p:Int) i.lab (ar i.fo fs'),bf fs',tp2,R.rs,fz2⟩:=by
 subst hz
 exact Ent.weak (loc':=[("self",.ref 5),("forms",.ref 6)]) hl (λx sv h=>cO rfl h) ⟨⟨_,T.next k1 k2 k3 k4 k5 k6⟩,T.mu,rfl⟩
theorem Turn.out (H:R.Ok)(T:Turn R i Fs)(hz:fz2=z'++R.fz)(e:R.goal=.got d (toks R.c.cs (R.c.nx i.p))) (k1:dc fz2 (.ref v) d)(k2:aG fz2 names')(k3:rows'.length≤2+R.c.nx i.p)(k4:names'.length≤rows'.length) :
  R.K (.opq (.ref v)) ⟨loc2,R.c.hp rows' names' (R.c.nx i.p:Int) i.lab (ar i.fo []),[],tp2,R.rs,fz2⟩:=by
 subst hz
 exact bg.lay (st₃:=⟨[],R.c.pD rows' names' (R.c.nx i.p:Int) i.lab,[],[],R.rs,z'++R.fz⟩) (λX s I=>Inv.Mu (B:=R.c.pD rows' names' (R.c.nx i.p:Int) i.lab) rfl rfl rfl rfl I) rfl (H.got d _ e v rows' names' z' i.lab _ k1 k2 (Pr T.g.ge T.lt) T.le rfl k3 k4) Pp H.loc rfl (λD v r=>r) rfl
theorem q6 (H:R.Ok)(T:Turn R i Fs)(wk:WK)(hr:iE (toks R.c.cs (R.c.nx i.p)) (⟨wN wk,[],0,gI⟩::Fs)=R.goal):A1 R.c R.rs R.fz (Good R) i.p i.lab (wT wk) a i.fo i.fs i.rows i.names i.z:=by
 refine⟨?_,λfa fd ta h=>⟨oW (T.fs H),⟨λX s f I=>⟨_,⟨⟨_,T.next (fs':=⟨fa,fd,ta,wk,(R.c.sk i.p:Int),0,[],340,.ref h⟩::i.fs) (.cons ⟨rfl,.nil,rfl,dc.nil⟩ T.g.fr) hr T.g.nm ?_ T.g.nr λf hf=>?_⟩,T.mu,rfl⟩,
  Inv.push (B:=R.c.pD i.rows i.names (R.c.nx i.p:Int) i.lab) (f:=⟨fa,fd,ta,wk,(R.c.sk i.p:Int),0,[],340,.ref h⟩) (fs:=i.fs) (loc':=[("self",.ref 5),("forms",.ref 6)]) rfl rfl rfl rfl rfl (λD D' hs l H=>z8 rfl rfl hs H) (λx sv e=>⟨gu e,eb rfl e⟩) I⟩⟩⟩⟩
 ·cases wk with
  |rnd=>exact .inl rfl
  |sqr=>exact .inr (.inl rfl)
  |quo=>exact .inr (.inr rfl)
 ·rw[PQ];exact T.up
 ·rcases List.mem_cons.mp hf with rfl|hf
  ·exact Ql _
  ·exact PK (T.g.vs f hf)
theorem EI (H:R.Ok)(T:Turn R i Fs)(ht:R.c.tk i.p=.dot):JW R.ke R.c R.rs R.fz (Good R) i.p i.lab a i.fo i.fs i.rows i.names i.z:=by
 have go:=T.go
 rw[ht]at go
 rcases Ac T.g.fr with⟨e1,e2⟩
 refine⟨_,_,_,_,_,_,i.fo,i.fs,rfl,rfl,T.fs H,λfs' e=>?_,λe=>H.bad "." (R.c.sk i.p) ?_⟩
 ·obtain⟨f,r,F,R',hfs,rfl,h3,h4,h5⟩:=e2 fs' e
  have gv:=T.g.vs
  have gs:=T.g.sz
  rw[hfs]at gv gs
  rw[hfs]
  refine T.back (Fs':={F with dots:=1}::R') rfl (.cons h4 h5) ?_ T.g.nm (Pk gs (QO (QD T.lt) _)) T.g.nr (λf' hf=>?_) (λ_ _=>gu)
  ·rw[←go]
   show _=match fC Fs with|some fs'=>iE _ fs'|none=>_
   rw[h3]
  ·rcases List.mem_cons.mp hf with rfl|hf
   ·exact PK (gv f (.head _))
   ·exact PK (gv f' (.tail _ hf))
 ·rw[←go]
  show(match fC Fs with|some fs'=>iE _ fs'|none=>_)=_
  rw[e1 e]
noncomputable def Mm (ts:List (Tk×Nat))(q:Nat)(g:Gv):mS:=match g with
 |.taken fs'=>iE ts fs'
 |.whole d=>.got d ts
 |.bad=>.bad cB q
theorem Ds (H:R.Ok)(T:Turn R i Fs)(hZ:Z=z1++R.fz)(hgo:Mm (toks R.c.cs (R.c.nx i.p)) (R.c.sk i.p) (gv Rs d)=R.goal) (hs:sv.cF=true)(hF:bo Z r Rs)(hd:dc Z (.ref v) d)(hn:aG Z names1)(hlen:rows1.length+r.length≤2+R.c.nx i.p)(hnr:names1.length≤rows1.length)(hvs:∀f∈r,f.vs.length≤i.p) :
  M5 R.ke R.K R.c R.rs R.fz (Good R) i.p i.lab w sv a a3 i.fo r rows1 names1 v Z:=by
 subst hZ
 have h1:=T.lt
 have h2:=T.le
 have h3:=H.z
 refine⟨⟨R.c.w,.nlist R.c.ca R.c.cs,R.c.oa,R.c.od,R.c.ra,R.c.na,cb R.c.td R.c.d4 (R.c.nx i.p:Int),R.c.rd,R.c.rr,i.lab,i.fo⟩,rows1,names1,r,Rs,d,i.p,⟨rfl,rfl,rfl,rfl,?_⟩,⟨hF,hd,hn,T.sm H hlen,hnr,hvs,PF h1 (PF (Pr h2 h3) (by decide))⟩,λFs' e fs' rows' names' z' k1 k2 k3 k4 k5=>?_,λd' e v' rows' names' z' k1 k2 k3 k4=>⟨by decide,λ_=>?_,λh=>absurd h (by decide)⟩,λe=>H.bad cB _ ?_⟩
 ·show(true&&(true&&(true&&(sv.cF&&true))))=true
  rw[hs];rfl
 ·have hb:∀loc2 tp2,(∀x sv,look x [("self",.ref 5),("forms",.ref 6)]=some sv→look x loc2=some sv)→jf R.c R.rs R.fz (Good R) (R.c.cs.length-i.p) ⟨loc2,R.c.hp rows' names' (R.c.nx i.p:Int) i.lab (ar i.fo fs'),bf fs',tp2,R.rs,z'++(z1++R.fz)⟩:=λloc2 tp2 hl=>
   T.back (Pj ..).symm k1 (by rw[←hgo,e];rfl) k2 (Pk k3 hlen) k4 k5 hl
  exact⟨PF (oW (T.sm H (Pk (Nat.le_add_left _ _) (Pk k3 hlen)))) (by decide),λ_=>hb _ _ (λ_ _=>gu),λ_=>hb _ _ (λ_ _=>gu)⟩
 ·exact T.out H (Pj ..).symm (by rw[←hgo,e];rfl) k1 k2 (Pk k3 hlen) k4
 ·rw[←hgo,e];rfl
theorem yG (H:R.Ok)(T:Turn R i Fs)(ht:R.c.tk i.p=.cls b):Ec R.ke R.K R.c R.rs R.fz (Good R) i.p i.lab (ik (.cls b)) a a3 i.fo i.fs i.rows i.names i.z:=by
 have go:=T.go
 rw[ht]at go
 rcases ur (b:=b) T.g.fr with⟨e1,e2⟩
 refine⟨_,_,_,_,_,_,i.fo,i.fs,b,rfl,rfl,rfl,T.fs H,rfl,rfl,λf r e=>?_,λe=>H.bad (ik (.cls b)) (R.c.sk i.p) ?_⟩
 ·obtain⟨hfs,F,R',h3,h4,h5⟩:=e2 f r e
  have gv:=T.g.vs
  have gs:=T.g.sz
  rw[hfs]at gv gs
  rw[PQ]at gs
  have h1:=T.lt
  have h2:=T.le
  have h6:=H.z
  have hv0:f.vs.length≤i.p:=gv f (.head _)
  refine⟨F,h4,Pr hv0 (PF h1 (PF (Pr h2 h6) (by decide))),λv z2 hd=>Ds H T (Pj ..).symm ?_ rfl (h5.mono λp hp=>Pb _ hp) hd (T.g.nm.mono λp hp=>Pb _ hp) (Pk (RA gs) (QO (QD h1) 2)) T.g.nr λf' hf=>gv f' (.tail _ hf)⟩
  rw[←go]
  show _=match ey b Fs with|none=>_|some (f,r)=>_
  rw[h3];rfl
 ·rw[←go]
  show(match ey b Fs with|none=>_|some (f,r)=>_)=_
  rw[e1 e]
theorem zJ (H:R.Ok)(T:Turn R i Fs)(ht:R.c.tk i.p=.sym x):Jk R.ke R.K R.c R.rs R.fz (Good R) i.p i.lab x a a3 i.fo i.fs i.rows i.names i.z:=by
 have go:=T.go
 rw[ht]at go
 have gs:=T.g.sz
 have h1:=T.lt
 have h2:=T.le
 have h6:=H.z
 refine⟨_,_,_,_,_,_,_,_,_,_,_,_,rfl,⟨(show i.rows.length<2^19 from PF (T.sm H (Pk (PY _ _) (RA T.up))) (by decide)),T.g.nr,T.g.nm,.inl (EB H.ok ht)⟩,λv rows2 names2 z2 s1 s2 s3 s4=>?_⟩
 replace s3:rows2.length≤i.rows.length+1:=s3
 exact Ds H T (Pj ..).symm (by rw[←go];rfl) rfl (T.g.fr.mono λp hp=>Pb _ hp) (.sym s1) s2 (Pk (SG s3 _) (by rw[Nat.add_right_comm];exact T.up)) s4 T.g.vs
theorem FU (H:R.Ok)(g:GoodR R i Fs)(h:R.c.cs.length≤R.c.sk i.p):R.ke 38 [("place",.int (R.c.sk i.p:Int))]:=by
 have e:R.c.sk i.p=R.c.cs.length:=Nat.le_antisymm (dA g.le) h
 have e2:=g.go
 rw[fg h]at e2
 rw[e];exact H.fin e2.symm
end
theorem y3 {c:bC}(x:Str)(sv:SV)(h:look x [("self",.ref 5),("forms",.ref 6)]=some sv):∃sv',look x [("self",.ref 5),("forms",.tmp 0)]=some sv'∧∀v,sv'.R (St.ad ⟨[("self",.ref 5),("forms",.tmp 0)],c.pD rows names n lab,[],[.list a [] []],rs,fz⟩) v→sv.R ⟨(c.pD rows names n lab++[ar a []]).map HE.addr,[],[]⟩ v:=
 (show fF (λs1 s2=>∀v,s1.R (St.ad ⟨[("self",.ref 5),("forms",.tmp 0)],c.pD rows names n lab,[],[.list a [] []],rs,fz⟩) v→s2.R ⟨(c.pD rows names n lab++[ar a []]).map HE.addr,[],[]⟩ v) [("self",.ref 5),("forms",.tmp 0)] [("self",.ref 5),("forms",.ref 6)]from .cons (λv r=>r) (.cons (λv ⟨b,e,h⟩=>by cases e;exact⟨a,rfl,h⟩) .nil)).look h
theorem Ap (H:R.Ok)(h0:aG R.fz R.names)(h1:R.rows.length≤2+R.p)(h2:R.names.length≤R.rows.length)(sc:Sc):bw (bE {cs:=aK (aI 65 2),call:=aw [(261,mM),(559,iQ),(573,iL),(580,iN),(566,si R.c.w),(594,mi R.c.w),(38,qs)],ke:=R.ke,inv:=λ_ _=>some (yV R.c R.rs R.fz (Good R))} (xt R.c.w sc) 12) (bz (aI 65 2)) {loc:=[("self",.ref 5)],hp:=R.c.pD R.rows R.names (R.p:Int) R.lab,sk:=[],tp:=[],rst:=R.rs,fz:=R.fz} (λfl st=>R.K (bW fl) st):=by
 refine BX sc R.ke R.c R.p R.rows R.names R.lab R.rs R.fz R.K (Good R) λa d=>⟨⟨λX s f I=>⟨_,⟨⟨⟨[],R.p,R.rows,R.names,[],.ref d,a⟩,[],.nil,rfl,H.p,P5 _,h0,h1,h2,λf hf=>nomatch hf⟩,rfl⟩,Inv.Hw (B:=R.c.pD R.rows R.names (R.p:Int) (.ref d)) (fo:=a) (loc':=[("self",.ref 5),("forms",.ref 6)]) rfl rfl rfl rfl rfl y3 I⟩⟩,λfs p rows names z lab fo hg=>?_⟩
 rcases hg with⟨Fs,g⟩
 refine⟨rfl,⟨PG _,Int.ofNat_le.mpr g.le,H.z,H.ok⟩,λa=>⟨λhe x d vs hv=>⟨hv,FU H g he⟩,λhlt=>?_⟩⟩
 have T:=A5 H g hlt
 exact⟨λht=>q6 H T .rnd (T.at ht),λht=>q6 H T .sqr (T.at ht),λht=>q6 H T .quo (T.at ht),λht=>EI H T ht,λht a3=>yG H T ht,λht a3=>yG H T ht,λx ht a3=>zJ H T ht⟩
theorem Ai (O:X.Ok)(hn:12≤X.n):az X 552 (sU X.w):=by
 refine aP (n:=10) Kt HI O hn λst args k ke hc=>?_
 obtain⟨_,rfl,hk⟩:=cf hc
 clear hc
 obtain⟨c,p,rows,names,lab,hhp,⟨hw,hsk,hloc,hp0,hz,hok,hno,hrw,hnr⟩,c1,c2,c3⟩:=hk
 have e:=St.lit hhp hsk
 clear hhp hsk
 obtain⟨loc,tp,rst,fz,rfl⟩:=e
 dsimp only at hloc hno
 refine bD.mk (λtl=>{cs:=aK (aI 65 2),call:=aw [(261,mM),(559,iQ),(573,iL),(580,iN),(566,si c.w),(594,mi c.w),(38,qs)],ke:=ke,inv:=λ_ _=>some (yV c (tl++rst) fz (Good ⟨c,p,rows,names,lab,loc,tp,rst,fz,tl,k,ke⟩))}) rfl rfl (λ_=>rfl) (λ_ X' S=>ax S (cI (yT S.ok (by rw[S.n];decide)) (cI (tj S.ok (by rw[S.n];decide)) (cI (te S.ok (by rw[S.n];decide)) (cI (tJ S.ok (by rw[S.n];decide)) (cI (hw▸S.w▸vy S.ok (by rw[S.n];decide)) (cI (hw▸S.w▸wB S.ok (by rw[S.n];decide)) (cI (vJ S.ok (by rw[S.n];decide)) dJ)))))))) λtl=>?_
 rw[←hw]
 exact Ap (R:=⟨c,p,rows,names,lab,loc,tp,rst,fz,tl,k,ke⟩) ⟨hloc,hp0,hz,hok,c1,c2,c3⟩ hno hrw hnr _
theorem fK (hp:p≤cs.length):ae cs (ae cs p)=ae cs p:=by
 rcases Sf (ae cs p) cs.length with h|h
 ·obtain⟨a,b,c⟩:=cT hp h
  exact jg h a b c
 ·exact kU h
theorem gS (hok:jX cs)(hp:p≤cs.length):toks cs (ae cs p)=toks cs p:=by
 have e:=fK hp
 rcases Sf (ae cs p) cs.length with h|h
 ·rw[ec hok hp h,ec hok (dA hp) (by rw[e];exact h),e]
 ·rw[fg h,fg (by rw[e];exact h)]
theorem nN:∀(Fs:List cQ)(ds:List Pz)(d:Pz),bB Fs ds d=match gv Fs d with|.taken Fs'=>some (Fs',ds)|.whole d'=>some ([],ds++[d'])|.bad=>none
 |[],_,_=>rfl
 |f::r,ds,d=>by
  rw[JH,Gm]
  split
  ·exact nN r ds (dZ d)
  ·split
   ·rfl
   ·split<;>rfl
theorem C6:∀{Fs:List cQ}{d:Pz}{Fs':List cQ},gv Fs d=.taken Fs'→Fs'≠[]
 |[],_,_,h=>nomatch h
 |f::r,d,Fs',h=>by
  rw[Gm]at h
  split at h
  ·exact C6 h
  ·split at h
   ·cases h;exact Sz _ _
   ·split at h<;>cases h
    exact Sz _ _
theorem dw (n:Nat):∀(ts:List (Tk×Nat))(fs:List cQ)(ds:List Pz),(ts≠[]∨fs≠[])→bx n ts fs ds=match iE ts fs with|.got d ts'=>bx n ts' [] (ds++[d])|.bad w p=>.bad w p|.fin=>.fin n
 |[],[],_,h=>h.elim (λa=>absurd rfl a) (λa=>absurd rfl a)
 |[],f::r,_,_=>rfl
 |(t,p)::ts,fs,ds,_=>by
  have give:∀(Fs:List cQ)(d:Pz),(match bB Fs ds d with|some (fs',ds')=>bx n ts fs' ds'|none=>nh.bad cB p)=match(match gv Fs d with|.taken fs'=>iE ts fs'|.whole d=>mS.got d ts|.bad=>mS.bad cB p)with|.got d ts'=>bx n ts' [] (ds++[d])|.bad w p=>nh.bad w p|.fin=>nh.fin n:=λFs d=>by
   rw[nN]
   cases e:gv Fs d with
   |taken Fs'=>exact dw n ts Fs' ds (.inr (C6 e))
   |whole d'=>rfl
   |bad=>rfl
  cases t with
  |opn b=>exact dw n ts _ ds (.inr (Sz _ _))
  |quo=>exact dw n ts _ ds (.inr (Sz _ _))
  |dot=>
   show(match fC fs with|some fs'=>bx n ts fs' ds|none=>nh.bad "." p)=match(match fC fs with|some fs'=>iE ts fs'|none=>mS.bad "." p)with|.got d ts'=>_|.bad w p=>_|.fin=>_
   cases e:fC fs with
   |none=>rfl
   |some fs'=>
    refine dw n ts fs' ds (.inr λq=>?_)
    subst q
    unfold fC at e
    split at e
    ·split at e<;>cases e
    ·cases e
  |cls b=>
   show(match ey b fs with|none=>nh.bad (ik (.cls b)) p|some (f,r)=>match bB r ds (bk f)with|some (fs',ds')=>bx n ts fs' ds'|none=>nh.bad cB p)=match(match ey b fs with|none=>mS.bad (ik (.cls b)) p|some (f,r)=>match gv r (bk f)with|.taken fs'=>iE ts fs'|.whole d=>mS.got d ts|.bad=>mS.bad cB p)with|.got d ts'=>_|.bad w p=>_|.fin=>_
   cases e:ey b fs with
   |none=>rfl
   |some q=>exact give q.2 (bk q.1)
  |sym x=>exact give fs (.str x)
structure AI where
 p:Nat
 rows:List Value
 names:List (Str×Value)
 z:ah
 lab:Value
 fa:Addr
 vs:List Value
 td:Addr
 d4:Addr
 rd:Addr
 rr:Addr
noncomputable def bC.Gr (c:bC)(rows:List Value)(names:List (Str×Value)):List HE:=[.nlist c.ca c.cs,pb c.oa c.od,.vlist c.ra rows,.map c.na c.w names]
noncomputable def bC.xi (c:bC)(td d4 rd rr:Addr)(rows:List Value)(names:List (Str×Value))(n:Int)(lab:Value):List HE:=[.nlist c.ca c.cs,pb c.oa c.od,.vlist c.ra rows,.map c.na c.w names,cb td d4 n,qU rd rr lab]
noncomputable def Ep (c:bC)(rs fz:ah)(i:AI):St:={loc:=[("codes",.ref 0),("obarray",.ref 1),("reader",.ref 5),("found",.tmp 0)],hp:=c.xi i.td i.d4 i.rd i.rr i.rows i.names (i.p:Int) i.lab,sk:=[],tp:=[.vlist i.fa i.vs],rst:=rs,fz:=i.z++fz}
noncomputable def Fz (c:bC)(rs fz:ah)(Good:AI→Prop):af where
 ι:={i:AI // Good i}
 S:=λi=>Ep c rs fz i.1
 μ:=λi=>c.cs.length-i.1.p
 split:=λP=>∀p rows names z lab fa vs td d4 rd rr h,P ⟨⟨p,rows,names,z,lab,fa,vs,td,d4,rd,rr⟩,h⟩
 ok:=λP h i=>h _ _ _ _ _ _ _ _ _ _ _ _
def L7 (c:bC)(rs fz:ah)(Good:AI→Prop)(n:Nat)(st:St):Prop:=Ent st λst'=>∃j:{i:AI // Good i},c.cs.length-j.1.p<n∧st'=Ep c rs fz j.1
abbrev kq (ke:KX)(c:bC)(rs fz:ah)(K:SV→St→Prop)(Good:AI→Prop)(p:Nat)(rows:List Value)(names:List (Str×Value))(z:List (Addr×Obj))(lab:Value)(fa:Nat)(vs:List Value)(td d4 rd rr:Nat):Prop:=
  ((ak (bC.cs c) (↑(ae (bC.cs c) p):Int)==(-1:Int))=true→K (SV.tmp (0)) {loc:=[("codes",SV.ref (0)),("obarray",SV.ref (1)),("reader",SV.ref (5)),("found",SV.tmp (0))],hp:=bC.xi c td d4 rd rr rows names (↑(ae (bC.cs c) p):Int) lab,sk:=[],tp:=[HE.vlist fa vs],rst:=rs,fz:=z++fz})∧((ak (bC.cs c) (↑(ae (bC.cs c) p):Int)==(-1:Int))=false→CK (bC.w c) (bC.xi c td d4 rd rr rows names (↑(ae (bC.cs c) p):Int) lab) [] [("codes",SV.ref (0)),("obarray",SV.ref (1)),("reader",SV.ref (5)),("found",SV.tmp (0))] (z++fz) (λ(c_1:bC)(v:Addr)(rows':List Value)(names':List (Str×Value))(z_1:ah)(lab:Value)(q:Nat)=>vc vs<1048576∧∀(u:Value),u=Pa v→L7 c rs fz Good (vc (bC.cs c)-p) {loc:=[("codes",SV.ref (0)),("obarray",SV.ref (1)),("reader",SV.ref (5)),("found",SV.tmp (0))],hp:=bC.xi c_1 (bC.td c_1) (bC.d4 c_1) (bC.rd c_1) (bC.rr c_1) rows' names' (↑q:Int) lab,sk:=[],tp:=[HE.vlist fa (vs++[u])],rst:=rs,fz:=z_1++(z++fz)}) ke)
abbrev km (ke:KX)(c:bC)(rows:List Value)(names:List (Str×Value))(rs fz:ah)(K:SV→St→Prop)(Good:AI→Prop)(rd rr td d lab a:Nat):Prop:=
  (Ent {loc:=[("codes",SV.ref (0)),("obarray",SV.ref (1)),("reader",SV.tmp (0)),("found",SV.tmp (2))],hp:=bC.Gr c rows names,sk:=[],tp:=[HE.inst rd (604) rr [("tokens",SV.opq (Pa td)),("obarray",SV.ref (1)),("spans_of",SV.none),("labels",SV.opq (Pa lab))],cb td d (0:Int),HE.list a [] []],rst:=rs,fz:=fz} λ(st':St)=>∃(i:{i:AI // Good i}),st'=Ep c rs fz (TR i))∧∀(p:Nat)(rows:List Value)(names:List (Str×Value))(z:List (Addr×Obj))(lab:Value)(fa:Nat)(vs:List Value)(td d4 rd rr:Nat),Good {p:=p,rows:=rows,names:=names,z:=z,lab:=lab,fa:=fa,vs:=vs,td:=td,d4:=d4,rd:=rd,rr:=rr}→bC.xi c td d4 rd rr rows names (↑p:Int) lab=bC.xi c td d4 rd rr rows names (↑p:Int) lab∧((0:Int)≤(↑p:Int)∧(↑p:Int)≤(↑(vc (bC.cs c)):Int)∧vc (bC.cs c)<10000∧∀(c_1:Int),c_1∈bC.cs c→jF c_1=true)∧bC.xi c td d4 rd rr rows names (↑(ae (bC.cs c) p):Int) lab=bC.xi c td d4 rd rr rows names (↑(ae (bC.cs c) p):Int) lab∧((0:Int)≤(↑(ae (bC.cs c) p):Int)∧vc (bC.cs c)<1099511627776)∧kq ke c rs fz K Good p rows names z lab fa vs td d4 rd rr
theorem nY (sc:Sc)(ke:KX)(c:bC)(rows:List Value)(names:List (Str×Value))(rs fz:ah)(K:SV→St→Prop)(Good:AI→Prop) :
  (∀(rd rr td d lab a:Nat),km ke c rows names rs fz K Good rd rr td d lab a) →
  bw (bE {cs:=aK (aJ 66),call:=aw [(604,iT),(254,gQ),(240,eN),(552,sU c.w)],ke:=ke,inv:=λ_ _=>some (Fz c rs fz Good)} (xt c.w sc) 12) (bz (aJ 66)) {loc:=[("codes",.ref 0),("obarray",.ref 1)],hp:=c.Gr rows names,sk:=[],tp:=[],rst:=rs,fz:=fz} (λfl st=>K (bW fl) st):=
 Qg (by kernel_rfl)
inductive Kw (w0:World)(hp sk tp:List HE)(fz:ah)(P:List HE→Addr→Addr→Addr→Addr→Addr→ah→Prop)(ke:KX):Prop
 |mk (ca:Addr)(cs:List Int)(x dx a d:Addr)(h1:hp=[])(h2:sk=[])(h3:tp=[.nlist ca cs,.inst x 688 dx [("rows",.opq (.ref a)),("names",.opq (.ref d))],.vlist a [.ref 340,.ref 343],.map d w0 [("nil",.ref 340),("t",.ref 343)]]) (hz:cs.length<10000)(hok:jX cs)
   (c1:∀ds,bx cs.length (toks cs 0) [] []=.data ds→∀hp' (l:Addr) vs n z,(l,listOf vs.toArray n)∈z→bH (z++fz) vs ds→vs.length<10001→P hp' l ca x a d z)
   (c2:∀x q,bx cs.length (toks cs 0) [] []=.bad x q→ke 58 [("word",.str x),("place",.int (q:Int))])
   (c3:∀q,bx cs.length (toks cs 0) [] []=.fin q→ke 38 [("place",.int (q:Int))])
def hW (w0:World):cK:=λargs st k ke=>ou (Lf 0) (Lf 1) args λ_ _=>Kw w0 st.hp st.sk st.tp st.fz (λhp' l ca x a d z=>k (.opq (.ref l)) {st with hp:=hp',tp:=[.gone ca,.gone x,.gone a,.gone d],fz:=z++st.fz}) ke
theorem qK {l0 l1 l2 l3 rf:ah}:(([]++((l0++(l1++(l2++(l3++[]))))++rf))).Perm (((l0++(l1++(l2++(l3++[]))))++(([]++([]++([]++([]++[]))))++rf))++[]):=bj λ_ _ p=>by
 simp only[PL,Qa];lia
theorem Inv.KW {st:St}(hhp:st.hp=[])(hsk:st.sk=[])(htp:st.tp=[.nlist ca cs,.inst x 688 dx [("rows",.opq (.ref a)),("names",.opq (.ref d))],.vlist a rows,.map d w names]) (I:Inv X st s) :
  Inv X {st with hp:=[.nlist ca cs,pb x dx,.vlist a rows,.map d w names],tp:=[.gone ca,.gone x,.gone a,.gone d]} s:=by
 obtain⟨loc,hp,sk,tp,rst,fz⟩:=st
 dsimp only at hhp hsk htp
 subst hhp hsk htp
 have hx:Ad.ext ⟨[],[],[ca,x,a,d]⟩ ⟨[ca,x,a,d],[],[ca,x,a,d]⟩:=⟨P8,Pp,Pp⟩
 refine I.lay (λy sv q=>⟨sv,q,λv r=>SV.R.mono hx r⟩) λl l' L1 L2=>?_
 cases L1
 obtain⟨l0,l2,rfl,H0,L2⟩:=L2.dm
 obtain⟨l1,l2,rfl,H1,L2⟩:=L2.dm
 obtain⟨l3,l2,rfl,H2,L2⟩:=L2.dm
 obtain⟨l4,l2,rfl,H3,L2⟩:=L2.dm
 cases L2
 let D':Ad:=⟨[ca,x,a,d],[],[]⟩
 exact⟨_,_,[],.cons (D:=D') (HL.okN (n:=0) (D':=D') (show([]:List Addr)=[]from rfl) H0 rfl) (.cons (H1.eU ⟨rfl,λv r=>⟨a,rfl,r⟩,rfl,λv r=>⟨d,rfl,r⟩,trivial⟩) (.cons (HL.okN (n:=0) (D':=D') (show([]:List Addr)=[]from rfl) H2 rfl) (.cons (HL.okN (n:=0) (D':=D') (show([]:List Addr)=[]from rfl) H3 rfl) .nil))),.cons .gone (.cons .gone (.cons .gone (.cons .gone .nil))),qK⟩
theorem B2 {l4 li lt lf rf:ah}:(((l4++[])++((li++(lt++(lf++[])))++rf))).Perm ((((l4++(lt++(li++[])))++[])++((lf++[])++rf))++[]):=bj λ_ _ p=>by
 simp only[PL,Qa];lia
theorem Inv.IT {st:St}{B:List HE}(hB:(B.all (·.okN 4))=true) (h4:B.length=4)(hhp:st.hp=B)(hsk:st.sk=[])(hloc:st.loc=([("codes",.ref 0),("obarray",.ref 1),("reader",.tmp 0),("found",.tmp 2)]:List (Str×SV))) (htp:st.tp=[.inst rd 604 rr [("tokens",.opq (.ref td)),("obarray",.ref 1),("spans_of",.none),("labels",.opq lab)],.inst td 313 d [("codes",.ref 0),("place",.int 0)],.list a [] []]) (I:Inv X st s) :
  Inv X {st with loc:=[("codes",.ref 0),("obarray",.ref 1),("reader",.ref 5),("found",.tmp 0)],hp:=B++[cb td d 0,qU rd rr lab],sk:=[],tp:=[.vlist a []]} s:=by
 obtain⟨loc,hp,sk,tp,rst,fz⟩:=st
 dsimp only at hhp hsk htp hloc
 subst hhp hsk htp hloc
 have e5:((hp++[cb td d 0,qU rd rr lab]).map HE.addr)[5]?=some rd:=by
  rw[PI,QM (by rw[PM];lia),PM,h4];rfl
 have e4:((hp++[cb td d 0,qU rd rr lab]).map HE.addr)[4]?=some td:=by
  rw[PI,QM (by rw[PM];lia),PM,h4];rfl
 have pf:hp.map HE.addr <+: (hp++[cb td d 0,qU rd rr lab]).map HE.addr:=by rw[PI];exact Qh _ _
 refine I.lay (λx sv h=>(show fF (λs1 s2=>∀v,s1.R _ v→s2.R _ v) [("codes",.ref 0),("obarray",.ref 1),("reader",.tmp 0),("found",.tmp 2)] [("codes",.ref 0),("obarray",.ref 1),("reader",.ref 5),("found",.tmp 0)]from .cons (λv ⟨b,e,h⟩=>⟨b,cW pf e,h⟩) (.cons (λv ⟨b,e,h⟩=>⟨b,cW pf e,h⟩) (.cons (λv ⟨b,e,h⟩=>by cases e;exact⟨rd,e5,h⟩) (.cons (λv ⟨b,e,h⟩=>by cases e;exact⟨a,rfl,h⟩) .nil)))).look h) λl l' L1 L2=>?_
 obtain⟨l4,lS,rfl,LB,LS⟩:=L1.split
 cases LS
 obtain⟨l0,l2,rfl,H0,L2⟩:=L2.dm
 obtain⟨l1,l2,rfl,H1,L2⟩:=L2.dm
 obtain⟨l3,l2,rfl,H2,L2⟩:=L2.dm
 cases L2
 let D':Ad:=⟨(hp++[cb td d 0,qU rd rr lab]).map HE.addr,[],[]⟩
 have tk:(hp.map HE.addr).take 4=D'.hp.take 4:=by
  show _=((hp++[cb td d 0,qU rd rr lab]).map HE.addr).take 4
  rw[PI,Rk (by rw[PM];lia)]
 have kB:LL D' hp l4:=LB.okN (n:=4) tk hB
 have k1:HL D' (cb td d 0) _:=HL.okN (n:=4) tk H1 rfl
 have k2:HL D' (qU rd rr lab) l0:=HL.eU H0 ⟨rfl,λv r=>⟨td,e4,r⟩,rfl,λv ⟨b,e,h⟩=>⟨b,cW pf e,h⟩,rfl,λv r=>r,rfl,λv r=>r,trivial⟩
 obtain⟨_,_,i,rfl⟩:=H2.listI
 cases i
 exact⟨_,_,[],(kB.append (.cons k1 (.cons k2 .nil))).append .nil,.cons .vlist .nil,B2⟩
theorem IG {lB lf rf z:ah}:(((lB++[])++((lf++[])++(z++rf)))).Perm (((lB++[])++([]++(z++(lf++rf))))++[]):=bj λ_ _ p=>by
 simp only[PL,Qa];lia
structure pR where
 c:bC
 loc:List (Str×SV)
 rst:ah
 fz:ah
 tl:ah
 k:KV
 ke:KX
noncomputable def pR.gone (R:pR):List HE:=[.gone R.c.ca,.gone R.c.oa,.gone R.c.ra,.gone R.c.na]
noncomputable def pR.st (R:pR):St:=⟨R.loc,R.c.Gr [.ref 340,.ref 343] [("nil",.ref 340),("t",.ref 343)],[],R.gone,R.rst,R.fz⟩
def pR.K (R:pR)(sv:SV)(st₂:St):Prop:=bg R.st R.tl R.k sv st₂
noncomputable def pR.rs (R:pR):ah:=R.tl++R.rst
noncomputable def pR.goal (R:pR):nh:=bx R.c.cs.length (toks R.c.cs 0) [] []
structure pR.Ok (R:pR):Prop where
 z:R.c.cs.length<10000
 ok:jX R.c.cs
 data:∀ds,R.goal=.data ds→∀hp' (l:Addr) vs n z,(l,listOf vs.toArray n)∈z→bH (z++R.fz) vs ds→vs.length<10001→R.k (.opq (.ref l)) ⟨R.loc,hp',[],R.gone,R.rst,z++R.fz⟩
 bad:∀x q,R.goal=.bad x q→R.ke 58 [("word",.str x),("place",.int ((q:Nat):Int))]
 fin:∀q,R.goal=.fin q→R.ke 38 [("place",.int ((q:Nat):Int))]
structure jA (R:pR)(i:AI)(ds:List Pz):Prop where
 is:bH (i.z++R.fz) i.vs ds
 go:bx R.c.cs.length (toks R.c.cs i.p) [] ds=R.goal
 le:i.p≤R.c.cs.length
 nm:aG (i.z++R.fz) i.names
 sz:i.rows.length≤2+i.p
 nr:i.names.length≤i.rows.length
 vs:i.vs.length≤i.p
def sF (R:pR)(i:AI):Prop:=∃ds,jA R i ds
section
variable {R:pR}{i:AI}{ds:List Pz}
theorem jA.sk (H:R.Ok)(g:jA R i ds):bx R.c.cs.length (toks R.c.cs (ae R.c.cs i.p)) [] ds=R.goal:=by rw[gS H.ok g.le];exact g.go
theorem zX (H:R.Ok)(g:jA R i ds)(h:(ak R.c.cs ((ae R.c.cs i.p:Nat):Int)==-1)=true):R.K (.tmp 0) ⟨loc2,R.c.xi i.td i.d4 i.rd i.rr i.rows i.names ((ae R.c.cs i.p:Nat):Int) i.lab,[],[.vlist i.fa i.vs],R.rs,i.z++R.fz⟩:=by
 have hle2:=dA g.le
 have hl:R.c.cs.length≤ae R.c.cs i.p:=by
  rcases dC H.ok hle2 with⟨h,_⟩|⟨_,e,hL⟩
  ·exact h
  ·rw[e]at h
   have:=qD hL
   rw[bne,h]at this;exact absurd this nofun
 have hR:=g.sk H
 rw[fg (by rw[fK g.le];exact hl)]at hR
 intro X' s v I r
 obtain⟨b,e,rfl⟩:=r
 cases e
 obtain⟨m,l,l',L1,L2,hlo,F,N,nd⟩:=I.ex
 cases L2 with|cons H1 L2=>cases L2 with|nil=>
  rcases H1.dW with⟨nn,rfl⟩
  have I3:Inv X' ⟨[],R.c.xi i.td i.d4 i.rd i.rr i.rows i.names ((ae R.c.cs i.p:Nat):Int) i.lab,[],[],R.rs,((i.fa,listOf i.vs.toArray nn)::i.z)++R.fz⟩ s:=by
   have pm:(l++(([(i.fa,listOf i.vs.toArray nn)]++[])++(R.rs++(i.z++R.fz)))).Perm (l++([]++(R.rs++(((i.fa,listOf i.vs.toArray nn)::i.z)++R.fz)))):=by
    refine P4 _ ?_
    rw[Qt,Q1]
    exact QV [(i.fa,listOf i.vs.toArray nn)] R.rs (i.z++R.fz)
   exact⟨⟨m,l,[],L1,.nil,(λx sv e=>nomatch e),F,λp hp=>N p (pm.mem_iff.mpr hp),nd.perm pm⟩,I.gens,I.os⟩
  have pf:(R.c.Gr [.ref 340,.ref 343] [("nil",.ref 340),("t",.ref 343)]).map HE.addr <+: (R.c.xi i.td i.d4 i.rd i.rr i.rows i.names ((ae R.c.cs i.p:Nat):Int) i.lab).map HE.addr:=⟨[i.td,i.rd],rfl⟩
  have hz:=H.z;have hv:=g.vs;have hp:=g.le
  refine⟨.opq (.ref i.fa),_,I3,rfl,R.loc,rfl,pf,λy sv0 q0=>⟨sv0,q0,λv r=>?_⟩,H.data ds hR.symm _ i.fa i.vs nn ((i.fa,listOf i.vs.toArray nn)::i.z) (.head _) (g.is.mono λp hp=>.tail _ hp) (Pr (Pk hv hp) (PF hz (by decide)))⟩
  exact SV.R.mono (⟨pf,Pp,Pp⟩:Ad.ext ⟨_,[],R.gone.map HE.addr⟩ ⟨_,[],R.gone.map HE.addr⟩) r
theorem wG (H:R.Ok)(g:jA R i ds){dd:Pz}{ts:List (Tk×Nat)}{v:Addr}{rows2:List Value}{names2:List (Str×Value)}{z2:ah}{lab2:Value}{q2:Nat}{loc2:List (Str×SV)}(e:iE (toks R.c.cs (ae R.c.cs i.p)) []=.got dd ts) (k1:dc (z2++(i.z++R.fz)) (.ref v) dd) (k2:aG (z2++(i.z++R.fz)) names2) (k3:ae R.c.cs i.p<q2)(k4:q2≤R.c.cs.length)(k5:toks R.c.cs q2=ts)(k6:rows2.length≤2+q2)(k7:names2.length≤rows2.length) :
  sF R ⟨q2,rows2,names2,z2++i.z,lab2,i.fa,i.vs++[.ref v],i.td,i.d4,i.rd,i.rr⟩∧R.c.cs.length-q2<R.c.cs.length-i.p:=by
 have ne:toks R.c.cs (ae R.c.cs i.p)≠[]:=λh=>by rw[h]at e;exact absurd e nofun
 have hge:i.p≤ae R.c.cs i.p:=dz
 have hv:=g.vs
 refine⟨⟨ds++[dd],(g.is.mono λp hp=>by rw[Pj];exact Pb _ hp).append (.cons (k1.mono λp hp=>by rw[Pj];exact hp) .nil),?_,k4,k2.mono λp hp=>(by rw[Pj];exact hp),k6,k7,?_⟩,Qk (PV (Pr hge k3) k4) (Pr hge k3)⟩
 ·rw[←g.sk H,dw _ _ [] ds (.inl ne),e,k5]
 ·show(i.vs++[Pa v]).length≤q2
  rw[PU,Q0];exact Pr (Pk hv hge) k3
theorem zO (H:R.Ok)(g:jA R i ds)(e:iE (toks R.c.cs (ae R.c.cs i.p)) []=.bad y p):R.ke 58 [("word",.str y),("place",.int (p:Int))]:=H.bad y p (by
 rw[←g.sk H,dw _ _ [] ds (.inl λh=>by rw[h]at e;exact absurd e nofun),e])
theorem z6 (H:R.Ok)(g:jA R i ds)(hgo:(ak R.c.cs ((ae R.c.cs i.p:Nat):Int)==-1)=false) (e:iE (toks R.c.cs (ae R.c.cs i.p)) []=.fin):R.ke 38 [("place",.int (R.c.cs.length:Int))]:=H.fin _ (by
 have ne:toks R.c.cs (ae R.c.cs i.p)≠[]:=λh=>by
  rcases dC H.ok (dA g.le)with⟨hl,e1⟩|⟨hl,_,_⟩
  ·rw[e1]at hgo;exact absurd hgo nofun
  ·rw[ec H.ok (dA g.le) (by rw[fK g.le];exact hl)]at h;exact absurd h nofun
 rw[←g.sk H,dw _ _ [] ds (.inl ne),e])
end
theorem Fo:aG fz [("nil",.ref 340),("t",.ref 343)]:=λy u hy hu=>by
 exfalso
 rcases hy with hy|rfl
 ·unfold RZ at hu
  rw[Sk,Sk]at hu
  ·exact absurd hu nofun
  ·have:=hy.ne (y:=p' "t") (c:=116) (by decide +kernel) rfl
   simpa using this
  ·have:=hy.ne (y:=p' "nil") (c:=110) (by decide +kernel) rfl
   simpa using this
 ·have:RZ [((p' "nil"),Pa 340),(p' "t",.ref 343)] (p' "quote")=none:=by decide +kernel
  rw[this]at hu;exact absurd hu nofun
theorem oy (H:R.Ok)(sc:Sc):bw (bE {cs:=aK (aJ 66),call:=aw [(604,iT),(254,gQ),(240,eN),(552,sU R.c.w)],ke:=R.ke,inv:=λ_ _=>some (Fz R.c R.rs R.fz (sF R))} (xt R.c.w sc) 12) (bz (aJ 66)) {loc:=[("codes",.ref 0),("obarray",.ref 1)],hp:=R.c.Gr [.ref 340,.ref 343] [("nil",.ref 340),("t",.ref 343)],sk:=[],tp:=[],rst:=R.rs,fz:=R.fz} (λfl st=>R.K (bW fl) st):=by
 refine nY sc R.ke R.c _ _ R.rs R.fz R.K (sF R) λrd rr td d4 lab fa=>⟨⟨λX s f I=>⟨_,⟨⟨⟨0,[.ref 340,.ref 343],[("nil",.ref 340),("t",.ref 343)],[],.ref lab,fa,[],td,d4,rd,rr⟩,[],.nil,rfl,Ql _,Fo,P5 _,P5 _,P5 _⟩,rfl⟩,Inv.IT (B:=R.c.Gr [.ref 340,.ref 343] [("nil",.ref 340),("t",.ref 343)]) rfl rfl rfl rfl rfl rfl I⟩⟩,λp rows names z lab1 fa1 vs td1 d41 rd1 rr1 hg=>?_⟩
 rcases hg with⟨ds,g⟩
 have hz:=H.z
 have hv:=g.vs
 have hp:=g.le
 refine⟨rfl,⟨PG _,Int.ofNat_le.mpr g.le,H.z,H.ok⟩,rfl,⟨PG _,PF H.z (by decide)⟩,λhend=>zX H g hend,λhgo=>⟨⟨R.c.w,R.c.ca,R.c.cs,R.c.oa,R.c.od,R.c.ra,R.c.na,td1,d41,rd1,rr1⟩,ae R.c.cs p,rows,names,lab1,rfl,⟨rfl,rfl,rfl,dA g.le,H.z,H.ok,g.nm,Pk g.sz (QO dz _),g.nr⟩,λdd ts e v rows2 names2 z2 lab2 q2 k1 k2 k3 k4 k5 k6 k7=>⟨(show vs.length<2^20 from Pr (Pk hv hp) (PF hz (by decide))),λu hu=>?_⟩,λy q e=>zO H g e,λe=>z6 H g hgo e⟩⟩
 subst hu
 have n:=wG (loc2:=[]) (lab2:=lab2) H g e k1 k2 k3 k4 k5 k6 k7
 exact .refl ⟨⟨_,n.1⟩,n.2,by rw[←Pj];rfl⟩
theorem nM (O:X.Ok)(hn:15≤X.n):az X 615 (hW X.w):=by
 intro A s st args vals k ke R hA I ir hc ret exc
 obtain⟨_,_,rfl,hk⟩:=cc hc
 clear hc
 obtain⟨ca,cs,x,dx,a,d,hhp,hsk,htp,hz,hok,c1,c2,c3⟩:=hk
 have I1:=I.KW hhp hsk htp
 obtain⟨loc,hp,sk,tp,rst,fz⟩:=st
 dsimp only at hhp hsk htp
 subst hhp hsk htp
 obtain⟨v1,v2,rfl,r1,r2⟩:=nJ ir
 obtain⟨b1,e1,rfl⟩:=r1
 obtain⟨b2,e2,rfl⟩:=r2
 cases e1
 cases e2
 have hle:Ad.le ⟨[],[],[ca,x,a,d]⟩ ⟨[ca,x,a,d],[],[ca,x,a,d]⟩:=⟨P8,Pp⟩
 let c:bC:=⟨X.w,ca,cs,x,dx,a,d,0,0,0,0⟩
 exact vM (st:=⟨loc,[.nlist ca cs,pb x dx,.vlist a [.ref 340,.ref 343],.map d X.w [("nil",.ref 340),("t",.ref 343)]],[],[.gone ca,.gone x,.gone a,.gone d],rst,fz⟩) (k:=k) (n:=13) (N:=12) (Γ:=λtl=>{cs:=aK (aJ 66),call:=aw [(604,iT),(254,gQ),(240,eN),(552,sU X.w)],ke:=ke,inv:=λ_ _=>some (Fz c (tl++rst) fz (sF ⟨c,loc,rst,fz,tl,k,ke⟩))}) (T:=xt X.w (X.scr,X.sns)) Hf Hl O hA hn I1 (.cons (v:=.ref ca) (sv:=.ref 0) ⟨ca,rfl,rfl⟩ (.cons (v:=.ref x) (sv:=.ref 1) ⟨x,rfl,rfl⟩ .nil)) rfl rfl (λsv st' v s' I' le=>ret sv st' v s' I' (hle.trans le)) exc (λ_=>rfl) (λ_ X' S=>ax S (cI (uv S.ok (by rw[S.n];decide)) (cI (e8 S.ok (by rw[S.n];decide)) (cI (gG S.ok (by rw[S.n];decide)) (cI (S.w▸Ai S.ok (by rw[S.n];decide)) dJ)))))
  λtl=>oy (R:=⟨c,loc,rst,fz,tl,k,ke⟩) ⟨hz,hok,c1,c2,c3⟩ _
inductive dU:Nat→Pz→Prop
 |sym {n:Nat}{x:Str}:SU x=true→dU n (.str x)
 |cons {n:Nat}{a b:Pz}:dU n a→dU n b→dU (n+1) (iw a b)
 |vec {n:Nat}{ds:List Pz}:ds.length≤100000→(∀d∈ds,dU n d)→dU (n+1) (.list (.str "vector"::ds))
theorem dU.up (h:dU n d):dU (n+1) d:=by
 induction h with
 |sym h=>exact .sym h
 |cons _ _ a b=>exact .cons a b
 |vec l _ i=>exact .vec l i
theorem dU.le (h:dU n d)(k:n≤m):dU m d:=by
 induction k with
 |refl=>exact h
 |step _ ih=>exact ih.up
theorem dU.rI (h:dU n (iw a b)):∃m,n=m+1∧dU m a∧dU m b:=by
 generalize e:iw a b=d at h
 cases h with
 |sym=>cases e
 |cons x y=>cases e;exact⟨_,rfl,x,y⟩
 |vec _ _=>exact absurd (PyData.str.inj (SA (PyData.list.inj e)).1) (by decide +kernel)
theorem dU.xA (h:dU n (.list (.str "vector"::ds))):∃m,n=m+1∧ds.length≤100000∧∀d∈ds,dU m d:=by
 generalize e:RH (.str "vector"::ds)=d at h
 cases h with
 |sym=>cases e
 |cons x y=>exact absurd (PyData.str.inj (SA (PyData.list.inj e)).1) (by decide +kernel)
 |vec l h=>cases e;exact⟨_,rfl,l,h⟩
theorem HL.t3 (H:HL D (.list a [] [.txt x,.opq v,.opq w]) l):∃t n,l=[(a,listOf [.str x t,v,w].toArray n)]:=by
 obtain⟨_,n,i,rfl⟩:=H.listI
 obtain⟨_,_,_,rfl,⟨t,rfl⟩,e1,e2⟩:=vf i
 cases e1
 cases e2
 exact⟨t,n,rfl⟩
theorem bg.Md {st:St}(h0:st₂.tp[j]?=some e)(hk:∀le,HL st₂.ad.bot e le→k (.opq (.ref e.addr)) {st with hp:=st₂.hp,sk:=st₂.sk,fz:=le++st₂.fz}) (h1:st₂.hp.map HE.addr=st.hp.map HE.addr)(h2:st₂.sk.map HE.addr=st.sk.map HE.addr)(h3:st₂.rst=tl++st.rst):bg st tl k (.tmp j) st₂:=λX s v I r=>by
 obtain⟨a,ha,rfl⟩:=r
 have ha':a=e.addr:=by
  have:(st₂.tp.map HE.addr)[j]?=some a:=ha
  rw[QL,h0]at this
  exact(Pd this).symm
 subst ha'
 obtain⟨le,H,I'⟩:=I.dh h0
 refine⟨.opq (.ref e.addr),_,I'.drop,rfl,st.loc,h3,?_,λx sv0 q=>⟨sv0,q,λv r=>?_⟩,by rw[show st.tp++([]:List HE)=st.tp from Qt _];exact hk le H⟩
 ·show st.hp.map _ <+: st₂.hp.map _
  rw[h1];exact Pp
 ·refine r.mono ⟨?_,?_,?_⟩
  ·show st.hp.map _ <+: st₂.hp.map _
   rw[h1];exact Pp
  ·exact Qh _ _
  ·show st.sk.map _ <+: st₂.sk.map _
   rw[h2];exact Pp
inductive je (ok:Pz→Prop)(fz:ah)(v:Value)(P:Value→ah→Prop):Prop
 |mk (d:Pz)(hd:dc fz v d)(ho:ok d)(hk:∀r z,Rd (z++fz) r d→P r z)
def fi (ok:Pz→Prop):cK:=λargs st k _=>qT FW args λv=>je ok st.fz v λr z=>k (.opq r) {st with fz:=z++st.fz}
abbrev pI (v:Value)(hp sk:List HE)(rs fz:ah)(K:SV→St→Prop)(ok:Pz→Prop)(n:Nat)(J:Nat→List Value×ah→Prop)(a l:Nat)(vs:List Value)(nn:Nat):Prop:=
  (∀(j:Nat)(i:List Value×ah)(v_2:Value)(f:List (Addr×Obj)),j<n→vs[j]?=some v_2→J j i→je ok (Pc i++fz) v_2 λ(r:Value)(z:ah)=>∃(r_1:List (Addr×Obj)),f++rs=f++r_1∧Bq {ι:=List Value×ah,n:=n,S:=λ(x:Nat)(i:List Value×ah)=>{loc:=[("datum",SV.opq v)],hp:=hp,sk:=sk,tp:=[HE.list a [] [SV.txt (p' "vector")]],rst:=rs,fz:=Pc i++fz},out:=λ(x:Nat)(i:List Value×ah)=>Pn i,J:=J} j i (SV.opq r) {loc:=[("datum",SV.opq v)],hp:=hp,sk:=sk,tp:=[HE.list a [] [SV.txt (p' "vector")]],rst:=r_1,fz:=z++(Pc i++fz)})∧∀(i:List Value×ah)(d nn:Nat),J n i→IJ ((d,P' (PE (Pn i)) nn)::(Pc i++fz)) (Pa d) λ(vs:List Value)=>vc vs≤1000000∧∀(l:Nat)(u:Value),(∃(t:Nat),u=Qn (p' "vector") t)→K (SV.tmp (1)) {loc:=[("datum",SV.opq v)],hp:=hp,sk:=sk,tp:=[HE.list a [] [SV.txt (p' "vector")],HE.vlist l (u::vs)],rst:=rs,fz:=(d,P' (PE (Pn i)) nn)::(Pc i++fz)}
abbrev pJ (v:Value)(hp sk:List HE)(rs fz:ah)(K:SV→St→Prop)(ok:Pz→Prop)(n:Nat)(J:Nat→List Value×ah→Prop)(D:Addr):Prop:=
  (PD D (404)=true→∀(a:Nat),qm fz v (p' "things") λ(v_1:Value)=>∃(l:Nat),∃(vs:List Value),∃(nn:Nat),(v_1=Pa l∧(l,P' (PE vs) nn)∈fz∧(∀(j:Nat)(i:List Value×ah),(l,P' (PE vs) nn)∈Pc i++fz)∧n=vc vs∧(∀(j:Nat)(i:List Value×ah),J j i→vc (Pn i)≤1000000)∧∀(i:List Value×ah),Ad.le {hp:=R6 HE.addr hp,sk:=R6 HE.addr sk,tp:=[a]} {hp:=R6 HE.addr hp,sk:=R6 HE.addr sk,tp:=[a]})∧(Ent {loc:=[("datum",SV.opq v)],hp:=hp,sk:=sk,tp:=[HE.list a [] [SV.txt (p' "vector")]],rst:=rs,fz:=fz} λ(st':St)=>∃(i:List Value×ah),st'={loc:=[("datum",SV.opq v)],hp:=hp,sk:=sk,tp:=[HE.list a [] [SV.txt (p' "vector")]],rst:=rs,fz:=Pc i++fz}∧Pn i=[]∧J (0) i)∧pI v hp sk rs fz K ok n J a l vs nn)∧(PD D (404)=false→qm fz v (p' "name") λ(v_1:Value)=>K (SV.opq v_1) {loc:=[("datum",SV.opq v)],hp:=hp,sk:=sk,tp:=[],rst:=rs,fz:=fz})
theorem i7 (w:World)(sc:Sc)(ke:KX)(v:Value)(hp sk:List HE)(rs fz:ah)(K:SV→St→Prop)(ok:Pz→Prop)(n:Nat)(J:Nat→List Value×ah→Prop) :
  (qM fz v λ(D:Addr)=>(PD D (361)=true→qm fz v (p' "car") λ(v_1:Value)=>je ok fz v_1 λ(r:Value)(z:ah)=>qm (z++fz) v (p' "cdr") λ(v_2:Value)=>je ok (z++fz) v_2 λ(r_1:Value)(z_1:ah)=>∀(a:Nat),K (SV.tmp (0)) {loc:=[("datum",SV.opq v)],hp:=hp,sk:=sk,tp:=[HE.list a [] [SV.txt (p' "cons"),SV.opq r,SV.opq r_1]],rst:=rs,fz:=z_1++(z++fz)})∧(PD D (361)=false→qM fz v λ(D:Addr)=>pJ v hp sk rs fz K ok n J D)) →
  bw (bE {cs:=aK (aJ 74),call:=aw [(717,fi ok)],ke:=ke,comps:=λ_ aq=>some {ι:=List Value×ah,n:=n,S:=λ_ i=>{aq with fz:=i.2++aq.fz},out:=λ_ i=>i.1,J:=J}} (xt w sc) 12) (bz (aJ 74)) {loc:=[("datum",.opq v)],hp:=hp,sk:=sk,tp:=[],rst:=rs,fz:=fz} (λfl st=>K (bW fl) st):=
 Qg (by kernel_rfl)
theorem bq.snoc (h:bq fz vs ds)(r:Rd fz v d):bq fz (vs++[v]) (ds++[d]):=by
 induction h with
 |nil=>exact .cons r .nil
 |cons a _ ih=>exact .cons a ih
theorem iZ (O:X.Ok)(okI:Pz→Prop)(hn:m+2≤X.n)(hin:∀X':Fx,X'.Ok→X'.n=m→az X' 717 (fi okI))(hcons:∀a b,dU n (iw a b)→okI a∧okI b)(hvec:∀ds,dU n (.list (.str "vector"::ds))→ds.length≤100000∧∀d∈ds,okI d):az X 717 (fi (dU n)):=by
 refine cD λst args k ke hc=>?_
 obtain⟨v,rfl,d,hd,hdep,hk⟩:=cf hc
 clear hc
 have go:∀(N:Nat)(J:Nat→List Value×ah→Prop),(∀tl,bw (bE {cs:=aK (aJ 74),call:=aw [(717,fi okI)],ke:=ke,comps:=λ_ aq=>some {ι:=List Value×ah,n:=N,S:=λ_ i=>{aq with fz:=i.2++aq.fz},out:=λ_ i=>i.1,J:=J}} (xt X.w (X.scr,X.sns)) 12) (bz (aJ 74)) {loc:=[("datum",.opq v)],hp:=st.hp,sk:=st.sk,tp:=[],rst:=tl++st.rst,fz:=st.fz} λfl st₂=>bg st tl k (bW fl) st₂)→Calls X 717 st [.opq v] k ke:=λN J h=>
  bD.calls (n:=m) KZ Iq O hn (bD.mk (λtl=>{cs:=aK (aJ 74),call:=aw [(717,fi okI)],ke:=ke,comps:=λ_ aq=>some {ι:=List Value×ah,n:=N,S:=λ_ i=>{aq with fz:=i.2++aq.fz},out:=λ_ i=>i.1,J:=J}}) rfl rfl (λ_=>rfl) (λ_ X' S=>ax S (cI (hin X' S.ok S.n) dJ)) h)
 cases hd with
 |sym so=>
  obtain⟨a,t,rfl,f⟩:=so
  refine go 0 (λ_ _=>False) λtl=>?_
  exact i7 _ _ _ (.ref a) st.hp st.sk (tl++st.rst) st.fz _ okI 0 _ ⟨334,_,f,rfl,λh=>(by cases h),λ_=>⟨334,_,f,rfl,λh=>(by cases h),λ_=>⟨334,_,.str _ t,f,rfl,rfl,bg.same (sv':=.opq (.str _ t)) (hk _ [] .str) rfl rfl rfl rfl λD v r=>r⟩⟩⟩
 |@cons _ a b d1 d2 f ha hb=>
  rcases hcons _ _ hdep with⟨o1,o2⟩
  refine go 0 (λ_ _=>False) λtl=>?_
  refine i7 _ _ _ v st.hp st.sk (tl++st.rst) st.fz _ okI 0 _ ⟨361,_,f,rfl,λ_=>⟨361,_,a,f,rfl,rfl,d1,ha,o1,λr z hr=>⟨361,_,b,f.mono (λp hp=>Pb _ hp),rfl,rfl,d2,hb.mono (λp hp=>Pb _ hp),o2,λr1 z1 hr1 l=>bg.Md (j:=0) rfl (λle H=>?_) rfl rfl rfl⟩⟩,λh=>by cases h⟩
  obtain⟨t,nn,e⟩:=H.t3
  clear H
  subst e
  have:=hk (.ref l) ([(l,listOf [.str "cons" t,r,r1].toArray nn)]++(z1++z)) (Rd.list (.head _) (.cons .str (.cons (hr.mono λp hp=>?_) (.cons (hr1.mono λp hp=>?_) .nil))))
  ·rw[Pj,Pj]at this;exact this
  ·rw[Pj,Pj];exact Pb _ (Pb _ hp)
  ·rw[Pj,Pj];exact Pb _ hp
 |@vec _ l nn vs ds f hm hds=>
  rcases hvec _ hdep with⟨hlen,hall⟩
  have hl:=hds.len
  let J:Nat→List Value×ah→Prop:=λj i=>bq (i.2++st.fz) i.1 (ds.take j)∧i.1.length≤100000∧i.1.length=j
  refine go vs.length J λtl=>?_
  refine i7 _ _ _ v st.hp st.sk (tl++st.rst) st.fz _ okI vs.length J ⟨404,_,f,rfl,λh=>(by cases h),λ_=>⟨404,_,f,rfl,λ_ a=>⟨404,_,.ref l,f,rfl,rfl,l,vs,nn,⟨rfl,hm,λj i=>Pb _ hm,rfl,λj i h=>Pk h.2.1 (by decide),λi=>Ad.le.refl _⟩,.refl ⟨([],[]),rfl,rfl,.nil,Ql _,rfl⟩,λj i u f0 hj hu hJ=>?_,λi l2 n2 hJ=>?_⟩,λh=>(by cases h)⟩⟩
  ·obtain⟨d,hd1,hd2⟩:=hds.both hu
   refine⟨d,hd2.mono λp hp=>Pb _ hp,hall d (List.mem_of_getElem? hd1),λr z hr=>⟨_,rfl,⟨λX s v f1 I rv=>⟨(i.1++[r],z++i.2),by cases rv;rfl,⟨?_,?_,?_⟩,?_⟩⟩⟩⟩
   ·show bq ((z++i.2)++st.fz) (i.1++[r]) (ds.take (j+1))
    rw[TQ,hd1,Pj]
    exact(hJ.1.mono λp hp=>Pb _ hp).snoc hr
   ·show(i.1++[r]).length≤100000
    rw[PU,hJ.2.2,Q0];lia
   ·show(i.1++[r]).length=j+1
    rw[PU,hJ.2.2,Q0]
   ·rw[←Pj]at I
    exact I
  ·refine⟨l2,i.1,n2,⟨rfl,.head _⟩,Pk hJ.2.1 (by decide),λl3 u hu=>bg.Md (j:=1) rfl (λle H=>?_) rfl rfl rfl⟩
   rcases hu with⟨t,rfl⟩
   rcases H.dW with⟨n3,e⟩
   clear H
   subst e
   have h1:=hJ.1
   rw[show ds.take vs.length=ds by rw[hl];exact List.take_length]at h1
   have:=hk (.ref l3) ([(l3,listOf (.str "vector" t::i.1).toArray n3)]++((l2,listOf i.1.toArray n2)::i.2)) (Rd.list (.head _) (.cons .str (h1.mono λp hp=>?_)))
   ·exact this
   ·exact .tail _ (.tail _ hp)
theorem oV:∀(n:Nat){X:Fx},X.Ok→2+2*n≤X.n→az X 717 (fi (dU n))
 |0,X,O,hn=>iZ O (m:=0) (λ_=>False) (by lia) (λX' O' hn'=>λA s st args vals k ke R hA I ir hc ret exc=>by
   obtain⟨_,_,_,_,h,_⟩:=cf hc
   exact h.elim) (λa b h=>by obtain⟨m,e,_⟩:=h.rI;cases e) (λds h=>by obtain⟨m,e,_⟩:=h.xA;cases e)
 |n+1,X,O,hn=>iZ O (m:=2+2*n) (dU n) (by lia) (λX' O' hn'=>oV n O' (by lia)) (λa b h=>by
   obtain⟨m,e,h1,h2⟩:=h.rI
   cases e;exact⟨h1,h2⟩) (λds h=>by
   obtain⟨m,e,h1,h2⟩:=h.xA
   cases e;exact⟨h1,h2⟩)
noncomputable abbrev bV (a:Addr)(turn seed:Int):HE:=.list a [] [.ref 1,.int turn,.int seed]
noncomputable def OH (t s:Int)(e:HE):HE:=match e with
 |.list a _ _=>bV a t s
 |e=>e
noncomputable def sD (t s:Int)(hp:List HE):List HE:=match hp with
 |[]=>[]
 |e::r=>OH t s e::r
noncomputable abbrev St.MN (st:St)(hp:List HE):St:=⟨st.loc,hp,st.sk,st.tp,st.rst,st.fz⟩
inductive rC (hp:List HE)(many:Int)(P:Int→Int→Int→Prop):Prop
 |mk (a ca:Addr)(cells:List Int)(turn seed:Int)(r:List HE)(hhp:hp=bV a turn seed::.nlist ca cells::r)(h0:0≤turn)(hz:cells.length<1000)(hm:0<many)(hk:∀i seed',0≤i→i<many→P i (turn+1) seed')
def kN:cK:=λargs st k _=>ou (dF 0) l7 args λ_ m=>ag m.int? λmany=>rC st.hp many λi t s=>k (.int i) (st.MN (sD t s st.hp))
abbrev uf (a ca:Addr)(cells:List Int)(turn seed many:Int)(r sk:List HE)(rs fz:ah)(K:SV→St→Prop):Prop:=
  (decide (turn<(↑(vc cells):Int))=true→((0:Int)≤turn∧turn<(↑(vc cells):Int)∧vc cells<1152921504606846976)∧Tw seed (69069:Int)∧(1000003:Int)≠(0:Int)∧Tw (11:Int) turn∧(4294967296:Int)≠(0:Int)∧many≠(0:Int)∧K (SV.int (Sl (List.getD cells (Pf turn) (0:Int)) many)) {loc:=[("deck",SV.ref (0)),("many",SV.int many),("turn",SV.int turn),("cell",SV.int (List.getD cells (Pf turn) (0:Int)))],hp:=HE.list a [] [SV.ref (1),SV.int (turn+(1:Int)),SV.int (Sl (seed*(69069:Int)+Sl (List.getD cells (Pf turn) (0:Int)) (1000003:Int)+(11:Int)*turn+(1:Int)) (4294967296:Int))]::HE.nlist ca cells::r,sk:=sk,tp:=[],rst:=rs,fz:=fz})∧(decide (turn<(↑(vc cells):Int))=false→((512:Int)≠(0:Int)∧512<1073741824)∧Tw seed (69069:Int)∧(1000003:Int)≠(0:Int)∧Tw (11:Int) turn∧(4294967296:Int)≠(0:Int)∧many≠(0:Int)∧K (SV.int (Sl (Sm seed (512:Int)) many)) {loc:=[("deck",SV.ref (0)),("many",SV.int many),("turn",SV.int turn),("cell",SV.int (Sm seed (512:Int)))],hp:=HE.list a [] [SV.ref (1),SV.int (turn+(1:Int)),SV.int (Sl (seed*(69069:Int)+Sl (Sm seed (512:Int)) (1000003:Int)+(11:Int)*turn+(1:Int)) (4294967296:Int))]::HE.nlist ca cells::r,sk:=sk,tp:=[],rst:=rs,fz:=fz})
theorem z5 (w:World)(sc:Sc)(ke:KX)(a ca:Addr)(cells:List Int)(turn seed many:Int)(r sk:List HE)(rs fz:ah)(K:SV→St→Prop) :
  (vc cells<1152921504606846976∧uf a ca cells turn seed many r sk rs fz K) →
  bw (bE {cs:=aK (aJ 71),call:=aw [],ke:=ke} (xt w sc) 12) (bz (aJ 71)) {loc:=[("deck",.ref 0),("many",.int many)],hp:=.list a [] [.ref 1,.int turn,.int seed]::.nlist ca cells::r,sk:=sk,tp:=[],rst:=rs,fz:=fz} (λfl st=>K (bW fl) st):=
 Qg (by kernel_rfl)
theorem rz (O:X.Ok)(hn:2≤X.n):az X 700 kN:=by
 refine cD λst args k ke hc=>?_
 obtain⟨_,m,rfl,hk⟩:=cc hc
 clear hc
 obtain⟨many,hm,a,ca,cells,turn,seed,r,hhp,h0,hz,hmany,hk⟩:=aa hk
 refine Calls.args (args':=[.ref 0,.int many]) (λus ir=>by
  obtain⟨_,w,rfl,r1,r2⟩:=nJ ir
  exact .cons r1 (.cons (SV.aX hm r2) .nil)) ?_
 have e:=St.kk hhp
 clear hhp
 obtain⟨loc,sk,tp,rst,fz,rfl⟩:=e
 refine bD.calls (n:=0) K7 JT O hn (bD.mk (λtl=>{cs:=aK (aJ 71),call:=aw [],ke:=ke}) rfl rfl (λ_=>rfl) (λ_ X' S=>ax S dJ) λtl=>?_)
 have out:∀(loc2:List (Str×SV))(i s':Int),0≤i→i<many→bg ⟨loc,bV a turn seed::.nlist ca cells::r,sk,tp,rst,fz⟩ tl k (.int i) ⟨loc2,bV a (turn+1) s'::.nlist ca cells::r,sk,[],tl++rst,fz⟩:=λloc2 i s' g1 g2=>
  bg.same (sv':=.int i) (hk i s' g1 g2) rfl rfl rfl rfl λD v r=>r
 have pos:∀x:Int,0≤Sl x many∧Sl x many<many:=λx=>⟨Int.fmod_nonneg_of_pos _ hmany,Int.fmod_lt_of_pos _ hmany⟩
 exact z5 _ _ _ a ca cells turn seed many r sk (tl++rst) fz _ ⟨PF hz (by decide),λh=>⟨⟨h0,of_decide_eq_true h,PF hz (by decide)⟩,.of_right (by decide),by decide,.of_left (by decide),by decide,Int.ne_of_gt hmany,out _ _ _ (pos _).1 (pos _).2⟩,
  λ_=>⟨⟨by decide,by decide⟩,.of_right (by decide),by decide,.of_left (by decide),by decide,Int.ne_of_gt hmany,out _ _ _ (pos _).1 (pos _).2⟩⟩
noncomputable def Mz (n:Addr)(sv:SV):Option {_u:Unit // sv=.top n}:=match sv with
 |.top m=>if h:PD m n=true then some ⟨(),congrArg SV.top (Pu h)⟩else none
 |_=>none
inductive CO (hp:List HE)(P:Str→Int→Int→Prop):Prop
 |mk (a ca:Addr)(cells:List Int)(turn seed:Int)(r:List HE)(hhp:hp=bV a turn seed::.nlist ca cells::r)(h0:0≤turn)(hz:cells.length<1000)(hk:∀x seed',x∈cu→P x (turn+1) seed')
def xB:cK:=λargs st k _=>ou (dF 0) (Mz 693) args λ_ _=>CO st.hp λx t s=>k (.str x) (st.MN (sD t s st.hp))
theorem Ae (w:World)(sc:Sc)(ke:KX)(hp sk:List HE)(rs fz:ah)(K:SV→St→Prop) :
  (14<1152921504606846976∧rC hp (↑(14:Nat):Int) λ(i t s:Int)=>Nv i λ(x:Str)=>K (SV.str x) {loc:=[("deck",SV.ref (0)),("items",SV.top (693))],hp:=sD t s (St.hp {loc:=[("deck",SV.ref (0:Nat)),("items",SV.top (693:Addr))],hp:=hp,sk:=sk,tp:=[],rst:=rs,fz:=fz}),sk:=sk,tp:=[],rst:=rs,fz:=fz}) →
  bw (bE {cs:=aK (aJ 72),call:=aw [(700,kN)],ke:=ke} (xt w sc) 12) (bz (aJ 72)) {loc:=[("deck",.ref 0),("items",.top 693)],hp:=hp,sk:=sk,tp:=[],rst:=rs,fz:=fz} (λfl st=>K (bW fl) st):=
 Qg (by kernel_rfl)
theorem BM (O:X.Ok)(hn:4≤X.n):az X 707 xB:=by
 refine aP (n:=2) Jh H9 O hn λst args k ke hc=>?_
 obtain⟨_,_,rfl,a,ca,cells,turn,seed,r,hhp,h0,hz,hk⟩:=cc hc
 have e:=St.kk hhp
 clear hhp
 obtain⟨loc,sk,tp,rst,fz,rfl⟩:=e
 refine bD.mk (λtl=>{cs:=aK (aJ 72),call:=aw [(700,kN)],ke:=ke}) rfl rfl (λ_=>rfl) (λ_ X' S=>ax S (cI (rz S.ok (by rw[S.n];decide)) dJ)) λtl=>?_
 refine Ae _ _ _ _ sk (tl++rst) fz _ ⟨by decide,.mk a ca cells turn seed r rfl h0 hz (by decide) λi s' g1 g2=>?_⟩
 have hi:i.toNat<cu.length:=by
  have e:cu.length=14:=rfl
  rw[e];lia
 exact .mk i.toNat cu[i.toNat] (SK g1).symm (Qi hi) (bg.same (sv':=.str cu[i.toNat]) (hk _ s' (Tz hi)) rfl rfl rfl rfl λD v r=>r)
abbrev s7 (sc:Sc)(hp sk:List HE)(rs fz:ah)(K:SV→St→Prop)(d:Nat)(vs:List Value)(l nn:Nat)(ns:List Int)(d_1:Nat):Prop:=
  (Pa (Pn sc)=Pa (Pn sc)∧(0:Int)≤(60:Int))∧∀(d_2:Nat)(vs_2:List Value),Qz vs_2 (List.take (60) (Pc sc))→∃(l:Nat),∃(vs_3:List Value),∃(nn:Nat),∃(ns_1:List Int),(Pa d_2=Pa l∧(l,P' (PE vs_3) nn)∈(d_2,P' (PE vs_2) (0:Nat))::(d,P' (PE vs) (0:Nat))::fz∧Qz vs_3 ns_1∧vc ns_1≤100000)∧∀(d_3:Nat),vc (List.filter (λ(i:Int)=>decide (i<(0:Int))) ns_1)<1152921504606846976∧∀(a:Nat),K (SV.tmp (2)) {loc:=[("script",SV.opq (Pa (Pn sc))),("most",SV.num (60:Int))],hp:=hp,sk:=sk,tp:=[HE.nlist d_1 (R6 (λ(i:Int)=>if i<(0:Int)then -i else i) ns),HE.nlist d_3 (List.filter (λ(i:Int)=>decide (i<(0:Int))) ns_1),HE.list a [] [SV.opq (Pa d_1),SV.num (0:Int),SV.int ((977:Int)+(↑(vc (List.filter (λ(i:Int)=>decide (i<(0:Int))) ns_1)):Int))]],rst:=rs,fz:=(d_2,P' (PE vs_2) (0:Nat))::(d,P' (PE vs) (0:Nat))::fz}
theorem AS (w:World)(sc:Sc)(ke:KX)(hp sk:List HE)(rs fz:ah)(K:SV→St→Prop) :
  ((Pa (Pn sc)=Pa (Pn sc)∧(0:Int)≤(60:Int))∧∀(d:Nat)(vs:List Value),Qz vs (List.take (60) (Pc sc))→∃(l:Nat),∃(vs_1:List Value),∃(nn:Nat),∃(ns:List Int),(Pa d=Pa l∧(l,P' (PE vs_1) nn)∈(d,P' (PE vs) (0:Nat))::fz∧Qz vs_1 ns∧vc ns≤100000)∧∀(d_1:Nat),s7 sc hp sk rs fz K d vs l nn ns d_1) →
  bw (bE {cs:=aK (aJ 73),call:=aw [],ke:=ke} (xt w sc) 12) (bz (aJ 73)) {loc:=[("script",.opq (.ref sc.1)),("most",.num 60)],hp:=hp,sk:=sk,tp:=[],rst:=rs,fz:=fz} (λfl st=>K (bW fl) st):=
 Qg (by kernel_rfl)
theorem bg.all {st:St}(hk:k (sv.shift st.tp.length) {st with hp:=st₂.hp,sk:=st₂.sk,tp:=st.tp++st₂.tp,fz:=st₂.fz}) (h1:st₂.hp.map HE.addr=st.hp.map HE.addr)(h2:st₂.sk.map HE.addr=st.sk.map HE.addr)(h3:st₂.rst=tl++st.rst):bg st tl k sv st₂:=λX s v I r=>by
 have p1:st.hp.map HE.addr <+: st₂.hp.map HE.addr:=by rw[h1];exact Pp
 refine⟨sv,{st₂ with loc:=[]},I.re (λ_ _ h=>nomatch h) (λl L=>L) (λl L=>L) rfl rfl,r,st.loc,h3,p1,λx sv0 q=>⟨sv0,q,λv r=>r.mono ⟨p1,Qh _ _,?_⟩⟩,hk⟩
 show st.sk.map _ <+: st₂.sk.map _
 rw[h2];exact Pp
def se (sc:Sc):cK:=λargs st k _=>ou sf (w8 60) args λs _=>(s=sc.1∧sc.2.length≤63)∧∀a d1 d3 cells l3 seed z,cells.length≤60→k (.tmp (st.tp.length+2)) {st with tp:=st.tp++[.nlist d1 cells,.nlist d3 l3,.list a [] [.opq (.ref d1),.num 0,.int seed]],fz:=z++st.fz}
theorem G8 {cs:List Int}(h:Qz vs (cs.take n)):vs.length≤n:=by
 rw[h.length,RM];exact Nat.min_le_left _ _
theorem Br (O:X.Ok)(hn:2≤X.n):az X 712 (se (X.scr,X.sns)):=by
 refine aP (n:=0) G4 KD O hn λst args k ke hc=>?_
 obtain⟨s,_,rfl,⟨rfl,hz⟩,hk⟩:=cc hc
 refine bD.mk (λtl=>{cs:=aK (aJ 73),call:=aw [],ke:=ke}) rfl rfl (λ_=>rfl) (λ_ X' S=>ax S dJ) λtl=>?_
 have small:(X.sns.take 60).length≤60:=by rw[RM];exact Nat.min_le_left _ _
 refine AS _ _ _ st.hp st.sk (tl++st.rst) st.fz _ ⟨⟨rfl,by decide⟩,λd vs h=>⟨d,vs,0,X.sns.take 60,⟨rfl,.head _,h,Pk small (by decide)⟩,λd1=>⟨⟨rfl,by decide⟩,λd2 vs2 h2=>⟨d2,vs2,0,X.sns.take 60,⟨rfl,.head _,h2,Pk small (by decide)⟩,λd3=>⟨?_,λa=>bg.all (hk a d1 d3 _ _ _ [(d2,listOf vs2.toArray 0),(d,listOf vs.toArray 0)] ?_) rfl rfl rfl⟩⟩⟩⟩⟩
 ·exact Pr (Pk (List.length_filter_le _ _) small) (by decide)
 ·rw[PM];exact small
noncomputable abbrev yJ:=Addr×Int×Int×Str×List Str
noncomputable def Gn (a:Addr)(r sk:List HE)(rs fz:ah)(many:Int)(b:Bool)(i:yJ):St:={loc:=[("deck",.ref 0),("many",.int many),("is_fair",.bool b),("opened_here",.tmp 0),("found",.str i.2.2.2.1)],hp:=bV a i.2.1 i.2.2.1::r,sk:=sk,tp:=[.slist i.1 i.2.2.2.2],rst:=rs,fz:=fz}
noncomputable def OM (many:Int)(b:Bool)(j:Nat)(f:Str)(p:SV):List (Str×SV):=[("deck",.ref 0),("many",.int many),("is_fair",.bool b),("opened_here",.tmp 0),("found",.str f),("turn",.int (j:Int)),("piece",p)]
def Gi (a:Addr)(r sk:List HE)(rs fz:ah)(many:Int)(b:Bool)(J:Nat→yJ→Prop)(j:Nat)(I:Addr)(o:Obj)(f:Str)(p:SV)(t s:Int)(e:HE)(g:List HE):Prop:=
 (I,o)::rs=(I,o)::rs∧Ent {loc:=OM many b j f p,hp:=bV a t s::r,sk:=sk,tp:=e::g,rst:=rs,fz:=fz} λ(st':St)=>∃(i':yJ),J (j+(1:Nat)) i'∧st'=Gn a r sk rs fz many b i'
def Gk (a:Addr)(r sk:List HE)(rs fz:ah)(many:Int)(b:Bool)(J:Nat→yJ→Prop)(j:Nat)(I:Addr)(o:Obj)(f:Str)(t s:Int)(l:Addr)(ws:List Str)(x:Str)(ln:Nat)(p:SV)(g:List HE)(gx:Nat→List HE):Prop:=
 (-((Pg x:Nat):Int)≤(0:Int)∧(0:Int)<((Pg x:Nat):Int)∧ln<1152921504606846976) ∧
 (aN (Qm x (0:Int)) (p' "([")=true→(-((Pg x:Nat):Int)≤(0:Int)∧(0:Int)<((Pg x:Nat):Int)∧ln<1152921504606846976) ∧
  ((Qm x (0:Int)==p' "(")=true→vc ws<1048576∧Pg f+ln≤16777216∧Gi a r sk rs fz many b J j I o (f++x) p t s (HE.slist l (ws++[p' ")"])) g) ∧
  ((Qm x (0:Int)==p' "(")=false→vc ws<1048576∧Pg f+ln≤16777216∧Gi a r sk rs fz many b J j I o (f++x) p t s (HE.slist l (ws++[p' "]"])) g)) ∧
 (aN (Qm x (0:Int)) (p' "([")=false→(-((Pg x:Nat):Int)≤(-1:Int)∧(-1:Int)<((Pg x:Nat):Int)∧ln<1152921504606846976) ∧
  (aN (Qm x (-1:Int)) (p' ")]")=true→∀(c:Nat),((!PD (vc ws) (0:Nat))=true→∃(us:List Str),∃(y:Str),ws=us++[y]∧vc us<1048576∧Pg f+ln≤16777216∧Gi a r sk rs fz many b J j I o (f++x) p t s (HE.slist l us) (gx c)) ∧
   ((!PD (vc ws) (0:Nat))=false→Pg f+ln≤16777216∧Gi a r sk rs fz many b J j I o (f++x) p t s (HE.slist l ws) (gx c))) ∧
  (aN (Qm x (-1:Int)) (p' ")]")=false→Pg f+ln≤16777216∧Gi a r sk rs fz many b J j I o (f++x) p t s (HE.slist l ws) g))
abbrev u7 (a:Addr)(many:Int)(b:Bool)(r sk:List HE)(rs fz:ah)(J:Nat→yJ→Prop)(j:Nat)(i:Addr×Int×Int×Str×List Str)(I:Nat)(o:Obj)(x:Str)(t s:Int)(a_7:Nat):Prop:=
  (PD (vc (Pc (Pc (Pc (Pc i))))) (0)=true→Gk a r sk rs fz many b J j I o (Pn (Pc (Pc (Pc i)))) t s (Pn i) (Pc (Pc (Pc (Pc i)))) (p' "a ") (2) (SV.txt (p' "a ")) [HE.list a_7 [] []] λ(c:Nat)=>[HE.list a_7 [] [],HE.list c [] []])∧(PD (vc (Pc (Pc (Pc (Pc i))))) (0)=false→∃(x_1:Str),List.getLast? (Pc (Pc (Pc (Pc i))))=some x_1∧(-(↑(Pg x):Int)≤(-1:Int)∧(-1:Int)<(↑(Pg x):Int)∧Pg x<1152921504606846976)∧((x_1 !=Qm x (-1:Int))=true→Gk a r sk rs fz many b J j I o (Pn (Pc (Pc (Pc i)))) t s (Pn i) (Pc (Pc (Pc (Pc i)))) (p' "a ") (2) (SV.txt (p' "a ")) [HE.list a_7 [] []] λ(c:Nat)=>[HE.list a_7 [] [],HE.list c [] []])∧((x_1 !=Qm x (-1:Int))=false→Gk a r sk rs fz many b J j I o (Pn (Pc (Pc (Pc i)))) t s (Pn i) (Pc (Pc (Pc (Pc i)))) x (Pg x) (SV.str x) [HE.list a_7 [] []] λ(c:Nat)=>[HE.list a_7 [] [],HE.list c [] []]))
abbrev tA (a:Addr)(many:Int)(b:Bool)(r sk:List HE)(rs fz:ah)(K:SV→St→Prop)(i:Addr×Int×Int×Str×List Str)(d:Nat):Prop:=
  (Qc (Array.foldl (λ(x1:Nat)(x2:Str)=>x1+Pg x2+Pg Rv) (0) (PE (QE (Pc (Pc (Pc (Pc i)))))) (0))=false∧Pg (bU (QE (Pc (Pc (Pc (Pc i))))))≤16777216)∧1+Pg (bU (QE (Pc (Pc (Pc (Pc i))))))≤16777216∧Pg (Pn (Pc (Pc (Pc i))))+Pg (p' "a"++bU (QE (Pc (Pc (Pc (Pc i))))))≤16777216∧K (SV.str (Pn (Pc (Pc (Pc i)))++(p' "a"++bU (QE (Pc (Pc (Pc (Pc i)))))))) {loc:=[("deck",SV.ref (0)),("many",SV.int many),("is_fair",SV.bool b),("opened_here",SV.tmp (0)),("found",SV.str (Pn (Pc (Pc (Pc i)))))],hp:=HE.list a [] [SV.ref (1),SV.int (Pn (Pc i)),SV.int (Pn (Pc (Pc i)))]::r,sk:=sk,tp:=[HE.slist (Pn i) (Pc (Pc (Pc (Pc i)))),HE.slist d (QE (Pc (Pc (Pc (Pc i)))))],rst:=rs,fz:=fz}
abbrev t9 (a:Addr)(many:Int)(b:Bool)(r sk:List HE)(rs fz:ah)(K:SV→St→Prop)(n:Nat)(J:Nat→yJ→Prop):Prop:=
  (∀(j:Nat)(i:Addr×Int×Int×Str×List Str)(I:Nat)(o:Obj),j<n→J j i→CO (HE.list a [] [SV.ref (1),SV.int (Pn (Pc i)),SV.int (Pn (Pc (Pc i)))]::r) λ(x:Str)(t s:Int)=>(b=true→(-(↑(Pg x):Int)≤(-1:Int)∧(-1:Int)<(↑(Pg x):Int)∧Pg x<1152921504606846976)∧(aN (Qm x (-1:Int)) (p' ")]")=true→∀(a_7:Nat),u7 a many b r sk rs fz J j i I o x t s a_7)∧(aN (Qm x (-1:Int)) (p' ")]")=false→Gk a r sk rs fz many b J j I o (Pn (Pc (Pc (Pc i)))) t s (Pn i) (Pc (Pc (Pc (Pc i)))) x (Pg x) (SV.str x) [] λ(c:Nat)=>[HE.list c [] []]))∧(b=false→Gk a r sk rs fz many b J j I o (Pn (Pc (Pc (Pc i)))) t s (Pn i) (Pc (Pc (Pc (Pc i)))) x (Pg x) (SV.str x) [] λ(c:Nat)=>[HE.list c [] []]))∧∀(i:Addr×Int×Int×Str×List Str),J n i→(b=true→((-1:Int)=(-1:Int)∧vc (Pc (Pc (Pc (Pc i))))≤1000000)∧∀(d:Nat),p' ""=Rv∧tA a many b r sk rs fz K i d)∧(b=false→Pg (Pn (Pc (Pc (Pc i))))+0≤16777216∧K (SV.str (Pn (Pc (Pc (Pc i)))++p' "")) (Gn a r sk rs fz many b i))
theorem Bt (w:World)(sc:Sc)(ke:KX)(a:Addr)(turn0 seed0 many:Int)(b:Bool)(r sk:List HE)(rs fz:ah)(K:SV→St→Prop)(n:Nat)(J:Nat→yJ→Prop) :
  (∀(a_1 a_2:Nat),(((0:Int)≤many∧many<(1000000:Int))∧n=Pf many∧∀(j:Nat),[SV.int (↑j:Int)]=[SV.int (↑j:Int)])∧(∀(j:Nat),j<n→1=1)∧(Ent {loc:=[("deck",SV.ref (0)),("many",SV.int many),("is_fair",SV.bool b),("opened_here",SV.opq (Pa a_1)),("found",SV.txt (p' ""))],hp:=HE.list a [] [SV.ref (1),SV.int turn0,SV.int seed0]::r,sk:=sk,tp:=[HE.list a_1 [] [],HE.tup a_2 [SV.txt (p' ""),SV.opq (Pa a_1)]],rst:=rs,fz:=fz} λ(st':St)=>∃(i:Addr×Int×Int×Str×List Str),J (0) i∧st'=Gn a r sk rs fz many b i)∧t9 a many b r sk rs fz K n J) →
  bw (bE {cs:=aK (aJ 80),call:=aw [(707,xB)],ke:=ke,fors:=λ_=>some λ_=>{ι:=yJ,n:=n,items:=λj=>[.int (j:Int)],S:=λ_ i=>Gn a r sk rs fz many b i,J:=J,ok:=λ_ h=>h}} (xt w sc) 12) (bz (aJ 80)) {loc:=[("deck",.ref 0),("many",.int many),("is_fair",.bool b)],hp:=bV a turn0 seed0::r,sk:=sk,tp:=[],rst:=rs,fz:=fz} (λfl st=>K (bW fl) st):=
 Qg (by kernel_rfl)
theorem Ent.rR {st:St}(htp:st.tp=e::g)(ha:e'.addr=e.addr)(hc:∀D l,HL D e l→HL D e' l)(hloc:∀x sv',look x loc'=some sv'→∃sv,look x st.loc=some sv∧∀v,sv.R ⟨st.hp.map HE.addr,st.sk.map HE.addr,(e::g).map HE.addr⟩ v→sv'.R ⟨st.hp.map HE.addr,st.sk.map HE.addr,[e.addr]⟩ v)(h:P {st with loc:=loc',tp:=[e']}):Ent st P:=⟨λX s f I=>by
 refine⟨_,h,I.lay (st':=St.fr {st with loc:=loc',tp:=[e']} f) (λx sv' q=>?_) λl l' L1 L2=>?_⟩
 ·obtain⟨sv,q1,q2⟩:=hloc x sv' q
  refine⟨sv,q1,λv r=>?_⟩
  have r:sv.R ⟨st.hp.map HE.addr,st.sk.map HE.addr,st.tp.map HE.addr⟩ v:=r
  rw[htp]at r
  have:=q2 v r
  rw[←ha]at this
  exact this
 ·have L2:LL (st.fr f).ad.bot st.tp l':=L2
  rw[htp]at L2
  obtain⟨le,lr,rfl,H,_⟩:=LL.dm L2
  exact⟨l,le++[],lr,L1,.cons (hc _ _ H) .nil,show List.Perm (l++((le++lr)++(st.fr f).rf)) ((l++((le++[])++(st.fr f).rf))++lr)from bj λ_ _ p=>by
   simp only[PL,Qa];lia⟩⟩
noncomputable def zA (c:Nat):Bool:=jF (c:Int)
def iA (x:Str):Prop:=∀c∈x.cps,zA c=true
theorem iA.app (h:iA x)(g:iA y):iA (x++y):=λc hc=>(Array.mem_append.mp hc).elim (h c) (g c)
theorem iU (x y:Str):(x++y).length=x.length+y.length:=Sj
theorem lM (h:x∈cu):iA x∧1≤x.length∧x.length≤5:=by
 have:(cu.all λx=>x.cps.all zA&&(R7 1 x.length&&R7 x.length 5))=true:=by kernel_rfl
 have:=List.all_eq_true.mp this x h
 rw[Pe,Pe]at this
 exact⟨λc hc=>Array.all_eq_true_iff_forall_mem.mp this.1 c hc,PT this.2.1,PT this.2.2⟩
def oO (w:Str):Prop:=w=p' ")"∨w=p' "]"
theorem oO.ok (h:oO w):iA w∧w.length=1:=by
 rcases h with rfl|rfl
 ·exact⟨λc hc=>Array.all_eq_true_iff_forall_mem.mp (show(p' ")").cps.all zA=true by kernel_rfl) c hc,by kernel_rfl⟩
 ·exact⟨λc hc=>Array.all_eq_true_iff_forall_mem.mp (show(p' "]").cps.all zA=true by kernel_rfl) c hc,by kernel_rfl⟩
theorem zU (l:List Str):∀(acc:Array Nat),(∀c∈acc,zA c=true)→(∀w∈l,oO w)→(∀c∈l.foldl (λacc p=>acc++Str.empty.cps++p.cps) acc,zA c=true)∧(l.foldl (λacc p=>acc++Str.empty.cps++p.cps) acc).size=acc.size+l.length:=by
 induction l with
 |nil=>exact λacc h _=>⟨h,rfl⟩
 |cons w r ih=>
  intro acc h hw
  have hk:=(hw w (.head _)).ok
  have e:(acc++Str.empty.cps++w.cps).size=acc.size+1:=by
   rw[Sj,Sj]
   show acc.size+0+w.length=_
   rw[hk.2]
  obtain⟨a,b⟩:=ih (acc++Str.empty.cps++w.cps) (λc hc=>by
   rcases Array.mem_append.mp hc with hc|hc
   ·rcases Array.mem_append.mp hc with hc|hc
    ·exact h c hc
    ·exact absurd hc (by show c∉#[];exact RQ c)
   ·exact hk.1 c hc) λw hm=>hw w (.tail _ hm)
  refine⟨a,?_⟩
  show(r.foldl _ (acc++Str.empty.cps++w.cps)).size=_
  rw[b,e,PQ]
  lia
theorem Ag (h:∀w∈l,oO w):iA (bU l)∧(bU l).length=l.length:=by
 cases l with
 |nil=>exact⟨λc hc=>absurd hc (by show c∉#[];exact RQ c),rfl⟩
 |cons w r=>
  have hk:=(h w (.head _)).ok
  rcases zU r w.cps hk.1 λw hm=>h w (.tail _ hm)with⟨a,b⟩
  refine⟨a,?_⟩
  show(r.foldl (λacc p=>acc++Str.empty.cps++p.cps) w.cps).size=_
  rw[b,show w.cps.size=1 from hk.2,PQ,RL]
theorem Bp (l:List Str):∀n:Nat,(∀w∈l,oO w)→l.foldl (λx1 x2=>x1+x2.length+Str.empty.length) n=n+l.length:=by
 induction l with
 |nil=>exact λn _=>rfl
 |cons w r ih=>
  intro n hw
  rw[TM,ih _ λw hm=>hw w (.tail _ hm),(hw w (.head _)).ok.2,PQ]
  show n+1+0+r.length=_
  lia
structure zy (j:Nat)(i:yJ):Prop where
 t:0≤i.2.1
 f:iA i.2.2.2.1
 l:i.2.2.2.1.length≤5*j
 w:∀w∈i.2.2.2.2,oO w
 n:i.2.2.2.2.length≤j
section
variable {a:Addr}{r sk:List HE}{rs fz:ah}{many:Int}{b:Bool}{j:Nat}{I:Addr}{o:Obj}{f:Str}{t s:Int}{l:Addr}{ws:List Str}{x:Str}{ln:Nat}{p:SV}{g:List HE}{gx:Nat→List HE}
theorem jj (h:zy (j+1) (l,t,s,f,us)):Gi a r sk rs fz many b zy j I o f p t s (.slist l us) g:=by
 let l5:List (Str×SV):=[("deck",.ref 0),("many",.int many),("is_fair",.bool b),("opened_here",.tmp 0),("found",.str f)]
 let D1:Ad:=⟨(bV a t s::r).map HE.addr,sk.map HE.addr,(HE.slist l us::g).map HE.addr⟩
 let D2:Ad:=⟨(bV a t s::r).map HE.addr,sk.map HE.addr,[l]⟩
 have lc:fF (λs1 s2=>∀v,s1.R D1 v→s2.R D2 v) l5 l5:=.cons (λv r=>r) (.cons (λv r=>r) (.cons (λv r=>r) (.cons (λv r=>r) (.cons (λv r=>r) .nil))))
 refine⟨rfl,Ent.rR rfl rfl (λ_ _ h=>h) (λx sv' q=>?_) ⟨_,h,rfl⟩⟩
 obtain⟨sv,q1,q2⟩:=lc.look q
 exact⟨sv,bX (l:=l5) (m:=[("turn",.int (j:Int)),("piece",p)]) q1,q2⟩
theorem i1 {n:Nat}(h:1≤n)(h5:n≤5):-(n:Int)≤-1∧(-1:Int)<(n:Int)∧n<1152921504606846976:=⟨Int.neg_le_neg (Int.ofNat_le.mpr h),Int.lt_of_lt_of_le (by decide) (PG n),Pr h5 (by decide)⟩
theorem i0 {n:Nat}(h:1≤n)(h5:n≤5):-(n:Int)≤0∧(0:Int)<(n:Int)∧n<1152921504606846976:=⟨Int.neg_nonpos_of_nonneg (PG n),Int.ofNat_lt.mpr h,Pr h5 (by decide)⟩
theorem jz (h:zy j (l,t,s,f,ws))(hx:x∈cu)(hj:j<13)(hl:ln=x.length):Gk a r sk rs fz many b zy j I o f t s l ws x ln p g gx:=by
 subst hl
 obtain⟨k1,k2,k3⟩:=lM hx
 have hn:ws.length≤j:=h.n
 have hf:f.length≤5*j:=h.l
 have l1:(f++x).length≤5*(j+1):=by rw[iU];exact RF hf k3
 have z1:ws.length<1048576:=Pr hn (PF hj (by decide))
 have z2:f.length+x.length≤16777216:=Pk (RF (Pk hf (SN 5 (QD hj))) k3) (by decide)
 have b0:-((x.length:Nat):Int)≤0∧(0:Int)<((x.length:Nat):Int)∧x.length<1152921504606846976:=i0 k2 k3
 have b1:-((x.length:Nat):Int)≤-1∧(-1:Int)<((x.length:Nat):Int)∧x.length<1152921504606846976:=i1 k2 k3
 have put:∀w,oO w→zy (j+1) (l,t,s,f++x,ws++[w]):=λw hw=>⟨h.t,h.f.app k1,l1,λu hu=>(List.mem_append.mp hu).elim (h.w u) λhu=>List.mem_singleton.mp hu▸hw,by
  show(ws++[w]).length≤j+1
  rw[PU];exact Qo hn⟩
 have same:zy (j+1) (l,t,s,f++x,ws):=⟨h.t,h.f.app k1,l1,h.w,PK hn⟩
 refine⟨b0,λ_=>⟨b0,λ_=>⟨z1,z2,jj (put _ (.inl rfl))⟩,λ_=>⟨z1,z2,jj (put _ (.inr rfl))⟩⟩,λ_=>⟨b1,λ_ c=>⟨λhz=>?_,λ_=>⟨z2,jj same⟩⟩,λ_=>⟨z2,jj same⟩⟩⟩
 have hne:ws≠[]:=λe=>by rw[e]at hz;exact bF hz
 have e:=(List.dropLast_concat_getLast hne).symm
 refine⟨ws.dropLast,_,e,Pr (by rw[List.length_dropLast];exact TL _ _) z1,z2,jj ⟨h.t,h.f.app k1,l1,λu hu=>h.w u (List.dropLast_subset _ hu),?_⟩⟩
 show ws.dropLast.length≤j+1
 rw[List.length_dropLast];exact Pk (TL _ _) (PK hn)
end
inductive rQ (hp:List HE)(many:Int)(P:Str→Int→Int→Prop):Prop
 |mk (a ca:Addr)(cells:List Int)(turn seed:Int)(r:List HE)(hhp:hp=bV a turn seed::.nlist ca cells::r)(h0:0≤turn)(hz:cells.length<1000)(hm:0≤many∧many≤13)(hk:∀x t s,iA x→x.length≤100→0≤t→P x t s)
noncomputable def Hj (sv:SV):Option {b:Bool // sv=.bool b}:=match sv with
 |.bool b=>some ⟨b,rfl⟩
 |_=>none
def sS:cK:=λargs st k _=>FE (dF 0) l7 Hj args λ_ m _=>ag m.int? λmany=>rQ st.hp many λx t s=>k (.str x) (st.MN (sD t s st.hp))
theorem pn (h0:0≤turn):Ent {loc:=[("deck",.ref 0),("many",.int many),("is_fair",.bool b),("opened_here",.opq (.ref a1)),("found",.txt (p' ""))],hp:=bV a turn seed::r,sk:=sk,tp:=[.list a1 [] [],.tup a2 [.txt (p' ""),.opq (.ref a1)]],rst:=rs,fz:=fz} λst'=>∃i:yJ,zy 0 i∧st'=Gn a r sk rs fz many b i:=by
 let D1:Ad:=⟨(bV a turn seed::r).map HE.addr,sk.map HE.addr,[a1,a2]⟩
 let D2:Ad:=⟨(bV a turn seed::r).map HE.addr,sk.map HE.addr,[a1]⟩
 have lc:fF (λs1 s2=>∀v,s1.R D1 v→s2.R D2 v) [("deck",.ref 0),("many",.int many),("is_fair",.bool b),("opened_here",.opq (.ref a1)),("found",.txt (p' ""))] [("deck",.ref 0),("many",.int many),("is_fair",.bool b),("opened_here",.tmp 0),("found",.str (p' ""))]:=
  .cons (λv r=>r) (.cons (λv r=>r) (.cons (λv r=>r) (.cons (λv r=>⟨a1,rfl,r⟩) (.cons (λv r=>r) .nil))))
 refine Ent.rR (e':=.slist a1 []) rfl rfl (λD l h=>?_) (λx sv' q=>lc.look q) ⟨(a1,turn,seed,p' "",[]),⟨h0,λc hc=>absurd hc (by show c∉#[];exact RQ c),P5 0,λw hw=>(by cases hw),P5 0⟩,rfl⟩
 obtain⟨vs,n,i,rfl⟩:=h.listI
 rcases G7 i with rfl
 exact .slist .nil
theorem zM (O:X.Ok)(hn:6≤X.n):az X 757 sS:=by
 refine cD λst args k ke hc=>?_
 obtain⟨_,m,b,rfl,hk⟩:=hM hc
 clear hc
 obtain⟨many,hmi,a,ca,cells,turn,seed,r,hhp,h0,hz,hm,hk⟩:=aa hk
 refine Calls.args (args':=[.ref 0,.int many,.bool b]) (λus ir=>by
  obtain⟨_,_,_,rfl,r1,r2,r3⟩:=vf ir
  exact .cons r1 (.cons (SV.aX hmi r2) (.cons r3 .nil))) ?_
 have e:=St.kk hhp
 clear hhp
 obtain⟨loc,sk,tp,rst,fz,rfl⟩:=e
 refine bD.calls (n:=4) GF Jx O hn (bD.mk (λtl=>{cs:=aK (aJ 80),call:=aw [(707,xB)],ke:=ke,fors:=λ_=>some λ_=>{ι:=yJ,n:=many.toNat,items:=λj=>[.int (j:Int)],S:=λ_ i=>Gn a (.nlist ca cells::r) sk (tl++rst) fz many b i,J:=zy,ok:=λ_ h=>h}}) rfl rfl (λ_=>rfl) (λ_ X' S=>ax S (cI (BM S.ok (by rw[S.n];decide)) dJ)) λtl=>?_)
 have out:∀(loc2:List (Str×SV))(tp2:List HE)(x:Str)(t s':Int),iA x→x.length≤100→0≤t→bg ⟨loc,bV a turn seed::.nlist ca cells::r,sk,tp,rst,fz⟩ tl k (.str x) ⟨loc2,bV a t s'::.nlist ca cells::r,sk,tp2,tl++rst,fz⟩:=λloc2 tp2 x t s' g1 g2 g3=>
  bg.same (sv':=.str x) (hk x t s' g1 g2 g3) rfl rfl rfl rfl λD v r=>r
 have h13:many.toNat≤13:=Int.toNat_le.mpr hm.2
 refine Bt _ _ _ a turn seed many b (.nlist ca cells::r) sk (tl++rst) fz _ many.toNat zy λa1 a2=>⟨⟨⟨hm.1,Int.lt_of_le_of_lt hm.2 (by decide)⟩,rfl,λj=>rfl⟩,λ_ _=>rfl,pn h0,λj i I o hj hJ=>.mk a ca cells i.2.1 i.2.2.1 r rfl hJ.t hz λx s' hx=>?_,λi hJ=>?_⟩
 ·have hj:j<13:=PV hj h13
  obtain⟨_,k2,k3⟩:=lM hx
  have b1:-((x.length:Nat):Int)≤-1∧(-1:Int)<((x.length:Nat):Int)∧x.length<1152921504606846976:=i1 k2 k3
  have J1:zy j (i.1,i.2.1+1,s',i.2.2.2.1,i.2.2.2.2):=⟨Int.le_add_one hJ.t,hJ.f,hJ.l,hJ.w,hJ.n⟩
  have ha:p' "a "∈cu:=by decide +kernel
  refine⟨λ_=>⟨b1,λ_ c=>⟨λ_=>jz J1 ha hj rfl,λhne=>?_⟩,λ_=>jz J1 hx hj rfl⟩,λ_=>jz J1 hx hj rfl⟩
  cases hl:i.2.2.2.2.getLast? with
  |none=>
   rw[List.getLast?_eq_none_iff.mp hl]at hne
   exact bT hne
  |some y=>exact⟨y,rfl,b1,λ_=>jz J1 ha hj rfl,λ_=>jz J1 hx hj rfl⟩
 ·have hf:i.2.2.2.1.length≤5*many.toNat:=hJ.l
  have hw:i.2.2.2.2.length≤many.toNat:=hJ.n
  have hr:∀w∈i.2.2.2.2.reverse,oO w:=λw h=>hJ.w w (List.mem_reverse.mp h)
  rcases Ag hr with⟨j1,j2⟩
  have j2:(bU i.2.2.2.2.reverse).length≤many.toNat:=by rw[j2,Qp];exact hw
  have oa:iA (p' "a"):=λc hc=>Array.all_eq_true_iff_forall_mem.mp (show(p' "a").cps.all zA=true by kernel_rfl) c hc
  have la:(p' "a"++bU i.2.2.2.2.reverse).length=1+(bU i.2.2.2.2.reverse).length:=iU _ _
  have q1:=Pk j2 h13
  have q2:=Pk hw h13
  have q3:=Pk hf (SN 5 h13)
  have q4:=RF q3 (QO q1 1)
  refine⟨λ_=>⟨⟨rfl,Pk q2 (by decide)⟩,λd=>⟨rfl,⟨?_,Pk q1 (by decide)⟩,Pk (QO q1 1) (by decide),by rw[la];exact Pk q4 (by decide),out _ _ _ _ _ (hJ.f.app (oa.app j1)) (by rw[iU,la];exact Pk q4 (by decide)) hJ.t⟩⟩,λ_=>⟨Pk q3 (by decide),out _ _ _ _ _ (hJ.f.app λc hc=>absurd hc (by show c∉#[];exact RQ c)) (by rw[iU];exact Pk q3 (by decide)) hJ.t⟩⟩
  rw[List.foldl_toArray,Bp _ _ hr,Qp,Sh]
  exact short24 (Pk q2 (by decide))
noncomputable def aC (x:Str):List Int:=x.cps.toList.map λ(c:Nat)=>(c:Int)
noncomputable def qo (x:Str)(p:Nat):Nat:=x.cps.getD p 0
theorem bR (x:Str):(aC x).length=x.length:=by
 unfold aC;rw[PM];exact Array.length_toList
theorem aY (h:p<x.length):(aC x).getD p 0=(qo x p:Int):=by
 have h':p<x.cps.size:=h
 unfold aC qo
 simp[h']
theorem b9 (h:iA x):jX (aC x):=λc hc=>by
 obtain⟨n,hn,rfl⟩:=List.mem_map.mp hc
 exact h n (Array.mem_toList_iff.mp hn)
theorem jI (h:iA x)(hp:p<x.length):zA (qo x p)=true:=by
 have h':p<x.cps.size:=hp
 unfold qo
 rw[SQ,RN h']
 exact h _ (QK h')
theorem f6 {x:Str}{p:Nat}(h:p<x.length):Qm x (p:Int)=⟨#[qo x p]⟩:=item_meets ⟨PG _,Int.ofNat_lt.mpr h⟩
set_option tactic.hygienic true in
theorem vT {q:Nat}(h:b≤q)(hq:q≤x.length):PC x (some (b:Int)) (some (q:Int))=cj (aC x) b q:=by
 have ei:Builtin.Str.strSliceIndices (some (b:Int)) (some (q:Int)) 1 x.length=(List.range (q-b)).map (b+·):=by
  rw[←sliceRange_one]
  show sliceRange (max 0 (min (if(b:Int)<0 then(b:Int)+(x.length:Int)else(b:Int)) (x.length:Int))) (max 0 (min (if(q:Int)<0 then(q:Int)+(x.length:Int)else(q:Int)) (x.length:Int))) 1=_
  rw[if_neg (by lia),if_neg (by lia),show max 0 (min (b:Int) (x.length:Int))=(b:Int) by rw[Int.min_eq_left (Int.ofNat_le.mpr (Pk h hq)),Int.max_eq_right (PG _)],show max 0 (min (q:Int) (x.length:Int))=(q:Int) by rw[Int.min_eq_left (Int.ofNat_le.mpr hq),Int.max_eq_right (PG _)]]
 have ew:cj (aC x) b q=⟨((x.cps.toList.drop b).take (q-b)).toArray⟩:=by
  unfold cj aC
  rw[←List.map_drop,←List.map_take,List.map_map]
  have:(Pf∘λc:Nat=>(c:Int))=id:=by funext c;exact Qf c
  rw[this,List.map_id]
 unfold PC
 rw[ei,pick_run,ew]
 split
 ·rename_i hh
  have hh:((List.range (q-b)).map (b+·)).length=x.length:=by simpa using hh
  rw[PM,List.length_range]at hh
  have k:=Nat.sub_add_cancel h
  rw[hh]at k
  have e1:b=0:=Nat.le_zero.mp (Nat.le_of_add_le_add_left (a:=x.length) (c:=0) (Pk (Rm k) hq))
  have e2:q=x.length:=by rw[e1]at k;exact k.symm
  rw[e1,e2,Si,Nat.sub_zero,List.take_of_length_le (Rm (show x.cps.toList.length=x.length from Array.length_toList))]
 ·rfl
noncomputable def xj:List Nat:=[40,41,91,93,39,97,98,99,32,46,10,59]
theorem wx:(xj.all λn=>(((⟨#[n]⟩:Str)==p' ";")==(n==59))&&(((⟨#[n]⟩:Str) !=p' "\n")==(n !=10))&&(aN ⟨#[n]⟩ (p' "abc.")==(!brk (n:Int)))&&(aN ⟨#[n]⟩ (p' " \n")==(n==32||n==10)) &&
  (n==59||n==10||n==32||!brk (n:Int)||decide (bb (n:Int)=some ⟨#[n]⟩))&&(brk (n:Int)||(decide (bb (n:Int)=none)&&n !=59&&n !=10&&n !=32)))=true:=by kernel_rfl
theorem um (h:zA n=true):n∈xj:=by
 have h:jF (n:Int)=true:=h
 rcases hV h with h|h|h|h|h|h|h|h|h|h|h|h<;>(rcases Int.ofNat_inj.mp h with rfl;decide)
structure G6 (n:Nat):Prop where
 semi:((⟨#[n]⟩:Str)==p' ";")=(n==59)
 nl:((⟨#[n]⟩:Str) !=p' "\n")=(n !=10)
 wd:aN ⟨#[n]⟩ (p' "abc.")=!brk (n:Int)
 bl:aN ⟨#[n]⟩ (p' " \n")=(n==32||n==10)
 pl:(n==59||n==10||n==32||!brk (n:Int)||decide (bb (n:Int)=some ⟨#[n]⟩))=true
 np:(brk (n:Int)||(decide (bb (n:Int)=none)&&n !=59&&n !=10&&n !=32))=true
theorem jk (h:zA n=true):G6 n:=by
 have:=List.all_eq_true.mp wx n (um h)
 rw[Pe,Pe,Pe,Pe,Pe]at this
 exact⟨beq_iff_eq.mp this.1.1.1.1.1,beq_iff_eq.mp this.1.1.1.1.2,beq_iff_eq.mp this.1.1.1.2,beq_iff_eq.mp this.1.1.2,this.1.2,this.2⟩
theorem jL {q:Nat}(hok:jX cs)(hp:p≤cs.length)(hq:q≤cs.length)(e:ae cs p=ae cs q):toks cs p=toks cs q:=by
 rw[←gS hok hp,←gS hok hq,e]
noncomputable def cJ (t:Tk):Str:=match t with
 |.opn b=>IK b
 |.cls b=>K4 b
 |.quo=>"'"
 |.dot=>"."
 |.sym x=>x
inductive TupAt (fz:ah)(v:Value)(w:Str)(p:Nat):Prop
 |mk (a:Addr)(t1 t2:Tok)(e:v=.ref a)(h:(a,cZ [.str w t1,.int (p:Int) t2])∈fz)
inductive fD (fz:ah):List Value→List (Tk×Nat)→Prop
 |nil:fD fz [] []
 |cons {v:Value}{t:Tk}{p:Nat}{vs:List Value}{ts:List (Tk×Nat)}:TupAt fz v (cJ t) p→fD fz vs ts→fD fz (v::vs) ((t,p)::ts)
theorem TupAt.mono (h:TupAt fz v w p)(k:∀p∈fz,p∈fz'):TupAt fz' v w p:=by
 cases h with|mk a t1 t2 e h=>exact⟨a,t1,t2,e,k _ h⟩
theorem fD.mono (h:fD fz vs ts)(k:∀p∈fz,p∈fz'):fD fz' vs ts:=by
 induction h with
 |nil=>exact .nil
 |cons a _ ih=>exact .cons (a.mono k) ih
theorem fD.snoc (h:fD fz vs ts)(a:TupAt fz v (cJ t) p):fD fz (vs++[v]) (ts++[(t,p)]):=by
 induction h with
 |nil=>exact .cons a .nil
 |cons b _ ih=>exact .cons b ih
inductive mz (x:Str)(fz:ah)(vs:List Value)(z:ah)(p:Nat):Prop
 |mk (ts:List (Tk×Nat))(hp:p≤x.length)(tv:fD (z++fz) vs ts)(e:toks (aC x) 0=ts++toks (aC x) p)(n:vs.length≤p)
noncomputable abbrev zC:=Addr×List Value×ah×Nat
noncomputable abbrev AX:=Addr×List Value×ah×Nat×Nat
def DY (x:Str)(fz:ah)(i:zC):Prop:=mz x fz i.2.1 i.2.2.1 i.2.2.2
structure NZ (x:Str)(fz:ah)(sv:SV)(i:AX):Prop where
 sv:sv=.int (i.2.2.2.1:Int)
 g:mz x fz i.2.1 i.2.2.1 i.2.2.2.1
 lt:i.2.2.2.1<i.2.2.2.2
 le:i.2.2.2.2≤x.length
 e:(aC x).getD i.2.2.2.1 0=59
 s:cA (λc=>c !=10) (aC x) i.2.2.2.2=cA (λc=>c !=10) (aC x) i.2.2.2.1
structure NH (x:Str)(fz:ah)(sv:SV)(i:AX):Prop where
 sv:sv=.int (i.2.2.2.1:Int)
 g:mz x fz i.2.1 i.2.2.1 i.2.2.2.1
 lt:i.2.2.2.1<i.2.2.2.2
 le:i.2.2.2.2≤x.length
 b:brk ((aC x).getD i.2.2.2.1 0)=false
 s:aW (aC x) i.2.2.2.2=aW (aC x) i.2.2.2.1
noncomputable def LP (x:Str)(hp sk:List HE)(rs fz:ah)(l:Addr)(vs:List Value)(z:ah)(q:Int):St:={loc:=[("text",.str x),("at",.int q),("found",.tmp 0)],hp:=hp,sk:=sk,tp:=[.vlist l vs],rst:=rs,fz:=z++fz}
noncomputable def Eb (x:Str)(b:Nat)(q:Int):List (Str×SV):=[("text",.str x),("at",.int q),("found",.tmp 0),("begin",.int (b:Int))]
noncomputable def uW (x:Str)(hp sk:List HE)(rs fz:ah)(l:Addr)(vs:List Value)(z:ah)(b:Nat)(q:Int):St:={loc:=Eb x b q,hp:=hp,sk:=sk,tp:=[.vlist l vs],rst:=rs,fz:=z++fz}
noncomputable def Gh (x:Str)(hp sk:List HE)(rs fz:ah)(l:Addr)(vs:List Value)(z:ah)(b:Nat)(q:Int)(u:Value)(a:Addr)(w:Str):St:={loc:=Eb x b q,hp:=hp,sk:=sk,tp:=[.vlist l (vs++[u]),.tup a [.str w,.int (b:Int)]],rst:=rs,fz:=z++fz}
def zx (x:Str)(hp sk:List HE)(rs fz:ah)(G:zC→Prop)(m:Nat)(st:St):Prop:=Ent st λ(st':St)=>∃(j:{i:zC // G i}),Pg x-j.1.2.2.2<m∧st'=LP x hp sk rs fz j.1.1 j.1.2.1 j.1.2.2.1 (j.1.2.2.2:Int)
def MZ (x:Str)(hp sk:List HE)(rs fz:ah)(G:AX→Prop)(m:Nat)(st:St):Prop:=Ent st λ(st':St)=>∃(j:{i:AX // G i}),Pg x-j.1.2.2.2.2<m∧st'=uW x hp sk rs fz j.1.1 j.1.2.1 j.1.2.2.1 j.1.2.2.2.1 (j.1.2.2.2.2:Int)
def Nt (x:Str)(hp sk:List HE)(rs fz:ah)(G:zC→Prop)(st:St):Prop:=Ent st λ(st':St)=>∃(i:{i:zC // G i}),st'=LP x hp sk rs fz i.1.1 i.1.2.1 i.1.2.2.1 (i.1.2.2.2:Int)
def L9 (x:Str)(hp sk:List HE)(rs fz:ah)(G:AX→Prop)(st:St):Prop:=Ent st λ(st':St)=>∃(i:{i:AX // G i}),st'=uW x hp sk rs fz i.1.1 i.1.2.1 i.1.2.2.1 i.1.2.2.2.1 (i.1.2.2.2.2:Int)
def O7 (x:Str)(hp sk:List HE)(rs fz:ah)(G:zC→Prop)(l:Addr)(vs:List Value)(z:ah)(b:Nat)(q:Int)(w:Str)(m:Nat):Prop:=
 ∀(a:Nat),vc vs<1048576∧∀(u:Value),(∃(c:Addr),some a=some c∧u=Pa c)→zx x hp sk rs fz G m (Gh x hp sk rs fz l vs z b q u a w)
noncomputable def aL (x:Str)(hp sk:List HE)(rs fz:ah)(G:zC→Prop):af where
 ι:={i:zC // G i}
 S:=λi=>LP x hp sk rs fz i.1.1 i.1.2.1 i.1.2.2.1 (i.1.2.2.2:Int)
 μ:=λi=>x.length-i.1.2.2.2
 split:=λP=>∀l vs z p h,P ⟨(l,vs,z,p),h⟩
 ok:=λP h i=>h _ _ _ _ _
noncomputable def LK (x:Str)(hp sk:List HE)(rs fz:ah)(G:AX→Prop):af where
 ι:={i:AX // G i}
 S:=λi=>uW x hp sk rs fz i.1.1 i.1.2.1 i.1.2.2.1 i.1.2.2.2.1 (i.1.2.2.2.2:Int)
 μ:=λi=>x.length-i.1.2.2.2.2
 split:=λP=>∀l vs z b p h,P ⟨(l,vs,z,b,p),h⟩
 ok:=λP h i=>h _ _ _ _ _ _
noncomputable def n5 (st:St):SV:=match look "begin" st.loc with
 |some sv=>sv
 |none=>.none
noncomputable def Iw (a b c:af)(n:Nat):Option af:=match PD n 549 with
 |true=>some a
 |false=>match PD n 553 with
  |true=>some b
  |false=>some c
theorem u4 (w:World)(sc:Sc)(ke:KX)(x:Str)(hp sk:List HE)(rs fz:ah)(K:SV→St→Prop)(G0:zC→Prop)(G1 G2:SV→AX→Prop) :
  (∀(a a_1:Nat),Nt x hp sk rs fz G0 {loc:=[("text",SV.str x),("at",SV.num (0:Int)),("found",SV.opq (Pa a))],hp:=hp,sk:=sk,tp:=[HE.list a [] [],HE.tup a_1 [SV.opq (Pa a),SV.num (0:Int)]],rst:=rs,fz:=fz}∧∀(l:Nat)(vs:List Value)(z:List (Addr×Obj))(p:Nat)(h:G0 (l,vs,z,p)),Pg x<1152921504606846976∧(decide ((↑p:Int)<(↑(Pg x):Int))=true→(-(↑(Pg x):Int)≤(↑p:Int)∧(↑p:Int)<(↑(Pg x):Int)∧Pg x<1152921504606846976)∧((Qm x (↑p:Int)==p' ";")=true→L9 x hp sk rs fz (G1 (n5 {loc:=put (p' "at") (SV.int ((↑p:Int)+(1:Int))) (St.loc {loc:=put (p' "begin") (SV.int (↑p:Int)) (St.loc (af.S (aL x hp sk rs fz G0) ⟨(l,vs,z,p),h⟩)),hp:=St.hp (af.S (aL x hp sk rs fz G0) ⟨(l,vs,z,p),h⟩),sk:=St.sk (af.S (aL x hp sk rs fz G0) ⟨(l,vs,z,p),h⟩),tp:=St.tp (af.S (aL x hp sk rs fz G0) ⟨(l,vs,z,p),h⟩),rst:=St.rst (af.S (aL x hp sk rs fz G0) ⟨(l,vs,z,p),h⟩),fz:=St.fz (af.S (aL x hp sk rs fz G0) ⟨(l,vs,z,p),h⟩)}),hp:=St.hp {loc:=put (p' "begin") (SV.int (↑p:Int)) (St.loc (af.S (aL x hp sk rs fz G0) ⟨(l,vs,z,p),h⟩)),hp:=St.hp (af.S (aL x hp sk rs fz G0) ⟨(l,vs,z,p),h⟩),sk:=St.sk (af.S (aL x hp sk rs fz G0) ⟨(l,vs,z,p),h⟩),tp:=St.tp (af.S (aL x hp sk rs fz G0) ⟨(l,vs,z,p),h⟩),rst:=St.rst (af.S (aL x hp sk rs fz G0) ⟨(l,vs,z,p),h⟩),fz:=St.fz (af.S (aL x hp sk rs fz G0) ⟨(l,vs,z,p),h⟩)},sk:=St.sk {loc:=put (p' "begin") (SV.int (↑p:Int)) (St.loc (af.S (aL x hp sk rs fz G0) ⟨(l,vs,z,p),h⟩)),hp:=St.hp (af.S (aL x hp sk rs fz G0) ⟨(l,vs,z,p),h⟩),sk:=St.sk (af.S (aL x hp sk rs fz G0) ⟨(l,vs,z,p),h⟩),tp:=St.tp (af.S (aL x hp sk rs fz G0) ⟨(l,vs,z,p),h⟩),rst:=St.rst (af.S (aL x hp sk rs fz G0) ⟨(l,vs,z,p),h⟩),fz:=St.fz (af.S (aL x hp sk rs fz G0) ⟨(l,vs,z,p),h⟩)},tp:=St.tp {loc:=put (p' "begin") (SV.int (↑p:Int)) (St.loc (af.S (aL x hp sk rs fz G0) ⟨(l,vs,z,p),h⟩)),hp:=St.hp (af.S (aL x hp sk rs fz G0) ⟨(l,vs,z,p),h⟩),sk:=St.sk (af.S (aL x hp sk rs fz G0) ⟨(l,vs,z,p),h⟩),tp:=St.tp (af.S (aL x hp sk rs fz G0) ⟨(l,vs,z,p),h⟩),rst:=St.rst (af.S (aL x hp sk rs fz G0) ⟨(l,vs,z,p),h⟩),fz:=St.fz (af.S (aL x hp sk rs fz G0) ⟨(l,vs,z,p),h⟩)},rst:=St.rst {loc:=put (p' "begin") (SV.int (↑p:Int)) (St.loc (af.S (aL x hp sk rs fz G0) ⟨(l,vs,z,p),h⟩)),hp:=St.hp (af.S (aL x hp sk rs fz G0) ⟨(l,vs,z,p),h⟩),sk:=St.sk (af.S (aL x hp sk rs fz G0) ⟨(l,vs,z,p),h⟩),tp:=St.tp (af.S (aL x hp sk rs fz G0) ⟨(l,vs,z,p),h⟩),rst:=St.rst (af.S (aL x hp sk rs fz G0) ⟨(l,vs,z,p),h⟩),fz:=St.fz (af.S (aL x hp sk rs fz G0) ⟨(l,vs,z,p),h⟩)},fz:=St.fz {loc:=put (p' "begin") (SV.int (↑p:Int)) (St.loc (af.S (aL x hp sk rs fz G0) ⟨(l,vs,z,p),h⟩)),hp:=St.hp (af.S (aL x hp sk rs fz G0) ⟨(l,vs,z,p),h⟩),sk:=St.sk (af.S (aL x hp sk rs fz G0) ⟨(l,vs,z,p),h⟩),tp:=St.tp (af.S (aL x hp sk rs fz G0) ⟨(l,vs,z,p),h⟩),rst:=St.rst (af.S (aL x hp sk rs fz G0) ⟨(l,vs,z,p),h⟩),fz:=St.fz (af.S (aL x hp sk rs fz G0) ⟨(l,vs,z,p),h⟩)}})) (uW x hp sk rs fz l vs z p ((↑p:Int)+(1:Int)))∧∀(l_1:Nat)(vs_1:List Value)(z_1:List (Addr×Obj))(b p_1:Nat),G1 (SV.int (↑p:Int)) (l_1,vs_1,z_1,b,p_1)→Pg x<1152921504606846976∧(decide ((↑p_1:Int)<(↑(Pg x):Int))=true→(-(↑(Pg x):Int)≤(↑p_1:Int)∧(↑p_1:Int)<(↑(Pg x):Int)∧Pg x<1152921504606846976)∧((Qm x (↑p_1:Int) !=p' "\n")=true→MZ x hp sk rs fz (G1 (n5 {loc:=put (p' "at") (SV.int ((↑p:Int)+(1:Int))) (St.loc {loc:=put (p' "begin") (SV.int (↑p:Int)) (St.loc (af.S (aL x hp sk rs fz G0) ⟨(l,vs,z,p),h⟩)),hp:=St.hp (af.S (aL x hp sk rs fz G0) ⟨(l,vs,z,p),h⟩),sk:=St.sk (af.S (aL x hp sk rs fz G0) ⟨(l,vs,z,p),h⟩),tp:=St.tp (af.S (aL x hp sk rs fz G0) ⟨(l,vs,z,p),h⟩),rst:=St.rst (af.S (aL x hp sk rs fz G0) ⟨(l,vs,z,p),h⟩),fz:=St.fz (af.S (aL x hp sk rs fz G0) ⟨(l,vs,z,p),h⟩)}),hp:=St.hp {loc:=put (p' "begin") (SV.int (↑p:Int)) (St.loc (af.S (aL x hp sk rs fz G0) ⟨(l,vs,z,p),h⟩)),hp:=St.hp (af.S (aL x hp sk rs fz G0) ⟨(l,vs,z,p),h⟩),sk:=St.sk (af.S (aL x hp sk rs fz G0) ⟨(l,vs,z,p),h⟩),tp:=St.tp (af.S (aL x hp sk rs fz G0) ⟨(l,vs,z,p),h⟩),rst:=St.rst (af.S (aL x hp sk rs fz G0) ⟨(l,vs,z,p),h⟩),fz:=St.fz (af.S (aL x hp sk rs fz G0) ⟨(l,vs,z,p),h⟩)},sk:=St.sk {loc:=put (p' "begin") (SV.int (↑p:Int)) (St.loc (af.S (aL x hp sk rs fz G0) ⟨(l,vs,z,p),h⟩)),hp:=St.hp (af.S (aL x hp sk rs fz G0) ⟨(l,vs,z,p),h⟩),sk:=St.sk (af.S (aL x hp sk rs fz G0) ⟨(l,vs,z,p),h⟩),tp:=St.tp (af.S (aL x hp sk rs fz G0) ⟨(l,vs,z,p),h⟩),rst:=St.rst (af.S (aL x hp sk rs fz G0) ⟨(l,vs,z,p),h⟩),fz:=St.fz (af.S (aL x hp sk rs fz G0) ⟨(l,vs,z,p),h⟩)},tp:=St.tp {loc:=put (p' "begin") (SV.int (↑p:Int)) (St.loc (af.S (aL x hp sk rs fz G0) ⟨(l,vs,z,p),h⟩)),hp:=St.hp (af.S (aL x hp sk rs fz G0) ⟨(l,vs,z,p),h⟩),sk:=St.sk (af.S (aL x hp sk rs fz G0) ⟨(l,vs,z,p),h⟩),tp:=St.tp (af.S (aL x hp sk rs fz G0) ⟨(l,vs,z,p),h⟩),rst:=St.rst (af.S (aL x hp sk rs fz G0) ⟨(l,vs,z,p),h⟩),fz:=St.fz (af.S (aL x hp sk rs fz G0) ⟨(l,vs,z,p),h⟩)},rst:=St.rst {loc:=put (p' "begin") (SV.int (↑p:Int)) (St.loc (af.S (aL x hp sk rs fz G0) ⟨(l,vs,z,p),h⟩)),hp:=St.hp (af.S (aL x hp sk rs fz G0) ⟨(l,vs,z,p),h⟩),sk:=St.sk (af.S (aL x hp sk rs fz G0) ⟨(l,vs,z,p),h⟩),tp:=St.tp (af.S (aL x hp sk rs fz G0) ⟨(l,vs,z,p),h⟩),rst:=St.rst (af.S (aL x hp sk rs fz G0) ⟨(l,vs,z,p),h⟩),fz:=St.fz (af.S (aL x hp sk rs fz G0) ⟨(l,vs,z,p),h⟩)},fz:=St.fz {loc:=put (p' "begin") (SV.int (↑p:Int)) (St.loc (af.S (aL x hp sk rs fz G0) ⟨(l,vs,z,p),h⟩)),hp:=St.hp (af.S (aL x hp sk rs fz G0) ⟨(l,vs,z,p),h⟩),sk:=St.sk (af.S (aL x hp sk rs fz G0) ⟨(l,vs,z,p),h⟩),tp:=St.tp (af.S (aL x hp sk rs fz G0) ⟨(l,vs,z,p),h⟩),rst:=St.rst (af.S (aL x hp sk rs fz G0) ⟨(l,vs,z,p),h⟩),fz:=St.fz (af.S (aL x hp sk rs fz G0) ⟨(l,vs,z,p),h⟩)}})) (Pg x-p_1) (uW x hp sk rs fz l_1 vs_1 z_1 b ((↑p_1:Int)+(1:Int))))∧((Qm x (↑p_1:Int) !=p' "\n")=false→zx x hp sk rs fz G0 (Pg x-p) (uW x hp sk rs fz l_1 vs_1 z_1 b (↑p_1:Int))))∧(decide ((↑p_1:Int)<(↑(Pg x):Int))=false→zx x hp sk rs fz G0 (Pg x-p) (uW x hp sk rs fz l_1 vs_1 z_1 b (↑p_1:Int))))∧((Qm x (↑p:Int)==p' ";")=false→(-(↑(Pg x):Int)≤(↑p:Int)∧(↑p:Int)<(↑(Pg x):Int)∧Pg x<1152921504606846976)∧(aN (Qm x (↑p:Int)) (p' "abc.")=true→L9 x hp sk rs fz (G2 (n5 {loc:=put (p' "at") (SV.int ((↑p:Int)+(1:Int))) (St.loc {loc:=put (p' "begin") (SV.int (↑p:Int)) (St.loc (af.S (aL x hp sk rs fz G0) ⟨(l,vs,z,p),h⟩)),hp:=St.hp (af.S (aL x hp sk rs fz G0) ⟨(l,vs,z,p),h⟩),sk:=St.sk (af.S (aL x hp sk rs fz G0) ⟨(l,vs,z,p),h⟩),tp:=St.tp (af.S (aL x hp sk rs fz G0) ⟨(l,vs,z,p),h⟩),rst:=St.rst (af.S (aL x hp sk rs fz G0) ⟨(l,vs,z,p),h⟩),fz:=St.fz (af.S (aL x hp sk rs fz G0) ⟨(l,vs,z,p),h⟩)}),hp:=St.hp {loc:=put (p' "begin") (SV.int (↑p:Int)) (St.loc (af.S (aL x hp sk rs fz G0) ⟨(l,vs,z,p),h⟩)),hp:=St.hp (af.S (aL x hp sk rs fz G0) ⟨(l,vs,z,p),h⟩),sk:=St.sk (af.S (aL x hp sk rs fz G0) ⟨(l,vs,z,p),h⟩),tp:=St.tp (af.S (aL x hp sk rs fz G0) ⟨(l,vs,z,p),h⟩),rst:=St.rst (af.S (aL x hp sk rs fz G0) ⟨(l,vs,z,p),h⟩),fz:=St.fz (af.S (aL x hp sk rs fz G0) ⟨(l,vs,z,p),h⟩)},sk:=St.sk {loc:=put (p' "begin") (SV.int (↑p:Int)) (St.loc (af.S (aL x hp sk rs fz G0) ⟨(l,vs,z,p),h⟩)),hp:=St.hp (af.S (aL x hp sk rs fz G0) ⟨(l,vs,z,p),h⟩),sk:=St.sk (af.S (aL x hp sk rs fz G0) ⟨(l,vs,z,p),h⟩),tp:=St.tp (af.S (aL x hp sk rs fz G0) ⟨(l,vs,z,p),h⟩),rst:=St.rst (af.S (aL x hp sk rs fz G0) ⟨(l,vs,z,p),h⟩),fz:=St.fz (af.S (aL x hp sk rs fz G0) ⟨(l,vs,z,p),h⟩)},tp:=St.tp {loc:=put (p' "begin") (SV.int (↑p:Int)) (St.loc (af.S (aL x hp sk rs fz G0) ⟨(l,vs,z,p),h⟩)),hp:=St.hp (af.S (aL x hp sk rs fz G0) ⟨(l,vs,z,p),h⟩),sk:=St.sk (af.S (aL x hp sk rs fz G0) ⟨(l,vs,z,p),h⟩),tp:=St.tp (af.S (aL x hp sk rs fz G0) ⟨(l,vs,z,p),h⟩),rst:=St.rst (af.S (aL x hp sk rs fz G0) ⟨(l,vs,z,p),h⟩),fz:=St.fz (af.S (aL x hp sk rs fz G0) ⟨(l,vs,z,p),h⟩)},rst:=St.rst {loc:=put (p' "begin") (SV.int (↑p:Int)) (St.loc (af.S (aL x hp sk rs fz G0) ⟨(l,vs,z,p),h⟩)),hp:=St.hp (af.S (aL x hp sk rs fz G0) ⟨(l,vs,z,p),h⟩),sk:=St.sk (af.S (aL x hp sk rs fz G0) ⟨(l,vs,z,p),h⟩),tp:=St.tp (af.S (aL x hp sk rs fz G0) ⟨(l,vs,z,p),h⟩),rst:=St.rst (af.S (aL x hp sk rs fz G0) ⟨(l,vs,z,p),h⟩),fz:=St.fz (af.S (aL x hp sk rs fz G0) ⟨(l,vs,z,p),h⟩)},fz:=St.fz {loc:=put (p' "begin") (SV.int (↑p:Int)) (St.loc (af.S (aL x hp sk rs fz G0) ⟨(l,vs,z,p),h⟩)),hp:=St.hp (af.S (aL x hp sk rs fz G0) ⟨(l,vs,z,p),h⟩),sk:=St.sk (af.S (aL x hp sk rs fz G0) ⟨(l,vs,z,p),h⟩),tp:=St.tp (af.S (aL x hp sk rs fz G0) ⟨(l,vs,z,p),h⟩),rst:=St.rst (af.S (aL x hp sk rs fz G0) ⟨(l,vs,z,p),h⟩),fz:=St.fz (af.S (aL x hp sk rs fz G0) ⟨(l,vs,z,p),h⟩)}})) (uW x hp sk rs fz l vs z p ((↑p:Int)+(1:Int)))∧∀(l_1:Nat)(vs_1:List Value)(z_1:List (Addr×Obj))(b p_1:Nat),G2 (SV.int (↑p:Int)) (l_1,vs_1,z_1,b,p_1)→Pg x<1152921504606846976∧(decide ((↑p_1:Int)<(↑(Pg x):Int))=true→(-(↑(Pg x):Int)≤(↑p_1:Int)∧(↑p_1:Int)<(↑(Pg x):Int)∧Pg x<1152921504606846976)∧(aN (Qm x (↑p_1:Int)) (p' "abc.")=true→MZ x hp sk rs fz (G2 (n5 {loc:=put (p' "at") (SV.int ((↑p:Int)+(1:Int))) (St.loc {loc:=put (p' "begin") (SV.int (↑p:Int)) (St.loc (af.S (aL x hp sk rs fz G0) ⟨(l,vs,z,p),h⟩)),hp:=St.hp (af.S (aL x hp sk rs fz G0) ⟨(l,vs,z,p),h⟩),sk:=St.sk (af.S (aL x hp sk rs fz G0) ⟨(l,vs,z,p),h⟩),tp:=St.tp (af.S (aL x hp sk rs fz G0) ⟨(l,vs,z,p),h⟩),rst:=St.rst (af.S (aL x hp sk rs fz G0) ⟨(l,vs,z,p),h⟩),fz:=St.fz (af.S (aL x hp sk rs fz G0) ⟨(l,vs,z,p),h⟩)}),hp:=St.hp {loc:=put (p' "begin") (SV.int (↑p:Int)) (St.loc (af.S (aL x hp sk rs fz G0) ⟨(l,vs,z,p),h⟩)),hp:=St.hp (af.S (aL x hp sk rs fz G0) ⟨(l,vs,z,p),h⟩),sk:=St.sk (af.S (aL x hp sk rs fz G0) ⟨(l,vs,z,p),h⟩),tp:=St.tp (af.S (aL x hp sk rs fz G0) ⟨(l,vs,z,p),h⟩),rst:=St.rst (af.S (aL x hp sk rs fz G0) ⟨(l,vs,z,p),h⟩),fz:=St.fz (af.S (aL x hp sk rs fz G0) ⟨(l,vs,z,p),h⟩)},sk:=St.sk {loc:=put (p' "begin") (SV.int (↑p:Int)) (St.loc (af.S (aL x hp sk rs fz G0) ⟨(l,vs,z,p),h⟩)),hp:=St.hp (af.S (aL x hp sk rs fz G0) ⟨(l,vs,z,p),h⟩),sk:=St.sk (af.S (aL x hp sk rs fz G0) ⟨(l,vs,z,p),h⟩),tp:=St.tp (af.S (aL x hp sk rs fz G0) ⟨(l,vs,z,p),h⟩),rst:=St.rst (af.S (aL x hp sk rs fz G0) ⟨(l,vs,z,p),h⟩),fz:=St.fz (af.S (aL x hp sk rs fz G0) ⟨(l,vs,z,p),h⟩)},tp:=St.tp {loc:=put (p' "begin") (SV.int (↑p:Int)) (St.loc (af.S (aL x hp sk rs fz G0) ⟨(l,vs,z,p),h⟩)),hp:=St.hp (af.S (aL x hp sk rs fz G0) ⟨(l,vs,z,p),h⟩),sk:=St.sk (af.S (aL x hp sk rs fz G0) ⟨(l,vs,z,p),h⟩),tp:=St.tp (af.S (aL x hp sk rs fz G0) ⟨(l,vs,z,p),h⟩),rst:=St.rst (af.S (aL x hp sk rs fz G0) ⟨(l,vs,z,p),h⟩),fz:=St.fz (af.S (aL x hp sk rs fz G0) ⟨(l,vs,z,p),h⟩)},rst:=St.rst {loc:=put (p' "begin") (SV.int (↑p:Int)) (St.loc (af.S (aL x hp sk rs fz G0) ⟨(l,vs,z,p),h⟩)),hp:=St.hp (af.S (aL x hp sk rs fz G0) ⟨(l,vs,z,p),h⟩),sk:=St.sk (af.S (aL x hp sk rs fz G0) ⟨(l,vs,z,p),h⟩),tp:=St.tp (af.S (aL x hp sk rs fz G0) ⟨(l,vs,z,p),h⟩),rst:=St.rst (af.S (aL x hp sk rs fz G0) ⟨(l,vs,z,p),h⟩),fz:=St.fz (af.S (aL x hp sk rs fz G0) ⟨(l,vs,z,p),h⟩)},fz:=St.fz {loc:=put (p' "begin") (SV.int (↑p:Int)) (St.loc (af.S (aL x hp sk rs fz G0) ⟨(l,vs,z,p),h⟩)),hp:=St.hp (af.S (aL x hp sk rs fz G0) ⟨(l,vs,z,p),h⟩),sk:=St.sk (af.S (aL x hp sk rs fz G0) ⟨(l,vs,z,p),h⟩),tp:=St.tp (af.S (aL x hp sk rs fz G0) ⟨(l,vs,z,p),h⟩),rst:=St.rst (af.S (aL x hp sk rs fz G0) ⟨(l,vs,z,p),h⟩),fz:=St.fz (af.S (aL x hp sk rs fz G0) ⟨(l,vs,z,p),h⟩)}})) (Pg x-p_1) (uW x hp sk rs fz l_1 vs_1 z_1 b ((↑p_1:Int)+(1:Int))))∧(aN (Qm x (↑p_1:Int)) (p' "abc.")=false→Pg x≤1000000∧∀(a:Nat),vc vs_1<1048576∧∀(u:Value),(∃(a_2:Nat),some a=some a_2∧u=Pa a_2)→zx x hp sk rs fz G0 (Pg x-p) (Gh x hp sk rs fz l_1 vs_1 z_1 b (↑p_1:Int) u a (PC x (some (↑b:Int)) (some (↑p_1:Int))))))∧(decide ((↑p_1:Int)<(↑(Pg x):Int))=false→Pg x≤1000000∧∀(a:Nat),vc vs_1<1048576∧∀(u:Value),(∃(a_2:Nat),some a=some a_2∧u=Pa a_2)→zx x hp sk rs fz G0 (Pg x-p) (Gh x hp sk rs fz l_1 vs_1 z_1 b (↑p_1:Int) u a (PC x (some (↑b:Int)) (some (↑p_1:Int))))))∧(aN (Qm x (↑p:Int)) (p' "abc.")=false→(-(↑(Pg x):Int)≤(↑p:Int)∧(↑p:Int)<(↑(Pg x):Int)∧Pg x<1152921504606846976)∧((!aN (Qm x (↑p:Int)) (p' " \n"))=true→(-(↑(Pg x):Int)≤(↑p:Int)∧(↑p:Int)<(↑(Pg x):Int)∧Pg x<1152921504606846976)∧∀(a:Nat),vc vs<1048576∧∀(u:Value),(∃(a_2:Nat),some a=some a_2∧u=Pa a_2)→zx x hp sk rs fz G0 (Pg x-p) (Gh x hp sk rs fz l vs z p ((↑p:Int)+(1:Int)) u a (Qm x (↑p:Int))))∧((!aN (Qm x (↑p:Int)) (p' " \n"))=false→zx x hp sk rs fz G0 (Pg x-p) (uW x hp sk rs fz l vs z p ((↑p:Int)+(1:Int)))))))∧(decide ((↑p:Int)<(↑(Pg x):Int))=false→K (SV.tmp (0)) (LP x hp sk rs fz l vs z (↑p:Int)))) →
  bw (bE {cs:=aK (aJ 76),call:=aw [],ke:=ke,inv:=λn st=>Iw (aL x hp sk rs fz G0) (LK x hp sk rs fz (G1 (n5 st))) (LK x hp sk rs fz (G2 (n5 st))) n} (xt w sc) 12) (bz (aJ 76)) {loc:=[("text",.str x)],hp:=hp,sk:=sk,tp:=[],rst:=rs,fz:=fz} (λfl st=>K (bW fl) st):=
 Qg (by kernel_rfl)
section
variable {x:Str}{hp sk:List HE}{rs fz:ah}{l:Addr}{vs:List Value}{z:ah}{b p m:Nat}{q:Int}
theorem sd (htp:tp=.vlist l vs2::g)(h:P {loc:=[("text",.str x),("at",.int q),("found",.tmp 0)],hp:=hp,sk:=sk,tp:=[.vlist l vs2],rst:=rs,fz:=fz2}):Ent {loc:=Eb x b q,hp:=hp,sk:=sk,tp:=tp,rst:=rs,fz:=fz2} P:=by
 subst htp
 let l3:List (Str×SV):=[("text",.str x),("at",.int q),("found",.tmp 0)]
 let D1:Ad:=⟨hp.map HE.addr,sk.map HE.addr,(HE.vlist l vs2::g).map HE.addr⟩
 let D2:Ad:=⟨hp.map HE.addr,sk.map HE.addr,[l]⟩
 have lc:fF (λs1 s2=>∀v,s1.R D1 v→s2.R D2 v) l3 l3:=.cons (λv r=>r) (.cons (λv r=>r) (.cons (λv r=>r) .nil))
 refine Ent.rR (e':=.vlist l vs2) rfl rfl (λ_ _ h=>h) (λy sv' e=>?_) h
 obtain⟨sv,q1,q2⟩:=lc.look e
 exact⟨sv,bX (l:=l3) (m:=[("begin",.int (b:Int))]) q1,q2⟩
theorem me (g:DY x fz (l,vs,z,p))(hq:q=(p:Int))(hm:x.length-p<m):zx x hp sk rs fz (DY x fz) m (uW x hp sk rs fz l vs z b q):=by
 subst hq
 exact sd rfl ⟨⟨(l,vs,z,p),g⟩,hm,rfl⟩
theorem rj (g:G (l,vs,z,b,p))(hq:q=(p:Int))(hm:x.length-p<m):MZ x hp sk rs fz G m (uW x hp sk rs fz l vs z b q):=by
 subst hq
 exact .refl ⟨⟨(l,vs,z,b,p),g⟩,hm,rfl⟩
theorem CV (g:G (l,vs,z,b,p))(hq:q=(p:Int)):L9 x hp sk rs fz G (uW x hp sk rs fz l vs z b q):=by
 subst hq
 exact .refl ⟨⟨(l,vs,z,b,p),g⟩,rfl⟩
theorem Ent.tw {st:St}(he:st.tp[j]?=some e)(h:∀le,HL st.ad.bot e le→Ent {st with tp:=st.tp.set j (.gone e.addr),fz:=le++st.fz} P):Ent st P:=⟨λX s f I=>by
 obtain⟨le,H,I'⟩:=Inv.dh I (j:=j) (e:=e) he
 exact(h le H).h X s f I'⟩
theorem yg (g:mz x fz vs z b)(hb:b<p)(hp':p≤x.length)(hq:q=(p:Int))(hm:x.length-p<m)(hw:w=cJ t)(ht:toks (aC x) b=(t,b)::toks (aC x) p)(hu:u=.ref a):zx x hp sk rs fz (DY x fz) m (Gh x hp sk rs fz l vs z b q u a w):=by
 subst hq hu hw
 cases g with
 |mk ts _ tv e n=>
  refine Ent.tw (j:=1) (e:=.tup a [.str (cJ t),.int (b:Int)]) rfl λle H=>?_
  obtain⟨us,ir,rfl⟩:=H.tupI
  obtain⟨_,_,rfl,⟨t1,rfl⟩,⟨t2,rfl⟩⟩:=nJ ir
  refine sd rfl ⟨⟨(l,vs++[.ref a],[(a,cZ [.str (cJ t) t1,.int (b:Int) t2])]++z,p),.mk (ts++[(t,b)]) hp' ?_ ?_ ?_⟩,hm,?_⟩
  ·exact fD.snoc (tv.mono λp hp=>.tail _ hp) ⟨a,t1,t2,rfl,.head _⟩
  ·rw[e,ht,Pj];rfl
  ·show(vs++[Pa a]).length≤p
   rw[PU];exact Pr n hb
  ·rfl
end
section
variable {x:Str}{fz:ah}{vs:List Value}{z:ah}{b p:Nat}
theorem mz.to (g:mz x fz vs z b)(hb:b≤p)(hp:p≤x.length)(e:toks (aC x) b=toks (aC x) p):mz x fz vs z p:=by
 cases g with|mk ts _ tv e1 n=>exact .mk ts hp tv (e▸e1) (Pk n hb)
theorem wu (hx:iA x)(hb:b<p)(hp:p≤x.length)(e:(aC x).getD b 0=59)(s:cA (λc=>c !=10) (aC x) p=cA (λc=>c !=10) (aC x) b)(stop:cA (λc=>c !=10) (aC x) p=p):toks (aC x) b=toks (aC x) p:=by
 have hl:=bR x
 refine jL (b9 hx) (by lia) (by lia) ?_
 rw[jc (by lia) e,←s,stop]
theorem uT (hx:iA x)(hp:p<x.length)(h:qo x p=32∨qo x p=10):toks (aC x) p=toks (aC x) (p+1):=by
 have hl:=bR x
 refine jL (b9 hx) (by lia) (by lia) (il (by lia) ?_)
 rw[aY hp]
 rcases h with h|h<;>rw[h]
 ·exact .inr rfl
 ·exact .inl rfl
theorem sh (hx:iA x)(hp:p<x.length)(h1:qo x p≠59)(h2:qo x p≠10)(h3:qo x p≠32)(e:aS (aC x) p=(t,n)):toks (aC x) p=(t,p)::toks (aC x) n:=by
 have hl:=bR x
 have hs:ae (aC x) p=p:=jg (by lia) (by rw[aY hp];lia) (by rw[aY hp];lia) (by rw[aY hp];lia)
 have:=ec (b9 hx) (p:=p) (by lia) (by rw[hs];lia)
 rw[hs,e]at this
 exact this
theorem Be {b:Str}(h:SV.txt a=.txt b):a=b:=by cases h;rfl
theorem sR (h:SV.int a=.int b):a=b:=by cases h;rfl
theorem DN {q:Nat}(h:LN t q=[.txt y,.none,.int (q:Nat)]):cJ t=y:=by
 cases t with
 |sym w=>exact absurd (SA (SA h).2).1 (by intro e;cases e)
 |_=>exact Be (SA h).1
inductive J7 (x:Str)(b p:Nat):Prop
 |mk (t:Tk)(e:toks (aC x) b=(t,b)::toks (aC x) p)(w:PC x (some (b:Int)) (some (p:Int))=cJ t)
theorem vB (hx:iA x)(hb:b<p)(hp:p≤x.length)(hk:brk ((aC x).getD b 0)=false) (s:aW (aC x) p=aW (aC x) b)(stop:aW (aC x) p=p):J7 x b p:=by
 have hbl:b<x.length:=PV hb hp
 rw[aY hbl]at hk
 have np:=(jk (jI hx hbl)).np
 rw[hk,Bool.false_or,Pe,Pe,Pe]at np
 have f:bb ((aC x).getD b 0)=none:=by rw[aY hbl];exact of_decide_eq_true np.1.1.1
 have e:=oZ f
 rw[←s,stop]at e
 refine⟨_,sh hx hbl (bne_iff_ne.mp np.1.1.2) (bne_iff_ne.mp np.1.2) (bne_iff_ne.mp np.2) e,?_⟩
 rw[vT (QD hb) hp]
 by_cases hd:cj (aC x) b p=p' "."
 ·rw[if_pos hd];exact hd
 ·rw[if_neg hd];rfl
inductive MQ (x:Str)(p:Nat):Prop
 |mk (t:Tk)(e:toks (aC x) p=(t,p)::toks (aC x) (p+1))(w:Qm x (p:Int)=cJ t)
theorem A' (hx:iA x)(hp:p<x.length)(h1:(qo x p==59)=false)(h2:(qo x p==32||qo x p==10)=false)(hk:brk (qo x p:Int)=true):MQ x p:=by
 have hc:=jI hx hp
 have pl:=(jk hc).pl
 rw[SE]at h2
 rw[h1,h2.1,h2.2,hk]at pl
 have f:bb ((aC x).getD p 0)=some ⟨#[qo x p]⟩:=by rw[aY hp];exact of_decide_eq_true pl
 obtain⟨t,e,hs⟩:=lH (by rw[aY hp];exact hc) f
 exact⟨t,sh hx hp (beq_eq_false_iff_ne.mp h1) (beq_eq_false_iff_ne.mp h2.2) (beq_eq_false_iff_ne.mp h2.1) e,(f6 hp).trans (DN hs).symm⟩
end
inductive rS (fz:ah)(x:Str)(P:Addr→ah→Prop):Prop
 |mk (hx:iA x)(hz:x.length≤100)(hk:∀l vs n z,(l,listOf vs.toArray n)∈z→fD (z++fz) vs (toks (aC x) 0)→vs.length≤x.length→P l z)
def ml:cK:=λargs st k _=>qT mW args λx=>rS st.fz x λl z=>k (.opq (.ref l)) {st with fz:=z++st.fz}
theorem mV:Nt x hp sk rs fz (DY x fz) {loc:=[("text",.str x),("at",.num 0),("found",.opq (.ref a))],hp:=hp,sk:=sk,tp:=[.list a [] [],.tup a1 [.opq (.ref a),.num 0]],rst:=rs,fz:=fz}:=by
 let D1:Ad:=⟨hp.map HE.addr,sk.map HE.addr,[a,a1]⟩
 let D2:Ad:=⟨hp.map HE.addr,sk.map HE.addr,[a]⟩
 have lc:fF (λs1 s2=>∀v,s1.R D1 v→s2.R D2 v) [("text",.str x),("at",.num 0),("found",.opq (.ref a))] [("text",.str x),("at",.int ((0:Nat):Int)),("found",.tmp 0)]:=.cons (λv r=>r) (.cons (λv r=>r) (.cons (λv r=>⟨a,rfl,r⟩) .nil))
 refine Ent.rR (e':=.vlist a []) rfl rfl (λD l h=>?_) (λy sv' q=>lc.look q) ⟨⟨(a,[],[],0),.mk [] (Ql _) .nil rfl (P5 0)⟩,rfl⟩
 obtain⟨vs,n,i,rfl⟩:=h.listI
 rcases G7 i with rfl
 exact .vlist
theorem tT (O:X.Ok)(hn:2≤X.n):az X 729 ml:=by
 refine aP (n:=0) Lh IX O hn λst args k ke hc=>?_
 obtain⟨x,rfl,hx,hz,hk⟩:=cf hc
 clear hc
 refine bD.mk (λtl=>{cs:=aK (aJ 76),call:=aw [],ke:=ke,inv:=λn aq=>Iw (aL x st.hp st.sk (tl++st.rst) st.fz (DY x st.fz)) (LK x st.hp st.sk (tl++st.rst) st.fz (NZ x st.fz (n5 aq))) (LK x st.hp st.sk (tl++st.rst) st.fz (NH x st.fz (n5 aq))) n}) rfl rfl (λ_=>rfl) (λ_ X' S=>ax S dJ) λtl=>?_
 have big:x.length<1152921504606846976:=Pr hz (by decide)
 have bnd:∀p:Nat,decide ((p:Int)<(x.length:Int))=true→p<x.length∧-((x.length:Nat):Int)≤(p:Int)∧(p:Int)<(x.length:Int)∧x.length<1152921504606846976:=λp h=>by
  have:=of_decide_eq_true h
  exact⟨Int.ofNat_lt.mp this,TK (Int.neg_nonpos_of_nonneg (PG _)) (PG _),this,big⟩
 have nlt:∀p:Nat,decide ((p:Int)<(x.length:Int))=false→x.length≤p:=λp h=>by
  have:=of_decide_eq_false h
  exact Nat.le_of_not_lt λq=>this (Int.ofNat_lt.mpr q)
 have cl:=bR x
 have cp:∀{p:Nat},p<x.length→p<(aC x).length:=λh=>Nat.lt_of_lt_of_eq h cl.symm
 have cn:∀{p:Nat},x.length≤p→(aC x).length≤p:=λh=>Pk (Rm cl) h
 refine u4 _ _ _ x st.hp st.sk (tl++st.rst) st.fz _ (DY x st.fz) (NZ x st.fz) (NH x st.fz) λa a1=>⟨mV,λl vs z p g=>⟨big,λhlt=>?_,λhge=>?_⟩⟩
 ·rcases bnd p hlt with⟨hp,hb⟩
  have hc:=jk (jI hx hp)
  have g:mz x st.fz vs z p:=g
  have sm:∀{a:Nat},a≤p→a<1048576:=λh=>Pr h (PV hp (Pk hz (by decide)))
  rw[f6 hp,hc.semi,hc.wd,hc.bl]
  refine⟨hb,λh59=>⟨CV (p:=p+1) ⟨rfl,g,P0 p,hp,?_,?_⟩ rfl,λl vs z b p1 R=>?_⟩,λh59=>⟨hb,λhw=>⟨CV (p:=p+1) ⟨rfl,g,P0 p,hp,?_,?_⟩ rfl,λl vs z b p1 R=>?_⟩,λhw=>⟨hb,λhbl=>⟨hb,λa=>⟨?_,λu hu=>?_⟩⟩,λhbl=>?_⟩⟩⟩
  ·rw[aY hp,beq_iff_eq.mp h59];rfl
  ·exact(ej (cp hp) (by rw[aY hp,beq_iff_eq.mp h59];rfl)).symm
  ·obtain⟨hsv,gR,lt,le,e,s⟩:=R
   obtain rfl:p=b:=Int.ofNat_inj.mp (sR hsv)
   have lt:p<p1:=lt
   have le:p1≤x.length:=le
   refine⟨big,λh1=>?_,λh1=>?_⟩
   ·rcases bnd p1 h1 with⟨hp1,hb1⟩
    have hc1:=jk (jI hx hp1)
    rw[f6 hp1,hc1.nl]
    refine⟨hb1,λh2=>rj (p:=p1+1) ⟨rfl,gR,Q4 lt,hp1,e,?_⟩ rfl (QH _ _ hp1),λh2=>me (p:=p1) (gR.to (QD lt) le (wu hx lt le e s (mU (cp hp1) (by rw[aY hp1];rw[bne_eq_false_iff_eq]at h2;rw[h2];rfl)))) rfl (Qk hp lt)⟩
    exact(ej (pr:=λc=>c !=10) (cp hp1) (by rw[aY hp1];exact bne_iff_ne.mpr (by have:=bne_iff_ne.mp h2;lia))).symm.trans s
   ·have:=nlt p1 h1
    exact me (p:=p1) (gR.to (QD lt) le (wu hx lt le e s (fy (cn this)))) rfl (Qk hp lt)
  ·rw[aY hp];rw[PZ]at hw;exact hw
  ·exact(l8 (cp hp) (by rw[aY hp];rw[PZ]at hw;exact hw)).symm
  ·obtain⟨hsv,gR,lt,le,hbk,s⟩:=R
   obtain rfl:p=b:=Int.ofNat_inj.mp (sR hsv)
   have lt:p<p1:=lt
   have le:p1≤x.length:=le
   have vl:vs.length≤p:=by cases gR with|mk _ _ _ _ n=>exact n
   have fin:aW (aC x) p1=p1→x.length≤1000000∧∀(a:Nat),vc vs<1048576∧∀(u:Value),(∃c:Addr,some a=some c∧u=Pa c)→zx x st.hp st.sk (tl++st.rst) st.fz (DY x st.fz) (x.length-p) (Gh x st.hp st.sk (tl++st.rst) st.fz l vs z p (p1:Int) u a (PC x (some (p:Int)) (some (p1:Int)))):=λstop=>
    ⟨Pk hz (by decide),λa=>⟨sm vl,λu hu=>by
     obtain⟨c,e1,hu⟩:=hu
     rcases Pd e1 with rfl
     obtain⟨t,ht,hw⟩:=vB hx lt le hbk s stop
     exact yg gR lt le rfl (Qk hp lt) hw ht hu⟩⟩
   refine⟨big,λh1=>?_,λh1=>fin (fy (cn (nlt p1 h1)))⟩
   rcases bnd p1 h1 with⟨hp1,hb1⟩
   have hc1:=jk (jI hx hp1)
   rw[f6 hp1,hc1.wd]
   refine⟨hb1,λh2=>rj (p:=p1+1) ⟨rfl,gR,Q4 lt,hp1,hbk,?_⟩ rfl (QH _ _ hp1),λh2=>fin (k9 (cp hp1) (by rw[aY hp1];rw[QZ]at h2;exact h2))⟩
   exact(l8 (cp hp1) (by rw[aY hp1];rw[PZ]at h2;exact h2)).symm.trans s
  ·cases g with|mk _ _ _ _ n=>exact sm n
  ·obtain⟨c,e1,hu⟩:=hu
   rcases Pd e1 with rfl
   obtain⟨t,ht,hw2⟩:=A' hx hp h59 (PZ _▸hbl) (QZ _▸hw)
   rw[f6 hp]at hw2
   exact yg g (P0 p) hp rfl (QH _ _ hp) hw2 ht hu
  ·refine me (p:=p+1) (g.to (Q3 p) hp (uT hx hp ?_)) rfl (QH _ _ hp)
   rw[QZ,Rt]at hbl
   exact hbl.imp beq_iff_eq.mp beq_iff_eq.mp
 ·have hge:=nlt p hge
  have g:mz x st.fz vs z p:=g
  cases g with
  |mk ts hp tv e n=>
   refine bg.Md (j:=0) rfl (λle H=>?_) rfl rfl rfl
   rcases H.dW with⟨m,e⟩
   clear H
   subst e
   have ee:toks (aC x) p=[]:=fg (Pk (cn hge) dz)
   rw[ee,Qt]at e
   exact hk l vs m ([(l,listOf vs.toArray m)]++z) (.head _) (e▸tv.mono λp hp=>.tail _ hp) (Pk n hp)
abbrev mR (wd:Str)(fa ta:Addr)(vs:List Value)(dots:Int)(tv:Value)(r hp:List HE)(rs fz:ah)(K:SV→St→Prop)(n:Nat)(it:Nat→Value)(J:Nat→Value×ah→Prop)(d:Nat):Prop:=
  (∀(j:Nat)(i:Value×ah)(I:Nat)(o:Obj),j<n→J j i→∀(a:Nat),(I,o)::rs=(I,o)::rs∧Ent {loc:=[("top",SV.stk (0)),("word",SV.str wd),("things",SV.stk (1)),("dots",SV.int dots),("tail",SV.tmp (0)),("thing",SV.opq (it j))],hp:=hp,sk:=HE.list fa [] [SV.str wd,SV.stk (1),SV.int dots,SV.opq tv]::HE.vlist ta vs::r,tp:=[HE.list a [] [SV.txt (p' "cons"),SV.opq (it j),SV.opq (Pn i)]],rst:=rs,fz:=Pc i++(d,P' (PE (QE vs)) (0:Nat))::fz} λ(st':St)=>∃(i':Value×ah),J (j+(1:Nat)) i'∧st'={loc:=[("top",SV.stk (0)),("word",SV.str wd),("things",SV.stk (1)),("dots",SV.int dots),("tail",SV.opq (Pn i'))],hp:=hp,sk:=HE.list fa [] [SV.str wd,SV.stk (1),SV.int dots,SV.opq tv]::HE.vlist ta vs::r,tp:=[],rst:=rs,fz:=Pc i'++(d,P' (PE (QE vs)) (0:Nat))::fz})∧∀(i:Value×ah),J n i→K (SV.opq (Pn i)) {loc:=[("top",SV.stk (0)),("word",SV.str wd),("things",SV.stk (1)),("dots",SV.int dots),("tail",SV.opq (Pn i))],hp:=hp,sk:=HE.list fa [] [SV.str wd,SV.stk (1),SV.int dots,SV.opq tv]::HE.vlist ta vs::r,tp:=[],rst:=rs,fz:=Pc i++(d,P' (PE (QE vs)) (0:Nat))::fz}
abbrev mE (wd:Str)(fa ta:Addr)(vs:List Value)(dots:Int)(tv:Value)(r hp:List HE)(rs fz:ah)(K:SV→St→Prop)(n:Nat)(it:Nat→Value)(J:Nat→Value×ah→Prop)(d l:Nat)(vs_1:List Value)(nn:Nat):Prop:=
  ((l,P' (PE vs_1) nn)∈(d,P' (PE (QE vs)) (0:Nat))::fz∧(∀(j:Nat)(i:Value×ah),J j i→(l,P' (PE vs_1) nn)∈Pc i++(d,P' (PE (QE vs)) (0:Nat))::fz)∧n=vc vs_1)∧(∀(j:Nat)(v:Value),vs_1[j]?=some v→IR {hp:=[],sk:=[],tp:=[]} [SV.opq (it j)] [v])∧(∀(j:Nat),j<n→1=1)∧(Ent {loc:=[("top",SV.stk (0)),("word",SV.str wd),("things",SV.stk (1)),("dots",SV.int dots),("tail",SV.opq tv)],hp:=hp,sk:=HE.list fa [] [SV.str wd,SV.stk (1),SV.int dots,SV.opq tv]::HE.vlist ta vs::r,tp:=[],rst:=rs,fz:=(d,P' (PE (QE vs)) (0:Nat))::fz} λ(st':St)=>∃(i:Value×ah),J (0) i∧st'={loc:=[("top",SV.stk (0)),("word",SV.str wd),("things",SV.stk (1)),("dots",SV.int dots),("tail",SV.opq (Pn i))],hp:=hp,sk:=HE.list fa [] [SV.str wd,SV.stk (1),SV.int dots,SV.opq tv]::HE.vlist ta vs::r,tp:=[],rst:=rs,fz:=Pc i++(d,P' (PE (QE vs)) (0:Nat))::fz})∧mR wd fa ta vs dots tv r hp rs fz K n it J d
theorem p7 (w:World)(sc:Sc)(ke:KX)(wd:Str)(fa ta:Addr)(vs:List Value)(dots:Int)(tv:Value)(r hp:List HE)(rs fz:ah)(K:SV→St→Prop)(n:Nat)(it:Nat→Value)(J:Nat→Value×ah→Prop) :
  (((wd==p' "[")=true→∀(a:Nat),vc vs≤1000000∧∀(l:Nat)(u:Value),(∃(t:Nat),u=Qn (p' "vector") t)→K (SV.tmp (1)) {loc:=[("top",SV.stk (0)),("word",SV.str wd),("things",SV.stk (1)),("dots",SV.int dots),("tail",SV.opq tv)],hp:=hp,sk:=HE.list fa [] [SV.str wd,SV.stk (1),SV.int dots,SV.opq tv]::HE.vlist ta vs::r,tp:=[HE.list a [] [SV.txt (p' "vector")],HE.vlist l (u::vs)],rst:=rs,fz:=fz})∧((wd==p' "[")=false→((-1:Int)=(-1:Int)∧vc vs≤1000000)∧∀(d:Nat),∃(l:Nat),∃(vs_1:List Value),∃(nn:Nat),Pa d=Pa l∧mE wd fa ta vs dots tv r hp rs fz K n it J d l vs_1 nn)) →
  bw (bE {cs:=aK (aJ 77),call:=aw [],ke:=ke,fors:=λ_=>some λaq=>{ι:=Value×ah,n:=n,items:=λj=>[.opq (it j)],S:=λ_ i=>{loc:=[("top",.stk 0),("word",.str wd),("things",.stk 1),("dots",.int dots),("tail",.opq i.1)],hp:=hp,sk:=.list fa [] [.str wd,.stk 1,.int dots,.opq tv]::.vlist ta vs::r,tp:=[],rst:=rs,fz:=i.2++aq.fz},J:=J,ok:=λ_ h=>h}} (xt w sc) 12) (bz (aJ 77)) {loc:=[("top",.stk 0)],hp:=hp,sk:=.list fa [] [.str wd,.stk 1,.int dots,.opq tv]::.vlist ta vs::r,tp:=[],rst:=rs,fz:=fz} (λfl st=>K (bW fl) st):=
 Qg (by kernel_rfl)
theorem Ent.MH {st:St}(htp:st.tp=[e])(hloc:∀x sv',look x loc'=some sv'→∃sv,look x st.loc=some sv∧∀v,sv.R ⟨st.hp.map HE.addr,st.sk.map HE.addr,[e.addr]⟩ v→sv'.R ⟨st.hp.map HE.addr,st.sk.map HE.addr,[]⟩ v)(h:∀le,HL st.ad.bot e le→P {st with loc:=loc',tp:=[],fz:=le++st.fz}):Ent st P:=⟨λX s f I=>by
 obtain⟨le,H,I'⟩:=Inv.dh I (j:=0) (e:=e) (by show st.tp[0]?=_;rw[htp];rfl)
 refine⟨_,h le H,I'.lay (st':=St.fr {st with loc:=loc',tp:=[],fz:=le++st.fz} f) (λx sv' q=>?_) λl l' L1 L2=>?_⟩
 ·obtain⟨sv,q1,q2⟩:=hloc x sv' q
  refine⟨sv,q1,λv r=>q2 v ?_⟩
  have r:sv.R ⟨st.hp.map HE.addr,st.sk.map HE.addr,(st.tp.set 0 (.gone e.addr)).map HE.addr⟩ v:=r
  rw[htp]at r
  exact r
 ·exact⟨l,[],l',L1,.nil,bj λ_ _ p=>by
   show RJ p (l++(l'++((f++st.rst)++(le++st.fz))))=RJ p ((l++([]++((f++st.rst)++(le++st.fz))))++l')
   simp only[PL,Qa];lia⟩⟩
noncomputable def lE (f:ai)(th:SV):HE:=.list f.fa [] [.str (wT f.w),th,.int f.dt,.opq f.hv]
noncomputable def dI (f:ai)(r:List HE):List HE:=lE f (.stk 1)::.vlist f.ta f.vs::r
noncomputable def bI:List ai→List HE
 |[]=>[]
 |f::r=>lE f (.opq (.ref f.ta))::.vlist f.ta f.vs::bI r
noncomputable def eQ:List ai→List HE
 |[]=>[]
 |f::r=>dI f (bI r)
theorem gT:∀fs,(bI fs).map HE.addr=(cR fs).map HE.addr
 |[]=>rfl
 |f::r=>congrArg (λz=>f.fa::f.ta::z) (gT r)
theorem jb:∀fs,(eQ fs).map HE.addr=(bf fs).map HE.addr
 |[]=>rfl
 |f::r=>congrArg (λz=>f.fa::f.ta::z) (gT r)
theorem mJ (n:Nat):∀fs,((bI fs).all (·.okN n))=true
 |[]=>rfl
 |f::r=>by
  show(true&&(true&&(bI r).all (·.okN n)))=true
  rw[mJ n r];rfl
structure pW (fz:ah)(f:ai)(F:cQ):Prop where
 w:F.w=wN f.w
 things:bq fz f.vs F.things
 dots:(F.dots:Int)=f.dt
 tail:Rd fz f.hv F.tail
theorem pW.mono (h:pW fz f F)(k:∀p∈fz,p∈fz'):pW fz' f F:=⟨h.w,h.things.mono k,h.dots,h.tail.mono k⟩
theorem C3 (w:WK):(wT w == "[")=decide (wN w=1):=by cases w<;>decide +kernel
theorem C7 (h:∀v,th.R D v→th'.R D' v)(H:HL D (lE f th) l):HL D' (lE f th') l:=by
 obtain⟨_,_,i,rfl⟩:=H.listI
 cases i with|cons a i=>cases i with|cons b i=>exact .list (.cons a (.cons (h _ b) (IR.okN (n:=0) (show D.hp.take 0=D'.hp.take 0 from rfl) i rfl)))
theorem KP:∀{fs:List ai}{l:ah},D.sk=(bf fs).map HE.addr→LL D (eQ fs) l→LL D' (bI fs) l
 |[],l,_,L=>by cases L;exact .nil
 |f::r,l,hs,L=>by
  cases L with
  |cons H T=>
   cases T with
   |cons H2 T=>
    refine .cons (C7 (λv rv=>?_) H) (.cons (by cases H2;exact .vlist) (LL.okN (n:=0) (show D.hp.take 0=D'.hp.take 0 from rfl) T (mJ 0 r)))
    obtain⟨a,e,rfl⟩:=rv
    rw[hs]at e
    cases e
    rfl
theorem It:∀{fs:List ai}{l:ah},D'.sk=(bf fs).map HE.addr→LL D (bI fs) l→LL D' (eQ fs) l
 |[],l,_,L=>by cases L;exact .nil
 |f::r,l,hs,L=>by
  cases L with
  |cons H T=>
   cases T with
   |cons H2 T=>
    refine .cons (C7 (λv rv=>?_) H) (.cons (by cases H2;exact .vlist) (LL.okN (n:=0) (show D.hp.take 0=D'.hp.take 0 from rfl) T (mJ 0 r)))
    cases rv
    exact⟨f.ta,by rw[hs];rfl,rfl⟩
theorem qh {lB lF lT l0 l1 lS l' rf:ah}:((lB++(lF++lT)++(l0++(l1++lS)))++(l'++rf)).Perm (((lB++(lF++lT)++lS)++([]++rf))++(l0++(l1++l'))):=bj λ_ _ p=>by
 simp only[PL,Qa];lia
theorem Inv.KQ {st:St}{B:List HE}(hB:(B.all (·.okN 2))=true) (h6:B.length=2)(hT:(T.all (·.okN 2))=true) (hhp:st.hp=B++(.list oa (aB (f::fs)) []::T)) (hsk:st.sk=e0::e1::bI fs)(hl:∀x sv',look x loc'=some sv'→look x st.loc=some sv'∧sv'.okN 4=true)(I:Inv X st s):Inv X {st with loc:=loc',hp:=B++(ar oa fs::T),sk:=eQ fs,tp:=[]} s:=by
 have ehp:st.ad.hp=(B++(ar oa fs::T)).map HE.addr:=by
  show st.hp.map HE.addr=_
  rw[hhp,PI,PI];rfl
 refine I.lay (λx sv' q=>?_) λl l' L1 L2=>?_
 ·rcases hl x sv' q with⟨q1,q2⟩
  exact⟨sv',q1,λv r=>SV.jW (n:=4) (by rw[ehp]) q2 r⟩
 ·rw[hhp,hsk]at L1
  obtain⟨l1,lS,rfl,L1,LS⟩:=L1.split
  obtain⟨lB,lF,rfl,LB,LF⟩:=L1.split
  cases LF with|cons HF LT=>cases LS with|cons H0 LS=>cases LS with|cons H1 LS=>
   let D':Ad:=⟨(B++(ar oa fs::T)).map HE.addr,(eQ fs).map HE.addr,[]⟩
   have kB:LL D' B lB:=LB.okN (n:=2) (by show st.ad.hp.take 2=_;rw[ehp]) hB
   have kT:=LL.okN (D':=D') (n:=2) (by show st.ad.hp.take 2=_;rw[ehp]) LT hT
   have kF:=lG (D':=D') (f:=f) (jb fs) HF
   exact⟨_,[],_,(kB.append (LL.cons kF kT)).append (It (jb fs) LS),.nil,qh⟩
noncomputable def FI (st:St)(e:HE):St:={st with hp:=st.hp.set 2 e}
inductive Ei (hp sk:List HE)(loc:List (Str×SV))(fz:ah)(P:Addr→List ai→Value→ah→Prop):Prop
 |mk (b0 b1 t:HE)(oa:Addr)(f:ai)(fs:List ai)(F:cQ)(hhp:hp=[b0,b1,.list oa (aB (f::fs)) [],t]) (hB:(([b0,b1]:List HE).all (·.okN 2))=true) (hT:(([t]:List HE).all (·.okN 2))=true) (hs:sk=dI f (bI fs))(hloc:(loc.all λp=>p.2.cF)=true)(ho:pW fz f F)(hz:f.vs.length≤100000)(hk:∀v z,Rd (z++fz) v (bk F)→P oa fs v z)
def jK:cK:=λargs st k _=>qT (zF 0) args λ_=>Ei st.hp st.sk st.loc st.fz λoa fs v z=>k (.opq v) ((FI st (ar oa fs)).Gj (eQ fs) (z++st.fz))
theorem bg.tw {st:St}(h0:st₂.tp[j]?=some e)(h:∀le,HL st₂.ad.bot e le→bg st tl k (.opq (.ref e.addr)) {st₂ with tp:=st₂.tp.set j (.gone e.addr),fz:=le++st₂.fz}):bg st tl k (.tmp j) st₂:=λX s v I r=>by
 obtain⟨a,ha,rfl⟩:=r
 have ha':a=e.addr:=by
  have:(st₂.tp.map HE.addr)[j]?=some a:=ha
  rw[QL,h0]at this
  exact(Pd this).symm
 subst ha'
 obtain⟨le,H,I'⟩:=I.dh h0
 exact h le H X s _ I' rfl
theorem bq.len (h:bq fz vs ds):vs.length=ds.length:=by
 induction h with
 |nil=>rfl
 |cons _ _ ih=>exact congrArg (·+1) ih
theorem bq.at (h:bq fz vs ds):∀{j:Nat}(hj:j<ds.length),Rd fz (vs.getD j .none) ds[j]:=by
 induction h with
 |nil=>exact λhj=>absurd hj (RY _)
 |cons a _ ih=>exact λ{j} hj=>match j with
  |0=>a
  |_+1=>ih (Nat.lt_of_succ_lt_succ hj)
theorem oX (hA sA:List Addr)(a:Addr):fF (λs1 s2=>∀v,s1.R ⟨hA,sA,[a]⟩ v→s2.R ⟨hA,sA,[]⟩ v) [("top",.stk 0),("word",.str wd),("things",.stk 1),("dots",.int dots),("tail",.tmp 0)] [("top",.stk 0),("word",.str wd),("things",.stk 1),("dots",.int dots),("tail",.opq (.ref a))]:=
 .cons (λv r=>r) (.cons (λv r=>r) (.cons (λv r=>r) (.cons (λv r=>r) (.cons (λv r=>by
  obtain⟨b,hb,rfl⟩:=r
  cases hb
  rfl) .nil))))
theorem qk (O:X.Ok)(hn:2≤X.n):az X 736 jK:=by
 refine aP (n:=0) Kp JP O hn λst args k ke hc=>?_
 obtain⟨_,rfl,b0,b1,t,oa,f0,fs,f,hhp,hB,hT,hs,hloc,⟨hw,hd,hdt,ht⟩,hz,hk⟩:=cf hc
 clear hc
 have e:=St.lit hhp hs
 clear hhp hs
 obtain⟨loc,tp,rst,fz,rfl⟩:=e
 have fin:∀{sv:SV}{v:Value}{st₂:St}{z:ah}{tl:ah},Rd (z++fz) v (bk f)→st₂.hp=[b0,b1,.list oa (aB (f0::fs)) [],t]→(∃e0 e1,st₂.sk=e0::e1::bI fs)→st₂.rst=tl++rst→st₂.fz=z++fz→(∀D v',sv.R D v'→(SV.opq v).R D v')→bg ⟨loc,[b0,b1,.list oa (aB (f0::fs)) [],t],dI f0 (bI fs),tp,rst,fz⟩ tl k sv st₂:=λ{sv v st₂ z tl} hr h1 h2 h3 h4 h5=>by
  obtain⟨e0,e1,h2⟩:=h2
  exact bg.lay (st₃:={st₂ with loc:=[],hp:=[b0,b1,ar oa fs,t],sk:=eQ fs,tp:=[]}) (λX s I=>Inv.KQ (B:=[b0,b1]) (T:=[t]) (loc':=[]) hB rfl hT h1 h2 (λ_ _ h=>by cases h) I) rfl (h4▸hk v z hr) Pp hloc rfl h5 h3
 let J:Nat→Value×ah→Prop:=λj i=>Rd (i.2++fz) i.1 (fH f.tail (f.things.drop (f.things.length-j)))
 refine bD.mk (λtl=>{cs:=aK (aJ 77),call:=aw [],ke:=ke,fors:=λ_=>some λaq=>{ι:=Value×ah,n:=f0.vs.length,items:=λj=>[.opq (f0.vs.reverse.getD j .none)],S:=λ_ i=>{loc:=[("top",.stk 0),("word",.str (wT f0.w)),("things",.stk 1),("dots",.int f0.dt),("tail",.opq i.1)],hp:=[b0,b1,.list oa (aB (f0::fs)) [],t],sk:=.list f0.fa [] [.str (wT f0.w),.stk 1,.int f0.dt,.opq f0.hv]::.vlist f0.ta f0.vs::bI fs,tp:=[],rst:=tl++rst,fz:=i.2++aq.fz},J:=J,ok:=λ_ h=>h}}) rfl rfl (λ_=>rfl) (λ_ X' S=>ax S dJ) λtl=>?_
 refine p7 _ _ _ (wT f0.w) f0.fa f0.ta f0.vs _ f0.hv (bI fs) [b0,b1,.list oa (aB (f0::fs)) [],t] (tl++rst) fz _ f0.vs.length (λj=>f0.vs.reverse.getD j .none) J ⟨λh=>λa=>⟨Pk hz (by decide),λl u hu=>bg.tw (j:=1) rfl λle H=>?_⟩,λh=>⟨⟨rfl,Pk hz (by decide)⟩,λd=>⟨d,f0.vs.reverse,0,rfl,⟨.head _,λj i _=>Pb _ (.head _),(Qp ..).symm⟩,λj v hv=>.cons ?_ .nil,λ_ _=>rfl,.refl ⟨(f0.hv,[]),?_,rfl⟩,λj i I' o hj hJ a=>⟨rfl,?_⟩,λi hJ=>?_⟩⟩⟩
 ·rcases hu with⟨t1,rfl⟩
  rcases H.dW with⟨m,e⟩
  clear H
  subst e
  rw[C3]at h
  refine fin (v:=.ref l) (z:=[(l,listOf (.str "vector" t1::f0.vs).toArray m)]) ?_ rfl ⟨_,_,rfl⟩ rfl rfl λD v' r=>r
  rw[bk,if_pos (hw.trans (of_decide_eq_true h))]
  exact Rd.list (.head _) (.cons .str (hd.mono λp hp=>.tail _ hp))
 ·show SV.R _ (.opq (f0.vs.reverse.getD j .none)) v
  rw[QN,hv]
  rfl
 ·show Rd _ f0.hv _
  rw[Nat.sub_zero,Sy]
  exact ht
 ·have hl:=hd.len
  have hj:j<f0.vs.length:=hj
  have hj2:j<f.things.length:=Nat.lt_of_lt_of_eq hj hl
  have hk:f.things.length-(j+1)<f.things.length:=Nat.sub_lt (Pr (Ql _) hj2) (Nat.succ_pos _)
  have hd2:=hd.at (j:=f.things.length-(j+1)) hk
  refine Ent.MH (loc':=[("top",.stk 0),("word",.str (wT f0.w)),("things",.stk 1),("dots",.int f0.dt),("tail",.opq (.ref a))]) rfl (λy sv' e=>?_) λle H=>?_
  ·obtain⟨sv,q1,q2⟩:=fF.look (oX _ _ a) e
   exact⟨sv,bX (l:=[("top",.stk 0),("word",.str (wT f0.w)),("things",.stk 1),("dots",.int f0.dt),("tail",.tmp 0)]) q1,q2⟩
  ·obtain⟨t,m,e⟩:=H.t3
   clear H
   subst e
   refine⟨(.ref a,[(a,listOf [.str "cons" t,_,_].toArray m)]++i.2),?_,by rw[Pj]⟩
   show Rd (_::(i.2++fz)) _ _
   rw[Qx (i:=f.things.length-(j+1)) hk,show f.things.length-(j+1)+1=f.things.length-j from B4 _ _▸CA hj2]
   refine Rd.list (.head _) (.cons .str (.cons ?_ (.cons (hJ.mono λp hp=>.tail _ hp) .nil)))
   show Rd _ (f0.vs.reverse.getD j .none) _
   rw[QN,List.getElem?_reverse hj,show f0.vs.length-1-j=f.things.length-(j+1)from hl▸(B4 _ _).symm,←QN]
   exact hd2.mono λp hp=>.tail _ (Pb _ hp)
 ·have h1:Rd (i.2++fz) i.1 (fH f.tail (f.things.drop (f.things.length-f0.vs.length))):=hJ
  rw[hd.len,Nat.sub_self,Si]at h1
  rw[C3]at h
  refine fin (v:=i.1) (z:=i.2++[(d,listOf f0.vs.reverse.toArray 0)]) ?_ rfl ⟨_,_,rfl⟩ rfl (by rw[Pj];rfl) λD v' r=>r
  ·rw[bk,if_neg (hw▸of_decide_eq_false h),Pj]
   exact h1.mono λp hp=>(List.mem_append.mp hp).elim (λq=>Px _ q) λq=>Pb _ (.tail _ q)
structure zw where
 fs:List ai
 v:Value
 z:ah
structure cP where
 b0:HE
 b1:HE
 oa:Addr
 da:Addr
 dvs:List Value
 rs:ah
 fz:ah
noncomputable def wQ (v:SV):List (Str×SV):=[("opened_here",.ref 2),("data",.ref 3),("thing",v)]
noncomputable def sJ (y:cP)(e:HE)(dvs:List Value):List HE:=[y.b0,y.b1,e,.vlist y.da dvs]
noncomputable def My (y:cP)(i:zw):St:={loc:=wQ (.opq i.v),hp:=sJ y (ar y.oa i.fs) y.dvs,sk:=eQ i.fs,tp:=[],rst:=y.rs,fz:=i.z++y.fz}
noncomputable def Nx (y:cP)(Good:zw→Prop):af where
 ι:={i:zw // Good i}
 S:=λi=>My y i.1
 μ:=λi=>i.1.fs.length
 split:=λP=>(∀v z h,P ⟨⟨[],v,z⟩,h⟩)∧(∀f r v z h,P ⟨⟨f::r,v,z⟩,h⟩)
 ok:=λP h i=>by
  obtain⟨⟨fs,v,z⟩,hi⟩:=i
  cases fs with
  |nil=>exact h.1 _ _ _
  |cons f r=>exact h.2 _ _ _ _ _
noncomputable def O9 (f:ai):SV→List HE→List HE:=λd r=>.list f.fa [] [.str (wT f.w),.stk 1,d,.opq f.hv]::r
noncomputable def Gl (v:Value):List (Str×SV):=[("opened_here",.ref 2),("data",.ref 3),("thing",.opq v),("top",.stk 0)]
def NW (y:cP)(Good:zw→Prop)(n:Nat)(st:St):Prop:=Ent st λst'=>∃j:{i:zw // Good i},j.1.fs.length<n∧st'=My y j.1
abbrev nz (w:World)(y:cP)(K:SV→St→Prop)(f:ai)(r:List ai)(v:Value)(z:List (Addr×Obj))(a a_3:Nat):Prop:=
  PD (vc (aB (f::r))+1) (0)=false→((ai.dt f==(0:Int))=true→vc (ai.vs f)<1048576∧∀(u:Value),u=v→K (SV.lit true) {loc:=Gl v,hp:=sJ y (HE.list (cP.oa y) (aB (f::r)) [SV.stk (0)]) (cP.dvs y),sk:=lE f (SV.stk (1))::HE.vlist (ai.ta f) (ai.vs f++[u])::bI r,tp:=[HE.list a [] [],HE.list a_3 [] []],rst:=cP.rs y,fz:=z++cP.fz y})∧((ai.dt f==(0:Int))=false→((ai.dt f==(1:Int))=true→∀(a_7:Nat),K (SV.lit true) {loc:=Gl v,hp:=sJ y (HE.list (cP.oa y) (aB (f::r)) [SV.stk (0)]) (cP.dvs y),sk:=HE.list (ai.fa f) [] [SV.str (wT (ai.w f)),SV.stk (1),SV.num (2:Int),SV.opq v]::HE.vlist (ai.ta f) (ai.vs f)::bI r,tp:=[HE.list a [] [],HE.list a_3 [] [],HE.tup a_7 [SV.num (2:Int),SV.opq v]],rst:=cP.rs y,fz:=z++cP.fz y})∧((ai.dt f==(1:Int))=false→K (SV.lit false) {loc:=Gl v,hp:=sJ y (HE.list (cP.oa y) (aB (f::r)) [SV.stk (0)]) (cP.dvs y),sk:=dI f (bI r),tp:=[HE.list a [] [],HE.list a_3 [] []],rst:=cP.rs y,fz:=z++cP.fz y}))
abbrev o8 (w:World)(y:cP)(K:SV→St→Prop)(f:ai)(r:List ai)(v:Value)(z:List (Addr×Obj))(a a_2:Nat):Prop:=
  PD (vc (aB (f::r))+1) (0)=false→((ai.dt f==(0:Int))=true→vc (ai.vs f)<1048576∧∀(u:Value),u=v→K (SV.lit true) {loc:=Gl v,hp:=sJ y (HE.list (cP.oa y) (aB (f::r)) [SV.stk (0)]) (cP.dvs y),sk:=lE f (SV.stk (1))::HE.vlist (ai.ta f) (ai.vs f++[u])::bI r,tp:=[HE.list a [] [],HE.list a_2 [] []],rst:=cP.rs y,fz:=z++cP.fz y})∧((ai.dt f==(0:Int))=false→((ai.dt f==(1:Int))=true→∀(a_6:Nat),K (SV.lit true) {loc:=Gl v,hp:=sJ y (HE.list (cP.oa y) (aB (f::r)) [SV.stk (0)]) (cP.dvs y),sk:=HE.list (ai.fa f) [] [SV.str (wT (ai.w f)),SV.stk (1),SV.num (2:Int),SV.opq v]::HE.vlist (ai.ta f) (ai.vs f)::bI r,tp:=[HE.list a [] [],HE.list a_2 [] [],HE.tup a_6 [SV.num (2:Int),SV.opq v]],rst:=cP.rs y,fz:=z++cP.fz y})∧((ai.dt f==(1:Int))=false→K (SV.lit false) {loc:=Gl v,hp:=sJ y (HE.list (cP.oa y) (aB (f::r)) [SV.stk (0)]) (cP.dvs y),sk:=dI f (bI r),tp:=[HE.list a [] [],HE.list a_2 [] []],rst:=cP.rs y,fz:=z++cP.fz y}))
abbrev oH (w:World)(y:cP)(K:SV→St→Prop)(Good:zw→Prop)(f:ai)(r:List ai)(v:Value)(z:List (Addr×Obj))(a:Nat):Prop:=
  ((!PD (vc (aB (f::r))+1) (0))=true→((wT (ai.w f)==p' "'")=true→vc (aB (f::r))+1<1048576∧∀(a_3 a_4:Nat),NW y Good (vc (f::r)) {loc:=wQ (SV.tmp (2)),hp:=sJ y (HE.list (cP.oa y) (aB (f::r)) []) (cP.dvs y),sk:=dI f (bI r),tp:=[HE.list a [] [],HE.list a_3 [] [SV.txt (p' "cons"),SV.opq v,SV.txt (p' "nil")],HE.list a_4 [] [SV.txt (p' "cons"),SV.txt (p' "quote"),SV.opq (Pa a_3)]],rst:=cP.rs y,fz:=z++cP.fz y})∧((wT (ai.w f)==p' "'")=false→∀(a_3:Nat),(PD (vc (aB (f::r))+1) (0)=true→vc (cP.dvs y)<1048576∧∀(u:Value),u=v→K (SV.lit true) {loc:=wQ (SV.opq v),hp:=sJ y (HE.list (cP.oa y) (aB (f::r)) [SV.stk (0)]) (cP.dvs y++[u]),sk:=dI f (bI r),tp:=[HE.list a [] [],HE.list a_3 [] []],rst:=cP.rs y,fz:=z++cP.fz y})∧(nz w y K f r v z a a_3)))∧((!PD (vc (aB (f::r))+1) (0))=false→∀(a_2:Nat),(PD (vc (aB (f::r))+1) (0)=true→vc (cP.dvs y)<1048576∧∀(u:Value),u=v→K (SV.lit true) {loc:=wQ (SV.opq v),hp:=sJ y (HE.list (cP.oa y) (aB (f::r)) [SV.stk (0)]) (cP.dvs y++[u]),sk:=dI f (bI r),tp:=[HE.list a [] [],HE.list a_2 [] []],rst:=cP.rs y,fz:=z++cP.fz y})∧(o8 w y K f r v z a a_2))
theorem t7 (w:World)(sc:Sc)(ke:KX)(y:cP)(v:Value)(fs:List ai)(K:SV→St→Prop)(Good:zw→Prop) :
  ((Ent {loc:=wQ (SV.opq v),hp:=sJ y (ar (cP.oa y) fs) (cP.dvs y),sk:=eQ fs,tp:=[],rst:=cP.rs y,fz:=cP.fz y} λ(st':St)=>∃(i:{i:zw // Good i}),st'=My y (TR i))∧(∀(v:Value)(z:List (Addr×Obj)),Good {fs:=[],v:=v,z:=z}→∀(a:Nat),((!PD (0) (0))=true→False)∧((!PD (0) (0))=false→∀(a_2:Nat),(PD (0) (0)=true→vc (cP.dvs y)<1048576∧∀(u:Value),u=v→K (SV.lit true) {loc:=wQ (SV.opq v),hp:=sJ y (HE.list (cP.oa y) [] []) (cP.dvs y++[u]),sk:=[],tp:=[HE.list a [] [],HE.list a_2 [] []],rst:=cP.rs y,fz:=z++cP.fz y})∧(PD (0) (0)=false→False)))∧∀(f:ai)(r:List ai)(v:Value)(z:List (Addr×Obj)),Good {fs:=f::r,v:=v,z:=z}→∀(a:Nat),oH w y K Good f r v z a) →
  bw (bE {cs:=aK (aJ 78),call:=aw [],ke:=ke,inv:=λ_ _=>some (Nx y Good)} (xt w sc) 12) (bz (aJ 78)) {loc:=wQ (.opq v),hp:=sJ y (ar y.oa fs) y.dvs,sk:=eQ fs,tp:=[],rst:=y.rs,fz:=y.fz} (λfl st=>K (bW fl) st):=
 Qg (by kernel_rfl)
theorem Inv.CJ {st:St}(hloc:∀x sv',look x loc'=some sv'→∃sv,look x st.loc=some sv∧∀v,sv.R st.ad v→sv'.R ⟨st.ad.hp,st.ad.sk,[]⟩ v)(I:Inv X st s):Inv X {st with loc:=loc',tp:=[]} s:=
 I.lay (st':={st with loc:=loc',tp:=[]}) hloc λl l' L1 L2=>⟨l,[],l',L1,.nil,bj λ_ _ p=>by
  show RJ p (l++(l'++st.rf))=RJ p ((l++([]++st.rf))++l')
  simp only[PL,Qa];lia⟩
inductive dK (fz:ah):List ai→List cQ→Prop
 |nil:dK fz [] []
 |cons {f:ai}{F:cQ}{fs:List ai}{Fs:List cQ}:pW fz f F→dK fz fs Fs→dK fz (f::fs) (F::Fs)
theorem dK.mono (h:dK fz fs Fs)(k:∀p∈fz,p∈fz'):dK fz' fs Fs:=by
 induction h with
 |nil=>exact .nil
 |cons a _ ih=>exact .cons (a.mono k) ih
noncomputable def HA (st:St)(e:HE):St:={st with hp:=st.hp.set 3 e}
inductive pe (hp sk:List HE)(loc:List (Str×SV))(fz:ah)(v:Value)(P1 P2:Addr→Addr→List ai→List Value→ah→Prop):Prop
 |mk (b0 b1:HE)(oa da:Addr)(fs:List ai)(dvs:List Value)(Fs:List cQ)(ds:List Pz)(d:Pz)(N:Nat)(h0:hp=[b0,b1,ar oa fs,.vlist da dvs]∧(([b0,b1]:List HE).all (·.okN 2))=true∧sk=eQ fs∧(loc.all λp=>p.2.cF)=true)
   (h1:dK fz fs Fs∧bq fz dvs ds∧Rd fz v d∧fs.length<100000∧dvs.length<100000∧(∀f∈fs,f.vs.length≤N)∧N<50000)
   (c1:∀Fs' ds',bB Fs ds d=some (Fs',ds')→∀fs' dvs' z,dK (z++fz) fs' Fs'→bq (z++fz) dvs' ds'→fs'.length≤fs.length→dvs'.length≤dvs.length+1→(∀f∈fs',f.vs.length≤N+1)→P1 oa da fs' dvs' z)
   (c2:bB Fs ds d=none→∀fs' z,P2 oa da fs' dvs z)
noncomputable def LW:Value ⊕ Str→SV
 |.inl v=>.opq v
 |.inr x=>.str x
noncomputable def Oo (sv:SV):Option {q:Value ⊕ Str // sv=LW q}:=match sv with
 |.opq v=>some ⟨.inl v,rfl⟩
 |.str x=>some ⟨.inr x,rfl⟩
 |_=>none
def MT (q:Value ⊕ Str)(P:Value→Prop):Prop:=match q with
 |.inl v=>P v
 |.inr x=>∀t,P (.str x t)
def H8 (st:St)(k:KV)(v:Value):Prop:=pe st.hp st.sk st.loc st.fz v
 (λoa da fs' dvs' z=>k (.lit true) ((HA (FI st (ar oa fs')) (.vlist da dvs')).Gj (eQ fs') (z++st.fz)))
 (λoa da fs' dvs' z=>k (.lit false) ((HA (FI st (ar oa fs')) (.vlist da dvs')).Gj (eQ fs') (z++st.fz)))
def nj:cK:=λargs st k _=>FE (dF 2) (dF 3) Oo args λ_ _ q=>MT q (H8 st k)
theorem BG (w:WK):(wT w == "'")=decide (wN w=2):=by cases w<;>decide +kernel
structure Ir (fz:ah)(Fs:List cQ)(ds:List Pz)(d:Pz)(N n:Nat)(i:zw)(Fs':List cQ)(d':Pz):Prop where
 fr:dK (i.z++fz) i.fs Fs'
 rd:Rd (i.z++fz) i.v d'
 go:bB Fs' ds d'=bB Fs ds d
 n:i.fs.length≤n
 vs:∀f∈i.fs,f.vs.length≤N
theorem MA (H:HL D (.list a [] [.txt x,.opq v,.txt y]) l):∃t1 t2 n,l=[(a,listOf [.str x t1,v,.str y t2].toArray n)]:=by
 obtain⟨_,n,i,rfl⟩:=H.listI
 obtain⟨_,_,_,rfl,⟨t1,rfl⟩,e,⟨t2,rfl⟩⟩:=vf i
 cases e
 exact⟨t1,t2,n,rfl⟩
theorem Mj (H:HL D (.list a [] [.txt x,.txt y,.opq v]) l):∃t1 t2 n,l=[(a,listOf [.str x t1,.str y t2,v].toArray n)]:=by
 obtain⟨_,n,i,rfl⟩:=H.listI
 obtain⟨_,_,_,rfl,⟨t1,rfl⟩,⟨t2,rfl⟩,e⟩:=vf i
 cases e
 exact⟨t1,t2,n,rfl⟩
theorem ES {Good:zw→Prop}(hB:(([y.b0,y.b1]:List HE).all (·.okN 2))=true) (hn:r.length<n)(hg:∀t1 t2 t3 t4 n3 n4,Good ⟨r,.ref a4,(a4,listOf [.str "cons" t3,.str "quote" t4,.ref a3].toArray n4)::(a3,listOf [.str "cons" t1,v,.str "nil" t2].toArray n3)::z⟩) :
  NW y Good n {loc:=wQ (.tmp 2),hp:=sJ y (.list y.oa (aB (f::r)) []) y.dvs,sk:=dI f (bI r),tp:=[.list a [] [],.list a3 [] [.txt "cons",.opq v,.txt "nil"],.list a4 [] [.txt "cons",.txt "quote",.opq (.ref a3)]],rst:=y.rs,fz:=z++y.fz}:=⟨λX s f0 I=>by
 obtain⟨l3,H3,I⟩:=Inv.dh I (j:=1) rfl
 obtain⟨l4,H4,I⟩:=Inv.dh I (j:=2) rfl
 obtain⟨t1,t2,n3,rfl⟩:=MA H3
 obtain⟨t3,t4,n4,rfl⟩:=Mj H4
 refine⟨_,⟨⟨_,hg t1 t2 t3 t4 n3 n4⟩,hn,rfl⟩,Inv.KQ (B:=[y.b0,y.b1]) (T:=[.vlist y.da y.dvs]) (f:=f) (loc':=wQ (.opq (.ref a4))) hB rfl rfl rfl rfl (λx sv' q=>⟨q,?_⟩) (Inv.CJ (loc':=wQ (.opq (.ref a4))) (λx sv' q=>?_) I)⟩
 ·exact eb (loc:=wQ (.opq (.ref a4))) rfl q
 ·refine fF.look (P:=λs1 s2=>∀v,s1.R _ v→s2.R _ v) ?_ q
  exact .cons (λv r=>r) (.cons (λv r=>r) (.cons (λv r=>by
   obtain⟨b,hb,rfl⟩:=r
   cases hb
   rfl) .nil))⟩
theorem r9 (h:f.w=2):bB (f::r) ds d=bB r ds (dZ d):=if_pos h
theorem iM (h:f.w≠2):bB (f::r) ds d=if f.dots=0 then some ({f with things:=f.things++[d]}::r,ds)else if f.dots=1 then some ({f with dots:=2,tail:=d}::r,ds)else none:=if_neg h
theorem CR (H:HL D (.list fa [] [.str x,t,.num i,.opq v]) l):HL D (.list fa [] [.str x,t,.int i,.opq v]) l:=by
 obtain⟨_,_,ir,rfl⟩:=H.listI
 cases ir with|cons a i=>cases i with|cons b i=>cases i with|cons c i=>exact .list (.cons a (.cons b (.cons c i)))
theorem gL (O:X.Ok)(hn:2≤X.n){st:St}(hc:H8 st k v0):Calls X 743 st [.ref 2,.ref 3,.opq v0] k ke:=by
 refine bD.calls (n:=0) Je Hn O hn ?_
 obtain⟨b0,b1,oa,da,fs0,dvs,Fs0,ds,d0,N,⟨hhp,hB,hsk,hloc⟩,⟨hF,hD,hv,hl,hld,hN,hN2⟩,c1,c2⟩:=hc
 have e:=St.lit hhp hsk
 clear hhp hsk
 obtain⟨loc,tp,rst,fz,rfl⟩:=e
 refine bD.mk (λtl=>{cs:=aK (aJ 78),call:=aw [],ke:=ke,inv:=λ_ _=>some (Nx ⟨b0,b1,oa,da,dvs,tl++rst,fz⟩ λi=>∃Fs d,Ir fz Fs0 ds d0 N fs0.length i Fs d)}) rfl rfl (λ_=>rfl) (λ_ X' S=>ax S dJ) λtl=>?_
 have fin:∀{fs:List ai}{dvs':List Value}{z:ah}{loc':List (Str×SV)}{tp':List HE}{b:Bool},k (.lit b) ⟨loc,[b0,b1,ar oa fs,.vlist da dvs'],eQ fs,tp,rst,z++fz⟩→bg ⟨loc,[b0,b1,ar oa fs0,.vlist da dvs],eQ fs0,tp,rst,fz⟩ tl k (.lit b) ⟨loc',[b0,b1,ar oa fs,.vlist da dvs'],eQ fs,tp',tl++rst,z++fz⟩:=λ{fs dvs' z loc' tp' b} hk=>
  bg.lay (st₃:=⟨[],[b0,b1,ar oa fs,.vlist da dvs'],eQ fs,[],tl++rst,z++fz⟩) (λX s I=>I.drop) rfl hk Pp hloc rfl (λD v r=>r) rfl
 refine t7 _ _ _ ⟨b0,b1,oa,da,dvs,tl++rst,fz⟩ v0 fs0 _ _ ⟨.refl ⟨⟨⟨fs0,v0,[]⟩,Fs0,d0,hF,hv,rfl,P5 _,hN⟩,rfl⟩,λv z g a=>⟨λh=>bF h,λ_ a2=>⟨λ_=>⟨PF hld (by decide),λu hu=>?_⟩,λh=>bT h⟩⟩,λf r v z g a=>?_⟩
 ·subst hu
  obtain⟨Fs,d,g⟩:=g
  have gf:=g.fr
  have gr:=g.rd
  have gg:=g.go
  cases gf with
  |nil=>exact fin (fs:=[]) (c1 _ _ gg.symm [] _ z .nil ((hD.mono λp hp=>Pb _ hp).snoc gr) (Ql _) (by rw[PU];exact P5 _) (λf hf=>nomatch hf))
 ·obtain⟨Fs,d,g⟩:=g
  have gf:=g.fr
  have gr:=g.rd
  have gg:=g.go
  have gn:=g.n
  have gv:=g.vs
  have hfs:r.length+1≤fs0.length:=gn
  cases gf with
  |@cons _ F _ Fs hf hr=>
   have hlp:(aB (f::r)).length=r.length:=by show(r.reverse.map _).length=_;rw[PM,Qp]
   have hfv:=gv f (.head _)
   refine⟨λ_=>⟨λhq=>⟨by rw[hlp];lia,λa3 a4=>ES hB (P0 _) λt1 t2 t3 t4 n3 n4=>⟨Fs,dZ d,?_,?_,?_,RA gn,λf hf=>gv f (.tail _ hf)⟩⟩,λhq a3=>⟨λh=>bF h,λ_=>⟨λh0=>⟨by lia,λu hu=>?_⟩,λh0=>⟨λh1 a7=>?_,λh1=>?_⟩⟩⟩⟩,λh=>bT h⟩
   ·exact hr.mono λp hp=>.tail _ (.tail _ hp)
   ·exact Rd.list (.head _) (.cons .str (.cons .str (.cons (Rd.list (.tail _ (.head _)) (.cons .str (.cons (gr.mono λp hp=>.tail _ (.tail _ hp)) (.cons .str .nil)))) .nil)))
   ·rw[BG]at hq
    rw[←gg,r9 (hf.w.trans (of_decide_eq_true hq))]
   ·subst hu
    rw[BG]at hq
    have h2:F.w≠2:=hf.w▸of_decide_eq_false hq
    have e0:F.dots=0:=by have:=hf.dots;rw[beq_iff_eq.mp h0]at this;lia
    rw[iM h2,if_pos e0]at gg
    refine fin (fs:={f with vs:=f.vs++[u]}::r) (c1 _ _ gg.symm _ _ z (.cons ⟨hf.w,hf.things.snoc gr,hf.dots,hf.tail⟩ hr) (hD.mono λp hp=>Pb _ hp) gn (Q3 _) λg hg=>?_)
    cases hg with
    |head=>show(f.vs++[u]).length≤_;rw[PU];exact Qo hfv
    |tail _ h=>exact PK (gv g (.tail _ h))
   ·rw[BG]at hq
    have h2:F.w≠2:=hf.w▸of_decide_eq_false hq
    have e1:F.dots=1:=by have:=hf.dots;rw[beq_iff_eq.mp h1]at this;lia
    rw[iM h2,if_neg (by lia),if_pos e1]at gg
    refine bg.EG (sk':=eQ ({f with dt:=2,hv:=v}::r)) (fin (fs:={f with dt:=2,hv:=v}::r) (c1 _ _ gg.symm _ _ z (.cons ⟨hf.w,hf.things,rfl,gr⟩ hr) (hD.mono λp hp=>Pb _ hp) gn (Q3 _) λg hg=>?_)) rfl λD l L=>?_
    ·cases hg with
     |head=>exact PK hfv
     |tail _ h=>exact PK (gv g (.tail _ h))
    ·cases L with|cons H T=>exact .cons (CR H) T
   ·rw[BG]at hq
    have h2:F.w≠2:=hf.w▸of_decide_eq_false hq
    have hd:=hf.dots
    have n0:f.dt≠0:=beq_eq_false_iff_ne.mp h0
    have n1:f.dt≠1:=beq_eq_false_iff_ne.mp h1
    rw[iM h2,if_neg (by lia),if_neg (by lia)]at gg
    exact fin (fs:=f::r) (c2 gg.symm _ z)
theorem tZ (O:X.Ok)(hn:2≤X.n):az X 743 nj:=by
 refine cD λst args k ke hc=>?_
 obtain⟨_,_,q,rfl,hk⟩:=hM hc
 cases q with
 |inl v=>exact gL O hn hk
 |inr x=>
  intro A s vals R hA I ir ret exc
  cases ir with|cons r1 ir=>cases ir with|cons r2 ir=>cases ir with|cons r3 ir=>
   rcases r3 with⟨t,rfl⟩
   exact gL O hn (hk t) A s _ R hA I (.cons r1 (.cons r2 (.cons rfl ir))) ret exc
structure kb where
 oa:Addr
 da:Addr
 fs:List ai
 dvs:List Value
 z:ah
noncomputable def zu (x:Str):List (Str×SV):=[("text",.str x),("opened_here",.ref 2),("data",.ref 3)]
noncomputable def fE (x wd:Str)(pl:Int)(th:SV):List (Str×SV):=[("text",.str x),("opened_here",.ref 2),("data",.ref 3),("word",.str wd),("place",.int pl),("thing",th)]
noncomputable def d7 (b0 b1 e:HE)(da:Addr)(dvs:List Value):List HE:=[b0,b1,e,.vlist da dvs]
noncomputable def F6 (x:Str)(b0 b1:HE)(rs fz:ah)(i:kb):St:={loc:=zu x,hp:=d7 b0 b1 (ar i.oa i.fs) i.da i.dvs,sk:=eQ i.fs,tp:=[],rst:=rs,fz:=i.z++fz}
def vh (x:Str)(b0 b1:HE)(rs fz:ah)(J:ah→Nat→kb→Prop)(j:Nat)(st:St):Prop:=Ent st λst'=>∃i',J fz (j+1) i'∧st'=F6 x b0 b1 rs fz i'
noncomputable def N6 (x:Str)(b0 b1:HE)(rs:ah)(n:Nat)(wd:Nat→Str)(pl:Nat→Int)(J:ah→Nat→kb→Prop)(aq:St):eg where
 ι:=kb
 n:=n
 items:=λj=>[.str (wd j),.int (pl j)]
 S:=λ_ i=>F6 x b0 b1 rs aq.fz i
 J:=J aq.fz
 split:=λP=>(∀oa da dvs z,P ⟨oa,da,[],dvs,z⟩)∧(∀oa da f r dvs z,P ⟨oa,da,f::r,dvs,z⟩)
 ok:=λP h i=>by
  obtain⟨oa,da,fs,dvs,z⟩:=i
  cases fs with
  |nil=>exact h.1 _ _ _ _
  |cons f r=>exact h.2 _ _ _ _ _ _
abbrev uh (x:Str)(b0 b1:HE)(rs fz:ah)(K:SV→St→Prop)(wd:Nat→Str)(pl:Nat→Int)(J:ah→Nat→kb→Prop)(a:Nat)(z:ah)(j oa da:Nat)(dvs:List Value)(z_1:List (Addr×Obj))(I:Nat)(o:Obj):Prop:=
  (aN (wd j) (p' ")]")=true→∀(a:Nat),(PD (0) (0)=true→∀(a_4:Nat),(I,o)::rs=(I,o)::rs∧K (SV.tmp (1)) {loc:=fE x (wd j) (pl j) (SV.str (wd j)),hp:=d7 b0 b1 (HE.list oa [] []) da dvs,sk:=[],tp:=[HE.list a [] [],HE.list a_4 [] [SV.txt (p' "bad"),SV.str (wd j),SV.int (pl j)]],rst:=rs,fz:=z_1++(z++fz)})∧(PD (0) (0)=false→False))∧(aN (wd j) (p' ")]")=false→∀(t:Nat),pe (d7 b0 b1 (HE.list oa [] []) da dvs) [] (fE x (wd j) (pl j) (SV.str (wd j))) (z_1++(z++fz)) (Qn (wd j) t) (λ(oa da:Addr)(fs':List ai)(dvs':List Value)(z_2:ah)=>(I,o)::rs=(I,o)::rs∧vh x b0 b1 rs (z++fz) J j {loc:=fE x (wd j) (pl j) (SV.str (wd j)),hp:=d7 b0 b1 (ar oa fs') da dvs',sk:=eQ fs',tp:=[],rst:=rs,fz:=z_2++(z_1++(z++fz))}) λ(oa da:Addr)(fs':List ai)(dvs':List Value)(z_2:ah)=>∀(a:Nat),(I,o)::rs=(I,o)::rs∧K (SV.tmp (0)) {loc:=fE x (wd j) (pl j) (SV.str (wd j)),hp:=d7 b0 b1 (ar oa fs') da dvs',sk:=eQ fs',tp:=[HE.list a [] [SV.txt (p' "bad"),SV.txt (p' "more than one thing behind a dot"),SV.int (pl j)]],rst:=rs,fz:=z_2++(z_1++(z++fz))})
abbrev tX (x:Str)(b0 b1:HE)(rs fz:ah)(K:SV→St→Prop)(wd:Nat→Str)(pl:Nat→Int)(J:ah→Nat→kb→Prop)(a:Nat)(z:ah)(j oa da:Nat)(dvs:List Value)(z_1:List (Addr×Obj))(I:Nat)(o:Obj):Prop:=
  (aN (wd j) (p' "([")=true→∀(a a_3:Nat),0<1048576∧(I,o)::rs=(I,o)::rs∧vh x b0 b1 rs (z++fz) J j {loc:=fE x (wd j) (pl j) (SV.str (wd j)),hp:=d7 b0 b1 (HE.list oa [] [SV.opq (Pa a_3)]) da dvs,sk:=[],tp:=[HE.list a [] [],HE.list a_3 [] [SV.str (wd j),SV.opq (Pa a),SV.num (0:Int),SV.txt (p' "nil")]],rst:=rs,fz:=z_1++(z++fz)})∧(aN (wd j) (p' "([")=false→((wd j==p' "'")=true→∀(a a_3:Nat),0<1048576∧(I,o)::rs=(I,o)::rs∧vh x b0 b1 rs (z++fz) J j {loc:=fE x (wd j) (pl j) (SV.str (wd j)),hp:=d7 b0 b1 (HE.list oa [] [SV.opq (Pa a_3)]) da dvs,sk:=[],tp:=[HE.list a [] [],HE.list a_3 [] [SV.str (wd j),SV.opq (Pa a),SV.num (0:Int),SV.txt (p' "nil")]],rst:=rs,fz:=z_1++(z++fz)})∧((wd j==p' "'")=false→((wd j==p' ".")=true→∀(a:Nat),(PD (0) (0)=true→∀(a_4:Nat),(I,o)::rs=(I,o)::rs∧K (SV.tmp (1)) {loc:=fE x (wd j) (pl j) (SV.str (wd j)),hp:=d7 b0 b1 (HE.list oa [] []) da dvs,sk:=[],tp:=[HE.list a [] [],HE.list a_4 [] [SV.txt (p' "bad"),SV.txt (p' "."),SV.int (pl j)]],rst:=rs,fz:=z_1++(z++fz)})∧(PD (0) (0)=false→False))∧((wd j==p' ".")=false→uh x b0 b1 rs fz K wd pl J a z j oa da dvs z_1 I o)))
abbrev uK (w:World)(x:Str)(b0 b1:HE)(rs fz:ah)(K:SV→St→Prop)(wd:Nat→Str)(pl:Nat→Int)(J:ah→Nat→kb→Prop)(z:ah)(vs:List Value)(j oa da:Nat)(f:ai)(r:List ai)(dvs:List Value)(z_1:List (Addr×Obj))(I:Nat)(o:Obj)(a:Nat):Prop:=
  ((wT (ai.w f) !=p' "(")=true→∀(a_5:Nat),(I,o)::rs=(I,o)::rs∧K (SV.tmp (1)) {loc:=fE x (wd j) (pl j) (SV.str (wd j)),hp:=d7 b0 b1 (HE.list oa (aB (f::r)) [SV.stk (0)]) da dvs,sk:=dI f (bI r),tp:=[HE.list a [] [],HE.list a_5 [] [SV.txt (p' "bad"),SV.txt (p' "."),SV.int (pl j)]],rst:=rs,fz:=z_1++(z++fz)})∧((wT (ai.w f) !=p' "(")=false→(decide (ai.dt f>(0:Int))=true→∀(a_6:Nat),(I,o)::rs=(I,o)::rs∧K (SV.tmp (1)) {loc:=fE x (wd j) (pl j) (SV.str (wd j)),hp:=d7 b0 b1 (HE.list oa (aB (f::r)) [SV.stk (0)]) da dvs,sk:=dI f (bI r),tp:=[HE.list a [] [],HE.list a_6 [] [SV.txt (p' "bad"),SV.txt (p' "."),SV.int (pl j)]],rst:=rs,fz:=z_1++(z++fz)})∧(decide (ai.dt f>(0:Int))=false→(I,o)::rs=(I,o)::rs∧vh x b0 b1 rs (z++fz) J j {loc:=fE x (wd j) (pl j) (SV.str (wd j)),hp:=d7 b0 b1 (HE.list oa (aB (f::r)) [SV.stk (0)]) da dvs,sk:=HE.list (ai.fa f) [] [SV.str (wT (ai.w f)),SV.stk (1),SV.num (1:Int),SV.opq (ai.hv f)]::HE.vlist (ai.ta f) (ai.vs f)::bI r,tp:=[HE.list a [] []],rst:=rs,fz:=z_1++(z++fz)}))
abbrev tW (x:Str)(b0 b1:HE)(rs fz:ah)(K:SV→St→Prop)(wd:Nat→Str)(pl:Nat→Int)(J:ah→Nat→kb→Prop)(z:ah)(j oa da:Nat)(f:ai)(r:List ai)(dvs:List Value)(z_1:List (Addr×Obj))(I:Nat)(o:Obj)(a a_4:Nat):Prop:=
  Ei (d7 b0 b1 (HE.list oa (aB (f::r)) []) da dvs) (dI f (bI r)) (fE x (wd j) (pl j) (SV.str (wd j))) (z_1++(z++fz)) λ(oa:Addr)(fs:List ai)(v:Value)(z_2:ah)=>pe (d7 b0 b1 (ar oa fs) da dvs) (eQ fs) (fE x (wd j) (pl j) (SV.opq v)) (z_2++(z_1++(z++fz))) v (λ(oa da:Addr)(fs':List ai)(dvs':List Value)(z_3:ah)=>(I,o)::rs=(I,o)::rs∧vh x b0 b1 rs (z++fz) J j {loc:=fE x (wd j) (pl j) (SV.opq v),hp:=d7 b0 b1 (ar oa fs') da dvs',sk:=eQ fs',tp:=[HE.list a [] [],HE.tup a_4 [SV.txt (p' "()"),SV.txt (p' "[]")]],rst:=rs,fz:=z_3++(z_2++(z_1++(z++fz)))}) λ(oa da:Addr)(fs':List ai)(dvs':List Value)(z_3:ah)=>∀(a_7:Nat),(I,o)::rs=(I,o)::rs∧K (SV.tmp (2)) {loc:=fE x (wd j) (pl j) (SV.opq v),hp:=d7 b0 b1 (ar oa fs') da dvs',sk:=eQ fs',tp:=[HE.list a [] [],HE.tup a_4 [SV.txt (p' "()"),SV.txt (p' "[]")],HE.list a_7 [] [SV.txt (p' "bad"),SV.txt (p' "more than one thing behind a dot"),SV.int (pl j)]],rst:=rs,fz:=z_3++(z_2++(z_1++(z++fz)))}
abbrev uZ (w:World)(x:Str)(b0 b1:HE)(rs fz:ah)(K:SV→St→Prop)(wd:Nat→Str)(pl:Nat→Int)(J:ah→Nat→kb→Prop)(z:ah)(j oa da:Nat)(f:ai)(r:List ai)(dvs:List Value)(z_1:List (Addr×Obj))(I:Nat)(o:Obj)(a a_4:Nat):Prop:=
  ((!QX [p' "()",p' "[]"] λ(x:Str)=>x==wT (ai.w f)++wd j)=true→∀(a_6:Nat),(I,o)::rs=(I,o)::rs∧K (SV.tmp (2)) {loc:=fE x (wd j) (pl j) (SV.str (wd j)),hp:=d7 b0 b1 (HE.list oa (aB (f::r)) [SV.stk (0)]) da dvs,sk:=dI f (bI r),tp:=[HE.list a [] [],HE.tup a_4 [SV.txt (p' "()"),SV.txt (p' "[]")],HE.list a_6 [] [SV.txt (p' "bad"),SV.str (wd j),SV.int (pl j)]],rst:=rs,fz:=z_1++(z++fz)})∧((!QX [p' "()",p' "[]"] λ(x:Str)=>x==wT (ai.w f)++wd j)=false→((ai.dt f==(1:Int))=true→∀(a_7:Nat),(I,o)::rs=(I,o)::rs∧K (SV.tmp (2)) {loc:=fE x (wd j) (pl j) (SV.str (wd j)),hp:=d7 b0 b1 (HE.list oa (aB (f::r)) [SV.stk (0)]) da dvs,sk:=dI f (bI r),tp:=[HE.list a [] [],HE.tup a_4 [SV.txt (p' "()"),SV.txt (p' "[]")],HE.list a_7 [] [SV.txt (p' "bad"),SV.str (wd j),SV.int (pl j)]],rst:=rs,fz:=z_1++(z++fz)})∧((ai.dt f==(1:Int))=false→vc (aB (f::r))+1<1048576∧tW x b0 b1 rs fz K wd pl J z j oa da f r dvs z_1 I o a a_4))
abbrev uu (w:World)(x:Str)(b0 b1:HE)(rs fz:ah)(K:SV→St→Prop)(wd:Nat→Str)(pl:Nat→Int)(J:ah→Nat→kb→Prop)(a:Nat)(z:ah)(j oa da:Nat)(f:ai)(r:List ai)(dvs:List Value)(z_1:List (Addr×Obj))(I:Nat)(o:Obj):Prop:=
  (aN (wd j) (p' ")]")=true→∀(a:Nat),(PD (vc (aB (f::r))+1) (0)=true→∀(a_4:Nat),(I,o)::rs=(I,o)::rs∧K (SV.tmp (1)) {loc:=fE x (wd j) (pl j) (SV.str (wd j)),hp:=d7 b0 b1 (HE.list oa (aB (f::r)) [SV.stk (0)]) da dvs,sk:=dI f (bI r),tp:=[HE.list a [] [],HE.list a_4 [] [SV.txt (p' "bad"),SV.str (wd j),SV.int (pl j)]],rst:=rs,fz:=z_1++(z++fz)})∧(PD (vc (aB (f::r))+1) (0)=false→Pg (wT (ai.w f))+Pg (wd j)≤16777216∧∀(a_4:Nat),uZ w x b0 b1 rs fz K wd pl J z j oa da f r dvs z_1 I o a a_4))∧(aN (wd j) (p' ")]")=false→∀(t:Nat),pe (d7 b0 b1 (HE.list oa (aB (f::r)) [SV.stk (0)]) da dvs) (dI f (bI r)) (fE x (wd j) (pl j) (SV.str (wd j))) (z_1++(z++fz)) (Qn (wd j) t) (λ(oa da:Addr)(fs':List ai)(dvs':List Value)(z_2:ah)=>(I,o)::rs=(I,o)::rs∧vh x b0 b1 rs (z++fz) J j {loc:=fE x (wd j) (pl j) (SV.str (wd j)),hp:=d7 b0 b1 (ar oa fs') da dvs',sk:=eQ fs',tp:=[],rst:=rs,fz:=z_2++(z_1++(z++fz))}) λ(oa da:Addr)(fs':List ai)(dvs':List Value)(z_2:ah)=>∀(a:Nat),(I,o)::rs=(I,o)::rs∧K (SV.tmp (0)) {loc:=fE x (wd j) (pl j) (SV.str (wd j)),hp:=d7 b0 b1 (ar oa fs') da dvs',sk:=eQ fs',tp:=[HE.list a [] [SV.txt (p' "bad"),SV.txt (p' "more than one thing behind a dot"),SV.int (pl j)]],rst:=rs,fz:=z_2++(z_1++(z++fz))})
abbrev uo (w:World)(x:Str)(b0 b1:HE)(rs fz:ah)(K:SV→St→Prop)(wd:Nat→Str)(pl:Nat→Int)(J:ah→Nat→kb→Prop)(a:Nat)(z:ah)(vs:List Value)(j oa da:Nat)(f:ai)(r:List ai)(dvs:List Value)(z_1:List (Addr×Obj))(I:Nat)(o:Obj):Prop:=
  ((wd j==p' "'")=true→∀(a a_3:Nat),vc (aB (f::r))+1<1048576∧(I,o)::rs=(I,o)::rs∧vh x b0 b1 rs (z++fz) J j {loc:=fE x (wd j) (pl j) (SV.str (wd j)),hp:=d7 b0 b1 (HE.list oa (aB (f::r)) [SV.stk (0),SV.opq (Pa a_3)]) da dvs,sk:=dI f (bI r),tp:=[HE.list a [] [],HE.list a_3 [] [SV.str (wd j),SV.opq (Pa a),SV.num (0:Int),SV.txt (p' "nil")]],rst:=rs,fz:=z_1++(z++fz)})∧((wd j==p' "'")=false→((wd j==p' ".")=true→∀(a:Nat),(PD (vc (aB (f::r))+1) (0)=true→∀(a_4:Nat),(I,o)::rs=(I,o)::rs∧K (SV.tmp (1)) {loc:=fE x (wd j) (pl j) (SV.str (wd j)),hp:=d7 b0 b1 (HE.list oa (aB (f::r)) [SV.stk (0)]) da dvs,sk:=dI f (bI r),tp:=[HE.list a [] [],HE.list a_4 [] [SV.txt (p' "bad"),SV.txt (p' "."),SV.int (pl j)]],rst:=rs,fz:=z_1++(z++fz)})∧(PD (vc (aB (f::r))+1) (0)=false→uK w x b0 b1 rs fz K wd pl J z vs j oa da f r dvs z_1 I o a))∧((wd j==p' ".")=false→uu w x b0 b1 rs fz K wd pl J a z j oa da f r dvs z_1 I o))
abbrev tV (x:Str)(b0 b1:HE)(rs fz:ah)(K:SV→St→Prop)(n:Nat)(J:ah→Nat→kb→Prop)(a:Nat)(z:ah):Prop:=
  (∀(oa da:Nat)(dvs:List Value)(z_1:List (Addr×Obj)),J (z++fz) n {oa:=oa,da:=da,fs:=[],dvs:=dvs,z:=z_1}→∀(a:Nat),(PD (0) (0)=true→∀(a_4:Nat),K (SV.tmp (1)) {loc:=zu x,hp:=d7 b0 b1 (HE.list oa [] []) da dvs,sk:=[],tp:=[HE.list a [] [],HE.list a_4 [] [SV.txt (p' "data"),SV.ref (3)]],rst:=rs,fz:=z_1++(z++fz)})∧(PD (0) (0)=false→Pg x<1152921504606846976∧∀(a_4:Nat),K (SV.tmp (1)) {loc:=zu x,hp:=d7 b0 b1 (HE.list oa [] []) da dvs,sk:=[],tp:=[HE.list a [] [],HE.list a_4 [] [SV.txt (p' "end"),SV.int (↑(Pg x):Int)]],rst:=rs,fz:=z_1++(z++fz)}))∧∀(oa da:Nat)(f:ai)(r:List ai)(dvs:List Value)(z_1:List (Addr×Obj)),J (z++fz) n {oa:=oa,da:=da,fs:=f::r,dvs:=dvs,z:=z_1}→∀(a:Nat),(PD (vc (aB (f::r))+1) (0)=true→∀(a_4:Nat),K (SV.tmp (1)) {loc:=zu x,hp:=d7 b0 b1 (HE.list oa (aB (f::r)) [SV.stk (0)]) da dvs,sk:=dI f (bI r),tp:=[HE.list a [] [],HE.list a_4 [] [SV.txt (p' "data"),SV.ref (3)]],rst:=rs,fz:=z_1++(z++fz)})∧(PD (vc (aB (f::r))+1) (0)=false→Pg x<1152921504606846976∧∀(a_4:Nat),K (SV.tmp (1)) {loc:=zu x,hp:=d7 b0 b1 (HE.list oa (aB (f::r)) [SV.stk (0)]) da dvs,sk:=dI f (bI r),tp:=[HE.list a [] [],HE.list a_4 [] [SV.txt (p' "end"),SV.int (↑(Pg x):Int)]],rst:=rs,fz:=z_1++(z++fz)})
abbrev tH (w:World)(x:Str)(b0 b1:HE)(rs fz:ah)(K:SV→St→Prop)(n:Nat)(wd:Nat→Str)(pl:Nat→Int)(J:ah→Nat→kb→Prop)(a a_1 a_2:Nat)(z:ah)(vs:List Value):Prop:=
  (Ent {loc:=[("text",SV.str x),("data",SV.opq (Pa a_1)),("opened_here",SV.opq (Pa a))],hp:=[b0,b1],sk:=[],tp:=[HE.list a [] [],HE.list a_1 [] [],HE.tup a_2 [SV.opq (Pa a),SV.opq (Pa a_1)]],rst:=rs,fz:=z++fz} λ(st':St)=>∃(i:kb),J (z++fz) (0) i∧st'=F6 x b0 b1 rs (z++fz) i)∧(∀(j:Nat),(∀(oa da:Nat)(dvs:List Value)(z_1:List (Addr×Obj))(I:Nat)(o:Obj),j<n→J (z++fz) j {oa:=oa,da:=da,fs:=[],dvs:=dvs,z:=z_1}→tX x b0 b1 rs fz K wd pl J a z j oa da dvs z_1 I o)∧∀(oa da:Nat)(f:ai)(r:List ai)(dvs:List Value)(z_1:List (Addr×Obj))(I:Nat)(o:Obj),j<n→J (z++fz) j {oa:=oa,da:=da,fs:=f::r,dvs:=dvs,z:=z_1}→(aN (wd j) (p' "([")=true→∀(a a_3:Nat),vc (aB (f::r))+1<1048576∧(I,o)::rs=(I,o)::rs∧vh x b0 b1 rs (z++fz) J j {loc:=fE x (wd j) (pl j) (SV.str (wd j)),hp:=d7 b0 b1 (HE.list oa (aB (f::r)) [SV.stk (0),SV.opq (Pa a_3)]) da dvs,sk:=dI f (bI r),tp:=[HE.list a [] [],HE.list a_3 [] [SV.str (wd j),SV.opq (Pa a),SV.num (0:Int),SV.txt (p' "nil")]],rst:=rs,fz:=z_1++(z++fz)})∧(aN (wd j) (p' "([")=false→uo w x b0 b1 rs fz K wd pl J a z vs j oa da f r dvs z_1 I o))∧tV x b0 b1 rs fz K n J a z
theorem zH (w:World)(sc:Sc)(ke:KX)(x:Str)(b0 b1:HE)(rs fz:ah)(K:SV→St→Prop)(n:Nat)(wd:Nat→Str)(pl:Nat→Int)(J:ah→Nat→kb→Prop) :
  (∀(a a_1 a_2:Nat),rS fz x λ(l:Addr)(z:ah)=>∃(l_1:Nat),∃(vs:List Value),∃(nn:Nat),Pa l=Pa l_1∧((l_1,P' (PE vs) nn)∈z++fz∧(∀(j:Nat)(i:kb),J (z++fz) j i→(l_1,P' (PE vs) nn)∈kb.z i++(z++fz))∧n=vc vs)∧(∀(j:Nat)(v:Value),vs[j]?=some v→∃(t:Nat),∃(ws:List Value),v=Pa t∧(∀(i:kb),J (z++fz) j i→(t,cZ ws)∈kb.z i++(z++fz))∧IR {hp:=[],sk:=[],tp:=[]} [SV.str (wd j),SV.int (pl j)] ws)∧(∀(j:Nat),j<n→2=2)∧tH w x b0 b1 rs fz K n wd pl J a a_1 a_2 z vs) →
  bw (bE {cs:=aK (aJ 79),call:=aw [(729,ml),(736,jK),(743,nj)],ke:=ke,fors:=λ_=>some λaq=>N6 x b0 b1 rs n wd pl J aq} (xt w sc) 12) (bz (aJ 79)) {loc:=[("text",.str x)],hp:=[b0,b1],sk:=[],tp:=[],rst:=rs,fz:=fz} (λfl st=>K (bW fl) st):=
 Qg (by kernel_rfl)
def iB:Tk→Prop
 |.sym y=>bG y∧0<y.length∧y≠"."
 |_=>True
theorem vZ {q:Nat}(h:p<q)(hq:q≤cs.length):0<(cj cs p q).length:=by
 show 0<(((cs.drop p).take (q-p)).map Pf).toArray.size
 rw[Pw,PM,RM,Ri]
 exact Nat.lt_min.mpr ⟨Tp h,Tp (PV h hq)⟩
theorem Ak (hs:s<cs.length)(hok:jX cs)(h6:cs.getD s 0≠59)(h7:cs.getD s 0≠10)(h8:cs.getD s 0≠32):iB (aS cs s).1:=by
 unfold aS
 by_cases h1:cs.getD s 0=40
 ·rw[if_pos h1];trivial
 by_cases h2:cs.getD s 0=41
 ·rw[if_neg h1,if_pos h2];trivial
 by_cases h3:cs.getD s 0=91
 ·rw[if_neg h1,if_neg h2,if_pos h3];trivial
 by_cases h4:cs.getD s 0=93
 ·rw[if_neg h1,if_neg h2,if_neg h3,if_pos h4];trivial
 by_cases h5:cs.getD s 0=39
 ·rw[if_neg h1,if_neg h2,if_neg h3,if_neg h4,if_pos h5];trivial
 rw[if_neg h1,if_neg h2,if_neg h3,if_neg h4,if_neg h5]
 by_cases hd:cj cs s (aW cs s)=p' "."
 ·rw[if_pos hd];trivial
 ·rw[if_neg hd]
  exact⟨pV hok,vZ (sa hs (rT (ng hok hs) h1 h2 h3 h4 h5 h6 h7 h8)) (iO (QD hs)),hd⟩
theorem js (hok:jX cs):∀(n p:Nat),p≤cs.length→∀q∈gM cs n p,iB q.1
 |0,_,_,_,h=>nomatch h
 |n+1,p,hp,q,h=>by
  rw[kH]at h
  by_cases hs:ae cs p<cs.length
  ·rw[if_pos hs]at h
   obtain⟨a,b,c⟩:=cT hp hs
   rcases List.mem_cons.mp h with rfl|h
   ·exact Ak hs hok a b c
   ·exact js hok n _ (f5 hs) q h
  ·rw[if_neg hs]at h
   exact nomatch h
theorem Me (h:∀i,(decide (i+y.length≤2)&&Builtin.Str.subAt s y i)=false):QF s y 0 2 1=[]:=by
 unfold QF
 simp[Std.Legacy.Range.forIn_eq_forIn_range',TN,Bool.and_assoc,h]
theorem sq (hs:s.cps.size=2)(hc:∀c∈s.cps,ve c=false)(h:bG y)(h0:0<y.length):aN y s=false:=by
 unfold aN
 have e:s.length=2:=hs
 rw[e,Me λi=>?_];rfl
 cases q:Builtin.Str.subAt s y i with
 |false=>exact Bool.and_false _
 |true=>
  have q:s.cps.extract i (i+y.length)=y.cps:=beq_iff_eq.mp q
  have h0:0<y.cps.size:=h0
  have m:y.cps[0]∈s.cps.extract i (i+y.length):=by rw[q];exact QK h0
  obtain⟨k,hk,e⟩:=Array.getElem_of_mem m
  rw[Array.getElem_extract]at e
  have:=hc _ (QK (show i+k<s.cps.size by rw[Array.size_extract]at hk;rw[RL];exact PV (Nat.add_lt_of_lt_sub hk) (TB _ _)))
  rw[e,h _ (QK h0)]at this
  cases this
structure wF (w:Str)(o q d c:Bool):Prop where
 o:aN w "(["=o
 q:(w == "'")=q
 d:(w == ".")=d
 c:aN w ")]"=c
theorem mL (h:bG y∧0<y.length∧y≠"."):wF y false false false false:=
 ⟨sq (by decide +kernel) (by decide +kernel) h.1 h.2.1,by
  rw[beq_eq_false_iff_ne]
  intro e
  subst e
  exact absurd (h.1 39 (by decide +kernel)) (by decide +kernel),beq_eq_false_iff_ne.mpr h.2.2,sq (by decide +kernel) (by decide +kernel) h.1 h.2.1⟩
theorem l6 (b:Bool):wF (cJ (.opn b)) true false false false:=by cases b<;>exact⟨by decide +kernel,by decide +kernel,by decide +kernel,by decide +kernel⟩
theorem lR (b:Bool):wF (cJ (.cls b)) false false false true:=by cases b<;>exact⟨by decide +kernel,by decide +kernel,by decide +kernel,by decide +kernel⟩
theorem mZ:wF (cJ .quo) false true false false:=⟨by decide +kernel,by decide +kernel,by decide +kernel,by decide +kernel⟩
theorem lW:wF (cJ .dot) false false true false:=⟨by decide +kernel,by decide +kernel,by decide +kernel,by decide +kernel⟩
abbrev MW {ι:Type}(st:St)(st':ι→St)(l l':ah):Prop:=∃i k z,(∀x sv',look x (st' i).loc=some sv'→∃sv,look x st.loc=some sv∧∀v,sv.R st.ad v→sv'.R (st' i).ad v)∧(st' i).tp=[]∧LL (st' i).ad.low ((st' i).hp++(st' i).sk) k∧(l++(l'++st.rf)).Perm ((k++(st' i).rf)++z)
theorem Inv.fV {st:St}(I:Inv X st s)(h:∀l l',LL st.ad.low (st.hp++st.sk) l→LL st.ad.bot st.tp l'→MW st st' l l'):∃i,Inv X (st' i) s:=by
 obtain⟨m,l,l',L1,L2,hlo,F,N,nd⟩:=I.ex
 obtain⟨i,k,z,hl,ht,K1,pm⟩:=h l l' L1 L2
 have sub:=Q8 (k++(st' i).rf) z
 refine⟨i,⟨m,k,[],K1,ht▸.nil,λx sv' q=>?_,F,λp hp=>N p (pm.mem_iff.mpr (sub.mem hp)),(nd.perm pm).sub sub⟩,I.gens,I.os⟩
 obtain⟨sv,q1,q2⟩:=hl x sv' q
 obtain⟨v,a,b⟩:=hlo x sv q1
 exact⟨v,a,q2 v b⟩
theorem oP (h:look y (zu x)=some sv):look y (fE x wd pl th)=some sv:=bX (l:=zu x) (m:=[("word",.str wd),("place",.int pl),("thing",th)]) h
theorem Ck (h:D.hp=D'.hp)(q:look y (zu x)=some sv)(r:sv.R D v):sv.R D' v:=SV.jW (n:=4) (by rw[h]) (eb (loc:=zu x) rfl q) r
theorem OS (r:IR D [a,b,c,d] vs):∃v w u t,vs=[v,w,u,t]∧a.R D v∧b.R D w∧c.R D u∧d.R D t:=by
 cases r with|cons ra r=>obtain⟨w,u,t,rfl,rb,rc,rd⟩:=vf r;exact⟨_,w,u,t,rfl,ra,rb,rc,rd⟩
inductive L0 (a:Addr)(l:ah):Prop
 |mk (n:Nat)(e:l=[(a,listOf #[] n)])
theorem HL.Cd (H:HL D (.list a [] []) l):L0 a l:=by
 obtain⟨us,n,ir,rfl⟩:=H.listI
 rcases G7 ir with rfl
 exact⟨n,rfl⟩
inductive L4 (D:Ad)(a:Addr)(x y z t:SV)(l:ah):Prop
 |mk (u v w r:Value)(n:Nat)(h1:x.R D u)(h2:y.R D v)(h3:z.R D w)(h4:t.R D r)(e:l=[(a,listOf [u,v,w,r].toArray n)])
theorem HL.J2 (H:HL D (.list a [] [x,y,z,t]) l):L4 D a x y z t l:=by
 obtain⟨us,n,ir,rfl⟩:=H.listI
 obtain⟨u,v,w,r,rfl,a,b,c,d⟩:=OS ir
 exact⟨u,v,w,r,n,a,b,c,d,rfl⟩
inductive Ot (D:Ad)(b0 b1 e v:HE)(r:List HE)(l:ah):Prop
 |mk (lB lE lV lS:ah)(LB:LL D [b0,b1] lB)(HE:HL D e lE)(HV:HL D v lV)(LS:LL D r lS)(q:l=lB++(lE++(lV++lS)))
theorem NY (h:LL D (b0::b1::e::v::r) l):Ot D b0 b1 e v r l:=by
 obtain⟨lB,l2,rfl,LB,L2⟩:=LL.split (es:=[b0,b1]) (fs:=e::v::r) h
 obtain⟨lE,l3,rfl,HE,L3⟩:=LL.dm L2
 obtain⟨lV,lS,rfl,HV,LS⟩:=LL.dm L3
 exact⟨lB,lE,lV,lS,LB,HE,HV,LS,rfl⟩
theorem Hs {lE:ah}(LB:LL D [b0,b1] lB)(HE:HL D e lE)(HV:HL D v lV)(LS:LL D r lS):LL D (b0::b1::e::v::r) (lB++(lE++(lV++lS))):=LL.append LB (.cons HE (.cons HV LS))
section
variable {x:Str}{b0 b1:HE}{rs fz z:ah}{J:ah→Nat→kb→Prop}{j:Nat}{oa da:Addr}{fs:List ai}{dvs:List Value}{wd:Str}{pl:Int}{th:SV}{tp sk:List HE}
theorem lU (hz:zz=z++fz)(hj:J fz (j+1) ⟨oa,da,fs,dvs,z⟩)(ha:sk.map HE.addr=(eQ fs).map HE.addr)(hT:∀D l,LL D sk l→LL D (eQ fs) l) :
  vh x b0 b1 rs fz J j {loc:=fE x wd pl th,hp:=d7 b0 b1 (ar oa fs) da dvs,sk:=sk,tp:=tp,rst:=rs,fz:=zz}:=⟨λX s f0 I=>by
 subst hz
 refine⟨_,⟨_,hj,rfl⟩,Inv.lay (st':=St.fr (F6 x b0 b1 rs fz ⟨oa,da,fs,dvs,z⟩) f0) I (λy sv' q=>⟨sv',oP q,λv r=>Ck (by rfl) q r⟩) λl l' L1 L2=>⟨l,[],l',?_,.nil,bj λ_ _ p=>by
  show RJ p (l++(l'++((f0++rs)++(z++fz))))=RJ p ((l++([]++((f0++rs)++(z++fz))))++l')
  simp only[PL,Qa];lia⟩⟩
 have e:Ad.low (St.ad {loc:=fE x wd pl th,hp:=d7 b0 b1 (ar oa fs) da dvs,sk:=sk,tp:=tp,rst:=f0++rs,fz:=z++fz})=Ad.mk ((d7 b0 b1 (ar oa fs) da dvs).map HE.addr) ((eQ fs).map HE.addr) []:=by
  show Ad.mk _ (sk.map HE.addr) []=_
  rw[ha]
 obtain⟨l1,lS,rfl,L1,LS⟩:=L1.split
 exact(e▸L1).append (hT _ _ (e▸LS))⟩
theorem uM (h:look y [("text",.str x),("opened_here",a),("data",b)]=some sv):look y [("text",.str x),("data",b),("opened_here",a)]=some sv:=by
 show(match("text":Str)==y with|true=>some (.str x)|false=>look y [("data",b),("opened_here",a)])=some sv
 rcases mB h with⟨q,h⟩|⟨q,h⟩
 ·rw[q];exact h
 ·rw[q]
  rcases mB h with⟨q,h2⟩|⟨q,h⟩
  ·rcases beq_iff_eq.mp q with rfl
   cases h2
   rfl
  ·rcases mB h with⟨q,h2⟩|⟨_,h2⟩
   ·rcases beq_iff_eq.mp q with rfl
    exact h2
   ·cases h2
theorem qS {l a b c f g:ah}:(l++((a++(b++c))++(f++g))).Perm (((l++(a++(b++[])))++([]++(f++([]++g))))++c):=bj λ_ _ p=>by
 simp only[PL,Qa];lia
theorem tB (hB:(([b0,b1]:List HE).all (·.okN 2))=true) (L1:LL ⟨[b0.addr,b1.addr],[],[]⟩ [b0,b1] l)(L2:LL ⟨[b0.addr,b1.addr],[],[]⟩ [.list a [] [],.list a1 [] [],e] l'):∃k z,LL ⟨[b0.addr,b1.addr,a,a1],[],[]⟩ [b0,b1,.list a [] [],.vlist a1 []] k∧∀f g:ah,(l++(l'++(f++g))).Perm ((k++([]++(f++([]++g))))++z):=by
 obtain⟨la,l2,rfl,Ha,L2⟩:=LL.dm L2
 obtain⟨lb,l3,rfl,Hb,_⟩:=LL.dm L2
 rcases Hb.Cd with⟨m,rfl⟩
 exact⟨_,l3,Hs (LL.okN (n:=2) (by rfl) L1 hB) (HL.okN (n:=0) (by rfl) Ha rfl) (.vlist (n:=m)) .nil,λf g=>qS⟩
theorem wm (hB:(([b0,b1]:List HE).all (·.okN 2))=true) (hj:J fz 0 ⟨a,a1,[],[],[]⟩):Ent {loc:=[("text",.str x),("data",.opq (.ref a1)),("opened_here",.opq (.ref a))],hp:=[b0,b1],sk:=[],tp:=[.list a [] [],.list a1 [] [],e],rst:=rs,fz:=fz} λst'=>∃i,J fz 0 i∧st'=F6 x b0 b1 rs fz i:=⟨λX s f0 I=>by
 refine⟨_,⟨_,hj,rfl⟩,Inv.lay (st':=St.fr (F6 x b0 b1 rs fz ⟨a,a1,[],[],[]⟩) f0) I (λy sv' q=>?_) λl l' L1 L2=>?_⟩
 ·have:fF (λs1 s2=>∀v,s1.R ⟨[b0.addr,b1.addr],[],[a,a1,e.addr]⟩ v→s2.R ⟨[b0.addr,b1.addr,a,a1],[],[]⟩ v) [("text",.str x),("opened_here",.opq (.ref a)),("data",.opq (.ref a1))] (zu x):=
   .cons (λv r=>r) (.cons (λv r=>⟨a,rfl,r⟩) (.cons (λv r=>⟨a1,rfl,r⟩) .nil))
  obtain⟨sv,q1,q2⟩:=this.look q
  exact⟨sv,uM q1,q2⟩
 ·obtain⟨k,y,K,pm⟩:=tB hB L1 L2
  exact⟨k,[],y,K,.nil,pm _ _⟩⟩
theorem qy {lB lF lV lS a b c rf:ah}:((lB++(lF++(lV++lS)))++((a++(b++c))++rf)).Perm (((lB++(lF++(lV++(b++(a++lS)))))++rf)++c):=bj λ_ _ p=>by
 simp only[PL];lia
theorem vp (hB:(([b0,b1]:List HE).all (·.okN 2))=true) (L1:LL D (b0::b1::.list oa (aB fs) (di fs++[.opq (.ref a3)])::.vlist da dvs::eQ fs) l) (L2:LL ⟨D.hp,[],[]⟩ [.list a [] [],.list a3 [] [.str (wT w),.opq (.ref a),.num 0,.txt "nil"]] l') (hD:D'.hp=(d7 b0 b1 (.list oa [] []) da dvs).map HE.addr∧D.hp.take 2=D'.hp.take 2∧D.sk=(bf fs).map HE.addr∧D'.sk=a3::a::(bI fs).map HE.addr) :
  ∃t k z,LL D' (b0::b1::ar oa (⟨a3,0,a,w,0,0,[],0,.str "nil" t⟩::fs)::.vlist da dvs::eQ (⟨a3,0,a,w,0,0,[],0,.str "nil" t⟩::fs)) k∧∀rf:ah,(l++(l'++rf)).Perm ((k++rf)++z):=by
 obtain⟨h1,h2,h3,h4⟩:=hD
 obtain⟨lB,lF,lV,lS,LB,HF,HV,LS,rfl⟩:=NY L1
 obtain⟨la,l2,rfl,Ha,L2⟩:=LL.dm L2
 obtain⟨lb,l3,rfl,Hb,_⟩:=LL.dm L2
 rcases Ha.Cd with⟨m,rfl⟩
 obtain⟨v0,v1,v2,v3,n,r0,r1,r2,r3,rfl⟩:=Hb.J2
 rcases r3 with⟨t,rfl⟩
 have hs:D'.sk=(bf (⟨a3,0,a,w,0,0,[],0,.str "nil" t⟩::fs)).map HE.addr:=h4.trans (congrArg (λz=>a3::a::z) (gT fs))
 exact⟨t,_,l3,Hs (LL.okN (n:=2) h2 LB hB) (jV (f:=⟨a3,0,a,w,0,0,[],0,.str "nil" t⟩) h3 hs HF) (HL.okN (n:=0) (by rfl) HV rfl) (.cons (.list (.cons r0 (.cons (show SV.R D' (.stk 1) _ from⟨a,by rw[h4];rfl,r1⟩) (.cons r2 (.cons rfl .nil))))) (.cons (.vlist (n:=m)) (KP h3 LS))),λrf=>qy⟩
theorem sO (hB:(([b0,b1]:List HE).all (·.okN 2))=true) (hw:wd=wT w)(hj:∀t,J fz (j+1) ⟨oa,da,⟨a3,0,a,w,0,0,[],0,.str "nil" t⟩::fs,dvs,z⟩) :
  vh x b0 b1 rs fz J j {loc:=fE x wd pl th,hp:=d7 b0 b1 (.list oa (aB fs) (di fs++[.opq (.ref a3)])) da dvs,sk:=eQ fs,tp:=[.list a [] [],.list a3 [] [.str wd,.opq (.ref a),.num 0,.txt "nil"]],rst:=rs,fz:=z++fz}:=⟨λX s f0 I=>by
 subst hw
 obtain⟨t,I⟩:=Inv.fV (st':=λt=>St.fr (F6 x b0 b1 rs fz ⟨oa,da,⟨a3,0,a,w,0,0,[],0,.str "nil" t⟩::fs,dvs,z⟩) f0) I λl l' L1 L2=>by
  obtain⟨t,k,y,K,pm⟩:=vp hB (D':=⟨[b0.addr,b1.addr,oa,da],a3::a::(bI fs).map HE.addr,[]⟩) L1 L2 ⟨rfl,rfl,jb fs,rfl⟩
  exact⟨t,k,y,λy sv' q=>⟨sv',oP q,λv r=>Ck (by rfl) q r⟩,rfl,K,pm _⟩
 exact⟨_,⟨_,hj t,rfl⟩,I⟩⟩
end
noncomputable def iy:nh→Pz
 |.data ds=>.list [.str "data",.list ds]
 |.bad w p=>.list [.str "bad",.str w,.int p]
 |.fin p=>.list [.str "end",.int p]
theorem lh {P:Prop}(h:b=true)(k:b=false):P:=by rw[h]at k;cases k
theorem E1 (h:iB t)(e:aN (cJ t) "(["=true):∃b,t=.opn b:=by
 cases t with
 |opn b=>exact⟨b,rfl⟩
 |cls b=>exact lh e (lR b).o
 |quo=>exact lh e mZ.o
 |dot=>exact lh e lW.o
 |sym y=>exact lh e (mL h).o
theorem Fq (h:iB t)(e:(cJ t == "'")=true):t=.quo:=by
 cases t with
 |opn b=>exact lh e (l6 b).q
 |cls b=>exact lh e (lR b).q
 |quo=>rfl
 |dot=>exact lh e lW.q
 |sym y=>exact lh e (mL h).q
theorem p8 (h:iB t)(e:(cJ t == ".")=true):t=.dot:=by
 cases t with
 |opn b=>exact lh e (l6 b).d
 |cls b=>exact lh e (lR b).d
 |quo=>exact lh e mZ.d
 |dot=>rfl
 |sym y=>exact lh e (mL h).d
theorem mC (h:iB t)(e:aN (cJ t) ")]"=true):∃b,t=.cls b:=by
 cases t with
 |opn b=>exact lh e (l6 b).c
 |cls b=>exact⟨b,rfl⟩
 |quo=>exact lh e mZ.c
 |dot=>exact lh e lW.c
 |sym y=>exact lh e (mL h).c
theorem Fe (e1:aN (cJ t) "(["=false) (e2:(cJ t == "'")=false) (e3:(cJ t == ".")=false) (e4:aN (cJ t) ")]"=false):∃y,t=.sym y:=by
 cases t with
 |opn b=>exact lh (l6 b).o e1
 |cls b=>exact lh (lR b).c e4
 |quo=>exact lh mZ.q e2
 |dot=>exact lh lW.d e3
 |sym y=>exact⟨y,rfl⟩
theorem Et (b:Bool):∃w,cJ (.opn b)=wT w∧wN w=if b then 0 else 1:=by
 cases b with
 |true=>exact⟨.rnd,rfl,rfl⟩
 |false=>exact⟨.sqr,rfl,rfl⟩
theorem nF (w:WK)(b:Bool):(!QX [("()":Str),"[]"] λx=>x==wT w++cJ (.cls b))=!decide (wN w=if b then 0 else 1):=by cases w<;>cases b<;>decide +kernel
theorem vH (w:WK):(wT w !="(")=!decide (wN w=0):=by cases w<;>decide +kernel
theorem Bz (w:WK)(b:Bool):(wT w).length+(cJ (.cls b)).length≤16777216:=by cases w<;>cases b<;>decide +kernel
inductive vg (N:Nat)(A:nh)(TS:List (Tk×Nat))(fz:ah)(j:Nat)(i:kb):Prop
 |mk (Fs:List cQ)(ds:List Pz)(hF:dK (i.z++fz) i.fs Fs)(hD:bq (i.z++fz) i.dvs ds)(go:bx N (TS.drop j) Fs ds=A)(nf:i.fs.length≤j)(nd:i.dvs.length≤j)(nv:∀f∈i.fs,f.vs.length≤j)
structure kJ (N:Nat)(A:nh)(TS:List (Tk×Nat))(fz:ah)(j:Nat)(t:Tk)(p:Nat)(fs:List ai)(dvs:List Value)(z:ah)(Fs:List cQ)(ds:List Pz):Prop where
 hF:dK (z++fz) fs Fs
 hD:bq (z++fz) dvs ds
 go:bx N ((t,p)::TS.drop (j+1)) Fs ds=A
 nf:fs.length≤j
 nd:dvs.length≤j
 nv:∀f∈fs,f.vs.length≤j
section
variable {N:Nat}{A:nh}{TS:List (Tk×Nat)}{fz z:ah}{j p:Nat}{t:Tk}{oa da:Addr}{fs:List ai}{dvs:List Value}{Fs:List cQ}{ds:List Pz}
theorem kJ.push (h:kJ N A TS fz j t p fs dvs z Fs ds)(hr:bx N ((t,p)::TS.drop (j+1)) Fs ds=bx N (TS.drop (j+1)) (⟨wN w,[],0,gI⟩::Fs) ds) (tk:Tok):vg N A TS fz (j+1) ⟨oa,da,⟨a3,0,a,w,0,0,[],0,.str "nil" tk⟩::fs,dvs,z⟩:=
 ⟨_,_,.cons ⟨rfl,.nil,rfl,Rd.str⟩ h.hF,h.hD,hr.symm.trans h.go,Qo h.nf,PK h.nd,λf hf=>by
  cases hf with
  |head=>exact Ql _
  |tail _ hf=>exact PK (h.nv f hf)⟩
theorem kJ.dot (h:kJ N A TS fz j .dot p (f::fs) dvs z Fs ds)(hw:wN f.w=0)(hd:¬f.dt>0):vg N A TS fz (j+1) ⟨oa,da,{f with dt:=1}::fs,dvs,z⟩:=by
 obtain⟨hF,hD,go,nf,nd,nv⟩:=h
 cases hF with
 |@cons _ F _ Fs hf hr=>
  have e1:=hf.w
  have e2:=hf.dots
  have e:fC (F::Fs)=some ({F with dots:=1}::Fs):=if_pos ⟨by rw[e1,hw],by lia⟩
  rw[m7,e]at go
  exact⟨{F with dots:=1}::Fs,ds,.cons ⟨hf.w,hf.things,rfl,hf.tail⟩ hr,hD,go,PK nf,PK nd,λg hg=>by
   cases hg with
   |head=>exact PK (nv f (.head _))
   |tail _ hg=>exact PK (nv g (.tail _ hg))⟩
theorem kJ.EC (h:kJ N A TS fz j .dot p [] dvs z Fs ds):A=.bad "." p:=by
 have hF:=h.hF
 have go:=h.go
 cases hF
 exact go.symm
theorem kJ.H6 (h:kJ N A TS fz j .dot p (f::fs) dvs z Fs ds)(hw:wN f.w≠0∨f.dt>0):A=.bad "." p:=by
 have hF:=h.hF
 have go:=h.go
 cases hF with
 |@cons _ F _ Fs hf hr=>
  have e1:=hf.w
  have e2:=hf.dots
  have e:fC (F::Fs)=none:=if_neg λq=>by
   rcases q with⟨q1,q2⟩
   rcases hw with hw|hw
   ·exact hw (e1▸q1)
   ·lia
  rw[m7,e]at go
  exact go.symm
theorem kJ.Ed (h:kJ N A TS fz j (.cls b) p [] dvs z Fs ds):A=.bad (cJ (.cls b)) p:=by
 have hF:=h.hF
 have go:=h.go
 cases hF
 rw[←go]
 cases b<;>rfl
theorem kJ.Gz (h:kJ N A TS fz j (.cls b) p (f::fs) dvs z Fs ds)(hw:wN f.w≠(if b then 0 else 1)∨f.dt=1):A=.bad (cJ (.cls b)) p:=by
 have hF:=h.hF
 have go:=h.go
 cases hF with
 |@cons _ F _ Fs hf hr=>
  have e1:=hf.w
  have e2:=hf.dots
  have e:ey b (F::Fs)=none:=if_neg λq=>by
   rcases q with⟨q1,q2⟩
   rcases hw with hw|hw
   ·exact hw (e1▸q1)
   ·lia
  rw[mn,e]at go
  rw[←go]
  cases b<;>rfl
noncomputable def CX (N:Nat)(ts:List (Tk×Nat))(p:Nat)(o:Option (List cQ×List Pz)):nh:=match o with
 |some q=>bx N ts q.1 q.2
 |none=>.bad cB p
theorem i9:bx N ((.sym y,p)::ts) Fs ds=CX N ts p (bB Fs ds (.str y)):=by
 rw[D6]
 cases bB Fs ds (.str y)<;>rfl
theorem jB (e:ey b Fs=some (F,R)):bx N ((.cls b,p)::ts) Fs ds=CX N ts p (bB R ds (bk F)):=by
 rw[mn,e]
 show(match bB R ds (bk F)with|some (fs',ds')=>_|none=>_)=_
 cases bB R ds (bk F)<;>rfl
end
section
variable {N:Nat}{A:nh}{TS:List (Tk×Nat)}{x wd:Str}{pl:Int}{th:SV}{fz z zz:ah}{j p:Nat}{b0 b1:HE}{oa da:Addr}{fs:List ai}{dvs:List Value}{Fs:List cQ}{ds:List Pz}{d:Pz}{v:Value}{P1 P2:Addr→Addr→List ai→List Value→ah→Prop}
theorem sC (hB:(([b0,b1]:List HE).all (·.okN 2))=true) (hj:j<100)(hth:th.cF=true)(hz:zz=z++fz)(hF:dK (z++fz) fs Fs)(hD:bq (z++fz) dvs ds)(nf:fs.length≤j)(nd:dvs.length≤j)(nv:∀f∈fs,f.vs.length≤j)(hv:Rd (z++fz) v d)
  (go:CX N (TS.drop (j+1)) p (bB Fs ds d)=A) (h1:∀fs' dvs' z',vg N A TS fz (j+1) ⟨oa,da,fs',dvs',z'++z⟩→P1 oa da fs' dvs' z')(h2:∀fs' z',A=.bad cB p→P2 oa da fs' dvs z') :
  pe (d7 b0 b1 (ar oa fs) da dvs) (eQ fs) (fE x wd pl th) zz v P1 P2:=by
 subst hz
 refine⟨b0,b1,oa,da,fs,dvs,Fs,ds,d,j,⟨rfl,hB,rfl,?_⟩,⟨hF,hD,hv,Pr nf (PF hj (by decide)),Pr nd (PF hj (by decide)),nv,PF hj (by decide)⟩,λFs' ds' e fs' dvs' z' hF' hD' n1 n2 n3=>?_,λe fs' z'=>h2 fs' z' ?_⟩
 ·show(true&&(true&&(true&&(true&&(true&&(th.cF&&true))))))=true
  rw[hth];rfl
 ·rw[e]at go
  rw[←Pj]at hF' hD'
  exact h1 fs' dvs' z' ⟨Fs',ds',hF',hD',go,PK (Pk n1 nf),Pk n2 (Qo nd),n3⟩
 ·rw[e]at go
  exact go.symm
theorem uw {lB lF lV lS l' rf:ah}:((lB++(lF++(lV++lS)))++(l'++rf)).Perm ((((lB++[])++((lV++[])++rf))++(lF++(lS++l')))):=bj λ_ _ p=>by
 simp only[PL,Qa];lia
theorem qW (hB:(([b0,b1]:List HE).all (·.okN 2))=true) (hloc:(loc.all λp=>p.2.cF)=true)(h0:tp[i]?=some (.list a [] items))(hz:zz=z++fz)(hk:∀v z,Rd (z++fz) v D0→k (.opq v) ⟨loc,[b0,b1],[],tp0,rst,z++fz⟩)(hr:∀D us m n,D.hp=(d7 b0 b1 e da dvs).map HE.addr→IR D items us→Rd ((da,listOf dvs.toArray m)::([(a,listOf us.toArray n)]++(z++fz))) (.ref a) D0) :
  bg ⟨loc,[b0,b1],[],tp0,rst,fz⟩ tl k (.tmp i) ⟨loc',d7 b0 b1 e da dvs,sk,tp,tl++rst,zz⟩:=by
 subst hz
 refine bg.tw h0 λle H X s v I r=>?_
 obtain⟨us,n,ir,rfl⟩:=H.listI
 have I1:Inv X ⟨[],[b0,b1],[],[.vlist da dvs],tl++rst,[(a,listOf us.toArray n)]++(z++fz)⟩ s:=Inv.lay (st':=⟨[],[b0,b1],[],[.vlist da dvs],tl++rst,[(a,listOf us.toArray n)]++(z++fz)⟩) I (λ_ _ q=>nomatch q) λl l' L1 L2=>by
  obtain⟨lB,lF,lV,lS,LB,HF,HV,LS,rfl⟩:=NY L1
  exact⟨_,_,_,.append (LL.okN (n:=2) (D':=⟨[b0.addr,b1.addr],[],[]⟩) (by rfl) LB hB) .nil,.cons (HL.okN (n:=0) (by rfl) HV rfl) .nil,uw⟩
 obtain⟨l2,H2,I2⟩:=Inv.dh I1 (j:=0) rfl
 rcases H2.dW with⟨m,rfl⟩
 exact bg.lay (st:=⟨loc,[b0,b1],[],tp0,rst,fz⟩) (sv':=.opq (.ref a)) (sv:=.opq (.ref a)) (st₃:=⟨[],[b0,b1],[],[],tl++rst,(da,listOf dvs.toArray m)::([(a,listOf us.toArray n)]++(z++fz))⟩) (λX s I=>I.drop) rfl (hk _ ((da,listOf dvs.toArray m)::(a,listOf us.toArray n)::z) (hr _ us m n rfl ir)) Pp hloc rfl (λD v r=>r) rfl X s v I2 r
theorem eB (hp:pl=(p:Int))(hB:(([b0,b1]:List HE).all (·.okN 2))=true) (hloc:(loc.all λp=>p.2.cF)=true)(h0:tp[i]?=some (.list a [] [.txt "bad",sv,.int pl])) (hz:zz=z++fz)(hA:A=.bad w p)(hs:sv=.txt w∨sv=.str w)(hk:∀v z,Rd (z++fz) v (iy A)→k (.opq v) ⟨loc,[b0,b1],[],tp0,rst,z++fz⟩) :
  bg ⟨loc,[b0,b1],[],tp0,rst,fz⟩ tl k (.tmp i) ⟨loc',d7 b0 b1 e da dvs,sk,tp,tl++rst,zz⟩:=qW hB hloc h0 hz hk λD us m n _ ir=>by
 subst hA
 subst hp
 obtain⟨u,v,w,rfl,r1,r2,r3⟩:=vf ir
 rcases r1 with⟨t1,rfl⟩
 rcases r3 with⟨t3,rfl⟩
 refine Rd.list (.tail _ (.head _)) (.cons .str (.cons ?_ (.cons .int .nil)))
 rcases hs with rfl|rfl
 ·rcases r2 with⟨t2,rfl⟩;exact .str
 ·rcases r2 with⟨t2,rfl⟩;exact .str
end
inductive A7 (hp sk:List HE)(loc:List (Str×SV))(fz:ah)(x:Str)(P:Value→ah→Prop):Prop
 |mk (b0 b1:HE)(hhp:hp=[b0,b1])(hB:(([b0,b1]:List HE).all (·.okN 2))=true) (hsk:sk=[])(hloc:(loc.all λp=>p.2.cF)=true)(hx:iA x)(hz:x.length≤100)(hk:∀v z,Rd (z++fz) v (iy (bx x.length (toks (aC x) 0) [] []))→P v z)
def Bu:cK:=λargs st k _=>qT mW args λx=>A7 st.hp st.sk st.loc st.fz x λv z=>k (.opq v) {st with fz:=z++st.fz}
noncomputable def fT (TS:List (Tk×Nat))(j:Nat):Str:=(TS.map λq=>cJ q.1).getD j ""
noncomputable def Dm (TS:List (Tk×Nat))(j:Nat):Int:=(TS.map λq=>(q.2:Int)).getD j 0
theorem fD.len (h:fD fz vs ts):vs.length=ts.length:=by
 induction h with
 |nil=>rfl
 |cons _ _ ih=>exact congrArg (·+1) ih
theorem fD.at (h:fD fz vs ts):∀{j:Nat}{v:Value},vs[j]?=some v→∃a t1 t2,v=.ref a∧(a,cZ [.str (fT ts j) t1,.int (Dm ts j) t2])∈fz:=by
 induction h with
 |nil=>intro j v e;cases e
 |cons a _ ih=>
  intro j v e
  cases j with
  |zero=>
   cases e
   obtain⟨a,t1,t2,e,h⟩:=a
   exact⟨a,t1,t2,e,h⟩
  |succ j=>exact ih e
theorem tL {TS:List (Tk×Nat)}(h:j<TS.length):∃t p,TS.drop j=(t,p)::TS.drop (j+1)∧(t,p)∈TS∧fT TS j=cJ t∧Dm TS j=p:=by
 induction TS generalizing j with
 |nil=>exact absurd h (RY _)
 |cons q r ih=>
  cases j with
  |zero=>exact⟨q.1,q.2,rfl,.head _,rfl,rfl⟩
  |succ j=>
   obtain⟨t,p,e,m,h1,h2⟩:=ih (Nat.lt_of_succ_lt_succ h)
   exact⟨t,p,e,.tail _ m,h1,h2⟩
theorem zk:(aB (f::r)).length=r.length:=by
 show(r.reverse.map _).length=_
 rw[PM,Qp]
theorem kG {a b c:ah}:a++(b++c)=(a++b)++c:=(Pj ..).symm
structure MV (TS:List (Tk×Nat))(j:Nat)(t:Tk)(p:Nat):Prop where
 ok:iB t
 w:fT TS j=cJ t
 p:Dm TS j=(p:Int)
 j:j<100
theorem vg.at {P:Prop}(h:vg N A TS fz j ⟨oa,da,fs,dvs,z⟩)(hj:j<TS.length)(hl:TS.length≤100)(ok:∀q∈TS,iB q.1)(k:∀t p Fs ds,MV TS j t p→kJ N A TS fz j t p fs dvs z Fs ds→P):P:=by
 obtain⟨t,p,e,hm,hw,hp⟩:=tL hj
 obtain⟨Fs,ds,hF,hD,go,nf,nd,nv⟩:=h
 rw[e]at go
 exact k t p Fs ds ⟨ok _ hm,hw,hp,by lia⟩ ⟨hF,hD,go,nf,nd,nv⟩
section
variable {N:Nat}{A:nh}{TS:List (Tk×Nat)}{x:Str}{th:SV}{fz rs z:ah}{j p:Nat}{t:Tk}{b0 b1:HE}{oa da:Addr}{fs:List ai}{dvs:List Value}{Fs:List cQ}{ds:List Pz}(hB:(([b0,b1]:List HE).all (·.okN 2))=true) (K:MV TS j t p)(H:kJ N A TS fz j t p fs dvs z Fs ds)
include hB K H
theorem vS {a a3:Addr}(h:aN (fT TS j) "(["=true):vh x b0 b1 rs fz (vg N A TS) j {loc:=fE x (fT TS j) (Dm TS j) th,hp:=d7 b0 b1 (.list oa (aB fs) (di fs++[.opq (.ref a3)])) da dvs,sk:=eQ fs,tp:=[.list a [] [],.list a3 [] [.str (fT TS j),.opq (.ref a),.num 0,.txt "nil"]],rst:=rs,fz:=z++fz}:=by
 rw[K.w]at h
 rcases E1 K.ok h with⟨b,rfl⟩
 obtain⟨w,hw,hn⟩:=Et b
 exact sO hB (K.w.trans hw) λtk=>H.push (w:=w) (by rw[hn];rfl) tk
theorem yt {a a3:Addr}(h:(fT TS j == "'")=true):vh x b0 b1 rs fz (vg N A TS) j {loc:=fE x (fT TS j) (Dm TS j) th,hp:=d7 b0 b1 (.list oa (aB fs) (di fs++[.opq (.ref a3)])) da dvs,sk:=eQ fs,tp:=[.list a [] [],.list a3 [] [.str (fT TS j),.opq (.ref a),.num 0,.txt "nil"]],rst:=rs,fz:=z++fz}:=by
 rw[K.w]at h
 rcases Fq K.ok h with rfl
 exact sO (w:=.quo) hB K.w λtk=>H.push (w:=.quo) rfl tk
theorem w7 {zz:ah}{tk:Tok}{P1 P2:Addr→Addr→List ai→List Value→ah→Prop}(h1:aN (fT TS j) "(["=false) (h2:(fT TS j == "'")=false) (h3:(fT TS j == ".")=false) (h4:aN (fT TS j) ")]"=false) (hth:th.cF=true)(hz:zz=z++fz)(g1:∀fs' dvs' z',vg N A TS fz (j+1) ⟨oa,da,fs',dvs',z'++z⟩→P1 oa da fs' dvs' z')(g2:∀fs' z',A=.bad cB p→P2 oa da fs' dvs z') :
  pe (d7 b0 b1 (ar oa fs) da dvs) (eQ fs) (fE x (fT TS j) (Dm TS j) th) zz (.str (fT TS j) tk) P1 P2:=by
 rw[K.w]at h1 h2 h3 h4
 rcases Fe h1 h2 h3 h4 with⟨y,rfl⟩
 exact sC (d:=.str y) hB K.j hth hz H.hF H.hD H.nf H.nd H.nv (by rw[show fT TS j=y from K.w];exact .str) (by rw[←i9];exact H.go) g1 g2
end
section
variable {N:Nat}{A:nh}{TS:List (Tk×Nat)}{fz z:ah}{j p:Nat}{t:Tk}{f:ai}{r:List ai}{dvs:List Value}{Fs:List cQ}{ds:List Pz}(K:MV TS j t p)
include K
theorem BH (H:kJ N A TS fz j t p [] dvs z Fs ds)(h:(fT TS j == ".")=true):A=.bad "." p:=by
 rw[K.w]at h
 rcases p8 K.ok h with rfl
 exact H.EC
theorem rM (H:kJ N A TS fz j t p (f::r) dvs z Fs ds)(h:(fT TS j == ".")=true) (h5:(wT f.w !="(")=true∨f.dt>0):A=.bad "." p:=by
 rw[K.w]at h
 rcases p8 K.ok h with rfl
 rw[vH,PZ,decide_eq_false_iff_not]at h5
 exact H.H6 h5
theorem Ah {oa da:Addr}(H:kJ N A TS fz j t p (f::r) dvs z Fs ds)(h:(fT TS j == ".")=true) (h5:(wT f.w !="(")=false) (h6:¬f.dt>0):vg N A TS fz (j+1) ⟨oa,da,{f with dt:=1}::r,dvs,z⟩:=by
 rw[K.w]at h
 rcases p8 K.ok h with rfl
 rw[vH,QZ,decide_eq_true_eq]at h5
 exact H.dot h5 h6
theorem Aj (H:kJ N A TS fz j t p [] dvs z Fs ds)(h:aN (fT TS j) ")]"=true):A=.bad (fT TS j) p:=by
 rw[K.w]at h ⊢
 rcases mC K.ok h with⟨b,rfl⟩
 exact H.Ed
theorem rG (H:kJ N A TS fz j t p (f::r) dvs z Fs ds)(h:aN (fT TS j) ")]"=true) (h5:(!QX [("()":Str),"[]"] λx=>x==wT f.w++fT TS j)=true∨f.dt=1):A=.bad (fT TS j) p:=by
 rw[K.w]at h h5 ⊢
 rcases mC K.ok h with⟨b,rfl⟩
 rw[nF,PZ,decide_eq_false_iff_not]at h5
 exact H.Gz h5
theorem B3 (h:aN (fT TS j) ")]"=true):(wT f.w).length+(fT TS j).length≤16777216:=by
 rw[K.w]at h ⊢
 rcases mC K.ok h with⟨b,rfl⟩
 exact Bz f.w b
theorem Ao (H:kJ N A TS fz j t p (f::r) dvs z Fs ds)(h:aN (fT TS j) ")]"=true) (h5:(!QX [("()":Str),"[]"] λx=>x==wT f.w++fT TS j)=false) (h6:f.dt≠1):∃F Fs',pW (z++fz) f F∧dK (z++fz) r Fs'∧CX N (TS.drop (j+1)) p (bB Fs' ds (bk F))=A:=by
 rw[K.w]at h h5
 rcases mC K.ok h with⟨b,rfl⟩
 rw[nF,QZ,decide_eq_true_eq]at h5
 have hF:=H.hF
 have go:=H.go
 cases hF with
 |@cons _ F _ Fs hf hr=>
  have e1:=hf.w
  have e2:=hf.dots
  have e:ey b (F::Fs)=some (F,Fs):=if_pos ⟨by rw[e1,h5],by lia⟩
  rw[jB e]at go
  exact⟨F,Fs,hf,hr,go⟩
end
theorem DQ {P1 P2:Value→ah→Addr→Addr→List ai→List Value→ah→Prop}(hB:(([b0,b1]:List HE).all (·.okN 2))=true) (hj:j<100)(hz:zz=z++fz)(hf:pW (z++fz) f F)(hr:dK (z++fz) r Fs)(hD:bq (z++fz) dvs ds)(nf:(f::r).length≤j)(nd:dvs.length≤j)(nv:∀g∈f::r,g.vs.length≤j)(go:CX N (TS.drop (j+1)) p (bB Fs ds (bk F))=A) (h1:∀v z2 fs' dvs' z',vg N A TS fz (j+1) ⟨oa,da,fs',dvs',z'++(z2++z)⟩→P1 v z2 oa da fs' dvs' z')(h2:∀v z2 fs' z',A=.bad cB p→P2 v z2 oa da fs' dvs z') :
  Ei (d7 b0 b1 (.list oa (aB (f::r)) []) da dvs) (dI f (bI r)) (fE x wd pl (.str wd)) zz λoa fs v z2=>pe (d7 b0 b1 (ar oa fs) da dvs) (eQ fs) (fE x wd pl (.opq v)) (z2++zz) v (P1 v z2) (P2 v z2):=by
 subst hz
 have hfv:=nv f (.head _)
 refine⟨b0,b1,.vlist da dvs,oa,f,r,F,rfl,hB,rfl,rfl,rfl,hf,by lia,λv z2 hv=>?_⟩
 have mono:∀p∈z++fz,p∈(z2++z)++fz:=λp hp=>by rw[←kG];exact Pb _ hp
 exact sC (z:=z2++z) (fs:=r) hB hj rfl kG (hr.mono mono) (hD.mono mono) (RA nf) nd (λf hf=>nv f (.tail _ hf)) (kG▸hv) go (h1 v z2) (h2 v z2)
theorem Ic (L:LL D (.list fa [] [.str x,t,.num i,.opq v]::es) l):LL D (.list fa [] [.str x,t,.int i,.opq v]::es) l:=by
 cases L with|cons HE T=>exact .cons (CR HE) T
theorem FD (O:X.Ok)(hn:4≤X.n):az X 750 Bu:=by
 refine aP (n:=2) J9 IS O hn λst args k ke hc=>?_
 obtain⟨x,rfl,b0,b1,hhp,hB,hsk,hloc,hx,hz,hk⟩:=cf hc
 clear hc
 have e:=St.lit hhp hsk
 clear hhp hsk
 obtain⟨loc,tp,rst,fz,rfl⟩:=e
 have okx:∀q∈toks (aC x) 0,iB q.1:=js (b9 hx) ((aC x).length-0+1) 0 (Ql _)
 generalize hTS:toks (aC x) 0=TS at okx hk
 generalize hA:bx x.length TS [] []=A at hk
 refine bD.mk (λtl=>{cs:=aK (aJ 79),call:=aw [(729,ml),(736,jK),(743,nj)],ke:=ke,fors:=λ_=>some λaq=>N6 x b0 b1 (tl++rst) TS.length (fT TS) (Dm TS) (vg x.length A TS) aq}) rfl rfl (λ_=>rfl) (λ_ X' S=>ax S (cI (tT S.ok (Rm S.n.symm)) (cI (qk S.ok (Rm S.n.symm)) (cI (tZ S.ok (Rm S.n.symm)) dJ)))) λtl=>?_
 refine zH _ _ _ x b0 b1 (tl++rst) fz _ TS.length (fT TS) (Dm TS) (vg x.length A TS) λa a1 a2=>⟨hx,hz,λl vs n z hm hv hl=>?_⟩
 rw[hTS]at hv
 have hlen:=hv.len
 have h100:TS.length≤100:=hlen▸Pk hl hz
 refine⟨l,vs,n,rfl,⟨Px _ hm,λj i _=>Pb _ (Px _ hm),hlen.symm⟩,λj v hj=>?_,λ_ _=>rfl,wm hB ⟨[],[],.nil,.nil,hA,P5 _,P5 _,λ_ h=>nomatch h⟩,λj=>⟨λoa da dvs z1 I o hj hJ=>?_,λoa da f r dvs z1 I o hj hJ=>?_⟩,λoa da dvs z1 hJ a=>?_,λoa da f r dvs z1 hJ a=>?_⟩
 ·obtain⟨a,t1,t2,e,h⟩:=hv.at hj
  exact⟨a,_,e,λi _=>Pb _ h,.cons ⟨t1,rfl⟩ (.cons ⟨t2,rfl⟩ .nil)⟩
 ·exact hJ.at hj h100 okx λt p Fs ds K H=>⟨λh a a3=>⟨by decide,rfl,vS (fs:=[]) hB K H h⟩,λh1=>⟨λh a a3=>⟨by decide,rfl,yt (fs:=[]) hB K H h⟩,λh2=>⟨λh a=>⟨λ_ a4=>⟨rfl,eB K.p hB hloc rfl kG (BH K H h) (.inl rfl) hk⟩,λh=>bT h⟩,λh3=>⟨λh a=>⟨λ_ a4=>⟨rfl,eB K.p hB hloc rfl kG (Aj K H h) (.inr rfl) hk⟩,λh=>bT h⟩,λh4 tk=>w7 (fs:=[]) hB K H h1 h2 h3 h4 rfl rfl (λfs' dvs' z' hj=>⟨rfl,lU kG hj rfl λ_ _ h=>h⟩) λfs' z' e a=>⟨rfl,eB K.p hB hloc rfl (by rw[kG,kG]) e (.inl rfl) hk⟩⟩⟩⟩⟩
 ·refine hJ.at hj h100 okx λt p Fs ds K H=>?_
  have hpl:(aB (f::r)).length+1<1048576:=by
   rw[zk]
   exact Pr H.nf (PF K.j (by decide))
  refine⟨λh a a3=>⟨hpl,rfl,vS (fs:=f::r) hB K H h⟩,λh1=>⟨λh a a3=>⟨hpl,rfl,yt (fs:=f::r) hB K H h⟩,λh2=>⟨λh a=>⟨λh=>bF h,λ_=>⟨λh5 a5=>⟨rfl,eB K.p hB hloc rfl kG (rM K H h (.inl h5)) (.inl rfl) hk⟩,λh5=>⟨λh6 a6=>⟨rfl,eB K.p hB hloc rfl kG (rM K H h (.inr (of_decide_eq_true h6))) (.inl rfl) hk⟩,λh6=>⟨rfl,lU (fs:={f with dt:=1}::r) rfl (Ah K H h h5 (of_decide_eq_false h6)) rfl λD l L=>Ic L⟩⟩⟩⟩,λh3=>⟨λh a=>⟨λh=>bF h,λ_=>⟨B3 K h,λa4=>⟨λh5 a5=>⟨rfl,eB K.p hB hloc rfl kG (rG K H h (.inl h5)) (.inr rfl) hk⟩,λh5=>⟨λh6 a6=>⟨rfl,eB K.p hB hloc rfl kG (rG K H h (.inr (beq_iff_eq.mp h6))) (.inr rfl) hk⟩,λh6=>⟨hpl,?_⟩⟩⟩⟩⟩,λh4 tk=>w7 (fs:=f::r) hB K H h1 h2 h3 h4 rfl rfl (λfs' dvs' z' hj=>⟨rfl,lU kG hj rfl λ_ _ h=>h⟩) λfs' z' e a=>⟨rfl,eB K.p hB hloc rfl (by rw[kG,kG]) e (.inl rfl) hk⟩⟩⟩⟩⟩
  obtain⟨F,Fs,hf,hr,go⟩:=Ao K H h h5 (beq_eq_false_iff_ne.mp h6)
  exact DQ hB K.j rfl hf hr H.hD H.nf H.nd H.nv go (λv z2 fs' dvs' z' hj=>⟨rfl,lU (by simp only[Pj]) hj rfl λ_ _ h=>h⟩) λv z2 fs' z' e a=>⟨rfl,eB K.p hB hloc rfl (by rw[kG,kG,kG]) e (.inl rfl) hk⟩
 ·obtain⟨Fs,ds,hF,hD,go,nf,nd,nv⟩:=hJ
  cases hF
  rw[Sy]at go
  refine⟨λ_ a4=>qW hB hloc rfl kG hk λD us m n hd ir=>?_,λh=>bT h⟩
  obtain⟨u,v,rfl,r1,r2⟩:=nJ ir
  rcases r1 with⟨t1,rfl⟩
  obtain⟨b,hb,rfl⟩:=r2
  rw[hd]at hb
  cases hb
  rw[←go]
  exact Rd.list (.tail _ (.head _)) (.cons .str (.cons (Rd.list (.head _) (hD.mono λp hp=>.tail _ (.tail _ (kG▸hp)))) .nil))
 ·obtain⟨Fs,ds,hF,hD,go,nf,nd,nv⟩:=hJ
  cases hF
  rw[Sy]at go
  refine⟨λh=>bF h,λ_=>⟨by lia,λa4=>qW hB hloc rfl kG hk λD us m n hd ir=>?_⟩⟩
  obtain⟨u,v,rfl,r1,r2⟩:=nJ ir
  rcases r1 with⟨t1,rfl⟩
  rcases r2 with⟨t2,rfl⟩
  rw[←go]
  exact Rd.list (.tail _ (.head _)) (.cons .str (.cons .int .nil))
noncomputable def DS (st:Stmt):List Stmt:=match bz st with
 |[.Try b _ _ _ _]=>b
 |_=>[]
abbrev uF (w:World)(ke:KX)(x:Str)(K:r8→St→Prop)(N n:Nat)(J:ah→Nat→List Value×ah→Prop)(d x_1 dx a d_1:Nat):Prop:=
  Kw w [] [] [HE.nlist d (R6 (λ(c:Nat)=>(↑c:Int)) (Array.toList (SS x))),HE.inst x_1 (688) dx [("rows",SV.opq (Pa a)),("names",SV.opq (Pa d_1))],HE.vlist a [Pa (340),Pa (343)],HE.map d_1 w [("nil",Pa (340)),("t",Pa (343))]] [] (λ(hp':List HE)(l ca x_2 a d:Addr)(z:ah)=>∃(l_1:Nat),∃(vs:List Value),∃(nn:Nat),(Pa l=Pa l_1∧(l_1,P' (PE vs) nn)∈z++[]∧(∀(j:Nat)(i:List Value×ah),(l_1,P' (PE vs) nn)∈Pc i++(z++[]))∧n=vc vs∧(∀(j:Nat)(i:List Value×ah),J (z++[]) j i→vc (Pn i)≤1000000)∧∀(i:List Value×ah),Ad.le {hp:=R6 HE.addr hp',sk:=[],tp:=[ca,x_2,a,d]} {hp:=R6 HE.addr hp',sk:=[],tp:=[ca,x_2,a,d]})∧(Ent {loc:=[("text",SV.str x)],hp:=hp',sk:=[],tp:=[HE.gone ca,HE.gone x_2,HE.gone a,HE.gone d],rst:=[],fz:=z++[]} λ(st':St)=>∃(i:List Value×ah),st'={loc:=[("text",SV.str x)],hp:=hp',sk:=[],tp:=[HE.gone ca,HE.gone x_2,HE.gone a,HE.gone d],rst:=[],fz:=Pc i++(z++[])}∧Pn i=[]∧J (z++[]) (0) i)∧(∀(j:Nat)(i:List Value×ah)(v:Value)(f:List (Addr×Obj)),j<n→vs[j]?=some v→J (z++[]) j i→je (dU N) (Pc i++(z++[])) v λ(r:Value)(z_1:ah)=>∃(r_1:List (Addr×Obj)),f++[]=f++r_1∧Bq {ι:=List Value×ah,n:=n,S:=λ(x_3:Nat)(i:List Value×ah)=>{loc:=[("text",SV.str x)],hp:=hp',sk:=[],tp:=[HE.gone ca,HE.gone x_2,HE.gone a,HE.gone d],rst:=[],fz:=Pc i++(z++[])},out:=λ(x:Nat)(i:List Value×ah)=>Pn i,J:=J (z++[])} j i (SV.opq r) {loc:=[("text",SV.str x)],hp:=hp',sk:=[],tp:=[HE.gone ca,HE.gone x_2,HE.gone a,HE.gone d],rst:=r_1,fz:=z_1++(Pc i++(z++[]))})∧∀(i:List Value×ah)(d_2 nn:Nat),J (z++[]) n i→∀(a_2:Nat),K (r8.ret (SV.tmp (4))) {loc:=[("text",SV.str x)],hp:=hp',sk:=[],tp:=[HE.gone ca,HE.gone x_2,HE.gone a,HE.gone d,HE.list a_2 [] [SV.txt (p' "data"),SV.opq (Pa d_2)]],rst:=[],fz:=(d_2,P' (PE (Pn i)) nn)::(Pc i++(z++[]))}) ke
theorem Aq (w:World)(sc:Sc)(ke:KX)(x:Str)(K:r8→St→Prop)(N n:Nat)(J:ah→Nat→List Value×ah→Prop) :
  (Py (SS x)≤100000∧∀(d x_1 dx a d_1:Nat),uF w ke x K N n J d x_1 dx a d_1) →
  bw (bE {cs:=aK (aJ 75),call:=aw [(688,jS w),(615,hW w),(717,fi (dU N))],ke:=ke,comps:=λ_ aq=>some {ι:=List Value×ah,n:=n,S:=λ_ i=>{aq with fz:=i.2++aq.fz},out:=λ_ i=>i.1,J:=J aq.fz}} (xt w sc) 12) (DS (aJ 75)) {loc:=[("text",.str x)],hp:=[],sk:=[],tp:=[],rst:=[],fz:=[]} (λfl st=>K fl st):=
 Qg (by kernel_rfl)
noncomputable def Gq:Ext where
 meth:=λ_ _ _=>none
 call:=λ_ _ _ _=>False
 cmp:=λ_ _ _ _ _=>False
 bin:=λ_ _ _ _ _=>False
 item:=λ_ _ _ _=>False
 getA:=rH
 setA:=λ_ _ _ _ _=>False
 expr:=λ_ _ _ _ _=>False
 stmt:=λ_ _ _ _ _=>False
noncomputable def jm (st:Stmt)(n:Nat):List Stmt:=match bz st with
 |[.Try _ hs _ _ _]=>match hs[n]? with
  |some (.ExceptHandler _ _ b _)=>b
  |_=>[]
 |_=>[]
theorem AF (w:Str)(q:Int)(ea d:Addr)(vs:Array Value)(K:r8→St→Prop) :
  (∀(a:Nat),K (r8.ret (SV.tmp (1))) {loc:=[("error",SV.tmp (0))],hp:=[],sk:=[],tp:=[HE.exc ea (58) d [("word",SV.str w),("place",SV.int q)] vs,HE.list a [] [SV.txt (p' "bad"),SV.str w,SV.int q]],rst:=[],fz:=[]}) →
  bw (bE {cs:=aK (aJ 75),call:=aw [],ke:=λ_ _=>False} Gq 12) (jm (aJ 75) 0) {loc:=[("error",.tmp 0)],hp:=[],sk:=[],tp:=[.exc ea 58 d [("word",.str w),("place",.int q)] vs],rst:=[],fz:=[]} (λfl st=>K fl st):=
 Qg (by kernel_rfl)
theorem As (q:Int)(ea d:Addr)(vs:Array Value)(K:r8→St→Prop) :
  (∀(a:Nat),K (r8.ret (SV.tmp (1))) {loc:=[("error",SV.tmp (0))],hp:=[],sk:=[],tp:=[HE.exc ea (38) d [("place",SV.int q)] vs,HE.list a [] [SV.txt (p' "end"),SV.int q]],rst:=[],fz:=[]}) →
  bw (bE {cs:=aK (aJ 75),call:=aw [],ke:=λ_ _=>False} Gq 12) (jm (aJ 75) 1) {loc:=[("error",.tmp 0)],hp:=[],sk:=[],tp:=[.exc ea 38 d [("place",.int q)] vs],rst:=[],fz:=[]} (λfl st=>K fl st):=
 Qg (by kernel_rfl)
inductive fB:Nat→List Pz→Prop
 |nil:fB 0 []
 |cons {a b:Nat}{d:Pz}{ds:List Pz}:dU a d→fB b ds→fB (a+1+b) (d::ds)
theorem fB.snoc (h:fB b ds)(k:dU a d):fB (b+(a+1)) (ds++[d]):=by
 induction h with
 |nil=>rw[Sh];exact .cons k .nil
 |cons h _ ih=>rw[Nat.add_assoc];exact .cons h ih
theorem fB.all (h:fB b ds):ds.length≤b∧∀d∈ds,dU b d:=by
 induction h with
 |nil=>exact⟨P5 _,λ_ h=>nomatch h⟩
 |@cons a b d ds h _ ih=>
  refine⟨by rw[PQ];lia,λe he=>?_⟩
  cases he with
  |head=>exact h.le (by lia)
  |tail _ he=>exact(ih.2 e he).le (by lia)
inductive uH:Nat→List cQ→Prop
 |nil:uH 0 []
 |cons {b t n:Nat}{f:cQ}{fs:List cQ}:fB b f.things→dU t f.tail→uH n fs→uH (b+t+2+n) (f::fs)
theorem ni:dU n gI:=.sym (by decide +kernel)
theorem pj (h:dU a d):dU (a+2) (dZ d):=.cons (.sym (by decide +kernel)) (.cons h ni)
theorem uP (h:fB b ds)(k:dU t tl):dU (b+t) (fH tl ds):=by
 induction h with
 |nil=>exact k.le (by lia)
 |@cons a b d ds h _ ih=>exact(dU.cons (h.le (show a≤a+(b+t) by lia)) (ih.le (show b+t≤a+(b+t) by lia))).le (by lia)
theorem uJ (hF:uH n Fs)(hD:fB m ds):∀{a:Nat}{d:Pz},dU a d→bB Fs ds d=some (Fs',ds')→∃n' m',uH n' Fs'∧fB m' ds'∧n'+m'≤n+m+a+1:=by
 induction hF with
 |nil=>
  intro a d k e
  cases e
  exact⟨0,_,.nil,hD.snoc k,by lia⟩
 |@cons b t n f fs hb ht hF ih=>
  intro a d k e
  by_cases h2:f.w=2
  ·rw[r9 h2]at e
   obtain⟨n',m',h1,h2,h3⟩:=ih (pj k) e
   exact⟨n',m',h1,h2,by lia⟩
  rw[iM h2]at e
  by_cases h0:f.dots=0
  ·rw[if_pos h0]at e
   cases e
   exact⟨_,m,.cons (hb.snoc k) ht hF,hD,by lia⟩
  rw[if_neg h0]at e
  by_cases h1:f.dots=1
  ·rw[if_pos h1]at e
   cases e
   exact⟨_,m,.cons hb k hF,hD,by lia⟩
  ·rw[if_neg h1]at e
   cases e
theorem zp (hF:uH n Fs)(e:fC Fs=some Fs'):uH n Fs':=by
 cases hF with
 |nil=>cases e
 |@cons b t n f fs hb ht hF=>
  replace e:(if f.w=0∧f.dots=0 then some ({f with dots:=1}::fs)else none)=some Fs':=e
  by_cases h:f.w=0∧f.dots=0
  ·rw[if_pos h]at e
   cases e
   exact .cons hb ht hF
  ·rw[if_neg h]at e
   cases e
theorem vU (hF:uH n Fs)(hn:n≤100000)(e:ey b Fs=some (F,R)):∃a n',uH n' R∧dU a (bk F)∧n'+a+1≤n:=by
 cases hF with
 |nil=>cases e
 |@cons b' t n f fs hb ht hF=>
  replace e:(if f.w=(if b then 0 else 1)∧f.dots≠1 then some (f,fs)else none)=some (F,R):=e
  by_cases h:f.w=(if b then 0 else 1)∧f.dots≠1
  ·rw[if_pos h]at e
   cases e
   refine⟨b'+t+1,n,hF,?_,by lia⟩
   rw[bk]
   by_cases hw:F.w=1
   ·rw[if_pos hw]
    rcases hb.all with⟨h1,h2⟩
    exact(dU.vec (Pk h1 (by lia)) h2).le (by lia)
   ·rw[if_neg hw]
    exact(uP hb ht).le (by lia)
  ·rw[if_neg h]at e
   cases e
theorem yq (e:CX N ts p o=.data D):∃q,o=some q∧bx N ts q.1 q.2=.data D:=by
 cases o with
 |none=>cases e
 |some q=>exact⟨q,rfl,e⟩
theorem lu (hok:jX cs):∀(n p:Nat),p≤cs.length→(gM cs n p).length+p≤cs.length
 |0,p,hp=>by show 0+p≤_;rw[Sh];exact hp
 |n+1,p,hp=>by
  rw[kH]
  by_cases hs:ae cs p<cs.length
  ·rw[if_pos hs,PQ]
   obtain⟨a,b,c⟩:=cT hp hs
   have g:=iR hs hok a b c
   have ge:p≤ae cs p:=dz
   refine Pk ?_ (lu hok n _ (f5 hs))
   rw[Nat.add_assoc,RL 1 p]
   exact QO (Pr ge g) _
  ·rw[if_neg hs]
   show 0+p≤_
   rw[Sh];exact hp
theorem rU (hok:jX cs):∀q∈toks cs 0,iB q.1:=js hok (cs.length-0+1) 0 (Ql _)
theorem nH (hok:jX cs):(toks cs 0).length≤cs.length:=lu hok (cs.length-0+1) 0 (Ql _)
theorem Mo (h:bG y):SU y=true:=Array.all_eq_true_iff_forall_mem.mpr λc hc=>decide_eq_true (by rcases dq (h c hc)with rfl|rfl|rfl|rfl<;>decide)
theorem d8 {K:Nat}(hK:K≤100000):∀{ts:List (Tk×Nat)}{n m:Nat}{Fs:List cQ}{ds:List Pz},uH n Fs→fB m ds→n+m+2*ts.length≤K→(∀q∈ts,iB q.1)→bx N ts Fs ds=.data D→∃k,fB k D∧k≤K
 |[],n,m,Fs,ds,hF,hD,hb,_,e=>by
  cases hF with
  |nil=>cases e;exact⟨m,hD,by lia⟩
  |cons _ _ _=>cases e
 |(t,p)::ts,n,m,Fs,ds,hF,hD,hb,ok,e=>by
  have hb2:n+m+2*ts.length+2≤K:=hb
  have oky:=ok _ (.head _)
  have ok2:∀q∈ts,iB q.1:=λq hq=>ok q (.tail _ hq)
  have take:∀{n m a:Nat}{Fs:List cQ}{ds:List Pz}{d:Pz},uH n Fs→fB m ds→dU a d→n+m+a+1+2*ts.length≤K→CX N ts p (bB Fs ds d)=.data D→∃k,fB k D∧k≤K:=λ{n m a Fs ds d} hF hD hd hb e=>by
   obtain⟨⟨Fs',ds'⟩,e1,e⟩:=yq e
   obtain⟨n',m',h1,h2,h3⟩:=uJ hF hD hd e1
   exact d8 hK h1 h2 (Pk (SG h3 _) hb) ok2 e
  cases t with
  |opn b=>exact d8 hK (uH.cons (f:=⟨if b then 0 else 1,[],0,gI⟩) .nil (ni (n:=0)) hF) hD (by lia) ok2 e
  |quo=>exact d8 hK (uH.cons (f:=⟨2,[],0,gI⟩) .nil (ni (n:=0)) hF) hD (by lia) ok2 e
  |dot=>
   rw[m7]at e
   cases q:fC Fs with
   |none=>rw[q]at e;cases e
   |some Fs'=>
    rw[q]at e
    exact d8 hK (zp hF q) hD (Pk (PY _ 2) hb2) ok2 e
  |cls b=>
   cases q:ey b Fs with
   |none=>rw[mn,q]at e;cases e
   |some r=>
    rcases r with⟨F,R⟩
    rw[jB q]at e
    obtain⟨a,n',h1,h2,h3⟩:=vU hF (Pk (by lia) hK) q
    exact take h1 hD h2 (by lia) e
  |sym y=>
   rw[i9]at e
   exact take hF hD (.sym (n:=0) (Mo oky.1)) (by lia) e
def ya (D:Pz)(sv:SV)(st:St):Prop:=∀X s v,Inv X st s→sv.R st.ad v→∃a z,v=.ref a∧Inv X ⟨[],[],[],[],[],z⟩ s∧Rd z (.ref a) D
theorem Ft {st:St}(h0:st.tp[j]?=some (.list a [] items))(hr:st.rst=[])(h:∀us n,IR st.ad.bot items us→Rd ((a,listOf us.toArray n)::st.fz) (.ref a) D):ya D (.tmp j) st:=λX s v I r=>by
 obtain⟨b,hb,rfl⟩:=r
 have e:b=a:=by
  have:(st.tp.map HE.addr)[j]?=some b:=hb
  rw[QL,h0]at this
  exact(Pd this).symm
 subst e
 obtain⟨le,H,I⟩:=Inv.dh I h0
 obtain⟨us,n,ir,rfl⟩:=H.listI
 refine⟨b,_,rfl,Inv.lay (st':=⟨[],[],[],[],[],(b,listOf us.toArray n)::st.fz⟩) I (λ_ _ q=>nomatch q) λl l' _ _=>⟨[],[],l++l',.nil,.nil,?_⟩,h us n ir⟩
 exact bj λ_ _ p=>by
  show RJ p (l++(l'++(st.rst++([_]++st.fz))))=RJ p (([]++([]++([]++([_]++st.fz))))++(l++l'))
  rw[hr]
  simp only[PL,Qa];lia
def CU (A:nh)(C:Addr)(fs:List (Str×SV)):Prop:=(∃(y:Str)(q:Nat),A=.bad y q∧C=58∧fs=([("word",.str y),("place",.int (q:Int))]:List (Str×SV)))∨∃q:Nat,A=.fin q∧C=38∧fs=([("place",.int (q:Int))]:List (Str×SV))
noncomputable def oR:nh→List Pz
 |.data ds=>ds
 |_=>[]
noncomputable def Oc (w:World)(ke:KX)(N n:Nat)(J:ah→Nat→List Value×ah→Prop):bc:={cs:=aK (aJ 75),call:=aw [(688,jS w),(615,hW w),(717,fi (dU N))],ke:=ke,comps:=λ_ aq=>some {ι:=List Value×ah,n:=n,S:=λ_ i=>{aq with fz:=i.2++aq.fz},out:=λ_ i=>i.1,J:=J aq.fz}}
theorem uY (w:World)(sc:Sc)(hx:iA x)(hz:x.length≤100)(hA:bx x.length (toks (aC x) 0) [] []=A) :
  bw (bE (Oc w (CU A) 200 (oR A).length λfz j i=>bq (i.2++fz) i.1 ((oR A).take j)∧i.1.length=j∧i.1.length≤100000) (xt w sc) 12) (DS (aJ 75)) ⟨[("text",.str x)],[],[],[],[],[]⟩ λfl st=>∃sv,fl=.ret sv∧ya (iy A) sv st:=by
 have hl:(toks (aC x) 0).length≤x.length:=bR x▸nH (b9 hx)
 refine Aq _ _ _ x _ 200 (oR A).length (λfz j i=>bq (i.2++fz) i.1 ((oR A).take j)∧i.1.length=j∧i.1.length≤100000) ⟨Pk hz (by decide),λd x1 dx a d1=>?_⟩
 refine⟨d,aC x,x1,dx,a,d1,rfl,rfl,rfl,by rw[bR];exact Pr hz (by decide),b9 hx,λds e hp' l vs nn z hm hds hv=>?_,λy q e=>.inl ⟨y,q,?_,rfl,rfl⟩,λq e=>.inr ⟨q,?_,rfl,rfl⟩⟩
 ·rw[bR,hA]at e
  subst e
  obtain⟨k,hk,hk2⟩:=d8 (K:=200) (by decide) .nil .nil (by lia) (rU (b9 hx)) hA
  have hlen:=hds.len
  have hq:ds.length≤100000:=hlen▸QD (PF hv (by decide))
  have hall:=hk.all.2
  refine⟨l,vs,nn,⟨rfl,Px _ hm,λj i=>Pb _ (Px _ hm),hlen.symm,λj i h=>Pk h.2.2 (by decide),λi=>Ad.le.refl _⟩,.refl ⟨([],[]),rfl,rfl,.nil,rfl,Ql _⟩,λj i v f hj hv hJ=>?_,λi d2 n2 hJ a2=>⟨_,rfl,Ft (j:=4) rfl rfl λus n ir=>?_⟩⟩
  ·obtain⟨d,hd1,hd2⟩:=hds.both hv
   have hj:j<ds.length:=hj
   refine⟨d,hd2.mono λp hp=>Pb _ hp,(hall d (List.mem_of_getElem? hd1)).le hk2,λr z1 hr=>⟨_,rfl,⟨λX s v f1 I rv=>⟨(i.1++[r],z1++i.2),by cases rv;rfl,⟨?_,?_,?_⟩,?_⟩⟩⟩⟩
   ·show bq ((z1++i.2)++(z++[])) (i.1++[r]) (ds.take (j+1))
    rw[TQ,hd1,Pj]
    exact(hJ.1.mono λp hp=>Pb _ hp).snoc hr
   ·show(i.1++[r]).length=j+1
    rw[PU,hJ.2.1,Q0]
   ·show(i.1++[r]).length≤100000
    rw[PU,hJ.2.1,Q0]
    exact Pk hj hq
   ·rw[←Pj]at I
    exact I
  ·obtain⟨u,v,rfl,r1,r2⟩:=nJ ir
   rcases r1 with⟨t1,rfl⟩
   cases r2
   have h1:=hJ.1
   rw[show(oR (.data ds)).take (oR (.data ds)).length=ds from List.take_length]at h1
   exact Rd.list (.head _) (.cons .str (.cons (Rd.list (.tail _ (.head _)) (h1.mono λp hp=>.tail _ (.tail _ hp))) .nil))
 ·rw[bR,hA]at e;exact e
 ·rw[bR,hA]at e;exact e
theorem xv {q:Nat}:bw (bE {cs:=aK (aJ 75),call:=aw [],ke:=λ_ _=>False} Gq 12) (jm (aJ 75) 0) {loc:=[("error",.tmp 0)],hp:=[],sk:=[],tp:=[.exc ea 58 d [("word",.str w),("place",.int (q:Int))] vs],rst:=[],fz:=[]} λfl st=>∃sv,fl=.ret sv∧ya (iy (.bad w q)) sv st:=
 AF _ _ _ _ _ _ λa=>⟨_,rfl,Ft (j:=1) rfl rfl λus n ir=>by
  obtain⟨u,v,w,rfl,r1,r2,r3⟩:=vf ir
  rcases r1 with⟨t1,rfl⟩
  rcases r2 with⟨t2,rfl⟩
  rcases r3 with⟨t3,rfl⟩
  exact Rd.list (.head _) (.cons .str (.cons .str (.cons .int .nil)))⟩
theorem yX {q:Nat}:bw (bE {cs:=aK (aJ 75),call:=aw [],ke:=λ_ _=>False} Gq 12) (jm (aJ 75) 1) {loc:=[("error",.tmp 0)],hp:=[],sk:=[],tp:=[.exc ea 38 d [("place",.int (q:Int))] vs],rst:=[],fz:=[]} λfl st=>∃sv,fl=.ret sv∧ya (iy (.fin q)) sv st:=
 As _ _ _ _ _ λa=>⟨_,rfl,Ft (j:=1) rfl rfl λus n ir=>by
  obtain⟨u,v,rfl,r1,r2⟩:=nJ ir
  rcases r1 with⟨t1,rfl⟩
  rcases r2 with⟨t2,rfl⟩
  exact Rd.list (.head _) (.cons .str (.cons .int .nil))⟩
structure HX (X:Fx)(outer:List Env)(C:Addr)(fs:List (Str×SV))(ea:Addr)(G:Heap)(m:Str→Option Value)(B:Heap)(d:Addr)(es:List PX)(n:Nat)(f:Value)(s:Pl):Prop where
 F:Fr X.h₀ X.L G m
 hG:∀b o,G.get? b=some o→b∉(X.env::outer).filterMap (·.frame)→B.get? b=some o
 fly:Flying B s.heap (X.env::outer) ea C d (some f)
 hd:B.get? d=some (Qj es n)
 hfr:FR ⟨[],[],[]⟩ fs es
 up:G.UpToSlots s.heap
 he0:X.h₀.get? ea=none
 hd0:X.h₀.get? d=none
 hg:s.gens=#[]
 hos:s.os=X.os
inductive Cm (X:Fx)(outer:List Env)(C:Addr)(fs:List (Str×SV))(ea:Addr)(s:Pl):Prop
 |mk (G:Heap)(m:Str→Option Value)(B:Heap)(d:Addr)(es:List PX)(n:Nat)(f:Value)(h:HX X outer C fs ea G m B d es n f s)
section
variable {X:Fx}{outer:List Env}{C:Addr}{fs:List (Str×SV)}{e:Value}{ea:Addr}{s:Pl}{Q:Unit→Pl→Prop}{E:Value→Pl→Prop}{M:Model}{A A₀:SX}
theorem rP.held (x:rP X C fs e s)(hA:X.A.frames=some (X.env::outer))(h:∀ea s',e=.ref ea→Cm X outer C fs ea s'→Q () s'):wpAny M X.A (TU e X.env) Q E s:=by
 obtain⟨ea,G,m,B,d,es,n,fl,outer',rfl,hA',F,hB,hG,fly,hfl,hd,hfr,up,he0,hd0,hg,hos⟩:=x
 obtain rfl:outer'=outer:=by rw[hA]at hA';cases hA';rfl
 exact gy hA (cN X) fly hfl λh' fly' up'=>h ea _ rfl ⟨G,m,B,d,es,n,_,F,hG,fly',hd,hfr,up.trans up',he0,hd0,hg,hos⟩
theorem Cm.land (x:Cm X outer C fs ea s)(h:∀s',Cm X outer C fs ea s'→Q () s'):wpAny M A (setFlight (.ref ea) none) Q E s:=by
 obtain⟨G,m,B,d,es,n,f,F,hG,fly,hd,hfr,up,he0,hd0,hg,hos⟩:=x
 exact d5 fly λh' fly' up'=>h _ ⟨G,m,B,d,es,n,_,F,hG,fly',hd,hfr,up.trans up',he0,hd0,hg,hos⟩
theorem Cm.inv (x:Cm X outer C fs ea s)(K:Below A₀ X.base outer X.h₀):∃g d vs,KtsTurn (outer.filterMap (·.frame)) X.h₀ g∧Below A₀ X.base outer g∧s.heap.get? ea=some (ba C d vs)∧Inv {X with h₀:=g} ⟨[],[],[],[.exc ea C d fs vs],[],[]⟩ s:=by
 obtain⟨G,m,B,d,es,n,f,F,hG,fly,hd,hfr,up,he0,hd0,hg,hos⟩:=x
 obtain⟨vs,he,_⟩:=fly.obj
 obtain⟨g,T,F',K'⟩:=kts_ground K F hG fly.stays up
 have hL:=fly.frames.mem (List.mem_filterMap.mpr ⟨X.env,.head _,rfl⟩)
 have ne:d≠ea:=λq=>by
  have:=fly.new
  rw[←q,hd]at this
  cases this
 have nd:ao [(ea,ba C d vs),(d,Qj es n)]:=List.nodup_cons.mpr ⟨λh=>ne (List.mem_singleton.mp h).symm,List.nodup_cons.mpr ⟨λh=>(nomatch h),Tb⟩⟩
 refine⟨g,d,vs,T,K',he,⟨⟨m,[],[(ea,ba C d vs),(d,Qj es n)],.nil,.cons (.exc hfr) .nil,λ_ _ q=>(nomatch q),F',λp hp=>?_,nd⟩,hg,hos⟩⟩
 rcases List.mem_cons.mp hp with rfl|hp
 ·refine⟨he,λq=>?_,T.none_ _ he0⟩
  obtain⟨_,o,ho,hn⟩:=hL
  rw[show ea=X.L from q]at he
  rw[he]at ho
  cases ho
  exact hn vs rfl
 ·rcases List.mem_cons.mp hp with rfl|hp
  ·refine⟨fly.stays _ _ hd,λq=>?_,T.none_ _ hd0⟩
   have:=hL.1
   rw[←show d=X.L from q,hd]at this
   cases this
  ·exact nomatch hp
end
theorem Inv.fx {st:St}(I:Inv X st s)(h1:Y.h₀=X.h₀)(h2:Y.L=X.L)(h3:Y.os=X.os):Inv Y st s:=by
 obtain⟨⟨m,l,l',L1,L2,hl,F,N,nd⟩,h4,h5⟩:=I
 rw[←h1,←h2]at F N
 exact⟨⟨m,l,l',L1,L2,hl,F,N,nd⟩,h4,h5.trans h3.symm⟩
noncomputable def Fx.at (X:Fx)(g:Heap)(ea:Addr):Fx:={X with h₀:=g,A:=X.A.mark (some (.ref ea))}
structure AH (X X':Fx)(outer:List Env):Prop where
 O:X.Ok
 O':X'.Ok
 w:X'.w=X.w
 scr:X'.scr=X.scr
 sns:X'.sns=X.sns
 fr:X'.A.frames=some (X'.env::outer)
 keep:∀b o,X.h₀.get? b=some o→X'.h₀.get? b=some o
 out:∀b,b∈outer.filterMap (·.frame)→X.h₀.get? b=none
section
variable {X X':Fx}{outer:List Env}{C C':Addr}{fs:List (Str×SV)}{ea:Addr}{s:Pl}{Q:Flow→Pl→Prop}{E:Value→Pl→Prop}{A₀:SX}{g:Heap}
theorem AH.turn (D:AH X X' outer)(T:KtsTurn (outer.filterMap (·.frame)) X'.h₀ g):∀b o,X.h₀.get? b=some o→g.get? b=some o:=λb o h=>T.other b o (D.keep b o h) λq=>by
 rw[D.out b q]at h
 cases h
theorem AH.ok (D:AH X X' outer)(T:KtsTurn (outer.filterMap (·.frame)) X'.h₀ g) (K:Below A₀ X'.base outer g):(X'.at g ea).Ok:=by
 obtain⟨O,O',hw,hs1,hs2,fr,_,_⟩:=D
 have k:=AH.turn ⟨O,O',hw,hs1,hs2,fr,‹_›,‹_›⟩ T
 obtain⟨mean,mg,mb,tp⟩:=O.top
 refine⟨?_,⟨mean,mg,mb,?_⟩,O'.kind,⟨A₀,outer,K,fr⟩,O'.room,O'.units,?_⟩
 ·show(Kf X'.w.params).In g
  rw[hw]
  exact O.kin.keeps k
 ·show Top q (looseW q lo) mean mg mb g
  exact tp.keeps k
 ·obtain⟨vs,h1,h2⟩:=O.scr
  show ∃vs:List Value,g.IsList X'.scr vs.toArray∧Qz vs X'.sns∧X'.sns.length≤63
  rw[hs1,hs2]
  exact⟨vs,h1.at λo e=>k _ o e,h2⟩
theorem GK (P:PJ):exmOne (Kf P) (.ref 58) (.ref 58)=some true:=by kernel_rfl
theorem CN (P:PJ):exmOne (Kf P) (.ref 38) (.ref 58)=some false∧exmOne (Kf P) (.ref 38) (.ref 38)=some true:=⟨by kernel_rfl,by kernel_rfl⟩
theorem fh (D:AH X X' outer)(x:Cm X' outer C fs ea s)(K:Below A₀ X'.base outer X'.h₀)(hm:exmOne (Kf X'.w.params) (.ref C) (.ref C')=some b)(hn:nsIn (Kf X'.w.params) RB n=some (some (.ref C'))) (hk:X'.cs.names.lookup n=some .globalImplicit)(hdb:(n==("__debug__":Str))=false) (h1:b=false→wpAny (model pw X'.w) X'.A (handleBy (.ref ea) X'.env rest) Q E s) (h2:b=true→P9 (model pw X'.w) (X'.A.mark (some (.ref ea))) (.handlers (.ref ea) [.ExceptHandler none nm body pos] X'.env) (λr s₂=>match r with
   |.ok f=>(match nm with
    |none=>Q f s₂
    |some n=>wpAny (model pw X'.w) X'.A (do TP X'.env n .none;SH X'.env n pos) (λ_ s₃=>Q f s₃) E s₂)
   |.error x=>Sr (model pw X'.w) X'.A X'.env E x s₂) s) :
  wpAny (model pw X'.w) X'.A (handleBy (.ref ea) X'.env (.ExceptHandler (some (.Name n np)) nm body pos::rest)) Q E s:=by
 obtain⟨g,d,vs,T,K',he,I⟩:=x.inv K
 have O2:=D.ok (ea:=ea) T K'
 have I2:Inv (X'.at g ea) ⟨[],[],[],[.exc ea C d fs vs],[],[]⟩ s:=I.fx rfl rfl rfl
 refine wpAny_handleBy_cons (codeAny_handlers_test (nP (X:=X'.at g ea) O2 I2 hn hk hdb ?_)) (λq=>by cases q)
 refine exm_one (O2.dg I2) ((Looks.ld he).andThen .now) hm _ _ _ _ (λ_ _ h=>h) ?_
 cases b with
 |false=>exact h1 rfl
 |true=>exact h2 rfl
theorem Inv.gone (I:Inv X ⟨[],[],[],[],[],z⟩ s){Q:Unit→Pl→Prop}(hl:X.cs.names.lookup n=some .local)(hk:X.cs.kind=.function)(h:∀s',Inv X ⟨[],[],[],[],[],z⟩ s'→Q () s'):wpAny M A (do TP X.env n .none;SH X.env n pos) Q E s:=by
 obtain⟨m,l,l',L1,L2,_,F,N,nd⟩:=I.ex
 refine wpAny_nameGoes (show X.cs.names.lookup n=some .local from hl) F.ns (by show(X.cs.kind==.class||X.cs.kind==.module&&_)=false;rw[hk];rfl) λh' m' hn hs=>h _ ⟨⟨m',l,l',L1,L2,λ_ _ q=>(nomatch q),F.set hn hs,λp hp=>?_,nd⟩,I.gens,I.os⟩
 obtain⟨a,b,c⟩:=N p hp
 exact⟨(hs.2 _ b).trans a,b,c⟩
theorem gq (D:AH X X' outer)(x:Cm X' outer C fs ea s)(K:Below A₀ X'.base outer X'.h₀)(hc:X'.cs=aK (aJ 75))(hs:∀d vs,bw (bE {cs:=aK (aJ 75),call:=aw [],ke:=λ_ _=>False} Gq 12) (b₀::r) {loc:=[("error",.tmp 0)],hp:=[],sk:=[],tp:=[.exc ea C d fs vs],rst:=[],fz:=[]} λfl st=>∃sv,fl=.ret sv∧ya DD sv st) (q:∀g a z s',KtsTurn (outer.filterMap (·.frame)) X'.h₀ g→Inv {X' with h₀:=g} ⟨[],[],[],[],[],z⟩ s'→Rd z (.ref a) DD→Q (.ret (.ref a)) s') :
  P9 (model pw X'.w) (X'.A.mark (some (.ref ea))) (.handlers (.ref ea) [.ExceptHandler none (some "error") (b₀::r) pos] X'.env) (λr s₂=>match r with
   |.ok f=>wpAny (model pw X'.w) X'.A (do TP X'.env "error" .none;SH X'.env "error" pos) (λ_ s₃=>Q f s₃) E s₂
   |.error x=>Sr (model pw X'.w) X'.A X'.env E x s₂) s:=by
 have hk:X'.cs.names.lookup ("error":Str)=some .local:=by rw[hc];kernel_rfl
 refine codeAny_handlers_suite_as (x.land λs1 x1=>?_)
 obtain⟨g,d,vs,T,K',he,I⟩:=x1.inv K
 have O2:=D.ok (ea:=ea) T K'
 have I2:Inv (X'.at g ea) ⟨[],[],[],[.exc ea C d fs vs],[],[]⟩ s1:=I.fx rfl rfl rfl
 refine fm (X:=X'.at g ea) (sv:=.tmp 0) O2 I2 ⟨ea,rfl,rfl⟩ hk λs2 I3=>?_
 have G:aH (X'.at g ea) {cs:=aK (aJ 75),call:=aw [],ke:=λ_ _=>False} Gq:={
  cs:=hc
  fn:=λ_ _ e=>nomatch e
  meth:=λ_ _ _ _ _ _ _ _ _ e=>nomatch e
  call:=λ_ _ _ _ _ _ _ _ h=>h.elim
  cmp:=λ_ _ _ _ _ _ _ _ _ _ h=>h.elim
  bin:=λ_ _ _ _ _ _ _ _ _ _ h=>h.elim
  item:=λ_ _ _ _ _ _ _ _ _ _ _ h=>h.elim
  getA:=λa n v st s k Q E ex h I ra q=>oQ O2 h I ra q
  setA:=λ_ _ _ _ _ _ _ _ _ _ h=>h.elim
  expr:=λ_ _ _ _ _ _ _ _ h=>h.elim
  hS:=λ_ _ e=>nomatch e
  stmt:=λ_ _ _ _ _ _ _ _ h=>h.elim}
 refine dG (X:=X'.at g ea) (bZ O2 G 12) (hs d vs) I3 (λ_ _ _ _ h=>h.elim) λfl st f s3 I4 rf hf=>?_
 obtain⟨sv,rfl,ht⟩:=hf
 obtain⟨v,rfl,rv⟩:=rf
 obtain⟨a,z,rfl,I5,rd⟩:=ht _ _ _ I4 rv
 exact Inv.gone (X:={X' with h₀:=g}) (I5.fx rfl rfl rfl) hk D.O'.kind λs4 I6=>q g a z s4 T I6 rd
end
noncomputable def HH (i:Nat):ExceptHandler:=match bz (aJ 75)with
 |[.Try _ hs _ _ _]=>hs.getD i (.ExceptHandler none none [] ⟨0,0,0,0⟩)
 |_=>.ExceptHandler none none [] ⟨0,0,0,0⟩
noncomputable def M6:Pos:=match bz (aJ 75)with
 |[.Try _ _ _ _ p]=>p
 |_=>⟨0,0,0,0⟩
noncomputable def hP (i:Nat):Pos:=match HH i with
 |.ExceptHandler _ _ _ p=>p
noncomputable def Ny (i:Nat):Pos:=match HH i with
 |.ExceptHandler (some (.Name _ p)) _ _ _=>p
 |_=>⟨0,0,0,0⟩
noncomputable def s0 (i:Nat):Stmt:=(jm (aJ 75) i).getD 0 (.Pass ⟨0,0,0,0⟩)
theorem tn:bz (aJ 75)=[.Try (DS (aJ 75)) [.ExceptHandler (some (.Name "BadSyntax" (Ny 0))) (some "error") (s0 0::(jm (aJ 75) 0).tail) (hP 0),.ExceptHandler (some (.Name "EndOfText" (Ny 1))) (some "error") (s0 1::(jm (aJ 75) 1).tail) (hP 1)] [] [] M6]:=by kernel_rfl
theorem ME:s0 0::(jm (aJ 75) 0).tail=jm (aJ 75) 0:=by kernel_rfl
theorem Nb:s0 1::(jm (aJ 75) 1).tail=jm (aJ 75) 1:=by kernel_rfl
theorem vW (P:PJ):nsIn (Kf P) RB "BadSyntax"=some (some (.ref 58)):=by kernel_rfl
theorem FN (P:PJ):nsIn (Kf P) RB "EndOfText"=some (some (.ref 38)):=by kernel_rfl
theorem FL:(aK (aJ 75)).names.lookup ("BadSyntax":Str)=some .globalImplicit∧(aK (aJ 75)).names.lookup ("EndOfText":Str)=some .globalImplicit:=⟨by kernel_rfl,by kernel_rfl⟩
theorem wW {X X':Fx}{outer:List Env}{A₀:SX}{s:Pl}{Q:Flow→Pl→Prop}{E:Value→Pl→Prop}{x:Str}{A:nh}(D:AH X X' outer)(hh:X'.A.handled=none)(hc:X'.cs=aK (aJ 75))(hn:402≤X'.n)(K:Below A₀ X'.base outer X'.h₀)(hx:iA x)(hz:x.length≤100)(hA:bx x.length (toks (aC x) 0) [] []=A) (I:Inv X' ⟨[("text",.str x)],[],[],[],[],[]⟩ s)
  (q:∀g a z s',KtsTurn (outer.filterMap (·.frame)) X'.h₀ g→Inv {X' with h₀:=g} ⟨[],[],[],[],[],z⟩ s'→Rd z (.ref a) (iy A)→Q (.ret (.ref a)) s'):Wp X' (execs (bz (aJ 75)) X'.env) Q E s:=by
 rw[tn]
 refine wpAny_execs_cons (wpAny_Try_except ?_)
 have G:aH X' (Oc X'.w (CU A) 200 (oR A).length λfz j i=>bq (i.2++fz) i.1 ((oR A).take j)∧i.1.length=j∧i.1.length≤100000) (xt X'.w (X'.scr,X'.sns)):=
  qL D.O' hh hc (λa c e=>iX (cI (qq D.O' (by lia)) (cI (nM D.O' (by lia)) (cI (oV 200 D.O' (by lia)) dJ))) e) λ_ _ e=>nomatch e
 refine dG (bZ D.O' G 12) (uY X'.w (X'.scr,X'.sns) hx hz hA) I (λC fs e s1 hk fx=>?_) λfl st f s1 I1 rf hf=>?_
 ·refine fx.held D.fr λea s2 he x2=>?_
  subst he
  refine x2.land λs3 x3=>?_
  rcases hk with⟨y,p,e,rfl,rfl⟩|⟨p,e,rfl,rfl⟩
  ·refine fh D x3 K (GK _) (vW _) (by rw[hc];exact FL.1) (by decide +kernel) (λh=>nomatch h) λ_=>gq D x3 K hc (DD:=iy A) (λd vs=>?_) q
   rw[ME,e]
   exact xv
  ·refine fh D x3 K (CN _).1 (vW _) (by rw[hc];exact FL.1) (by decide +kernel) (λ_=>?_) λh=>nomatch h
   refine fh D x3 K (CN _).2 (FN _) (by rw[hc];exact FL.2) (by decide +kernel) (λh=>nomatch h) λ_=>gq D x3 K hc (DD:=iy A) (λd vs=>?_) q
   rw[Nb,e]
   exact yX
 ·obtain⟨sv,rfl,ht⟩:=hf
  obtain⟨v,rfl,rv⟩:=rf
  obtain⟨a,z,rfl,I2,rd⟩:=ht _ _ _ I1 rv
  exact q X'.h₀ a z s1 .refl (I2.fx rfl rfl rfl) rd
theorem yy {st:St}(O:X.Ok)(fr:X.A.frames=some [X.env])(hA:tG X A)(hn:404≤X.n)(I:Inv X st s)(hx:iA x)(hz:x.length≤100)(hAn:bx x.length (toks (aC x) 0) [] []=An) (ret:∀a z s',Inv X {st with fz:=z++st.fz} s'→Rd (z++st.fz) (.ref a) (iy An)→R (.ok (.ret (.ref a))) s'):P9 (model pw X.w) A (.call (.ref 722) ⟨[.str x tx],[]⟩) R s:=by
 have kin:=O.dg I
 obtain⟨mean,mg,mb,T⟩:=O.top
 obtain⟨A₀,outer,B,hAX⟩:=O.below
 obtain rfl:outer=[]:=by rw[fr]at hAX;cases hAX;rfl
 obtain⟨m,l,l',L1,L2,hl,F,N,nd⟩:=I.ex
 obtain⟨oL,es,ep,hLg,hLd,hN,hNs,st0,B₂⟩:=kts_enter B F News.nil (hA.fr.trans fr) O.kind
 have hroom:=O.room
 have hunit:=O.units
 have h3:=hA.dp
 have h4:=hA.un
 have B₂:Below A X.base [X.env] s.heap:=B₂
 have hL0:X.h₀.get? X.L=none:=sW F
 have st0:∀b o,X.h₀.get? b=some o→s.heap.get? b=some o:=F.keep
 refine codeAny_call_def (fd:=CL (aJ 75) "_law_told" "_law_told" .none (.str "law_oj0032_01" 1305) (.ref 721)) (body:=bz (aJ 75)) (binds:=[("text",.str x tx)]) (Pr (Pk (PY _ 1) (PY _ 402)) (LA (d:=1) hn hroom h3)) (kin _ _ (jC.lk _)) rfl (T.nolimit.keeps F.keep) (codeRec_of kin (jC.cd _)) rfl (.of_eq (CD.binds [.str x tx] rfl)) jC.df.cell (λy hy=>of_decide_eq_true (List.all_eq_true.mp (gp CD.loc [.str x tx]) y hy)) (λh₁ hns hk₁=>?_) jC.df.co jC.df.gen jC.df.kind
 let X':Fx:={w:=X.w,A:=A.deeper (envOf "_law_told" (aK (aJ 75)) s.heap.objs.size 722 (.ref 721)),base:=X.base,h₀:=s.heap,L:=s.heap.objs.size,cn:="_law_told",cs:=aK (aJ 75),f:=722,cd:=.ref 721,os:=X.os,n:=402,scr:=X.scr,sns:=X.sns}
 have hfr:X'.A.frames=some (X'.env::[X.env]):=by
  show A.frames.map _=_
  rw[hA.fr,fr];rfl
 have O':X'.Ok:=by
  refine⟨kin,⟨mean,mg,mb,T.keeps st0⟩,jC.df.kind,⟨A,[X.env],B₂,hfr⟩,?_,?_,?_⟩
  ·exact LA (d:=1) hn hroom h3
  ·exact NU (d:=1) hn hunit h4
  ·obtain⟨vs,h1,h2⟩:=O.scr
   exact⟨vs,h1.at λo e=>st0 _ o e,h2⟩
 have D:AH X X' [X.env]:=⟨O,O',rfl,rfl,rfl,hfr,st0,λb hb=>by
  rcases List.mem_cons.mp hb with rfl|hb
  ·exact hL0
  ·exact nomatch hb⟩
 have I':Inv X' ⟨[("text",.str x)],[],[],[],[],[]⟩ {s with heap:=h₁,toks:=s.toks+[("text",Qn x tx)].length}:=
  ⟨⟨_,[],[],.nil,.nil,λy sv e=>dR (D:=⟨[],[],[]⟩) (svs:=[.str x]) (vals:=[.str x tx]) (ns:=["text"]) (.cons ⟨tx,rfl⟩ .nil) rfl y sv e,⟨hns,hk₁,P5 _⟩,λ_ h=>(nomatch h),Tb⟩,I.gens,I.os⟩
 refine wW D hA.hd rfl (P5 _) B₂ hx hz hAn I' λg v z s' T' I2 rd=>ret v z s' ?_ (rd.mono λp hp=>Px _ hp)
 obtain⟨m',k,k',K1,K2,_,F',N',nd'⟩:=I2.ex
 cases K1
 cases K2
 have hg:∀b o,s.heap.get? b=some o→b≠X.L→g.get? b=some o:=λb o e ne=>T'.other b o e λhb=>by
  rcases List.mem_cons.mp hb with rfl|hb
  ·exact ne rfl
  ·exact nomatch hb
 rcases T'.up hLg with⟨sl,hs⟩
 have N':∀p∈z,s'.heap.get? p.1=some p.2∧p.1≠X'.L∧g.get? p.1=none:=N'
 have nd':ao z:=nd'
 have hz0:∀p∈z,s.heap.get? p.1=none:=λp hp=>by
  cases e:s.heap.get? p.1 with
  |none=>rfl
  |some o=>
   rcases T'.up e with⟨sl,e2⟩
   rw[(N' p hp).2.2]at e2
   cases e2
 have pm:((l++(l'++st.rf))++z).Perm (l++(l'++(st.rst++(z++st.fz)))):=bj λ_ _ p=>by
  show RJ p ((l++(l'++(st.rst++st.fz)))++z)=_
  simp only[PL];lia
 refine⟨⟨m,l,l',L1,L2,hl,⟨hNs sl _ (F'.keep _ _ hs),λb o e=>F'.keep b o (hg b o (st0 b o e) λq=>by rw[q,hL0]at e;cases e),F.above⟩,λp hp=>?_,?_⟩,I2.gens,I2.os⟩
 ·rcases List.mem_append.mp (pm.mem_iff.mpr hp)with hp|hp
  ·obtain⟨a,b,c⟩:=N p hp
   exact⟨F'.keep _ _ (hg _ _ a b),b,c⟩
  ·refine⟨(N' p hp).1,λq=>?_,?_⟩
   ·have:=hz0 p hp
    rw[q]at this
    have h:=hLg
    rw[show(hideAll s.heap (([]:ah).map (·.1))).get? X.L=s.heap.get? X.L from rfl,this]at h
    cases h
   ·cases e:X.h₀.get? p.1 with
    |none=>rfl
    |some o=>
     have:=st0 _ _ e
     rw[hz0 p hp]at this
     cases this
 ·refine ao.perm ?_ pm
  unfold ao
  rw[PI]
  refine List.nodup_append.mpr ⟨nd,nd',λa ha b hb=>?_⟩
  obtain⟨p,hp,rfl⟩:=List.mem_map.mp ha
  obtain⟨r,hr,rfl⟩:=List.mem_map.mp hb
  intro q
  have:=(N p hp).1
  rw[q,hz0 r hr]at this
  cases this
inductive rW (fz:ah)(x:Str)(P:Addr→ah→Prop):Prop
 |mk (hx:iA x)(hz:x.length≤100)(hk:∀a z,Rd (z++fz) (.ref a) (iy (bx x.length (toks (aC x) 0) [] []))→P a z)
def rZ:cK:=λargs st k _=>qT mW args λx=>rW st.fz x λa z=>k (.opq (.ref a)) {st with fz:=z++st.fz}
theorem Au (O:X.Ok)(fr:X.A.frames=some [X.env])(hn:404≤X.n):az X 722 rZ:=by
 refine cD λst args k ke hc=>?_
 obtain⟨x,rfl,hx,hz,hk⟩:=cf hc
 intro A s vals R hA I ir ret exc
 cases ir with|cons r1 ir=>cases ir with|nil=>
  rcases r1 with⟨t,rfl⟩
  exact yy O fr hA hn I hx hz rfl λv z s' I' rd=>ret (.opq (.ref v)) _ (.ref v) s' I' (Ad.le.refl _) rfl (hk v z rd)
structure aE where
 a:Addr
 c:Addr
 cells:List Int
 turn:Int
 seed:Int
 z:ah
noncomputable def A0 (s:Addr)(fz:ah)(i:aE):St:={loc:=[("script",.opq (.ref s)),("deck",.ref 0)],hp:=[bV i.a i.turn i.seed,.nlist i.c i.cells],sk:=[],tp:=[],rst:=[],fz:=i.z++fz}
abbrev wX (sc:Sc)(K:SV→St→Prop)(J:Nat→aE→Prop)(cells:List Int)(seed:Int)(z:List (Addr×Obj))(j:Nat)(i:aE)(I:Nat)(o:Obj)(x:Str)(t s:Int)(a:Addr)(z_1:ah)(v:Value)(z_2:ah):Prop:=
  sM (z_2++(z_1++(aE.z i++(z++[])))) (Pa a) v λ(b:Bool)=>(b=true→[(I,o)]=[(I,o)]∧K (SV.lit false) {loc:=[("script",SV.opq (Pa (Pn sc))),("deck",SV.ref (0)),("turn",SV.int (↑j:Int)),("text",SV.str x)],hp:=[HE.list (aE.a i) [] [SV.ref (1),SV.int t,SV.int s],HE.nlist (aE.c i) (aE.cells i)],sk:=[],tp:=[],rst:=[],fz:=z_2++(z_1++(aE.z i++(z++[])))})∧(b=false→[(I,o)]=[(I,o)]∧Ent {loc:=[("script",SV.opq (Pa (Pn sc))),("deck",SV.ref (0)),("turn",SV.int (↑j:Int)),("text",SV.str x)],hp:=[HE.list (aE.a i) [] [SV.ref (1),SV.int t,SV.int s],HE.nlist (aE.c i) (aE.cells i)],sk:=[],tp:=[],rst:=[],fz:=z_2++(z_1++(aE.z i++(z++[])))} λ(st':St)=>∃(i':aE),J (j+(1:Nat)) i'∧st'={loc:=[("script",SV.opq (Pa (Pn sc))),("deck",SV.ref (0))],hp:=[HE.list (aE.a i') [] [SV.ref (1),SV.int (aE.turn i'),SV.int (aE.seed i')],HE.nlist (aE.c i') (aE.cells i')],sk:=[],tp:=[],rst:=[],fz:=aE.z i'++(z++[])})
abbrev xo (sc:Sc)(K:SV→St→Prop)(J:Nat→aE→Prop)(cells:List Int)(seed:Int)(z:List (Addr×Obj))(j:Nat)(i:aE)(I:Nat)(o:Obj)(x:Str)(t s:Int)(a:Addr)(z_1:ah)(v:Value)(z_2:ah):Prop:=
  sM (z_2++(z_1++(aE.z i++(z++[])))) (Pa a) v λ(b:Bool)=>(b=true→[(I,o)]=[(I,o)]∧K (SV.lit false) {loc:=[("script",SV.opq (Pa (Pn sc))),("deck",SV.ref (0)),("turn",SV.int (↑j:Int)),("text",SV.str x)],hp:=[HE.list (aE.a i) [] [SV.ref (1),SV.int t,SV.int s],HE.nlist (aE.c i) (aE.cells i)],sk:=[],tp:=[],rst:=[],fz:=z_2++(z_1++(aE.z i++(z++[])))})∧(b=false→[(I,o)]=[(I,o)]∧Ent {loc:=[("script",SV.opq (Pa (Pn sc))),("deck",SV.ref (0)),("turn",SV.int (↑j:Int)),("text",SV.str x)],hp:=[HE.list (aE.a i) [] [SV.ref (1),SV.int t,SV.int s],HE.nlist (aE.c i) (aE.cells i)],sk:=[],tp:=[],rst:=[],fz:=z_2++(z_1++(aE.z i++(z++[])))} λ(st':St)=>∃(i':aE),J (j+(1:Nat)) i'∧st'={loc:=[("script",SV.opq (Pa (Pn sc))),("deck",SV.ref (0))],hp:=[HE.list (aE.a i') [] [SV.ref (1),SV.int (aE.turn i'),SV.int (aE.seed i')],HE.nlist (aE.c i') (aE.cells i')],sk:=[],tp:=[],rst:=[],fz:=aE.z i'++(z++[])})
abbrev xW (sc:Sc)(K:SV→St→Prop)(J:Nat→aE→Prop)(a:Nat)(cells:List Int)(seed:Int)(z:List (Addr×Obj))(j:Nat)(i:aE)(I:Nat)(o:Obj)(i_1 t s:Int):Prop:=
  ((Sl (↑j:Int) (2:Int)==(1:Int))=true→rC [HE.list (aE.a i) [] [SV.ref (1),SV.int t,SV.int s],HE.nlist (aE.c i) (aE.cells i)] (4:Int) λ(i_2 t s:Int)=>rQ [HE.list (aE.a i) [] [SV.ref (1),SV.int t,SV.int s],HE.nlist (aE.c i) (aE.cells i)] ((1:Int)+i_1) λ(x:Str)(t s:Int)=>rW (aE.z i++(z++[])) x λ(a:Addr)(z_1:ah)=>A7 [HE.list (aE.a i) [] [SV.ref (1),SV.int t,SV.int s],HE.nlist (aE.c i) (aE.cells i)] [] [("script",SV.opq (Pa (Pn sc))),("deck",SV.ref (0)),("turn",SV.int (↑j:Int)),("text",SV.str x)] (z_1++(aE.z i++(z++[]))) x λ(v:Value)(z_2:ah)=>wX sc K J cells seed z j i I o x t s a z_1 v z_2)∧((Sl (↑j:Int) (2:Int)==(1:Int))=false→rQ [HE.list (aE.a i) [] [SV.ref (1),SV.int t,SV.int s],HE.nlist (aE.c i) (aE.cells i)] ((1:Int)+i_1) λ(x:Str)(t s:Int)=>rW (aE.z i++(z++[])) x λ(a:Addr)(z_1:ah)=>A7 [HE.list (aE.a i) [] [SV.ref (1),SV.int t,SV.int s],HE.nlist (aE.c i) (aE.cells i)] [] [("script",SV.opq (Pa (Pn sc))),("deck",SV.ref (0)),("turn",SV.int (↑j:Int)),("text",SV.str x)] (z_1++(aE.z i++(z++[]))) x λ(v:Value)(z_2:ah)=>xo sc K J cells seed z j i I o x t s a z_1 v z_2)
abbrev yz (sc:Sc)(K:SV→St→Prop)(cells:List Int)(seed:Int)(z:List (Addr×Obj))(i:aE)(n x d:Nat)(vs:Array Value)(n_2 x_1 d_1:Nat)(vs_1:Array Value)(a a_2 n_3 n_4 a_3:Nat):Prop:=
  ((Sn (RH [Tc (p' "word"),Rr (↑n:Int),Rr ((↑n_2:Int)+(1:Int))])=true∧Sn (RH [Tc (p' "word"),Rr (↑n_3:Int),Rr ((↑n_4:Int)+(1:Int))])=true)∧1≤400)∧K (SV.bool (PyData.eqv (RH [Tc (p' "word"),Rr (↑n:Int),Rr ((↑n_2:Int)+(1:Int))]) (RH [Tc (p' "word"),Rr (↑n_3:Int),Rr ((↑n_4:Int)+(1:Int))]))) {loc:=[("script",SV.opq (Pa (Pn sc))),("deck",SV.ref (0)),("far",SV.tmp (1)),("fault",SV.tmp (0))],hp:=[HE.list (aE.a i) [] [SV.ref (1),SV.int (aE.turn i),SV.int (aE.seed i)],HE.nlist (aE.c i) (aE.cells i)],sk:=[],tp:=[HE.exc x (58) d [("word",SV.str (p' "word")),("place",SV.int (↑n:Int))] vs,HE.exc x_1 (38) d_1 [("place",SV.int ((↑n_2:Int)+(1:Int)))] vs_1,HE.tup a [SV.opq (Pa x),SV.opq (Pa x_1)],HE.list a_2 [] [SV.str (p' "word"),SV.int (↑n:Int),SV.int ((↑n_2:Int)+(1:Int))],HE.list a_3 [] [SV.txt (p' "word"),SV.int (↑n_3:Int),SV.int ((↑n_4:Int)+(1:Int))]],rst:=[],fz:=aE.z i++(z++[])}
abbrev yl (sc:Sc)(K:SV→St→Prop)(n:Nat)(J:Nat→aE→Prop)(a:Nat)(cells:List Int)(seed:Int)(z:List (Addr×Obj)):Prop:=
  (∀(j:Nat)(i:aE)(I:Nat)(o:Obj),j<n→J j i→rC [HE.list (aE.a i) [] [SV.ref (1),SV.int (aE.turn i),SV.int (aE.seed i)],HE.nlist (aE.c i) (aE.cells i)] (13:Int) λ(i_1 t s:Int)=>(2:Int)≠(0:Int)∧xW sc K J a cells seed z j i I o i_1 t s)∧∀(i:aE),J n i→∃(n:Nat),jO sc (aE.z i++(z++[])) (Pa (Pn sc)) n∧n<1152921504606846976∧∀(x d:Nat)(vs:Array Value),1<Py vs∧vs[(1:Nat)]?=some Pt→∃(n_2:Nat),jO sc (aE.z i++(z++[])) (Pa (Pn sc)) n_2∧n_2<1152921504606846976∧∀(x_1 d_1:Nat)(vs_1:Array Value),1<Py vs_1∧vs_1[(1:Nat)]?=some Pt→∀(a:Nat),(SV.opq (Pa x)=SV.opq (Pa x)∧SV.opq (Pa x_1)=SV.opq (Pa x_1))∧∀(a_2:Nat),∃(n_3:Nat),jO sc (aE.z i++(z++[])) (Pa (Pn sc)) n_3∧n_3<1152921504606846976∧∃(n_4:Nat),jO sc (aE.z i++(z++[])) (Pa (Pn sc)) n_4∧n_4<1152921504606846976∧∀(a_3:Nat),yz sc K cells seed z i n x d vs n_2 x_1 d_1 vs_1 a a_2 n_3 n_4 a_3
abbrev xr (sc:Sc)(K:SV→St→Prop)(n:Nat)(J:Nat→aE→Prop)(a d1 d3:Nat)(cells l3:List Int)(seed:Int)(z:List (Addr×Obj))(n_1:Nat):Prop:=
  jO sc (z++[]) (Pa (Pn sc)) n_1∧n_1<1152921504606846976∧((10:Int)≠(0:Int)∧10<1073741824)∧(((0:Int)≤(2:Int)+Sm (if(40:Int)<(↑n_1:Int)then(40:Int)else(↑n_1:Int)) (10:Int)∧(2:Int)+Sm (if(40:Int)<(↑n_1:Int)then(40:Int)else(↑n_1:Int)) (10:Int)<(1000000:Int))∧n=Pf ((2:Int)+Sm (if(40:Int)<(↑n_1:Int)then(40:Int)else(↑n_1:Int)) (10:Int))∧∀(j:Nat),[SV.int (↑j:Int)]=[SV.int (↑j:Int)])∧(∀(j:Nat),j<n→1=1)∧(Ent {loc:=[("script",SV.opq (Pa (Pn sc))),("deck",SV.tmp (2))],hp:=[],sk:=[],tp:=[HE.nlist d1 cells,HE.nlist d3 l3,HE.list a [] [SV.opq (Pa d1),SV.num (0:Int),SV.int seed]],rst:=[],fz:=z++[]} λ(st':St)=>∃(i:aE),J (0) i∧st'={loc:=[("script",SV.opq (Pa (Pn sc))),("deck",SV.ref (0))],hp:=[HE.list (aE.a i) [] [SV.ref (1),SV.int (aE.turn i),SV.int (aE.seed i)],HE.nlist (aE.c i) (aE.cells i)],sk:=[],tp:=[],rst:=[],fz:=aE.z i++(z++[])})∧yl sc K n J a cells seed z
theorem Ew (w:World)(sc:Sc)(ke:KX)(K:SV→St→Prop)(n:Nat)(J:Nat→aE→Prop) :
  ((Pn sc=Pn sc∧vc (Pc sc)≤63)∧∀(a d1 d3:Nat)(cells l3:List Int)(seed:Int)(z:List (Addr×Obj)),vc cells≤60→∃(n_1:Nat),xr sc K n J a d1 d3 cells l3 seed z n_1) →
  bw (bE {cs:=aK (aJ 81),call:=aw [(712,se sc),(700,kN),(757,sS),(722,rZ),(750,Bu),(58,d9),(38,qs)],ke:=ke,fors:=λ_=>some λaq=>{ι:=aE,n:=n,items:=λj=>[.int (j:Int)],S:=λ_ i=>A0 sc.1 aq.fz i,J:=J,ok:=λ_ h=>h}} (xt w sc) 12) (bz (aJ 81)) {loc:=[("script",.opq (.ref sc.1))],hp:=[],sk:=[],tp:=[],rst:=[],fz:=[]} (λfl st=>K (bW fl) st):=
 Qg (by kernel_rfl)
theorem EH (h:∀d∈ds,d.canLay0=true∧d.depth≤n):PyData.canLayAll0 ds=true∧PyData.depthAll ds≤n:=by
 induction ds with
 |nil=>exact⟨rfl,Ql _⟩
 |cons d r ih=>
  rcases ih λe he=>h e (.tail _ he)with⟨a,b⟩
  rcases h d (.head _)with⟨c,f⟩
  exact⟨by rw[PyData.canLayAll0,c,a];rfl,by rw[PyData.depthAll];exact Nat.max_le.mpr ⟨f,b⟩⟩
theorem eE (h:∀d∈ds,d.canLay0=true∧d.depth≤n):(RH ds).canLay0=true∧(RH ds).depth≤n+1:=by
 rcases EH h with⟨a,b⟩
 exact⟨by rw[Sn];exact a,by rw[PyData.depth];lia⟩
theorem eZ (h:SU x=true):(Tc x).canLay0=true∧(Tc x).depth≤n:=⟨by rw[Sn];exact h,by rw[PyData.depth];exact Ql _⟩
theorem m4:(Rr i).canLay0=true∧(Rr i).depth≤n:=⟨by rw[Sn],by rw[PyData.depth];exact Ql _⟩
theorem FH {P:Pz→Prop}(ha:P a)(hb:P b):∀d∈[a,b],P d:=λd h=>by
 rcases List.mem_cons.mp h with rfl|h
 ·exact ha
 ·rw[List.mem_singleton.mp h];exact hb
theorem Fp {P:Pz→Prop}(ha:P a)(hb:P b)(hc:P c):∀d∈[a,b,c],P d:=λd h=>by
 rcases List.mem_cons.mp h with rfl|h
 ·exact ha
 ·exact FH hb hc d h
theorem dU.lay (h:dU n d):d.canLay0=true∧d.depth≤n:=by
 induction h with
 |sym h=>exact eZ h
 |cons _ _ a b=>exact eE (Fp (eZ (by decide +kernel)) a b)
 |@vec n ds _ _ ih=>
  refine eE λd hd=>?_
  rcases List.mem_cons.mp hd with rfl|hd
  ·exact eZ (by decide +kernel)
  ·exact ih d hd
theorem eV:∀{ts:List (Tk×Nat)}{Fs:List cQ}{ds:List Pz},bx N ts Fs ds=.bad w p0→SU w=true
 |[],[],_,e=>by cases e
 |[],_::_,_,e=>by cases e
 |(t,p)::ts,Fs,ds,e=>by
  have take:∀{o},CX N ts p o=.bad w p0→SU w=true:=λ{o} e=>by
   cases o with
   |none=>cases e;decide +kernel
   |some q=>exact eV (ts:=ts) e
  cases t with
  |opn b=>exact eV (ts:=ts) (Fs:=⟨if b then 0 else 1,[],0,gI⟩::Fs) (ds:=ds) e
  |quo=>exact eV (ts:=ts) (Fs:=⟨2,[],0,gI⟩::Fs) (ds:=ds) e
  |dot=>
   rw[m7]at e
   cases q:fC Fs with
   |none=>rw[q]at e;cases e;decide +kernel
   |some Fs'=>rw[q]at e;exact eV (ts:=ts) e
  |cls b=>
   cases q:ey b Fs with
   |none=>rw[mn,q]at e;cases e;cases b<;>decide +kernel
   |some r=>rcases r with⟨F,R⟩;rw[jB q]at e;exact take e
  |sym y=>rw[i9]at e;exact take e
theorem Bj (hx:iA x)(hz:x.length≤100):(iy (bx x.length (toks (aC x) 0) [] [])).canLay0=true∧(iy (bx x.length (toks (aC x) 0) [] [])).depth≤300:=by
 have hl:=nH (b9 hx)
 rw[bR]at hl
 cases hA:bx x.length (toks (aC x) 0) [] []with
 |data ds=>
  obtain⟨k,hk,hk2⟩:=d8 (K:=200) (by decide) .nil .nil (by lia) (rU (b9 hx)) hA
  exact eE (n:=299) (FH (eZ (by decide +kernel)) (eE (n:=298) λd hd=>((hk.all.2 d hd).le (Pk hk2 (by decide))).lay))
 |bad w p=>exact eE (n:=299) (Fp (eZ (by decide +kernel)) (eZ (eV hA)) m4)
 |fin p=>exact eE (n:=299) (FH (eZ (by decide +kernel)) m4)
theorem og {loc:Str→List (Str×SV)}{P1 P2:Str→Int→Int→Addr→Value→ah→ah→Prop}(h0:0≤turn)(hz:cells.length≤60)(hm:0≤many∧many≤13)(hloc:∀x,((loc x).all λp=>p.2.cF)=true) (h:∀x t s a1 v z1 z2,0≤t→P2 x t s a1 v z1 z2) :
  rQ [bV a turn seed,.nlist c cells] many λx t s=>rW zz x λa1 z1=>A7 [bV a t s,.nlist c cells] [] (loc x) (z1++zz) x λv z2=>sM (z2++(z1++zz)) (.ref a1) v λb=>(b=true→P1 x t s a1 v z1 z2)∧(b=false→P2 x t s a1 v z1 z2):=
 ⟨a,c,cells,turn,seed,[],rfl,h0,by lia,hm,λx t s hx hl ht=>⟨hx,hl,λa1 z1 r1=>⟨_,_,rfl,rfl,rfl,hloc x,hx,hl,λv z2 r2=>by
  rcases Bj hx hl with⟨l1,l2⟩
  refine⟨_,_,⟨r1.mono λp hp=>Pb _ hp,r2⟩,⟨l1,l1⟩,by lia,?_⟩
  rw[SeqAt.eqv_refl _ l1]
  exact⟨λh=>bF h,λ_=>h x t s a1 v z1 z2 ht⟩⟩⟩⟩
theorem yC {la lb c f g:ah}:([]++((la++(lb++(c++[])))++((f++[])++g))).Perm (((c++(la++[]))++([]++((f++[])++g)))++lb):=bj λ_ _ p=>by
 simp only[PL,Qa];lia
theorem Bx (L2:LL ⟨[],[],[]⟩ [.nlist d1 cells,.nlist d3 l3,.list a [] [.opq (.ref d1),.num 0,.int seed]] l'):∃k z,LL ⟨[a,d1],[],[]⟩ [bV a 0 seed,.nlist d1 cells] k∧∀f g:ah,([]++(l'++((f++[])++g))).Perm ((k++([]++((f++[])++g)))++z):=by
 obtain⟨la,l2,rfl,Ha,L2⟩:=LL.dm L2
 obtain⟨lb,l4,rfl,Hb,L2⟩:=LL.dm L2
 obtain⟨lc,l5,rfl,Hc,L2⟩:=LL.dm L2
 cases L2
 obtain⟨us,m,ir,rfl⟩:=Hc.listI
 obtain⟨u,v,w,rfl,r1,r2,r3⟩:=vf ir
 exact⟨_,lb,.cons (.list (.cons (show SV.R ⟨[a,d1],[],[]⟩ (.ref 1) _ from⟨d1,rfl,r1⟩) (.cons r2 (.cons r3 .nil)))) (.cons (HL.okN (n:=0) (by rfl) Ha rfl) .nil),λf g=>yC⟩
theorem tR:Ent {loc:=[("script",.opq (.ref sc)),("deck",.tmp 2)],hp:=[],sk:=[],tp:=[.nlist d1 cells,.nlist d3 l3,.list a [] [.opq (.ref d1),.num 0,.int seed]],rst:=[],fz:=z} λst'=>st'={loc:=[("script",.opq (.ref sc)),("deck",.ref 0)],hp:=[bV a 0 seed,.nlist d1 cells],sk:=[],tp:=[],rst:=[],fz:=z}:=⟨λX s f0 I=>by
 refine⟨_,rfl,Inv.lay (st':=St.fr {loc:=[("script",.opq (.ref sc)),("deck",.ref 0)],hp:=[bV a 0 seed,.nlist d1 cells],sk:=[],tp:=[],rst:=[],fz:=z} f0) I (λy sv' q=>?_) λl l' L1 L2=>?_⟩
 ·have:fF (λs1 s2=>∀v,s1.R ⟨[],[],[d1,d3,a]⟩ v→s2.R ⟨[a,d1],[],[]⟩ v) [("script",.opq (.ref sc)),("deck",.tmp 2)] [("script",.opq (.ref sc)),("deck",.ref 0)]:=.cons (λv r=>r) (.cons (λv r=>r) .nil)
  exact this.look q
 ·cases L1
  obtain⟨k,y,K,pm⟩:=Bx L2
  exact⟨k,[],y,K,.nil,pm _ _⟩⟩
theorem Bg:∀n:Fin 64,(0:Int)≤2+Sm (if(40:Int)<(n.1:Int)then 40 else(n.1:Int)) 10∧2+Sm (if(40:Int)<(n.1:Int)then 40 else(n.1:Int)) 10<(1000000:Int):=by decide +kernel
theorem xO (w:World)(sc:Sc)(h63:sc.2.length≤63):bw (bE {cs:=aK (aJ 81),call:=aw [(712,se sc),(700,kN),(757,sS),(722,rZ),(750,Bu),(58,d9),(38,qs)],ke:=λ_ _=>False,fors:=λ_=>some λaq=>{ι:=aE,n:=Pf (2+Sm (if(40:Int)<(sc.2.length:Int)then 40 else(sc.2.length:Int)) 10),items:=λj=>[.int (j:Int)],S:=λ_ i=>A0 sc.1 aq.fz i,J:=λ_ i=>0≤i.turn∧i.cells.length≤60,ok:=λ_ h=>h}} (xt w sc) 12) (bz (aJ 81)) {loc:=[("script",.opq (.ref sc.1))],hp:=[],sk:=[],tp:=[],rst:=[],fz:=[]} (λfl st=>bW fl=.bool true):=by
 refine Ew _ _ _ (λsv _=>sv=.bool true) _ (λ_ i=>0≤i.turn∧i.cells.length≤60) ⟨⟨rfl,h63⟩,λa d1 d3 cells l3 seed z hc=>⟨sc.2.length,.inl ⟨rfl,rfl⟩,by lia,⟨by decide,by decide⟩,⟨Bg ⟨_,by lia⟩,rfl,λ_=>rfl⟩,λ_ _=>rfl,⟨λX s f I=>?_⟩,λj i I o hj hJ=>?_,λi hJ=>?_⟩⟩
 ·obtain⟨_,rfl,I⟩:=tR.h X s f I
  exact⟨_,⟨⟨a,d1,cells,0,seed,[]⟩,⟨Int.le_refl _,hc⟩,rfl⟩,I⟩
 ·rcases hJ with⟨h0,h1⟩
  have back:∀(x:Str)(t s:Int)(z1 z2:ah),0≤t→[(I,o)]=(I,o)::[]∧Ent {loc:=[("script",.opq (.ref sc.1)),("deck",.ref 0),("turn",.int (j:Int)),("text",.str x)],hp:=[bV i.a t s,.nlist i.c i.cells],sk:=[],tp:=[],rst:=[],fz:=z2++(z1++(i.z++(z++[])))} λst'=>∃i':aE,(0≤i'.turn∧i'.cells.length≤60)∧st'=A0 sc.1 (z++[]) i':=λx t s z1 z2 ht=>⟨rfl,⟨λX s' f I=>⟨_,⟨⟨i.a,i.c,i.cells,t,s,z2++(z1++i.z)⟩,⟨ht,h1⟩,rfl⟩,by
   have e:z2++(z1++(i.z++(z++[])))=(z2++(z1++i.z))++(z++[]):=by simp only[Pj]
   rw[e]at I
   exact Inv.CJ (loc':=[("script",.opq (.ref sc.1)),("deck",.ref 0)]) (λy sv' q=>⟨sv',bX (m:=[("turn",.int (j:Int)),("text",.str x)]) q,λv r=>SV.jW (n:=2) (by rfl) (eb (loc:=[("script",.opq (.ref sc.1)),("deck",.ref 0)]) rfl q) r⟩) I⟩⟩⟩
  refine⟨i.a,i.c,i.cells,i.turn,i.seed,[],rfl,h0,by lia,by decide,λi1 s1 g0 g1=>⟨by decide,λ_=>⟨i.a,i.c,i.cells,_,s1,[],rfl,by lia,by lia,by decide,λi2 s2 _ _=>?_⟩,λ_=>?_⟩⟩
  ·exact og (loc:=λx=>[("script",.opq (.ref sc.1)),("deck",.ref 0),("turn",.int (j:Int)),("text",.str x)]) (by lia) h1 (by lia) (λ_=>rfl) λx t s _ _ z1 z2 ht=>back x t s z1 z2 ht
  ·exact og (loc:=λx=>[("script",.opq (.ref sc.1)),("deck",.ref 0),("turn",.int (j:Int)),("text",.str x)]) (by lia) h1 (by lia) (λ_=>rfl) λx t s _ _ z1 z2 ht=>back x t s z1 z2 ht
 ·have lay:∀n m:Int,(RH [.str "word",.int n,.int m]).canLay0=true:=λn m=>(eE (n:=0) (Fp (eZ (by decide +kernel)) m4 m4)).1
  refine⟨sc.2.length,.inl ⟨rfl,rfl⟩,by lia,λx d vs hv=>⟨sc.2.length,.inl ⟨rfl,rfl⟩,by lia,λx1 d1 vs1 hv1 a=>⟨⟨rfl,rfl⟩,λa2=>⟨sc.2.length,.inl ⟨rfl,rfl⟩,by lia,sc.2.length,.inl ⟨rfl,rfl⟩,by lia,λa3=>⟨⟨⟨lay _ _,lay _ _⟩,by decide⟩,?_⟩⟩⟩⟩⟩
  rw[SeqAt.eqv_refl _ (lay _ _)]
theorem CF:c9 (aJ 81) "law" "law" .none (.str "law_oj0032_01" 1305) (.ref 763) ["script"]:=⟨cH λ_=>by kernel_rfl,by kernel_rfl,by kernel_rfl⟩
theorem zW (kin:(Kf w.params).In s₁.heap)(T:Top q (looseW q lo) mean mg mb s₁.heap)(hg:s₁.gens=#[])(hL:s₁.heap.IsList a vs.toArray)(hI:Qz vs ns)(h63:ns.length≤63)(ret:∀s',(∀b o,s₁.heap.get? b=some o→s'.heap.get? b=some o)→s'.os=s₁.os→s'.gens=#[]→R (.ok (.ret (.bool true))) s'):P9 (model pw w) callerA (.call (.ref 764) ⟨[.ref a],[]⟩) R s₁:=by
 refine codeAny_call_def (fd:=CL (aJ 81) "law" "law" .none (.str "law_oj0032_01" 1305) (.ref 763)) (body:=bz (aJ 81)) (binds:=[("script",.ref a)]) (by decide +kernel) (kin _ _ (jd.lk _)) rfl T.nolimit (codeRec_of kin (jd.cd _)) rfl (.of_eq (CF.binds [.ref a] rfl)) jd.df.cell (λy hy=>of_decide_eq_true (List.all_eq_true.mp (gp CF.loc [.ref a]) y hy)) (λh₁ hns hk₁=>?_) jd.df.co jd.df.gen jd.df.kind
 let X:Fx:={w:=w,A:=callerA.deeper (envOf "law" (aK (aJ 81)) s₁.heap.objs.size 764 (.ref 763)),base:=s₁.heap,h₀:=s₁.heap,L:=s₁.heap.objs.size,cn:="law",cs:=aK (aJ 81),f:=764,cd:=.ref 763,os:=s₁.os,n:=404,scr:=a,sns:=ns}
 have hfr:X.A.frames=some [X.env]:=rfl
 have O:X.Ok:=⟨kin,⟨mean,mg,mb,T⟩,jd.df.kind,⟨callerA,[],below_caller _,hfr⟩,by show callerA.depth+1+404<_;decide +kernel,by show callerA.units+3+8*404+500<_;decide +kernel,vs,hL,hI,h63⟩
 have I:Inv X ⟨[("script",.opq (.ref a))],[],[],[],[],[]⟩ {s₁ with heap:=h₁,toks:=s₁.toks+[("script",Pa a)].length}:=
  ⟨⟨_,[],[],.nil,.nil,λy sv e=>dR (D:=⟨[],[],[]⟩) (svs:=[.opq (.ref a)]) (vals:=[.ref a]) (ns:=["script"]) (.cons rfl .nil) rfl y sv e,⟨hns,hk₁,P5 _⟩,λ_ h=>(nomatch h),Tb⟩,hg,rfl⟩
 have G:aH X {cs:=aK (aJ 81),call:=aw [(712,se (a,ns)),(700,kN),(757,sS),(722,rZ),(750,Bu),(58,d9),(38,qs)],ke:=λ_ _=>False,fors:=λ_=>some λaq=>{ι:=aE,n:=Pf (2+Sm (if(40:Int)<(ns.length:Int)then 40 else(ns.length:Int)) 10),items:=λj=>[.int (j:Int)],S:=λ_ i=>A0 a aq.fz i,J:=λ_ i=>0≤i.turn∧i.cells.length≤60,ok:=λ_ h=>h}} (xt w (a,ns)):=
  qL O rfl rfl (λf c e=>iX (cI (Br O (by show _≤404;decide)) (cI (rz O (by show _≤404;decide)) (cI (zM O (by show _≤404;decide)) (cI (Au O hfr (by show _≤404;decide)) (cI (FD O (by show _≤404;decide)) (cI (mr O (by show _≤404;decide)) (cI (vJ O (by show _≤404;decide)) dJ))))))) e) λ_ _ e=>nomatch e
 refine dG (X:=X) (bZ O G 12) (xO w (a,ns) h63) I (λ_ _ _ _ h=>h.elim) λfl st f s' I' rf hf=>?_
 obtain⟨m,l,l',_,_,_,F,_⟩:=I'.ex
 cases fl with
 |ret sv=>
  obtain⟨v,rfl,rv⟩:=rf
  cases(show sv=.bool true from hf)
  cases rv
  exact ret s' F.keep I'.os I'.gens
 |_=>cases(show SV.none=.bool true from hf)
set_option maxHeartbeats 8000000
theorem main:PySem.Challenge.rw_oj0032_01.Holds:=head (by
 intro w s₀ s₁ mg mb G Y fa o pm cd doc dV kV ho hd hcd hD hmg hg args vals as hpre hlay hrd hwl hlo
 have KX:(Kf w.params).In s₁.heap:=Y
 refine Ground.open G ?_
 intro T B D TE TW
 wrow_args hpre hlay hrd hwl hlo
 have e:mg "law"=some (.ref 764):=mg_of KX T.g (by kernel_rfl)
 have e2:some (Pa fa)=some (Pa 764):=hmg.symm.trans e
 cases e2
 refine S' (zW KX T hg (by assumption) (by assumption) (by lia) λs' k1 k2 k3=>GoodW.toG ⟨.inl ⟨.bool true,.bool true,[],rfl,λ_=>rfl,.bool true,by kernel_rfl,λ_=>⟨Tb,λ_ h=>nomatch h⟩⟩,k1,k2,k3⟩))
end Oj.Internal
theorem PySem.Challenge.cw_oj0032_01_holds : PySem.Challenge.rw_oj0032_01.Holds :=
 Oj.Internal.main
