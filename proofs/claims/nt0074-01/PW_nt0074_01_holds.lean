import PyProof.Rows.All
import Wide.All
import OpenK.AllK
import Wide.FinOn
import KE.KBytesCut
import PySem.Challenge.RW_nt0074_01
set_option Elab.async false
set_option linter.all false
set_option maxRecDepth 100000
set_option maxHeartbeats 4000000
set_option genInjectivity false
set_option genSizeOf false
open PySem PySem.W PyProof.Rows PySem.Calls
namespace Internal.Mine
noncomputable section
open _root_.Array renaming length_toList→eU,getElem?_toList→mV,getElem?_eq_getElem→oa,mem_toList_iff→rt,getD_eq_getD_getElem?→ud,toList_push→xh,getElem_toList→xj,getElem?_eq_none_iff→xk
open _root_.Bool renaming false→N,true→Q,and_eq_true_iff→bJ,and_eq_true→b_,not_eq_true'→eS,eq_iff_iff→iF,or_false→jk,false_ne_true→jl,and_false→n_
open _root_.ForInStep renaming yield→uc
open _root_.Int renaming ofNat_le→dj,natCast_nonneg→dA,ofNat_lt→dQ,le_trans→dR,ofNat→ef,not_lt_of_ge→fY,le_of_eq→iD,le_antisymm→iE,not_lt→kJ,not_le_of_gt→kK,not_le→n7,lt_trans→n8,le_of_lt→pG,ne_of_gt→rp,le_refl→rq,lt_of_lt_of_le→ua,lt_of_le_of_lt→ub,toNat_natCast→xg
open _root_.List renaming length_map→bc,mem_singleton→bz,length_append→bE,append_assoc→cz,replicate→cX,mem_map→cY,getElem?_eq_getElem→de,mem_of_getElem?→dG,getElem?_eq_some_iff→dH,range→dO,mem_cons→dP,map_cons→ee,rec→eo,map_map→eu,getElem?_map→eK,contains_iff_mem→fg,append_nil→ft,map_append→fN,length_cons→fX,mem_append→gw,getD_eq_getElem?_getD→gx,drop_drop→gy,size_toArray→iA,pairwise_cons→iB,drop_zero→iC,nodup_nil→jg,mem_range→jh,flatMap_cons→ji,all_eq_true→jj,mem_filter→jS,pairwise_singleton→kF,nodup_append→kG,length→kH,not_mem_nil→lP,nil_append→lQ,length_nil→lR,length_take→mT,drop_left→mU,getElem?_eq_none_iff→n3,getElem?_eq_none→n4,foldl_cons→n5,contains_cons→n6,take_of_length_le→pB,nodup_cons→pC,map_id→pD,length_range→pE,filter_eq_self→pF,pairwise_map→rm,map_congr_left→rn,any_cons→ro,take_length→tW,mem_flatMap→tX,length_filter_le→tY,length_drop→tZ,getElem?_take_of_lt→t4,getElem?_append_left→t5,flatten_cons→t6,find?_cons→t7,eq_nil_of_length_eq_zero→t9,all_toArray→t_,toList_toArray→wM,take_append_drop→wN,mem_append_right→wO,mapM_toArray→wP,lookup_cons→wQ,length_singleton→wR,length_replicate→wU,getElem?_set_self→wV,getElem?_of_mem→wW,getElem?_drop→wX,getElem?_append_right→wZ,flatMap_def→w0,drop_eq_getElem_cons→w_,cons_append→xe
open _root_.Min renaming min→fW
open _root_.Nat renaming le_of_eq→aM,sub_add_cancel→bk,le_refl→bo,le_trans→bF,le_antisymm→cW,zero_le→dc,le_total→dh,not_lt→dz,sub_eq_zero_of_le→eb,le_succ→eR,le_of_lt→fq,lt_succ_self→fF,sub_le→fV,le_of_ble_eq_true→hY,le_add_right→hZ,ne_of_lt→iz,mul_le_mul_right→jd,lt_of_lt_of_le→je,add_one_mul→jf,ne_of_gt→jQ,lt_or_gt_of_ne→jR,min_eq_left→kC,beq→kD,zero_add→lN,rec→lO,mul_div_le→mS,le_of_not_lt→py,add_sub_cancel_left→pA,mod_eq_of_lt→ri,lt_irrefl→rj,add_assoc→rk,not_lt_of_le→tV,lt_succ_of_lt→wJ,lt_of_le_of_lt→wK,mod_two_eq_zero_or_one→AX
open _root_.Option renaming some→z,none→D,map_eq_some_iff→fE,isSome_iff_exists→mR,bind_eq_some_iff→pu,map→rh,join_eq_some_iff→AW
open _root_.Option.some renaming inj→aY
open _root_.Prod.mk renaming inj→eD,injEq→pq
open _root_.PyProof.Rows renaming seqObj→dY,listUpdate_at→rg,get?_update_seq→tU,lt_int→AU,le_int→AV
open _root_.PySem renaming Value→T,wpAny_bind→am,Str→an,wpAny→ar,Shared→au,model→av,Addr→ay,wpAny_pure→aA,Expr→aP,NameKind→aT,Sem→aX,Around→a9,Env→bj,eval→bn,wpAny_mono→bq,Heap→bB,compareOp→bN,wpAny_holding→b0,call→co,clipAt→cq,World→cH,Stmt→dy,standAt→dF,Program→dX,sizeLine→d7,Scope→d9,holding→ek,sysModules→eJ,wpAny_standAt→fc,DictEntry→fe,mainGlobals→fU,starEach→gv,sizeLine_eq→gS,backTo→gT,assign→hO,Builtin→hV,wpAny_newObj_type→iw,binaryOp→iy,codeAny→i_,callWith→ja,OsState→jb,strKind→jN,seqIndex?→kz,treeTable→mM,foldedSetIterable→mN,wpAny_execs_cons→nX,call_meets→nY,builtinsNs→nZ,wpAny_typeOf→pd,wpAny_rule→pe,wpAny_loadPart_at→pf,wpAny_call→pg,wpAny_mkText→qX,swappedStores→qY,setAttr→qZ,letOwnedTupleGo→q_,wpAny_truthy_bool→tH,wpAny_setField→tI,wpAny_seqItems→tJ,wpAny_loadName_local→tK,wpAny_letTemporaryGo→tM,wpAny_execs_nil→tN,wpAny_dictEntries→tO,markedBehindIn_of_false→tP,wpAny_isSubtype_exc→wG,wpAny_typeNameOfWhole_keyiter→AQ
open _root_.PySem.Builtin.Bytes renaming window→lM,find?→tT,bound?→AT
open _root_.PySem.Builtin.Range renaming rangeSize→rf,small→AS
open _root_.PySem.Builtin.Str renaming strSliceIndices→tS
open _root_.PySem.Calls renaming evalArgs_plain→tR
open _root_.PySem.Env renaming kindOf→jP
open _root_.PySem.F renaming slot_dict_keyiterator_next→AR
open _root_.PySem.Heap renaming get?_push_of_some→cf,lt_size→cI,get?_push_size→d_,size_push→fM,SameBut→hU,get?_update_other→jO,get?_update_self→mQ
open _root_.PySem.Heap.SameBut renaming update→jc
open _root_.PySem.NameKind renaming free→rc,cell→tQ
open _root_.PySem.Obj renaming mapSeq→eQ,mapFields→lL,isFreed_of_fields→wH,data_mapFields→wI
open _root_.PySem.PyData renaming keyHash→lK
open _root_.PySem.Sem renaming wp_release→rb
open _root_.PySem.Str renaming ofString→n0
open _root_.PySem.Value renaming none→dN,ref→eP,int→po,type→ra
open _root_.PySem.Value.ref renaming inj→ph
open _root_.PySem.W renaming findIn→d8,kitOne→gU,behindTheImports→lJ,typeIs_bytes→mO,callWith_of→mP
open _root_.UInt8 renaming ofNat→dw,toNat_ofNat'→qV,toNat→qW
open _root_ renaming rfl→O,List→Y,Nat→M,Int→J,Option→d,Bool→ak,if_pos→aw,if_neg→az,Array→aQ,congrArg→aR,decide_eq_false→bu,decide_eq_true→bx,False→bR,beq_eq_false_iff_ne→cL,UInt8→da,DecidableEq→dI,beq_iff_eq→dM,of_decide_eq_true→fB,decide_eq_true_eq→fC,beq_self_eq_true→fD,String→i9,of_decide_eq_false→mL,Decidable→n9,decide_eq_false_iff_not→wF
section
section
set_option backward.match.sparseCases false
inductive P where
 |none
 |bool (b:ak)
 |int (i:J)
 |str (s:Y M)
 |bytes (s:Y M)
 |tup (vs:Y P)
 |list (vs:Y P)
 |dict (es:Y (P×P))
 |inst (C:M) (fs:Y (M×P))
 deriving Inhabited
noncomputable abbrev ci(x:aQ T)(n:M):Obj:={cls:= .type "list",data:= .seq x n}
noncomputable def kQ:M→Y M
 |1=> [1]
 |2=> [2,3,4]
 |3=> [5,6,7,8]
 |4=> [9,10]
 |5=> [11,12,13]
 |6=> [14,15,16]
 |_=> []
noncomputable def V5:dy→ak
 | .FunctionDef .. =>Q
 |_=>N
def OK:dy→Y dy
 | .FunctionDef a b c k e f g h i j=> [.FunctionDef a b c k e f g h i j]
 | .ClassDef _ _ _ b _ _ _ _ _ _ _=>b.filter V5
 |_=> []
def Xx:Y dy:=PySem.Challenge.pw_nt0074_01.main.body.flatMap OK
def eN(k:M):dy:=Xx[k]?.getD (.Pass ⟨0,0,0,0⟩)
noncomputable def O0:dy→Y dy
 | .FunctionDef _ _ b _ _ _ _ _ _ _=>b
 |_=> []
def lj(k:M):Y dy:=O0<|eN k
noncomputable def Lo:dy→d9
 | .FunctionDef _ _ _ _ _ _ s _ _ _=>s
 |_=>⟨.function,[],N,N,[]⟩
def fP(k:M):d9:=Lo<|eN k
noncomputable def Km:dy→Y an
 | .FunctionDef _ a _ _ _ _ _ _ _ _=>a.args.map (·.arg)
 |_=> []
def fO(k:M):Y an:=Km<|eN k
noncomputable def fG:dy→an
 | .FunctionDef n _ _ _ _ _ _ _ _ _=>n
 |_=>""
noncomputable def atN(i:M):an:=(["told","bounds","default","starts","values","defaults","maps","properties","words","codes","strings","octets","data","at","ranges","whole","is_behind_set"]:Y an)[i]?.getD ⟨(cX i 0).toArray⟩
noncomputable def yh:Y<|an×P:= [("MAX_CODE", .int 1114111),("HEX_DIGITS", .bytes [48,49,50,51,52,53,54,55,56,57,65,66,67,68,69,70]),("LEAST_HEX", .int 4),("RANGE_END", .int 1114112),
 ("SET_BLANKS", .bytes [32,9,10,13]),("SET_SIGNS", .bytes [91,93,123,125,38,45,92,94]),("SET_DEEP", .int 18),("BACKSLASH", .int 92),("OPENING", .int 91),("CLOSING", .int 93),("STRING_OPENING", .int 123),("STRING_CLOSING", .int 125),
 ("HAT", .int 94),("AND", .int 38),("MINUS", .int 45),("LAST_ASCII", .int 127),("_law_letters", .list [.int 97, .int 98, .int 99, .int 100, .int 101, .int 102, .int 103, .int 104])]
def qR(i:M):an:=(yh[i]?.map (·.1)).getD ""
noncomputable def HF:Y<|an×T:= [("len", .builtin "len"),("bytes", .type "bytes"),("sorted", .builtin "sorted"),("max", .builtin "max"),("isinstance", .builtin "isinstance"),("chr", .builtin "chr"),("ord", .builtin "ord"),("tuple", .type "tuple"),("int", .type "int"),("hex", .builtin "hex"),("list", .type "list"),("bool", .type "bool"),("range", .type "range"),("enumerate", .type "enumerate")]
def gu(i:M):an:=(HF[i]?.map (·.1)).getD ""
noncomputable def mG(i:M):an:=(["BadSet","CodeSet","RangeMap","Data","CodeStrings","SetReader","SetSoFar"]:Y an)[i]?.getD ""
noncomputable def f8(i:M):ak:=decide (i<103)&& !([0,1,4,14,19,20,21,27,41,42,43,44,45,51,54,55,66]:Y M).contains i
def oG(i:M):ak:=f8 i&& !([10,11,12,13,15,16,17,18,23,24,25,26,30,31,32,33,53,58,59,60,61,62,63,64,73,74,75,76,77]:Y M).contains i
end
section
abbrev pwH:dX:=PySem.Challenge.pw_nt0074_01
noncomputable def Xq:Obj:={cls:= .type "tuple",data:= .seq #[]}
noncomputable def Xp:Obj:={cls:= .none,data:= .fields #[]}
noncomputable def Xo:Obj:={cls:= .type "code",data:= .fields #[.str "<module>" 182, .str "<module>" 183, .str "/claim/cut.py" 184, .int 1 0, .int 0 0, .int 0 0, .int 0 0, .int 0 0, .ref 11, .bool N, .int 181 0, .ref 12, .none, .none, .none, .none, .int 185 0, .int 1 0, .str "/claim/cut.py" 186]}
noncomputable def Xn:Obj:={cls:= .type "frame",slots:= #[z<|.ref 13,z<|.ref 3,z<|.ref 3,D,z<|.str "__main__" 164,D,z<|.ref 0]}
noncomputable def ZI(P:Params):BT:= .node (boot_o_0 P) (.node (boot_o_1 P) (.node (boot_o_3 P) (.node (boot_o_7 P) .nil .nil)<|.node Xq .nil .nil)<|.node (boot_o_5 P) (.node (boot_o_9 P) .nil .nil)<|.node Xo .nil .nil)<|.node (boot_o_2 P) (.node (boot_o_4 P) (.node (boot_o_8 P) .nil .nil)<|.node Xp .nil .nil)<|.node (boot_o_6 P) (.node (boot_o_10 P) .nil .nil)<|.node Xn .nil .nil
noncomputable def th(w:cH)(os:jb):SharedT:=⟨ZI w.params,15,{},#[],{},187,os⟩
noncomputable def hpH:Pos:=⟨0,0,0,0⟩
noncomputable def ln:bj:={scope:=pwH.main.scope,locals:=mainNs,globals:=mainNs,cells:= [],code:= .ref 13,frame:=z 14}
def HE:Thread:=piecesOf (lJ pwH) ln (.body (lJ pwH) ln) hpH [topFrame hpH]
noncomputable def zQ(w:cH)(os:jb):d<|Flow×SharedT×Code×Pos:=Fast.tw10110043849684766642 Fast.tw14364793385576792824 pwH w 11 (z<|.ref 6) 1 5089 (th w os) HE
noncomputable def nV(k:Y ay)(s:SharedT):Frag:=k.filterMap λa=>match Nat.blt a s.n with
 |true=>(s.tree.get a).bind λo=>(alive o).map λo=>(a,o)
 |false=>D
noncomputable def AJ:Y ay:= [21,36,61,68,75,82,89,94,101,108,123,130,140,145,152,159,166,173,180,187,194,201,215,229,236,243,248,255,269,276,290,297,304,311,325,332,339,346,351,358,365,372,378,385,390,397,402,409,416,423,430,437,444,458,465,472,484,489,503,510,517,524,531,538,545,559,564,571,578,585,592,599,604,618,625,632,639,646,660,667,674,681,688,695,702,709,716,721,728,736,741,748,755,762,767,772,779,784,791,796,801,808,813]
end
section
def qL:dX:={pwH with main:={pwH.main with body:= [eN 102]}}
noncomputable def yD:Y an:=pwH.boundNames.filter λn=> !(n==("law":an))
noncomputable def Ow(P:Params)(s:au):ak:=staticsOk (importedModules pwH.main.body) (boot_heap P) s.heap&&namesBound pwH s.heap&&gensDone s&&laidKept (boot_heap P) s.heap
end
section
noncomputable def HI:Y ay:= [52,204,258,314,475,548,649]
def ir(i:M):ay:=AJ.getD i 0
def fo(i:M):ay:=HI.getD i 0
def nA:Y ay:=HI++([39,51,38,203,257,313,474,547,648,fU,nZ,cStatics,eJ,132,729,29,116]++(AJ++AJ.map (· -1)))
noncomputable def G_:T→d ay
 | .ref a=>z a
 |_=>D
noncomputable def G9:T→d an
 | .str n _=>z n
 |_=>D
noncomputable def AI(o:Obj):d<|aQ T:=match o.data with
 | .fields vs=>z vs
 |_=>D
noncomputable def AH(o:Obj):d FuncData:=match o.data with
 | .func f=>z f
 |_=>D
noncomputable def Eh(K:Frag)(a:T)(q:an):ak:=(((((G_ a).bind λc=>K.lookup c).bind AI).bind (·[1]?)).bind G9)==z q
def vF(K:Frag)(u:M→T)(S:Setting)(p:M×M):d<|T×FuncBody×d9×ay×ay×Y (an×ay)×ak×d (Y<|an×T):=(K.lookup<|ir p.1).bind λo=>(AH o).map λf=>(o.cls,f.body,f.scope,f.globals,f.builtins,f.closure,Eh K f.code f.qualname,peek K S<|bindArgs f ⟨(dO p.2).map u,[]⟩)
def gF(u:M→T)(p:M×M):d<|T×FuncBody×d9×ay×ay×Y (an×ay)×ak×d (Y<|an×T):=
 z (.type "function", .stmts<|lj p.1,fP p.1,fU,nZ,[],Q,z<|(fO p.1).zip<|(dO p.2).map u++cX ((fO p.1).length-p.2) .none)
def l_:Y<|M×M:=(((dO 103).filter λi=>f8 i||i==1).map λk=>(k,(fO k).length))++ [(10,1)]
def vC(K:Frag)(C:M):=(hasDictIn K<|fo C,d8 K (.ref<|fo C) "__getattribute__",d8 K (.ref<|fo C) "__getattr__",d8 K (.ref<|fo C) "__setattr__",plainOver K<|fo C,keepIn K<|.ref<|fo C,makesIn K<|fo C,(kQ C).map λi=>d8 K (.ref<|fo C)<|atN i)
def gC(C:M):ak×d (d T)×d (d T)×d (d T)×ak×ak×ak×Y (d<|d T):=(Q,z<|z<|.builtin "object.__getattribute__",z D,z<|z<|.builtin "object.__setattr__",Q,Q,Q,(kQ C).map λ_=>z D)
noncomputable def wi(K:Frag):=(hasDictIn K 52,d8 K (.ref 52) "__getattribute__",d8 K (.ref 52) "__getattr__",d8 K (.ref 52) "__setattr__",d8 K (.ref 52) "told",keepIn K<|.ref 52,d8 K (.ref 52) "__init__",K.lookup 52)
noncomputable def g0:ak×d (d T)×d (d T)×d (d T)×d (d T)×ak×d (d T)×d Obj:=(Q,z<|z<|.builtin "BaseException.__getattribute__",z D,z<|z<|.builtin "object.__setattr__",z D,Q,z<|z<|.ref 36,
 z (excClassObj "BadSet" "BadSet" 52 51 [.ref 39] [.ref 39, .type "Exception", .type "BaseException", .type "object"] Q [] [] N D D (z<|.ref 43) D (z<|.str "BadSet" 231) (z<|.str "BadSet" 239) (z<|.bool Q) "Exception.__new__"))
noncomputable def wt:Y<|M×M:= [(1,10),(2,23),(3,30),(4,53),(5,58),(6,73)]
noncomputable def wq:Y<|M×M:= [(1,12),(1,13),(1,15),(1,16),(1,17),(1,18),(2,24),(2,25),(2,26),(3,31),(3,32),(3,33),(5,59),(5,60),(5,61),(5,62),(5,63),(5,64),(6,74),(6,75),(6,76),(6,77)]
def sA:Y M:=(dO 103).filter oG
noncomputable def AL:Y T:= [.int 1114111 196, .bytes ⟨[48,49,50,51,52,53,54,55,56,57,65,66,67,68,69,70]⟩ 198, .int 4 200, .int 1114112 286, .bytes ⟨[32,9,10,13]⟩ 779, .bytes ⟨[91,93,123,125,38,45,92,94]⟩ 781, .int 18 783, .int 92 785, .int 91 787, .int 93 789, .int 123 791, .int 125 793, .int 94 795, .int 38 797, .int 45 799, .int 127 801, .ref 729]
def nH:Obj:=ci #[.int 97 1181, .int 98 1182, .int 99 1183, .int 100 1184, .int 101 1185, .int 102 1186, .int 103 1187, .int 104 1188] 0
def vG(K:Frag):=(sA.map λk=>nsIn K fU<|fG<|eN k,(dO 7).map λi=>nsIn K fU<|mG i,(dO 14).map λi=>nsIn K fU<|gu i,(dO 17).map λi=>nsIn K fU<|qR i,K.lookup 729)
def gG:Y (d<|d T)×Y (d<|d T)×Y (d<|d T)×Y (d<|d T)×d Obj:=(sA.map λk=>z<|z<|.ref<|ir k,(dO 7).map λi=>z<|z<|.ref<|fo i,(dO 14).map λ_=>z D,(dO 17).map λi=>z<|z<|AL.getD i .none,z nH)
def vM(K:Frag):=(wt.map λp=>d8 K (.ref<|fo p.1) "__init__",wq.map λp=>d8 K (.ref<|fo p.1)<|fG<|eN p.2,specialIn K (.ref 204) "__getattribute__",readsIn K 204<|.type "type",findCls K (.ref 204) (.type "type")<|fG<|eN 11,recIn K 132 "staticmethod",(K.lookup eJ).isSome)
def gM:Y (d<|d T)×Y (d<|d T)×d (d T)×ak×d CFound×d (Y T)×ak:=(wt.map λp=>z<|z<|.ref<|ir p.2,wq.map λp=>z<|z<|.ref<|ir p.2,z<|z<|.builtin "type.__getattribute__",Q,z<|.get (.builtin "staticmethod.__get__") (.ref 132) .none<|.ref 204,z [.ref 130, .bool N],Q)
def vK(K:Frag):=([1,4].map λC=>(plainGet K (fo C) "__class__",d8 K (.ref<|fo C) "__class__",mroIn K (fo C)<|.type "object"),specialIn K (.builtin "object.__class__") "__get__",takesIn K<|.builtin "object.__class__",
 gU K (.type "NoneType") (.type "bool"),gU K (.type "bool")<|.type "bool",gU K (.type "int")<|.type "bool",gU K (.type "str")<|.type "bool",gU K (.type "tuple")<|.type "bool",gU K (.type "int")<|.type "int",gU K (.ref<|fo 4)<|.ref<|fo 4,gU K (.ref<|fo 1)<|.ref<|fo 4)
noncomputable def gK:Y (ak×d (d T)×d ak)×d (d T)×d ak×d ak×d ak×d ak×d ak×d ak×d ak×d ak×d ak:=([1,4].map λ_=>(Q,z<|z<|.builtin "object.__class__",z Q),z<|z<|.builtin "getset_descriptor.__get__",z Q,z N,z Q,z N,z N,z N,z Q,z Q,z N)
structure AP(K:Frag):Prop where
 f: ∀u S,l_.map (vF K u S)=l_.map (gF u)
 c: [1,2,3,4,5,6].map (vC K)= [1,2,3,4,5,6].map gC
 c0:wi K=g0
 g:vG K=gG
 m:vM K=gM
 k:vK K=gK
theorem L4(w:cH)(os:jb):(zQ w os).map (λr=>(r.1,r.2.2.1,Ow w.params r.2.1.abs,openSeen qL yD (importedModules pwH.main.body) (λ_=>Q) Q r.2.1.abs,
  [1,2,3,4,5,6].map (vC<|nV nA r.2.1),wi<|nV nA r.2.1,vG<|nV nA r.2.1,vM<|nV nA r.2.1,vK<|nV nA r.2.1))=
  z (.next,Code.body (lJ pwH) ln,Q,openGood qL yD,[1,2,3,4,5,6].map gC,g0,gG,gM,gK):=by
 kernel_rfl
theorem Ou(w:cH)(os:jb)(u:M→T)(S:Setting):(zQ w os).map (λr=>l_.map<|vF (nV nA r.2.1) u S)=z (l_.map<|gF u):=by
 kernel_rfl
end
section
noncomputable abbrev qM:OpenLaw:=PySem.Challenge.rw_nt0074_01
theorem wa{a b:ak}(h:a=Q)(k:b=Q):(a&&b)=Q:=by rw[h,k];rfl
abbrev sC:=Fast.tw2368527892694137696 qM
theorem Y4:Fast.tw8377067652309620493 sC.prog=Q:=by kernel_rfl
theorem Y3:(Fast.tw17119622794617984870 sC.prog sC.prog.main.body λ_ n=>Fast.tw17868728402115742887 n)=Q:=by kernel_rfl
theorem Y2:Fast.tw12908688711261696721 sC.prog=Q:=by
 delta Fast.tw12908688711261696721
 repeat' (with_reducible refine wa ?_ ?_)
 all_goals first|with_reducible exact Y4|with_reducible exact Y3|kernel_rfl
theorem Y1:Fast.tw17960256430627541270 sC=Q:=by
 delta Fast.tw17960256430627541270 Fast.tw2436336058641802641
 repeat' (with_reducible refine wa ?_ ?_)
 all_goals first|with_reducible exact Y2|kernel_rfl
theorem Lq:qM.wellSaid=Q:=by
 rw[Fast.te9446332074065402090]
 delta Fast.tw9446332074065402090
 repeat' (with_reducible refine wa ?_ ?_)
 all_goals first|with_reducible exact Y1|kernel_rfl
def dL:DefRec:=match defOf qL "law" with
 |some k=>k.1
 |none=>⟨"",⟨[],[],none,[],[],none,[]⟩,[],fP 102,hpH⟩
theorem ZQ:defOf qL "law"=z (dL,[]):=by kernel_rfl
theorem ZP:pwH.theDef "law"=z (dL.params,dL.body,dL.scope):=by kernel_rfl
theorem ZO:kwWritten? dL.params.kwonlyargs dL.params.kw_defaults=z []:=by kernel_rfl
theorem ZN:(chainsOk qL&&opensWell pwH&&(frees qM.row.toRowW&&qM.row.within.isEmpty))=Q:=by kernel_rfl
theorem ZM:pwH.bare:=⟨O,O,O,O,O,by kernel_rfl⟩
theorem d6:qM.row.toRowW.promised:=⟨[.list []],by decide+kernel,by decide+kernel⟩
end
noncomputable section
inductive Zx where
 |v (i:M)
 |n (k:M)
 |a (x y:Zx)
 |m (k:M) (x:Zx)
 |s (x y:Zx)
 |g (x:Zx)
def Zx.ev(c:Y M)(e:Zx):M:=Zx.rec (λi=>c.getD i 0) (λk=>k) (λ_ _ x y=>x+y) (λk _ x=>k*x) (λ_ _ x _=>x) (λ_ x=>x) e
def Zx.ez(c:Y J)(e:Zx):J:=Zx.rec (λi=>c.getD i 0) (λk=>ef k) (λ_ _ x y=>x+y) (λk _ x=>ef k*x) (λ_ _ x y=>x-y) (λ_ x=> -x) e
def mw(x:Y J):Y J→Y J:=eo (λy=>y) (λa t i y=>eo (a::t) (λb u _=>(a+b)::i u) y) x
def zdt(x:Y J):Y J→J:=eo (λ_=>0) (λa _ i y=>eo 0 (λb u _=>a*b+i u) y) x
def vY(i:M):Y J:=lO [1] (λ_ x=>0::x) i
def Zx.nf(e:Zx):Y J:=Zx.rec (λi=>0::vY i) (λk=> [ef k]) (λ_ _ x y=>mw x y) (λk _ x=>x.map (ef k* ·)) (λ_ _ x y=>mw x (y.map (-1* ·))) (λ_ x=>x.map (-1* ·)) e
def Zx.ps(e:Zx):ak:=Zx.rec (λ_=>Q) (λ_=>Q) (λ_ _ x y=>x&&y) (λ_ _ x=>x) (λ_ _ _ _=>N) (λ_ _=>N) e
theorem uQ(x:Y Int): ∀y c:Y Int,zdt (mw x y) c=zdt x c+zdt y c:=by
 induction x with
 |nil=>intro y c;exact(Int.zero_add _).symm
 |cons a t i=>
  intro y c
  cases y with
  |nil=>exact(Int.add_zero _).symm
  |cons b u=>
   cases c with
   |nil=>rfl
   |cons k c=>
    show (a+b)*k+zdt (mw t u) c=(a*k+zdt t c)+(b*k+zdt u c)
    rw[i,Int.add_mul,Int.add_assoc,Int.add_assoc,Int.add_left_comm<|b*k]
theorem MF(i:M): ∀c:Y J,zdt (vY i) c=c.getD i 0:=by
 induction i with
 |zero=>
  intro c
  cases c with
  |nil=>rfl
  |cons k c=>exact(Int.add_zero _).trans<|Int.one_mul _
 |succ i a=>
  intro c
  cases c with
  |nil=>rfl
  |cons k c=>show 0*k+zdt (vY i) c=c.getD i 0;rw[Int.zero_mul,Int.zero_add,a]
theorem uD(k:Int)(x:Y Int): ∀c:Y Int,zdt (x.map (k* ·)) c=k*zdt x c:=by
 induction x with
 |nil=>intro c;exact(Int.mul_zero _).symm
 |cons a x i=>
  intro c
  cases c with
  |nil=>exact(Int.mul_zero _).symm
  |cons b c=>show k*a*b+zdt (x.map (k* ·)) c=k*(a*b+zdt x c);rw[i,Int.mul_add,Int.mul_assoc]
theorem Zx.nf_ev(c:Y J)(e:Zx):zdt e.nf (1::c)=e.ez c:=by
 induction e with
 |v i=>show 0*1+zdt (vY i) c=c.getD i 0;rw[MF,Int.zero_mul,Int.zero_add]
 |n k=>exact(Int.add_zero _).trans<|Int.mul_one _
 |a x y h b=>show zdt (mw x.nf y.nf) _=x.ez c+y.ez c;rw[uQ,h,b]
 |m k x h=>show zdt (x.nf.map _) _=ef k*x.ez c;rw[uD,h]
 |s x y h b=>show zdt (mw x.nf<|y.nf.map _) _=x.ez c-y.ez c;rw[uQ,uD,h,b,Int.neg_one_mul];rfl
 |g x h=>show zdt (x.nf.map _) _= -x.ez c;rw[uD,h,Int.neg_one_mul]
theorem Zx.cast(c:Y M)(e:Zx):e.ps=Q→e.ez (c.map ef)=ef (e.ev c):=by
 induction e with
 |v i=>
  intro _
  show (c.map ef).getD i 0=ef (c.getD i 0)
  rw[gx,eK,gx];cases c[i]? <;>rfl
 |n k=>intro _;rfl
 |a x y b f=>intro h;have h:(x.ps&&y.ps)=Q:=h;rw[b_]at h;show x.ez _+y.ez _=_;rw[b h.1,f h.2];rfl
 |m k x b=>intro h;show ef k*x.ez _=_;rw[b h];rfl
 |s x y _ _=>intro h;cases h
 |g x _=>intro h;cases h
inductive Zy where
 |l (k:M) (x y:Zx)
 |e (k:M) (x y:Zx)
 |f (k:M) (x y:Zx)
 |nl (k:M) (x y:Zx)
 |nt (k:M) (x y:Zx)
def Zy.pr(c:Y M)(h:Zy):Prop:=Zy.rec (λ_ x y=>x.ev c≤y.ev c) (λ_ x y=>x.ev c=y.ev c) (λ_ x y=>x.ev c=y.ev c) (λ_ x y=> ¬x.ev c≤y.ev c) (λ_ x y=> ¬x.ev c<y.ev c) h
def Zy.pz(c:Y J)(h:Zy):Prop:=Zy.rec (λ_ x y=>x.ez c≤y.ez c) (λ_ x y=>x.ez c=y.ez c) (λ_ x y=>x.ez c=y.ez c) (λ_ x y=> ¬x.ez c≤y.ez c) (λ_ x y=> ¬x.ez c<y.ez c) h
def Zy.d(h:Zy):Zx:=Zy.rec (λk x y=> .m k<|.s y x) (λk x y=> .m k<|.s y x) (λk x y=> .m k<|.s x y) (λk x y=> .m k<|.s x<|.a y<|.n 1) (λk x y=> .m k<|.s x y) h
def Zy.ps(h:Zy):ak:=Zy.rec (λ_ x y=>x.ps&&y.ps) (λ_ x y=>x.ps&&y.ps) (λ_ x y=>x.ps&&y.ps) (λ_ x y=>x.ps&&y.ps) (λ_ x y=>x.ps&&y.ps) h
theorem Zy.ok{c:Y J}{h:Zy}:h.pz c→0≤h.d.ez c:=by
 have g: ∀(k:M) {a b:J},a≤b→0≤ef k*(b-a):=λk _ _ h=>Int.mul_nonneg (dA k)<|Int.sub_nonneg_of_le h
 cases h with
 |l k x y=>exact λh=>g k h
 |e k x y=>exact λh=>g k<|iD h
 |f k x y=>exact λh=>g k<|iD h.symm
 |nl k x y=>exact λh=>g k<|Int.add_one_le_of_lt<|Int.lt_of_not_ge h
 |nt k x y=>exact λh=>g k<|Int.le_of_not_gt h
theorem Zy.cast{c:Y M}{h:Zy}(p:h.ps=Q)(q:h.pr c):h.pz<|c.map ef:=by
 cases h<;>obtain ⟨i,j⟩:=(b_ _ _).mp p<;>have b:=Zx.cast c _ i<;>have g:=Zx.cast c _ j
 ·exact dR (iD b)<|dR (dj.mpr q)<|iD g.symm
 ·exact b.trans<|(aR ef q).trans g.symm
 ·exact b.trans<|(aR ef q).trans g.symm
 ·exact λa=>q<|dj.mp<|dR (iD b.symm)<|dR a<|iD g
 ·exact λa=>q<|dQ.mp<|ub (iD b.symm)<|ua a<|iD g
def sU(P:Zy→Prop)(G:Prop)(a:Y Zy):Prop:=eo G (λh _ i=>P h→i) a
def zsm(a:Y Zy):Y J:=eo [] (λh _ i=>mw h.d.nf i) a
theorem Dk{P:Zy→Prop}{G:Prop}{c:Y J}(b: ∀h:Zy,P h→0≤h.d.ez c)(a:Y Zy):(0≤zdt (zsm a) (1::c)→G)→sU P G a:=by
 induction a with
 |nil=>exact λh=>h<|rq 0
 |cons x t i=>exact λh e=>i λq=>h<|by show 0≤zdt (mw x.d.nf<|zsm t) _;rw[uQ,Zx.nf_ev];exact Int.add_nonneg (b x e) q
def vZ(K:M)(a:Y Zy)(x y:Zx):Y J:=mw (Zx.a (.m (K+1)<|.s y x)<|.n K).nf ((zsm a).map (-1* ·))
theorem Dj{K:M}{b:Y Zy}{x y:Zx}{c:Y Int}(h:0≤zdt (vZ K b x y) (1::c))(q:0≤zdt (zsm b) (1::c)):x.ez c≤y.ez c:=by
 unfold vZ at h
 rw[uQ,uD,Zx.nf_ev]at h
 have h:0≤(Int.ofNat (K+1)*(y.ez c-x.ez c)+Int.ofNat K)+ -1*zdt (zsm b) (1::c):=h
 generalize zdt (zsm b) (1::c)=S at h q
 generalize x.ez c=X at h⊢
 generalize y.ez c=a at h⊢
 refine Int.le_of_not_gt λn=> ?_
 have e:Int.ofNat (K+1)*(a-X)≤Int.ofNat (K+1)*(-1):=Int.mul_le_mul_of_nonneg_left (Int.le_of_lt_add_one<|by show a-X< -1+1;exact Int.sub_neg_of_lt n)<|Int.natCast_nonneg _
 generalize Int.ofNat (K+1)*(a-X)=Z at h e
 have e:Z≤((K+1:M):Int)*(-1):=e
 have h:0≤(Z+(K:Int))+ -1*S:=h
 omega
def GU(x:Y J):ak:=eo Q (λa _ i=>decide (a=0)&&i) x
def Gj(x:Y J):ak:=eo Q (λa _ i=>decide (0≤a)&&i) x
def GZ(x:Y J):ak:=eo Q (λa t _=>decide (0≤a)&&GU t) x
theorem MD(x:Y J)(h:GU x=Q): ∀c,zdt x c=0:=by
 induction x with
 |nil=>intro c;rfl
 |cons a t i=>
  intro c
  obtain ⟨b,e⟩:=(b_ _ _).mp h
  cases c with
  |nil=>rfl
  |cons k c=>show a*k+zdt t c=0;rw[i e,fB b,Int.zero_mul];rfl
theorem K5(x:Y Int)(h:Gj x=Q): ∀c:Y M,0≤zdt x (c.map Int.ofNat):=by
 induction x with
 |nil=>intro c;exact Int.le_refl 0
 |cons a t i=>
  intro c
  obtain ⟨b,e⟩:=(b_ _ _).mp h
  cases c with
  |nil=>exact Int.le_refl 0
  |cons k c=>exact Int.add_nonneg (Int.mul_nonneg (fB b)<|Int.natCast_nonneg k)<|i e c
theorem MG{x:Y J}(h:GZ x=Q)(c:Y J):0≤zdt x (1::c):=by
 cases x with
 |nil=>exact rq 0
 |cons a t=>
  obtain ⟨b,e⟩:=(b_ _ _).mp h
  show 0≤a*1+zdt t c
  rw[MD t e,Int.mul_one,Int.add_zero];exact fB b
noncomputable def XC(f:M):M→M×M:=lO (λn=>(0,n)) (λ_ i n=>let r:=i<|n/16;(n%16+16*r.1,r.2)) f
def nN(f:M):M→Zx×M:=lO (λn=>(.n 0,n)) (λ_ i n=>
 let k:=n%16;let n:=n/16
 bif Nat.ble k 8 then(.v k,n)else bif kD k 9 then(.n<|n%16,n/16)else bif kD k 10 then(let r:=XC (n%16)<|n/16;(.n r.1,r.2))else
 let x:=i n
 bif kD k 14 then(.g x.1,x.2)else bif kD k 15 then(.a x.1<|.n 1,x.2)else
 let y:=i x.2
 bif kD k 11 then(.a x.1 y.1,y.2)else bif kD k 12 then(.m (x.1.ev []) y.1,y.2)else(.s x.1 y.1,y.2)) f
def GV(f:M):M→Y Zy×M:=lO (λn=>([],n)) (λ_ i n=>
 let a:=n%16;let n:=n/16
 bif kD a 0 then([],n)else
 let k:=bif Nat.ble a 5 then(1,n)else(let r:=nN 1 n;(r.1.ev [],r.2))
 let a:=bif Nat.ble a 5 then a else a-5
 let x:=nN 20 k.2
 let y:=nN 20 x.2
 let t:=i y.2
 ((bif kD a 1 then Zy.l k.1 x.1 y.1 else bif kD a 2 then Zy.e k.1 x.1 y.1 else bif kD a 3 then Zy.f k.1 x.1 y.1 else bif kD a 4 then Zy.nl k.1 x.1 y.1 else Zy.nt k.1 x.1 y.1)::t.1,t.2)) f
def sS(n:M):Y Zy:=(GV 20 (nN 1 n).2).1
def qx(n:M):Zx×M:=nN 20 (GV 20 (nN 1 n).2).2
def sT(n:M):Zx:=(nN 20 (qx n).2).1
def GY(n:M):M:=(nN 1 n).1.ev []
def GX(a:Y Zy):ak:=eo Q (λh _ i=>h.ps&&i) a
theorem aW(c:Y J)(n:M)(h:GZ (vZ (GY n) (sS n) (qx n).1<|sT n)=Q):sU (Zy.pz c) ((qx n).1.ez c≤(sT n).ez c)<|sS n:=
 Dk (λ_=>Zy.ok) _ λq=>Dj (MG h c) q
theorem J8{c:Y M}{G:Prop}(a:Y Zy)(p:GX a=Q)(h:sU (Zy.pz<|c.map ef) G a):sU (Zy.pr c) G a:=by
 induction a with
 |nil=>exact h
 |cons x t i=>
  obtain ⟨b,e⟩:=(b_ _ _).mp p
  exact λf=>i e<|h<|Zy.cast b f
def XM(n:M):ak:=GX (sS n)&&((qx n).1.ps&&((sT n).ps&&Gj (vZ (GY n) (sS n) (qx n).1<|sT n)))
theorem ah(c:Y M)(n:M)(h:XM n=Q):sU (Zy.pr c) ((qx n).1.ev c≤(sT n).ev c)<|sS n:=by
 obtain ⟨b,e⟩:=(b_ _ _).mp h
 obtain ⟨e,a⟩:=(b_ _ _).mp e
 obtain ⟨a,f⟩:=(b_ _ _).mp a
 refine J8 _ b<|Dk (λ_=>Zy.ok) _ λq=>dj.mp ?_
 have:=Dj (K5 _ f<|1::c) q
 rw[Zx.cast c _ e,Zx.cast c _ a]at this
 exact this
theorem bZ{a b:M}:a≤a-b+b:=Nat.sub_le_iff_le_add.mp<|bo _
end
theorem gP{P:Prop}(h:1≤0):P:=absurd h<|by decide
theorem XK{P:Prop}(h:(1:J)≤0):P:=absurd h<|by decide
theorem qw(n:M):n+1≤2*(n/2+1):=Nat.lt_mul_div_succ n<|by decide
theorem ms{a b:M}(h: ¬a=b): ¬(a:J)=(b:J):=λq=>h<|Int.ofNat.inj q
theorem oN(a b:M):(Max.max 0<|fW (a:J) (b:J)).toNat=fW a b:=by
 have g:fW (a:J) (b:J)=((fW a b:M):J):=(dh a b).elim (λh=>(Int.min_eq_left<|dj.mpr h).trans<|aR ef (kC h).symm) λh=>(Int.min_eq_right<|dj.mpr h).trans<|aR ef (Nat.min_eq_right h).symm
 rw[g,Int.max_eq_right<|dA _];rfl
theorem XI(x:J):(2*x-1)%2=1:=(aR (λa:J=>a%2)<|iE (aW [x] 0x190d29c19b19029cd009 O)<|aW [x] 0x19029cd190d29c19b009 O).trans<|Int.add_mul_emod_self_left 1 2 _
theorem XJ(x:J):(2*x+1-1)%2=0:=(aR (λa:J=>a%2)<|iE (aW [x] 0x29c19029cfd009 O)<|aW [x] 0x19029cfd029c009 O).trans<|Int.mul_emod_right 2 _
theorem XH(x:J):(2*x-0-1)/2+1=x:=by
 rw[show 2*x-0-1=1+2*(x-1)from(iE (aW [x] 0x190d29c19b1909029cdd009 O)<|aW [x] 0x1909029cdd190d29c19b009 O),Int.add_mul_ediv_left _ _<|by decide];exact iE (aW [x] 0x190d09bf009 O)<|aW [x] 0x190d09bf0009 O
theorem lw{x:J}(h: ¬(97≤x∧x≤104))(b:97≤x):105≤x:=Int.add_one_le_of_lt<|n7.mp λq=>h ⟨b,q⟩
section
variable{x0 x1 x2 x3 x4 x5 x6:M}
theorem XG:x0≤x0:=ah [x0] 0x9 O
theorem z7(h:x0≤x1):x0≤x1:=ah [x0,x1] 0x10010109 O h
theorem sR(h:x0+1≤x1):x0≤x1:=ah [x0,x1] 0x10010f109 O h
theorem XF(h:x0≤x1)(b:x1≤x2):x0≤x2:=ah [x0,x1,x2] 0x20021110109 O h b
theorem XE(h:x0=x1)(b:x0=x2):x1=x2:=cW (ah [x0,x1,x2] 0x21020210309 O h b)<|ah [x0,x1,x2] 0x12020310209 O h b
theorem wb(h:x0=x1)(b:x2<x1):x2<x0:=ah [x0,x1,x2] 0x2f012f110309 O h b
theorem XD(h:x0+1<x1):x0<x1:=ah [x0,x1] 0x10f010ff109 O h
theorem qv(h:x0=x1)(b:x2<x0):x2<x1:=ah [x0,x1,x2] 0x12f002f110209 O h b
theorem GW(h:x0=x1)(b:x2=x3)(e:x1=x3):x0=x2:=cW (ah [x0,x1,x2,x3] 0x20031232310209 O h b e)<|ah [x0,x1,x2,x3] 0x2031332210309 O h b e
theorem v_(h:x0+3<x1):x0<x1:=ah [x0,x1] 0x10f01390bf109 O h
theorem Gi(h:x0=x1)(b:x2=x3)(e: ¬x1=x3): ¬x0=x2:=λq=>e<|h.symm.trans<|q.trans b
theorem Gg(h:x0+4<x1):x0+3<x1:=ah [x0,x1] 0x1390bf01490bf109 O h
theorem W9(h:x0+4<x1):x0+1+1<x1:=ah [x0,x1] 0x10fff01490bf109 O h
theorem W8(h:x0+x1≤1000000)(b:1000002≤x2):x0+x1≤x2:=ah [x0,x1,x2] 0x210b02f42425a7a1205a6f42405a10b7a1215a67a1205a O h b
theorem W7(h:x0+x1≤1000000):x0+x1≤16777216:=ah [x0,x1] 0x10000007a10b0f42405a10b109 O h
theorem vQ(h:x0+30*x1+100<x2):x0+4<x2:=ah [x0,x1,x2] 0x2490bf02642a11e2ac0bbf109 O h
theorem W6:3<0+1+1+1+1+1+x0:=ah [x0] 0x9fffffb39f009 O
theorem W5:x0+1+x1=x0+(x1+1):=cW (ah [x0,x1] 0x1f0b10fb009 O)<|ah [x0,x1] 0x10fb1f0b009 O
theorem W4:x0+x1=x0+(x2+x1-x2):=cW (ah [x0,x1,x2,(x2+x1)-x2] 0x30b10b023b12b109 O bZ)<|ah [x0,x2,x1,(x2+x1)-x2] 0x20b30b021b13b109 O<|aM<|bk<|ah [x0,x2,x1,(x2+x1)-x2] 0x21b1009 O
theorem W3(h:x0<x1):x0<x1+x2:=ah [x0,x1,x2] 0x21b0f010f109 O h
theorem Ga(h:x0≤x1)(b:x2<x0): ¬x1=x2:=jQ<|ah [x0,x1,x2] 0x12f002f110109 O h b
theorem zK:x0≤x0+x1:=ah [x0,x1] 0x10b0009 O
theorem W2(h:x0+4*(x1+1)+8<x2):x0<x2:=ah [x0,x1,x2] 0x20f02891f49c0bbf109 O h
theorem W1(h:fW x0 x1=x0):x0≤x1:=bF (aM h.symm)<|Nat.min_le_right _ _
theorem F_(h:x0≤x1):x0+(x1-x0)=x1:=cW (ah [x0,x1,x1-x0] 0x120b0102b109 O<|aM<|bk<|ah [x0,x1,x1-x0] 0x10010109 O h)<|ah [x0,x1,x1-x0] 0x20b1002b1109 O bZ
theorem W0(h:x0≤x1)(b:x1≤x2):x2=x0+(x1-x0)+(x2-(x0+(x1-x0))):=cW (ah [x0,x1,x2,x1-x0,x2-(x0+(x1-x0))] 0x430bb2030b4b2109 O bZ)<|ah [x0,x1,x2,x1-x0,x2-(x0+(x1-x0))] 0x2430bb0230b4b109 O<|aM<|bk<|ah [x0,x1,x2,x1-x0,x2-(x0+(x1-x0))] 0x230b0103b121109 O b<|aM<|bk<|ah [x0,x1,x2,x1-x0,x2-(x0+(x1-x0))] 0x10010109 O h
theorem F9(h:x0+4*(x1+1)+8<x2):x0+1+4*x1+8<x2:=ah [x0,x1,x2] 0x289149c0fbbf02891f49c0bbf109 O h
theorem WZ(h:x0+30*(x1+1)+100<x2):x0+3+30*x1+100<x2:=ah [x0,x1,x2] 0x2642a11e2ac390bbbf02642a1f1e2ac0bbf109 O h
theorem WY(h:x0≤100)(b:x1≤x2+1)(e:x2=x0):x1≤16777216+1:=ah [x0,x1,x2] 0x10000007af100222f11642a0109 O h b e
theorem WX:x0≤x0+1+1:=ah [x0] 0xff0009 O
theorem WW(h:x0+30*(x1+1)+100<x2)(b:x3=x0+1):x3+30*x1+100<x2:=ah [x0,x1,x2,x3] 0x2642a11e2ac3bbf00f322642a1f1e2ac0bbf109 O h b
theorem F8(h:x0≤1000000)(b:x1=x0)(e:1000002≤x2):x1≤x2:=ah [x0,x1,x2] 0x2102f42425a7a1205a6017a1215a7f42405a07a1215a67a1205a O h b e
theorem F7(h:x0≤100)(b:x1=x0)(e:1000002≤x2):x1≤x2:=ah [x0,x1,x2] 0x2102f42425a322a6017a1215a7642a07a1215a67a1205a O h b e
theorem zJ(h:x0≤1000000):x0≤1099511627776:=ah [x0] 0x10000000000ba00f42405a0109 O h
theorem WR(h:x0≤x1):fW (x0-x2) (x1-x2)=x0-x2:=kC<|Nat.sub_le_sub_right h _
theorem WQ(h:x0-x1=x2)(b:x0≤x2)(e: ¬x2=0):x1=0:=(jR e).elim (λk=>gP<|ah [x0,x1,x0-x1,x2] 0x9190093f109 O k) λk=>(dh x1 x0).elim (λa=>cW (ah [x0,x1,x0-x1,x2] 0x910012b130132309 O h b<|aM<|bk<|ah [x0,x1,x0-x1,x2] 0x1001109 O a)<|ah [x0,x1,x0-x1,x2] 0x109009 O) λa=>gP<|ah [x0,x1,x0-x1,x2] 0x91900921309f132309 O h k<|aM<|eb<|ah [x0,x1,x0-x1,x2] 0x10010109 O a
theorem WP(h:x0-x1=x2)(b:x1=0):x0=x2:=cW (ah [x0,x1,x0-x1,x2] 0x30012b01091232209 O h b bZ)<|ah [x0,x1,x0-x1,x2] 0x3002132309 O h<|fV _ _
theorem WO(h:x0≤1000000)(b:x1≤x0)(e:1000002≤x2):x1≤x2:=ah [x0,x1,x2] 0x2102f42425a7a1205a6017a1215a6f42405a07a1215a67a1205a O h b e
theorem oF(h:x0≤1000000):x0≤16777216:=ah [x0] 0x10000007a00f42405a0109 O h
theorem F4(h:1000002≤x0):3≤x0+2:=ah [x0] 0x290b3900f42425a1f42415a O h
theorem WN(h:x0+3<x1):x0+1<x1:=ah [x0,x1] 0x10ff01390bf109 O h
theorem WM(h:x0+2<x1):x0+1<x1:=ah [x0,x1] 0x10ff01290bf109 O h
theorem F3(h:x0+30*x1+100<x2):x0+1+3<x2:=ah [x0,x1,x2] 0x2390fbf02642a11e2ac0bbf109 O h
theorem WK(h:x0+30*x1+100<x2):x0+2<x2:=ah [x0,x1,x2] 0x2290bf02642a11e2ac0bbf109 O h
theorem WF(h:x0+x1≤1000000)(b:x2=x0)(e:x3=x1): ¬16777216<x2+x3:=tV<|ah [x0,x1,x2,x3] 0x10000007a32b0132022f42405a10b109 O h b e
theorem WE(h:x0+x1≤1000000):x0≤16777216:=ah [x0,x1] 0x10000007a00f42405a10b109 O h
theorem WC(h:x0+x1≤1000000):x0+x1≤16777216+1:=ah [x0,x1] 0x10000007af10b0f42405a10b109 O h
theorem WB:x0+x1+0+x2=x0+(x1+x2):=cW (ah [x0,x1,x2] 0x21b0b20910bbb009 O)<|ah [x0,x1,x2] 0x20910bbb21b0b009 O
theorem WA(h:x0≤1000000)(b:1000002≤x1): ¬x1<0+x0:=tV<|ah [x0,x1] 0x1009b01f42425a7a1205a6f42405a07a1215a67a1205a O h b
theorem Wz(h:x0<x1):0<(x1:J)-(x0:J):=aW [((x0:M):J),((x1:M):J)] 0x1d09f010f109 O<|dQ.mpr h
theorem Wy:(x0:J)-((x1:J)+1)=(x0:J)-(x1:J)-1:=iE (aW [((x0:M):J),((x1:M):J)] 0x1910dd1f0d009 O)<|aW [((x0:M):J),((x1:M):J)] 0x1f0d1910dd009 O
theorem Wx(h: ¬x0<x1):(x1:J)-(x0:J)≤0:=aW [((x1:M):J),((x0:M):J)] 0x910d010109 O<|dj.mpr<|py h
theorem Ww(h:x0<2^29):x0<1073741824:=ah [x0] 0x400000008a0f0200000008a0f109 O h
theorem F2(h:x0=x1)(b:x1≤1000000):(x0:J)<2^63:=ub (dj.mpr<|bF (aM h) b)<|by decide
theorem Wv(h:x0≤1000000): ¬2^63≤(x0:J):=n7.mpr<|ub (dj.mpr h)<|by decide
theorem Wu(h:x0≤1000)(b:1000002≤x1):x0≤x1:=ah [x0,x1] 0x1001f42425a1f43a63e83a07a1215a67a1205a O h b
theorem zI(h:x0=x1)(b:x1≤1000000)(e:1000002≤x2):x0≤x2:=ah [x0,x1,x2] 0x2002f42425a7a1205a6f42405a17a1215a6107a1215a77a1205a O h b e
theorem F1(h:x0≤1000000)(b:1000002≤x1)(e:x2=x0):x2≤x1:=ah [x0,x1,x2] 0x120027a1215a71f42425a7a1205a6f42405a07a1215a67a1205a O h b e
theorem Ws(h:x0≤1000)(b:x1=x0):x1≤1000:=ah [x0,x1] 0x3e83a100123e83a0109 O h b
theorem Wp(h:x0≤1000*1000): ¬(2^63-1)/8<x0:=dz.mpr<|bF h<|by decide
theorem Wo(h:x0≤1000*1000):x0≤16777216:=ah [x0] 0x10000007a003e83a3e83ac0109 O h
theorem Wn(h:x0≤x1)(b:x2=x0)(e:x2=x3):x3≤x1:=ah [x0,x1,x2,x3] 0x13032302210109 O h b e
theorem Wm(h:x0≤100)(b:x1=x2)(e:x2≤x0)(a:1000002≤x3):x1≤x3:=ah [x0,x1,x2,x3] 0x3103f42425a322a6027a1215a6217a1215a7642a07a1215a67a1205a O h b e a
theorem Wl(h:x0+x1≤100):x1≤100:=ah [x0,x1] 0x642a10642a10b109 O h
theorem Wk(h:x0+x1≤100)(b:x2=x0)(e:x3=x1)(a:1000002≤x4):x2+x3≤x4:=ah [x0,x1,x2,x3,x4] 0x432b04f42425a322a6137a1215a7027a1215a7642a10b7a1215a67a1205a O h b e a
theorem Wj(h:x0+x1≤100):x0≤100:=ah [x0,x1] 0x642a00642a10b109 O h
theorem Wi(h:x0≤1000000)(b:1000002≤x1):x0≤x1:=ah [x0,x1] 0x1001f42425a7a1205a6f42405a07a1215a67a1205a O h b
theorem Wh(h:x0≤1):x0≤16777216+1:=ah [x0] 0x10000007af00190109 O h
theorem Vi(h:1000002≤x0):1≤x0:=ah [x0] 0x1900f42425a1f42415a O h
theorem Vh(h:x0+4*x1+8<x2):x0+1<x2:=ah [x0,x1,x2] 0x20ff0289149c0bbf109 O h
theorem Fs(h:x0<x1+1)(b: ¬x0<x1):x0=x1:=cW (ah [x0,x1] 0x1001f0f109 O h)<|ah [x0,x1] 0x1010509 O b
theorem Fq(h:x0≤x1)(b: ¬x0=x1):x0≤x1-1:=(jR b).elim (λk=>ah [x0,x1,x1-1] 0x2002f1110f109 O k bZ) λk=>ah [x0,x1,x1-1] 0x2002f1101f11029609 O h k bZ
theorem Fp(h:1≤x0):x0-1<x0:=ah [x0,x0-1] 0x1f001f109 O<|aM<|bk<|ah [x0,x0-1] 0x190019109 O h
theorem Vg:x0≤x0+(x1+1):=ah [x0,x1] 0x1f0b0009 O
theorem vh(h:x0≤x1+1+x2):x0≤x1+(x2+1):=ah [x0,x1,x2] 0x2f1b0021fb0109 O h
theorem Vf(h:x0<x1+(x2+1)):x0<x1+1+x2:=ah [x0,x1,x2] 0x21fb0f02f1b0f109 O h
theorem sb:1≤x0+1:=ah [x0] 0xf19009 O
theorem zf(h:x0≤x1)(b:x1<x2):x0<x2:=ah [x0,x1,x2] 0x20f021f110109 O h b
theorem Ve(h:x0≤x1)(b:x2-(x3+1)≤x0):x2-(x3+1)≤x1:=ah [x0,x1,x2,x3,x2-(x3+1)] 0x14004110109 O h b
theorem Vd(h:x0≤x1)(b:x1<x2):x2-(x3+1)≤x2-(x3+1)+x2-1-x0:=ah [x0,x1,x2,x3,x2-(x3+1),((x2-(x3+1))+x2)-1,(((x2-(x3+1))+x2)-1)-x0] 0x64006b515f24b121f110109 O h b bZ bZ
theorem Vc(h:x0<x1)(b:x1-(x2+1)≤x3):x1-(x2+1)+x1-1-x3<x1:=(dh (x2+1) x1).elim (λk=>(dh x3<|((x1-(x2+1))+x1)-1).elim (λa=>ah [x0,x1,x2,x1-(x2+1),x3,((x1-(x2+1))+x1)-1,(((x1-(x2+1))+x1)-1)-x3] 0x16f0546b113b5f143109 O b (aM<|bk<|ah [x0,x1,x2,x1-(x2+1),x3,((x1-(x2+1))+x1)-1,(((x1-(x2+1))+x1)-1)-x3] 0x13b19010f109 O h)<|aM<|bk<|ah [x0,x1,x2,x1-(x2+1),x3,((x1-(x2+1))+x1)-1,(((x1-(x2+1))+x1)-1)-x3] 0x54054109 O a) λa=>ah [x0,x1,x2,x1-(x2+1),x3,((x1-(x2+1))+x1)-1,(((x1-(x2+1))+x1)-1)-x3] 0x16f0096156113b5f112f3b119 O (aM<|bk<|ah [x0,x1,x2,x1-(x2+1),x3,((x1-(x2+1))+x1)-1,(((x1-(x2+1))+x1)-1)-x3] 0x12f012f109 O k) (aM<|bk<|ah [x0,x1,x2,x1-(x2+1),x3,((x1-(x2+1))+x1)-1,(((x1-(x2+1))+x1)-1)-x3] 0x13b19010f109 O h) (fV _ _)<|aM<|eb<|ah [x0,x1,x2,x1-(x2+1),x3,((x1-(x2+1))+x1)-1,(((x1-(x2+1))+x1)-1)-x3] 0x45045109 O a) λk=>ah [x0,x1,x2,x1-(x2+1),x3,((x1-(x2+1))+x1)-1,(((x1-(x2+1))+x1)-1)-x3] 0x16f056113b5f1093109 O (aM<|eb<|ah [x0,x1,x2,x1-(x2+1),x3,((x1-(x2+1))+x1)-1,(((x1-(x2+1))+x1)-1)-x3] 0x2f102f1109 O k) (aM<|bk<|ah [x0,x1,x2,x1-(x2+1),x3,((x1-(x2+1))+x1)-1,(((x1-(x2+1))+x1)-1)-x3] 0x13b19010f109 O h)<|fV _ _
theorem ze(h:x0<x1):x1-(x2+1)≤x1-(x2+1)+x1-1-x0:=ah [x0,x1,x2,x1-(x2+1),((x1-(x2+1))+x1)-1,(((x1-(x2+1))+x1)-1)-x0] 0x53005b414f13b110f109 O h bZ bZ
theorem Vb(h:x0≤x1)(b:x1<x2)(e:x2-(x3+1)≤x0):x2-(x3+1)+x2-1-x1<x2:=ah [x0,x1,x2,x3,x2-(x3+1),((x2-(x3+1))+x2)-1,(((x2-(x3+1))+x2)-1)-x1] 0x26f0516b124b5f104110109 O h e (aM<|bk<|ah [x0,x1,x2,x3,x2-(x3+1),((x2-(x3+1))+x2)-1,(((x2-(x3+1))+x2)-1)-x1] 0x24b19021f109 O b)<|aM<|bk<|ah [x0,x1,x2,x3,x2-(x3+1),((x2-(x3+1))+x2)-1,(((x2-(x3+1))+x2)-1)-x1] 0x5105f24b121f109 O b bZ
theorem Va(a: ¬x0-(x1+1)≤x2): ¬(x0-(x1+1)≤x2∧x2<x0):=λh=>a h.1
theorem U_(h:x0<x1)(b: ¬x1-(x2+1)≤x3):x3≤x1-(x2+1)+x1-1-x0:=ah [x0,x1,x2,x1-(x2+1),x3,((x1-(x2+1))+x1)-1,(((x1-(x2+1))+x1)-1)-x0] 0x64006b515f13b143410f109 O h b bZ bZ
theorem U9(h:x0-(x1+1)≤x2)(b:x3<x0):x0-(x1+1)+x0-1-x2<x0:=(dh (x1+1) x0).elim (λk=>(dh x2<|((x0-(x1+1))+x0)-1).elim (λa=>ah [x0,x1,x0-(x1+1),x2,x3,((x0-(x1+1))+x0)-1,(((x0-(x1+1))+x0)-1)-x2] 0x6f0536b102b5f132109 O h (aM<|bk<|ah [x0,x1,x0-(x1+1),x2,x3,((x0-(x1+1))+x0)-1,(((x0-(x1+1))+x0)-1)-x2] 0x2b19004f109 O b)<|aM<|bk<|ah [x0,x1,x0-(x1+1),x2,x3,((x0-(x1+1))+x0)-1,(((x0-(x1+1))+x0)-1)-x2] 0x53053109 O a) λa=>ah [x0,x1,x0-(x1+1),x2,x3,((x0-(x1+1))+x0)-1,(((x0-(x1+1))+x0)-1)-x2] 0x6f0096156102b5f101f2b119 O (aM<|bk<|ah [x0,x1,x0-(x1+1),x2,x3,((x0-(x1+1))+x0)-1,(((x0-(x1+1))+x0)-1)-x2] 0x1f001f109 O k) (aM<|bk<|ah [x0,x1,x0-(x1+1),x2,x3,((x0-(x1+1))+x0)-1,(((x0-(x1+1))+x0)-1)-x2] 0x2b19004f109 O b) (fV _ _)<|aM<|eb<|ah [x0,x1,x0-(x1+1),x2,x3,((x0-(x1+1))+x0)-1,(((x0-(x1+1))+x0)-1)-x2] 0x35035109 O a) λk=>ah [x0,x1,x0-(x1+1),x2,x3,((x0-(x1+1))+x0)-1,(((x0-(x1+1))+x0)-1)-x2] 0x6f056102b5f1092109 O (aM<|eb<|ah [x0,x1,x0-(x1+1),x2,x3,((x0-(x1+1))+x0)-1,(((x0-(x1+1))+x0)-1)-x2] 0x1f001f0109 O k) (aM<|bk<|ah [x0,x1,x0-(x1+1),x2,x3,((x0-(x1+1))+x0)-1,(((x0-(x1+1))+x0)-1)-x2] 0x2b19004f109 O b)<|fV _ _
theorem U8(h:x0-(x1+1)≤x2)(b:x2<x0):x0-(x1+1)+x0-1-x2<x0:=ah [x0,x1,x0-(x1+1),x2,((x0-(x1+1))+x0)-1,(((x0-(x1+1))+x0)-1)-x2] 0x5f0435b102b4f132109 O h (aM<|bk<|ah [x0,x1,x0-(x1+1),x2,((x0-(x1+1))+x0)-1,(((x0-(x1+1))+x0)-1)-x2] 0x2b19003f109 O b)<|aM<|bk<|ah [x0,x1,x0-(x1+1),x2,((x0-(x1+1))+x0)-1,(((x0-(x1+1))+x0)-1)-x2] 0x4304f02b103f109 O b bZ
theorem zq119(h:x0+1-(0+1)≤x1)(b:x1<x0+1)(e:x0+1-(0+1)≤x2)(a:x2<x0+1):x1=x2:=cW (ah [x0,(x0+1)-(0+1),x1,x2] 0x32009f1b0f13110f2f109 O b e bZ)<|ah [x0,(x0+1)-(0+1),x1,x2] 0x23009f1b0f10f3f121109 O h a bZ
theorem zd(h:x0+(x1+1)≤x2):x0≤x2:=ah [x0,x1,x2] 0x20021f0b109 O h
theorem zc(h:x0+(x1+1)≤x2):x0+1+x1≤x2:=ah [x0,x1,x2] 0x210fb021f0b109 O h
theorem zb:0+1≤x0+1:=ah [x0] 0xf09f009 O
theorem r_:x0-(x1+1)≤x0-1:=(dh (x1+1) x0).elim (λk=>ah [x1,x0,x0-(x1+1),x0-1] 0x3203f1110f2b109 O (aM<|bk<|ah [x1,x0,x0-(x1+1),x0-1] 0x10f010f109 O k) bZ) λk=>ah [x0,x1,x0-(x1+1),x0-1] 0x320092109 O<|aM<|eb<|ah [x0,x1,x0-(x1+1),x0-1] 0x1f001f0109 O k
theorem Fo(h:x0+1≤x1):x1-1<x1:=ah [x0,x1,x1-1] 0x12f012f109 O<|aM<|bk<|ah [x0,x1,x1-1] 0x119010f109 O h
theorem U7: ¬(x0-(x1+1)≤x0∧x0<x0):=λh=>rj _ h.2
theorem U6:x0-(x1+1)≤x0-(x1+1)+x0-1-(x0-1):=(dh (x1+1) x0).elim (λk=>ah [x1,x0,x0-(x1+1),((x0-(x1+1))+x0)-1,x0-1,(((x0-(x1+1))+x0)-1)-(x0-1)] 0x52045b3114f13f12b109 O bZ (aM<|bk<|ah [x1,x0,x0-(x1+1),((x0-(x1+1))+x0)-1,x0-1,(((x0-(x1+1))+x0)-1)-(x0-1)] 0x119010f109 O k) bZ) λk=>ah [x0,x1,x0-(x1+1),((x0-(x1+1))+x0)-1,x0-1,(((x0-(x1+1))+x0)-1)-(x0-1)] 0x520092109 O<|aM<|eb<|ah [x0,x1,x0-(x1+1),((x0-(x1+1))+x0)-1,x0-1,(((x0-(x1+1))+x0)-1)-(x0-1)] 0x1f001f0109 O k
theorem U5(h:x0+1≤x1):x1-(x0+1)+x1-1-(x1-1)<x1:=ah [x0,x1,x1-(x0+1),((x1-(x0+1))+x1)-1,x1-1,(((x1-(x0+1))+x1)-1)-(x1-1)] 0x15f0345b14f1112b3f110f2b109 O (aM<|bk<|ah [x0,x1,x1-(x0+1),((x1-(x0+1))+x1)-1,x1-1,(((x1-(x0+1))+x1)-1)-(x1-1)] 0x10f010f109 O h) (aM<|bk<|ah [x0,x1,x1-(x0+1),((x1-(x0+1))+x1)-1,x1-1,(((x1-(x0+1))+x1)-1)-(x1-1)] 0x12b19010f109 O h) bZ<|aM<|bk<|ah [x0,x1,x1-(x0+1),((x1-(x0+1))+x1)-1,x1-1,(((x1-(x0+1))+x1)-1)-(x1-1)] 0x34014f13f12b109 O bZ<|aM<|bk<|ah [x0,x1,x1-(x0+1),((x1-(x0+1))+x1)-1,x1-1,(((x1-(x0+1))+x1)-1)-(x1-1)] 0x119010f109 O h
theorem U4(h:x0+1≤x1):x0+1+1≤x1+1:=ah [x0,x1] 0x1f0ff010f109 O h
theorem r9(h:x0+1-(x1+1+1)≤x2):x0-(x1+1)≤x2:=(dh ((x1+1)+1)<|x0+1).elim (λk=>ah [x0,x1,(x0+1)-((x1+1)+1),x2,x0-(x1+1)] 0x34001f4b11ff2b0f132109 O h bZ<|aM<|bk<|ah [x0,x1,(x0+1)-((x1+1)+1),x2,x0-(x1+1)] 0x1f00f1ff109 O k) λk=>ah [x0,x1,(x0+1)-((x1+1)+1),x2,x0-(x1+1)] 0x340094109 O<|aM<|eb<|ah [x0,x1,(x0+1)-((x1+1)+1),x2,x0-(x1+1)] 0x1f001ff0f109 O k
theorem r0(h:x0<x1+1)(b: ¬x0=x1):x0<x1:=(jR b).elim (λk=>ah [x0,x1] 0x10f010f109 O k) λk=>ah [x0,x1] 0x10f001f11f0f29609 O h k
theorem za(h:x0<x1+1)(b: ¬x0=x1):x1-1<x1:=(jR b).elim (λk=>ah [x0,x1,x1-1] 0x12f012f109 O<|aM<|bk<|ah [x0,x1,x1-1] 0x119010f109 O k) λk=>ah [x0,x1,x1-1] 0x12f012101f11f0f109 O h k<|fV _ _
theorem pY:0≤x0:=ah [x0] 0x9009 O
theorem U3(h:x0≤x1):0+x2-1-x1≤0+x2-1-x0:=(dh x1<|(0+x2)-1).elim (λk=>ah [x0,x1,x2,(0+x2)-1,((0+x2)-1)-x1,((0+x2)-1)-x0] 0x54005b31314b110109 O h (aM<|bk<|ah [x0,x1,x2,(0+x2)-1,((0+x2)-1)-x1,((0+x2)-1)-x0] 0x31031109 O k) bZ) λk=>ah [x0,x1,x2,(0+x2)-1,((0+x2)-1)-x1,((0+x2)-1)-x0] 0x540094109 O<|aM<|eb<|ah [x0,x1,x2,(0+x2)-1,((0+x2)-1)-x1,((0+x2)-1)-x0] 0x13013109 O k
theorem Fm(h:x0<x1):0+x1-1-x2<x1:=ah [x0,x1,(0+x1)-1,x2,((0+x1)-1)-x2] 0x14f0241109b2f109 O (aM<|bk<|ah [x0,x1,(0+x1)-1,x2,((0+x1)-1)-x2] 0x109b19010f109 O h)<|fV _ _
theorem zq135(h:x0≤x1)(b:x2≤x0+(x1-x0)):x2≤x1:=ah [x0,x1,x2,x1-x0] 0x120103b130b2109 O b<|aM<|bk<|ah [x0,x1,x2,x1-x0] 0x10010109 O h
theorem U2(h:x0<x1):x0+1+(x1-(x0+1))≤x1:=ah [x0,x1,x1-(x0+1)] 0x120fb010f2b109 O<|aM<|bk<|ah [x0,x1,x1-(x0+1)] 0x10f010f109 O h
theorem y_(h:x0<x1)(b:x2≤x0+1+(x1-(x0+1))):x2≤x1:=ah [x0,x1,x2,x1-(x0+1)] 0x12010f3b130fb2109 O b<|aM<|bk<|ah [x0,x1,x2,x1-(x0+1)] 0x10f010f109 O h
theorem Fk(h:x0+1≤x1):1≤x1:=ah [x0,x1] 0x119010f109 O h
theorem zq139(h:x0≤x1)(b:x1<1):x0=x1:=cW (ah [x0,x1] 0x10010109 O h)<|ah [x0,x1] 0x10191f109 O b
theorem U1(h:0<x0)(b:x1≤1+(x0-1)):x1≤x0:=ah [x0,x1,x0-1] 0x1002f1219b1109 O b<|aM<|bk<|ah [x0,x1,x0-1] 0x190009f109 O h
theorem U0(h:0<x0)(b:x1≤1+(x0-1))(e: ¬x1=x0):x1<x0:=(jR e).elim (λk=>ah [x0,x1,x0-1] 0x1f001f109 O k) λk=>ah [x0,x1,x0-1] 0x1f002f29610f1219b129609 O b k<|aM<|bk<|ah [x0,x1,x0-1] 0x190009f109 O h
theorem UZ(h:x0<x1):x0<1+(x1-1):=ah [x0,x1,x1-1] 0x219b0f02f1110f109 O h bZ
theorem Fj(h:x0<x1):x0≤x1:=ah [x0,x1] 0x10010f109 O h
theorem UY(h:x0<x1):x0≤x1-1:=ah [x0,x1,x1-1] 0x2002f1110f109 O h bZ
theorem UX(h:x0<x1):x1-1<x1:=ah [x0,x1,x1-1] 0x12f012f109 O<|aM<|bk<|ah [x0,x1,x1-1] 0x119010f109 O h
theorem UW(h:x0<x1):0+x1-1-x0<x1:=ah [x0,x1,(0+x1)-1,((0+x1)-1)-x0] 0x13f0231109b2f109 O (aM<|bk<|ah [x0,x1,(0+x1)-1,((0+x1)-1)-x0] 0x109b19010f109 O h)<|fV _ _
theorem UV:0≤x0-1:=ah [x0,x0-1] 0x109009 O
theorem Fi(h:1<x0):x0-1<x0:=ah [x0,x0-1] 0x1f001f109 O<|aM<|bk<|ah [x0,x0-1] 0x190019f119 O h
theorem UU: ¬(0≤x0∧x0<x0):=λh=>rj _ h.2
theorem UT(h:1<x0):0+x0-1-(x0-1)<x0:=ah [x0,(0+x0)-1,x0-1,((0+x0)-1)-(x0-1)] 0x3f0131009b1f109 O (aM<|bk<|ah [x0,(0+x0)-1,x0-1,((0+x0)-1)-(x0-1)] 0x9b190019f119 O h)<|fV _ _
theorem US(h:1≤x0)(b: ¬1<x0):x0=1:=cW (ah [x0] 0x1900019509 O b)<|ah [x0] 0x190019109 O h
theorem UR(h:x0-x1≤0)(b:x1≤x0):x1=x0:=cW (ah [x0,x1,x0-x1] 0x1001109 O b)<|ah [x0,x1,x0-x1] 0x10012b01092109 O h bZ
theorem UQ(h:x0≤x1)(b:x1≤x0):x0=x1:=cW (ah [x0,x1] 0x10010109 O h)<|ah [x0,x1] 0x1001109 O b
theorem UP(h:x0-x1≤x2+1):(x1+x0)/2-x1≤x2:=(dh x1 x0).elim (λk=>(dh x1<|(x1+x0)/2).elim (λa=>ah [x0,x1,x0-x1,x2,(x1+x0)/2,((x1+x0)/2)-x1] 0x350415b29612b0101b429c13f2119 O h (mS _ _) bZ<|aM<|bk<|ah [x0,x1,x0-x1,x2,(x1+x0)/2,((x1+x0)/2)-x1] 0x41041109 O a) λa=>ah [x0,x1,x0-x1,x2,(x1+x0)/2,((x1+x0)/2)-x1] 0x350095109 O<|aM<|eb<|ah [x0,x1,x0-x1,x2,(x1+x0)/2,((x1+x0)/2)-x1] 0x14014109 O a) λk=>ah [x0,x1,x0-x1,x2,(x1+x0)/2,((x1+x0)/2)-x1] 0x350095109 O<|aM<|eb<|ah [x0,x1,x0-x1,x2,(x1+x0)/2,((x1+x0)/2)-x1] 0x14001b429c110119 O k<|mS _ _
theorem UO(h: ¬x0≤x1):x1≤(x1+x0)/2:=ah [x0,x1,(x1+x0)/2] 0x2102f29c01bf110419 O h<|qw _
theorem UN(h:x0≤x1)(b: ¬x0≤x2):(x2+x0)/2≤x1:=ah [x0,x1,x2,(x2+x0)/2] 0x13002b329c12041029619 O h b<|mS _ _
theorem UM(h:x0-x1≤x2+1):x0-((x1+x0)/2+1)≤x2:=(dh x1 x0).elim (λk=>(dh (((x1+x0)/2)+1) x0).elim (λa=>ah [x0,x1,x0-x1,x2,(x1+x0)/2,x0-(((x1+x0)/2)+1)] 0x35004f5b29612b014f29c01bf13f2119 O h (qw _) bZ<|aM<|bk<|ah [x0,x1,x0-x1,x2,(x1+x0)/2,x0-(((x1+x0)/2)+1)] 0x4f004f109 O a) λa=>ah [x0,x1,x0-x1,x2,(x1+x0)/2,x0-(((x1+x0)/2)+1)] 0x350095109 O<|aM<|eb<|ah [x0,x1,x0-x1,x2,(x1+x0)/2,x0-(((x1+x0)/2)+1)] 0x4f004f0109 O a) λk=>ah [x0,x1,x0-x1,x2,(x1+x0)/2,x0-(((x1+x0)/2)+1)] 0x350095109 O<|aM<|eb<|ah [x0,x1,x0-x1,x2,(x1+x0)/2,x0-(((x1+x0)/2)+1)] 0x4f004f29c01bf110119 O k<|qw _
theorem UL(h: ¬x0≤x1):(x1+x0)/2+1≤x0:=ah [x0,x1,(x1+x0)/2] 0x2f001b229c110419 O h<|mS _ _
theorem UK(h:x0<(x1+x2)/2+1):x0≤(x1+x2)/2:=ah [x0,x1,x2,(x1+x2)/2] 0x3003f0f109 O h
theorem UJ(h:x0≤x1)(b: ¬x0≤x2):(x2+x0)/2<x1:=ah [x0,x1,x2,(x2+x0)/2] 0x13f002b329c12041029619 O h b<|mS _ _
theorem UI:x0-0≤x0:=ah [x0,x0-0] 0x1001109 O<|fV _ _
theorem UH(h:x0+(x1+1)=x2):x0+1+x1=x2:=cW (ah [x0,x1,x2] 0x210fb021f0b209 O h)<|ah [x0,x1,x2] 0x10fb2021f0b309 O h
theorem UG(h:x0+(x1+1)=x2):x0<x2:=ah [x0,x1,x2] 0x20f021f0b209 O h
theorem Fh:x0-x1≤x0:=ah [x0,x1,x0-x1] 0x2002109 O<|fV _ _
theorem UF(h:x0≤x1):x1-(x1-x0)=x0:=cW (ah [x0,x1,x1-x0,x1-(x1-x0)] 0x30123b102b1109 O bZ<|aM<|bk<|ah [x0,x1,x1-x0,x1-(x1-x0)] 0x12012109 O<|fV _ _)<|ah [x0,x1,x1-x0,x1-(x1-x0)] 0x30023b11102b109 O (aM<|bk<|ah [x0,x1,x1-x0,x1-(x1-x0)] 0x10010109 O h) bZ
theorem UE(h:x0≤x1)(b:x0=x2)(e: ¬x1=x2):x2<x1:=(jR e).elim (λk=>ah [x0,x1,x2] 0x12f021f1202981029609 O h b k) λk=>ah [x0,x1,x2] 0x12f012f109 O k
theorem Fg(h:x0<x1+1):x0≤x1:=ah [x0,x1] 0x1001f0f109 O h
theorem UD(h:x0≤x1)(b:x0=x2)(e: ¬x1=x2):x2≤x1-1:=(jR e).elim (λk=>ah [x0,x1,x2,x1-1] 0x3203f1121f1202981029609 O h b k bZ) λk=>ah [x0,x1,x2,x1-1] 0x3203f1112f109 O k bZ
theorem UC(h:x0≤x1)(b:x1<x2+1)(e:x0=x3)(a: ¬x1=x3):x1-1<x2:=(jR a).elim (λk=>ah [x0,x1,x2,x3,x1-1] 0x24f014131f13032f1f110109 O h b e k<|fV _ _) λk=>ah [x0,x1,x2,x3,x1-1] 0x24f014f12f1f109 O b<|aM<|bk<|ah [x0,x1,x2,x3,x1-1] 0x119013f109 O k
theorem UB(h:x0≤x1)(b:x2<x0):x2<x1:=ah [x0,x1,x2] 0x12f002f110109 O h b
theorem UA(h:x0≤x1):x0-1≤x1-1:=(dh 1 x0).elim (λk=>ah [x0,x1,x0-1,x1-1] 0x3203f1102f110109 O h (aM<|bk<|ah [x0,x1,x0-1,x1-1] 0x190019109 O k) bZ) λk=>ah [x0,x1,x0-1,x1-1] 0x320092109 O<|aM<|eb<|ah [x0,x1,x0-1,x1-1] 0x1900190109 O k
theorem Uz(h:x0<x1+1)(b:x2<x3)(e:x3≤x1):x0-1<x1:=(dh 1 x0).elim (λk=>ah [x0,x1,x2,x3,x0-1] 0x14f004f11f0f109 O h<|aM<|bk<|ah [x0,x1,x2,x3,x0-1] 0x190019109 O k) λk=>ah [x0,x1,x2,x3,x0-1] 0x14f0094113132f109 O b e<|aM<|eb<|ah [x0,x1,x2,x3,x0-1] 0x1900190109 O k
theorem Uy(h:x0≤x1)(b: ¬x0=x2)(e:x1=x2):x0<x2:=(jR b).elim (λk=>ah [x0,x1,x2] 0x20f020f109 O k) λk=>ah [x0,x1,x2] 0x20f02129702f11029609 O h k e
theorem Ux(h:x0≤x1)(b: ¬(x2<x0∧x0≤x3))(a:x2<x1)(c:x1≤x3):x0≤x1-1:=Nat.le_sub_one_of_lt<|Nat.lt_of_le_of_ne h λe=>b<|e▸⟨a,c⟩
theorem Uw(h:x0<x1)(b:x1≤x2):x1-1<x2:=ah [x0,x1,x2,x1-1] 0x23f013f121109 O b<|aM<|bk<|ah [x0,x1,x2,x1-1] 0x119010f109 O h
theorem Uv(h:x0≤x1)(b:x2<x1+1)(a: ¬x2=x0)(c: ¬(x0<x2∧x2≤x1)):x2<x1:=Nat.lt_of_le_of_ne (Nat.le_of_lt_succ b) λe=>c ⟨Nat.lt_of_le_of_ne (e▸h) λq=>a q.symm,Nat.le_of_lt_succ b⟩
theorem Uu(h:1≤x0):Max.max x0 1=x0:=Nat.max_eq_left h
theorem Ut(h:x0<x1):x0+(x1-x0)=x1:=cW (ah [x0,x1,x1-x0] 0x120b0102b109 O<|aM<|bk<|ah [x0,x1,x1-x0] 0x10010f109 O h)<|ah [x0,x1,x1-x0] 0x20b1002b1109 O bZ
theorem vg(h:x0≤x1)(b: ¬x0<x1):x0=x1:=cW (ah [x0,x1] 0x10010109 O h)<|ah [x0,x1] 0x1010509 O b
theorem Ff(h: ¬x0<2):0<x0:=ah [x0] 0x9f0290519 O h
theorem Us(h:x0<64):x0≤16777216+1:=ah [x0] 0x10000007af00402a0f109 O h
theorem y9(h:x0<64):x0≤16777216:=ah [x0] 0x10000007a00402a0f109 O h
theorem Fe(h: ¬x0<2):2≤x0:=ah [x0] 0x290290509 O h
theorem Um(h:x0+1+x1=x2+1+x3):x0+x1=x2+x3:=cW (ah [x0,x1,x2,x3] 0x32b10b032fb10fb209 O h)<|ah [x0,x1,x2,x3] 0x10b32b032fb10fb309 O h
theorem Ul(h:x0=x1): ¬x1<x0:=tV<|ah [x0,x1] 0x10010209 O h
theorem Uk(h:x0=x1+1+x2):x2<x0:=ah [x0,x1,x2] 0x2f021fb0309 O h
theorem Uj(h:x0+1+x1=x2): ¬x2<x1:=tV<|ah [x0,x1,x2] 0x210210fb209 O h
theorem Ui:x0+x1=x1+x0:=cW (ah [x0,x1] 0x1b10b009 O)<|ah [x1,x0] 0x1b10b009 O
theorem Uh(h:2≤x0)(b:x0=0):bR:=gP<|ah [x0] 0x91900902029119 O h b
theorem Ug(h:x0+10<x1):x0+1+1<x1:=ah [x0,x1] 0x10fff01a90bf109 O h
theorem y8(h:x0+30*x1+100<x2):x0+10<x2:=ah [x0,x1,x2] 0x2a90bf02642a11e2ac0bbf109 O h
theorem nw(h:x0=x1)(b:x1<64)(e:1000002≤x2):x0≤x2:=ah [x0,x1,x2] 0x2002f42425a152a6402a1f516165a610516165a7516155a O h b e
theorem Uf(h:x0+4*(x1+1)+8<x2):x0+4*x1+8<x2:=ah [x0,x1,x2] 0x289149c0bbf02891f49c0bbf109 O h
theorem Ue(h:x0+30*(x1+1)+100<x2):x0+1+1+30*x1+100<x2:=ah [x0,x1,x2] 0x2642a11e2ac0ffbbf02642a1f1e2ac0bbf109 O h
theorem zq213: ¬(x0:J)<0:=fY<|aW [((x0:M):J)] 0x90009109 O<|dA _
theorem Ud(h:x0+30*x1+100<x2):x0<x2:=ah [x0,x1,x2] 0x20f02642a11e2ac0bbf109 O h
theorem Fb:x0≤x0+1:=ah [x0] 0xf0009 O
theorem Fa(h:x0≤x1)(b:x2+4*x1+8<x3):x2+4*x0+8<x3:=ah [x0,x1,x2,x3] 0x389049c2bbf0389149c2bbf11049609 O h b
theorem E_(h:x0≤x1)(b:x2+30*x1+100<x3):x2+30*x0+100<x3:=ah [x0,x1,x2,x3] 0x3642a01e2ac2bbf03642a11e2ac2bbf1101e2a609 O h b
theorem Uc:x0<x1↔x0+1<x1+1:=⟨λk=>ah [x0,x1] 0x1f0ff010f109 O k,λk=>ah [x0,x1] 0x10f01f0ff109 O k⟩
theorem T_(h:x0<x1+1)(b:x2<x0):x2<x1:=ah [x0,x1,x2] 0x12f002f11f0f109 O h b
theorem zq228(h:x0≤x1): ¬x1<0+x0:=tV<|ah [x0,x1] 0x1009b010109 O h
theorem vf(h:x0<x1+1+x2):x0<x1+(x2+1):=ah [x0,x1,x2] 0x2f1b0f021fb0f109 O h
theorem T9(h:x0+(x1-x2)≤1000000):x0≤1000000:=ah [x0,x1,x2,x1-x2] 0xf42405a00f42405a30b109 O h
theorem T8(h:x0+(x1-x2)≤1000000)(b:x2<x1):x0+1+(x1-(x2+1))≤1000000:=ah [x0,x1,x2,x1-x2,x1-(x2+1)] 0xf42405a40fb012f4b123b11f42405a30b109 O h bZ<|aM<|bk<|ah [x0,x1,x2,x1-x2,x1-(x2+1)] 0x12f012f109 O b
theorem T7(h:x0+(x1-x2)≤1000000):x0+(x1-(x2+1))≤1000000:=(dh x2 x1).elim (λk=>(dh (x2+1) x1).elim (λa=>ah [x0,x1,x2,x1-x2,x1-(x2+1)] 0xf42405a40b012f4b123b11f42405a30b109 O h bZ<|aM<|bk<|ah [x0,x1,x2,x1-x2,x1-(x2+1)] 0x12f012f109 O a) λa=>ah [x0,x1,x2,x1-x2,x1-(x2+1)] 0xf42405a40b00941f42405a30b109 O h<|aM<|eb<|ah [x0,x1,x2,x1-x2,x1-(x2+1)] 0x2f102f1109 O a) λk=>ah [x0,x1,x2,x1-x2,x1-(x2+1)] 0xf42405a40b00941f42405a30b109 O h<|aM<|eb<|ah [x0,x1,x2,x1-x2,x1-(x2+1)] 0x2f1021109 O k
theorem E9: -4611686018427387904≤(x0:J):=dR (by decide)<|dA _
theorem T6(h:x0<1000000):(x0:J)<4611686018427387904:=n8 (dQ.mpr h)<|by decide
theorem E8(h:x0<x1):(x0:J)<(x1:J):=aW [((x0:M):J),((x1:M):J)] 0x10f010f109 O<|dQ.mpr h
theorem T5:((x0:J)+(x1:J))/2=(((x0+x1)/2:M):J):=O
theorem T4(h:x0≤x1)(b:x2<x0):(x2+x0)/2<x1:=ah [x0,x1,x2,(x2+x0)/2] 0x13f002b329c102f11029619 O h b<|mS _ _
theorem T3(h:x0<900)(b:(x1+x2)/2<x0):(x1+x2)/2<1000000:=ah [x0,x1,x2,(x1+x2)/2] 0xf42405a3f003f13843a0f109 O h b
theorem T2(h:x0=x1-x2)(b:x2<x1):x1-((x2+x1)/2+1)<x0:=(dh x2 x1).elim (λk=>(dh (((x2+x1)/2)+1) x1).elim (λa=>ah [x0,x1,x2,x1-x2,(x2+x1)/2,x1-(((x2+x1)/2)+1)] 0x5f014f5b29623b12964f29c12bf112f13029819 O h b (qw _) bZ<|aM<|bk<|ah [x0,x1,x2,x1-x2,(x2+x1)/2,x1-(((x2+x1)/2)+1)] 0x14f014f109 O a) λa=>ah [x0,x1,x2,x1-x2,(x2+x1)/2,x1-(((x2+x1)/2)+1)] 0x5f0095123b1112f130309 O h b bZ<|aM<|eb<|ah [x0,x1,x2,x1-x2,(x2+x1)/2,x1-(((x2+x1)/2)+1)] 0x4f104f1109 O a) λk=>ah [x0,x1,x2,x1-x2,(x2+x1)/2,x1-(((x2+x1)/2)+1)] 0x5f014f5b2964f29c12bf12129612f119 O b k (qw _)<|aM<|bk<|ah [x0,x1,x2,x1-x2,(x2+x1)/2,x1-(((x2+x1)/2)+1)] 0x14f012b429c121112f29619 O b k<|mS _ _
theorem T1(h:(x0+x1)/2<x2):(x0+x1)/2+1≤x2:=ah [x0,x1,(x0+x1)/2,x2] 0x32f032f109 O h
theorem T0(h:x0=x1-x2)(b:x2<x1):(x2+x1)/2-x2<x0:=ah [x0,x1,x2,x1-x2,(x2+x1)/2,((x2+x1)/2)-x2] 0x5f0425b29623b129612b429c112f13029819 O h b (mS _ _) bZ<|aM<|bk<|ah [x0,x1,x2,x1-x2,(x2+x1)/2,((x2+x1)/2)-x2] 0x4204f29c12bf112f119 O b<|qw _
theorem TZ(h: ¬(x0+x1)/2<x2):x2≤(x0+x1)/2:=ah [x0,x1,(x0+x1)/2,x2] 0x23032509 O h
theorem TY(h:(x0+x1)/2<x2):(x0+x1)/2≤x2:=ah [x0,x1,(x0+x1)/2,x2] 0x32032f109 O h
theorem E7(h: ¬x0<x1): ¬(x0:J)<(x1:J):=fY<|aW [((x1:M):J),((x0:M):J)] 0x10010109 O<|dj.mpr<|py h
theorem TX(h:x0≤x1)(b:x1≤x2)(e: ¬x0<x2):x0=x1:=cW (ah [x0,x1,x2] 0x10010109 O h)<|ah [x0,x1,x2] 0x1020521109 O b e
theorem ve(h:x0<900):x0<1000:=ah [x0] 0x3e83a0f03843a0f109 O h
theorem iP(h:x0<900):x0≤1000000:=ah [x0] 0xf42405a003843a0f109 O h
theorem TW(h:x0<900):x0<1000000:=ah [x0] 0xf42405a0f03843a0f109 O h
theorem TV(h:x0<2000):x0≤1000000:=ah [x0] 0xf42405a007d03a0f109 O h
theorem TU(h:x0%2=0):(x0:J)%2=0:=aR ef h
theorem TS(h:x0%2=1):(x0:J)%2=1:=aR ef h
theorem TR(h:x0<900)(b:x1<900)(e:x2+(x3+x4)=x0+x1)(a:x5≤x3+x4):x5<2000:=ah [x0,x1,x2,x3,x4,x5] 0x7d03a5f043b5110b43b2b23843a1f13843a0f109 O h b e a
theorem TQ(h:x0+(x1+x2)=x3+x4)(b:x1+x2<x5+x6)(e:x5≤x3)(a:x6≤x4):x0-(x5+x6-(x1+x2))<x0:=ah [x0,x1,x2,x3,x4,x5,x6,(x5+x6)-(x1+x2),x0-((x5+x6)-(x1+x2))] 0x8f0078b121b7b65b165b21bf109 O b bZ<|aM<|bk<|ah [x0,x1,x2,x3,x4,x5,x6,(x5+x6)-(x1+x2),x0-((x5+x6)-(x1+x2))] 0x7065b21b7b146135143b21b0b309 O h e a<|aM<|bk<|ah [x0,x1,x2,x3,x4,x5,x6,(x5+x6)-(x1+x2),x0-((x5+x6)-(x1+x2))] 0x65b21b065b21bf109 O b
theorem TP(h:x0+(x1+x2)=x3+x4)(b:x1+x2<x5+x6)(e:x5≤x3)(a:x6≤x4):x0-(x5+x6-(x1+x2))+(x5+x6)=x3+x4:=cW (ah [x0,x1,x2,x3,x4,x5,x6,(x5+x6)-(x1+x2),x0-((x5+x6)-(x1+x2))] 0x43b65b8b0078b121b7b65b143b21b0b209 O h bZ<|aM<|bk<|ah [x0,x1,x2,x3,x4,x5,x6,(x5+x6)-(x1+x2),x0-((x5+x6)-(x1+x2))] 0x7065b21b7b146135143b21b0b309 O h e a<|aM<|bk<|ah [x0,x1,x2,x3,x4,x5,x6,(x5+x6)-(x1+x2),x0-((x5+x6)-(x1+x2))] 0x65b21b065b21bf109 O b)<|ah [x0,x1,x2,x3,x4,x5,x6,(x5+x6)-(x1+x2),x0-((x5+x6)-(x1+x2))] 0x65b8b43b078b0165b21b7b143b21b0b309 O h (aM<|bk<|ah [x0,x1,x2,x3,x4,x5,x6,(x5+x6)-(x1+x2),x0-((x5+x6)-(x1+x2))] 0x65b21b065b21bf109 O b) bZ
theorem TO(h:x0≤x1+x2)(b:x1+x2<x3+x4):x0≤x3+x4:=ah [x0,x1,x2,x3,x4] 0x43b0043b21bf121b0109 O h b
theorem TN(h:x0≤x1+x2)(b:x1+x2<x3+x4):x0+1≤x3+x4:=ah [x0,x1,x2,x3,x4] 0x43b0f043b21bf121b0109 O h b
theorem TM(h:x0<300)(b:x1<300):x0+x1<1000:=ah [x0,x1] 0x3e83a10bf012c3a1f112c3a0f109 O h b
theorem TL:(0≤ -1+((x0:J)+1)∧ -1+((x0:J)+1)<(x0:J)+1)∧(-1+((x0:J)+1)).toNat=x0:=⟨⟨(aW [((x0:M):J)] 0xf19eb090009109 O<|dA _),(aW [((x0:M):J)] 0xf0f19ebf009 O)⟩,aR Int.toNat<|iE (aW [((x0:M):J)] 0xf19eb009 O)<|aW [((x0:M):J)] 0xf19eb0009 O⟩
theorem TK: -((x0+2:M):J)≤ -1:=aW [((x0:M):J)] 0x19e290be0009109 O<|dA _
theorem TJ:(-1+((x0+2:M):J)).toNat=x0+1:=aR Int.toNat<|iE (aW [((x0:M):J)] 0xf290b19eb009 O)<|aW [((x0:M):J)] 0x290b19eb0f009 O
theorem TH(h:x0<900):x0+2+2≤1000000:=ah [x0] 0xf42405a29290bb03843a0f109 O h
theorem Tx(h:x0<64):x0<1000+0:=ah [x0] 0x93e83ab0f0402a0f109 O h
theorem Tw(h:x0<64):x0≤1000000:=ah [x0] 0xf42405a00402a0f109 O h
theorem Tv(h:x0<64)(b:x1=x0)(e:x2<x1)(a:x3+2≤2*x2):x3<900:=ah [x0,x1,x2,x3] 0x3843a3f0229c293b112f29601297402a0f29609 O h b e a
theorem Tu(h:x0+2≤2*x1):x0+(0+1+1)≤2*(x1+1):=ah [x0,x1] 0x1f29c09ff0b0129c290b109 O h
theorem Tt(h:x0+2≤2*x1):x0+(0+1+1)+(0+1+1)≤2*(x1+1):=ah [x0,x1] 0x1f29c09ff09ff0bb0129c290b109 O h
theorem Ts(h:x0<64)(b:x1=x0):x1<1000+0:=ah [x0,x1] 0x93e83ab1f0012402a0f109 O h b
theorem Tq(h:x0%2=0):((x0:J)-1)%2=1:=(aR (λa:M=>((a:J)-1)%2) (Nat.mul_div_cancel'<|Nat.dvd_of_mod_eq_zero h).symm).trans<|XI ((x0/2:M):J)
theorem Tp(h:x0%2=1):((x0:J)-1)%2=0:=(aR (λa:M=>((a:J)-1)%2) ((Nat.div_add_mod x0 2).symm.trans (aR (2*(x0/2)+ ·) h))).trans<|XJ ((x0/2:M):J)
theorem To(h:0=2*x0):x0=0:=cW (ah [x0] 0x900029c09319 O h)<|ah [x0] 0x9009 O
theorem Tn(h:x0+1+1=2*x1):x1=x1-1+1:=cW (ah [x0,x1,x1-1] 0x2f102f1109 O bZ)<|ah [x0,x1,x1-1] 0x12f012f109 O<|aM<|bk<|ah [x0,x1,x1-1] 0x1190129c0ff219 O h
theorem Tm(h:x0+1+1=2*(x1+1)):x0=2*x1:=cW (ah [x0,x1] 0x129c001f29c0ff209 O h)<|ah [x0,x1] 0x129c01f29c0ff309 O h
theorem Tl:(((2*x0:M):J)-0-1)/2+1=(x0:J):=XH (x0:J)
theorem Tk(h: ¬0<((2*x0:M):J)):0=(x0:J):=iE (aW [((x0:M):J)] 0x90009109 O<|dA _)<|aW [((x0:M):J)] 0x900029c09519 O h
theorem Tj(h:x0<1000):((-9223372036854775808≤2*(x0:J)∧2*(x0:J)<9223372036854775808)∧(x0:J)<9223372036854775808)∧(x0=0∨ -9223372036854775808≤2*(x0:J)+1∧2*(x0:J)+1<9223372036854775808):=⟨⟨⟨dR (by decide)<|dA<|2*x0,n8 (b:=((2000:M):J)) (dQ.mpr ((ah [x0] 0x7d03a029cf03e83a0f29609 O h):2*x0<2000))<|by decide⟩,n8 (dQ.mpr h)<|by decide⟩, .inr ⟨dR (by decide)<|dA<|2*x0+1,n8 (b:=((2001:M):J)) (dQ.mpr ((ah [x0] 0x7d13a029cff03e83a0f29609 O h):2*x0+1<2001))<|by decide⟩⟩
theorem y7(h:x0=2*x1)(b:x1<300):x0<900:=ah [x0,x1] 0x3843a0f012c3a1f296129c0209 O h b
theorem EX(h:x0<300):x0<1000:=ah [x0] 0x3e83a0f012c3a0f109 O h
theorem Ti:0+(x0:J)*2=((2*x0:M):J):=(Int.zero_add _).trans<|Int.mul_comm _ 2
theorem EW(h: ¬x0<x1):x1≤x0:=ah [x0,x1] 0x1010509 O h
theorem Th(h:x0=2*x1)(b:x2<x1):2*x2<x0:=ah [x0,x1,x2] 0x229cf012f296129c0309 O h b
theorem Tg(h:x0=2*x1)(b:x2<x1):2*x2+1<x0:=ah [x0,x1,x2] 0x229cff012f296129c0309 O h b
theorem Tf(h:x0<300):x0≤1000000:=ah [x0] 0xf42405a0012c3a0f109 O h
theorem Te(h:x0≤x1+1)(b:x2≤x0+x3):x2≤x1+(x3+1):=ah [x0,x1,x2,x3] 0x3f1b2030b211f0109 O h b
theorem Td(h:x0<64):x0≤1000:=ah [x0] 0x3e83a00402a0f109 O h
theorem rZ(h:x0<900):x0<1000+0:=ah [x0] 0x93e83ab0f03843a0f109 O h
theorem Tc(h:x0+x1<64):x0+x1≤1000000:=ah [x0,x1] 0xf42405a10b0402a10bf109 O h
theorem EV(h:x0+x1<64):x0<900:=ah [x0,x1] 0x3843a0f0402a10bf109 O h
theorem Ta(h:x0≤1000000)(b:x1<x0):(x1:J)<4611686018427387904:=n8 (dQ.mpr<|je b h)<|by decide
theorem S_(h:x0<x1): ¬(x1:J)≤(x0:J):=kK<|aW [((x0:M):J),((x1:M):J)] 0x10f010f109 O<|dQ.mpr h
theorem S9(h:x0≤127): ¬127<(x0:J):=fY<|aW [((x0:M):J)] 0x7f2a007f2a0109 O<|dj.mpr h
theorem EU:((x0+1:M):J)-1=(x0:J):=iE (aW [((x0:M):J)] 0x190fd009 O)<|aW [((x0:M):J)] 0x190fd0009 O
theorem S8(h:x0+1=x1):x0<x1:=ah [x0,x1] 0x10f010f209 O h
theorem S7(h:x0+x1=x2+x3)(b:x4+1=x1):x0+1+x4=x2+x3:=cW (ah [x0,x1,x2,x3,x4] 0x32b40fb014f232b10b209 O h b)<|ah [x0,x1,x2,x3,x4] 0x40fb32b014f332b10b309 O h b
theorem S6(h:x0≤x1):(Max.max 0<|fW (x0:J) (x1:J)).toNat=x0:=(oN _ _).trans<|kC h
theorem S5: ¬(x0:J)+(x1:J)<0:=fY<|aW [((x0:M):J),((x1:M):J)] 0x10b0901091009109 O (dA _)<|dA _
theorem S4:(Max.max 0<|fW ((x0:J)+(x1:J)) (x2:J)).toNat=fW (x0+x1) x2:=oN (x0+x1) x2
theorem S3(h:x0≤x1+x2):x0≤x2+x1:=ah [x0,x1,x2] 0x12b0021b0109 O h
theorem S2(h:x0≤100):x0≤1000000:=ah [x0] 0xf42405a00642a0109 O h
theorem S0(h:48≤x0):48≤(x0:J):=aW [((x0:M):J)] 0x302a00302a109 O<|dj.mpr h
theorem SY(h:x0≤57):(x0:J)≤57:=aW [((x0:M):J)] 0x392a00392a0109 O<|dj.mpr h
theorem SX(h:x0=x1): ¬(x0:J)<(x1:J):=fY<|aW [((x0:M):J),((x1:M):J)] 0x1010309 O<|aR ef h
theorem zq321(h:x0=x1+(x2+1))(b:x0=x3):(x1:J)<(x3:J):=aW [((x0:M):J),((x1:M):J),((x2:M):J),((x3:M):J)] 0x31f020913022f1b0309 O (aR ef h) (aR ef b)<|dA _
theorem zq322(h:x0=x1+(x2+1))(b:x0<x3):(x1:J)<(x3:J):=aW [((x0:M):J),((x1:M):J),((x2:M):J),((x3:M):J)] 0x31f0209130f12f1b0309 O (aR ef h) (dQ.mpr b)<|dA _
theorem ET: ¬(x0:J)= -1:=rp<|aW [((x0:M):J)] 0x19ef0009109 O<|dA _
theorem SW(h:x0≤57):x0≤127:=ah [x0] 0x7f2a00392a0109 O h
theorem zq325(h:x0<100)(b:x1=x0):x1<1000:=ah [x0,x1] 0x3e83a1f0012642a0f109 O h b
theorem zq326(h:x0<100)(b:x1<x0):x1<1000:=ah [x0,x1] 0x3e83a1f001f1642a0f109 O h b
theorem ES(h:x0≤x1): ¬(x1:J)<(x0:J):=fY<|aW [((x0:M):J),((x1:M):J)] 0x10010109 O<|dj.mpr h
theorem SV(h:97≤x0):(0*16+(((54:M):J)-48))*16+(((x0-48:M):J)-48)=(x0:J):=by rw[Int.ofNat_sub<|bF (by decide) h];show (96:J)+((x0:J)-48-48)=x0;exact iE (aW [((x0:M):J)] 0x302a302a0dd602ab009 O)<|aW [((x0:M):J)] 0x302a302a0dd602ab0009 O
theorem SU(h:97≤x0):(((0*16+(((48:M):J)-48))*16+(((48:M):J)-48))*16+(((54:M):J)-48))*16+(((x0-48:M):J)-48)=(x0:J):=by rw[Int.ofNat_sub<|bF (by decide) h];show (96:J)+((x0:J)-48-48)=x0;exact iE (aW [((x0:M):J)] 0x302a302a0dd602ab009 O)<|aW [((x0:M):J)] 0x302a302a0dd602ab0009 O
theorem SQ(h:97≤x0)(b:x0≤104):48≤x0-48∧x0-48≤57:=⟨(ah [x0,x0-48] 0x1302a0302a1b0302a60612a302a6302a O h bZ),(ah [x0,x0-48] 0x392a100302a1b2f2a6011682a0302a62f2a O b (fV _ _)<|aM<|bk<|ah [x0,x0-48] 0x302a00612a302a6602a O h)⟩
theorem SK(h:x0≤104): ¬1114111<(x0:J):=fY<|aW [((x0:M):J)] 0x10ffff6a00682a0109 O<|dj.mpr h
theorem EQ(h:97≤x0)(b:x0≤104):x0=97∨x0=98∨x0=99∨x0=100∨x0=101∨x0=102∨x0=103∨x0=104:=(by decide+kernel: ∀x0:M,x0<105→97≤x0→x0=97∨x0=98∨x0=99∨x0=100∨x0=101∨x0=102∨x0=103∨x0=104) _ (Nat.lt_succ_of_le b) h
theorem SH(h:x0≤104):x0≤127:=ah [x0] 0x7f2a00682a0109 O h
theorem SG(h:x0≤104):x0<256:=ah [x0] 0x1003a0f0682a0109 O h
theorem SF(h:97≤x0): ¬(x0:J)=92:=rp<|aW [((x0:M):J)] 0x5c2af00094960612a5d2a6602a O (dj.mpr h)<|dA _
theorem EP(h: ¬x0=125): ¬(x0:J)=125:=ms (b:=125) h
theorem SD(h:x0≤127):0≤(x0:J)∧(x0:J)≤1114111:=⟨(aW [((x0:M):J)] 0x90009109 O<|dA _),(aW [((x0:M):J)] 0x10ffff6a007f2a0109 O<|dj.mpr h)⟩
theorem SA(h:x0<900)(b:x0=x1+x2):x1≤1000000:=ah [x0,x1,x2] 0xf42405a1021b033843a0f109 O h b
theorem Sz(h:x0-x1=x2+(x3+1+1)):x1+x2+2≤x0:=(dh x1 x0).elim (λk=>ah [x0,x1,x0-x1,x2,x3] 0x2931bb0012b14ff3b2309 O h<|aM<|bk<|ah [x0,x1,x0-x1,x2,x3] 0x1001109 O k) λk=>gP<|ah [x0,x1,x0-x1,x2,x3] 0x919009214ff3b2319 O h<|aM<|eb<|ah [x0,x1,x0-x1,x2,x3] 0x10010109 O k
theorem Sy(h:x0+x1+2≤x2):x1<x2+1-(x0+2):=ah [x0,x1,x2,(x2+1)-(x0+2)] 0x31f0290b3b2f122910bb109 O h bZ
theorem Sx(h:x0+x1+2≤x2): ¬(x2:J)-(x0:J)<((2:M):J):=fY<|aW [((x0:M):J),((x1:M):J),((x2:M):J)] 0x2d290109122910bb109 O (dj.mpr h)<|dA _
theorem Sw(h:x0-x1=x2+1+x3):x1+(x2+1)≤x0:=(dh x1 x0).elim (λk=>ah [x0,x1,x0-x1,x2,x3] 0x3f1b0012b143fb2309 O h<|aM<|bk<|ah [x0,x1,x0-x1,x2,x3] 0x1001109 O k) λk=>gP<|ah [x0,x1,x0-x1,x2,x3] 0x9190092143fb2309 O h<|aM<|eb<|ah [x0,x1,x0-x1,x2,x3] 0x10010109 O k
theorem Sv:(Max.max 0<|fW (x0:J) (x1:J)).toNat=fW x0 x1:=oN _ _
theorem Su(h:x0+x1≤x2):x0≤x2:=ah [x0,x1,x2] 0x200210b109 O h
theorem Ss(h:x0<256):0≤(x0:J)∧(x0:J)≤1114111:=⟨(aW [((x0:M):J)] 0x90009109 O<|dA _),(aW [((x0:M):J)] 0x10ffff6a001003a0f109 O<|dQ.mpr h)⟩
theorem Sr: ¬((x0+2+x1:M):J)<0:=fY<|aW [((x0:M):J),((x1:M):J)] 0x1290bb0901091009109 O (dA _)<|dA _
theorem y5(h:x0<100):x0<900:=ah [x0] 0x3843a0f0642a0f109 O h
theorem Sq(h:x0<100):x0≤1000000:=ah [x0] 0xf42405a00642a0f109 O h
theorem Sp:((x0+2+x1:M):J)+2=((x0+(x1+4):M):J):=iE (aW [((x0:M):J),((x1:M):J)] 0x491b0b291290bbb009 O)<|aW [((x0:M):J),((x1:M):J)] 0x291290bbb491b0b009 O
theorem rY(h:2≤x0): ¬1=x0:=iz<|ah [x0] 0x19f0029109 O h
theorem EN(h:2≤x0): ¬x0=0:=jQ<|ah [x0] 0x9f0029119 O h
theorem EM(h:2≤x0): ¬x0=1:=jQ<|ah [x0] 0x19f0029109 O h
theorem EL(h:1<x0):2≤x0+x1:=ah [x0,x1] 0x10b290019f109 O h
theorem EK(h:2≤x0): ¬0=x0:=iz<|ah [x0] 0x9f0029119 O h
theorem So(h:x0<64)(b:x1≤2*x0):x1<300:=ah [x0,x1] 0x12c3a1f0029c11402a0f29609 O h b
theorem Sn(h:x0≤2*x1)(b:x2≤x3+x0):x2≤x3+2*x1:=ah [x0,x1,x2,x3] 0x129c3b2003b21129c0109 O h b
theorem Sm(h:x0+2*x1<300):x0<300:=ah [x0,x1] 0x12c3a0f012c3a129c0bf109 O h
theorem Sl(h:x0+2*x1<300)(b:x2≤x0+2*x1):x2<300:=ah [x0,x1,x2] 0x12c3a2f0129c0b2112c3a129c0bf109 O h b
theorem Sk(h:x0≤x1+2*x2)(b:x3≤x0+x4):x3≤x1+2*x2+x4:=ah [x0,x1,x2,x3,x4] 0x4229c1bb3040b31229c1b0109 O h b
theorem Sj(h:x0<60):x0+1<64:=ah [x0] 0x402a0ff03c2a0f109 O h
theorem y4(h: ¬x0=1): ¬(x0:J)=1:=ms (b:=1) h
theorem Si(h:x0<900)(b:x0=x1+x2):x1<900:=ah [x0,x1,x2] 0x3843a1f021b033843a0f109 O h b
theorem Sh:x0+(x1+2)=x0+1+x1+1:=cW (ah [x0,x1] 0x10fbf291b0b009 O)<|ah [x0,x1] 0x291b0b10fbf009 O
theorem Sg:x0+x1+1+x2=x0+(x1+1+x2):=cW (ah [x0,x1,x2] 0x21fb0b210bfb009 O)<|ah [x0,x1,x2] 0x210bfb21fb0b009 O
theorem EJ(h: ¬x0=93): ¬(x0:J)=93:=ms (b:=93) h
theorem Sf(h:x0<x1):x0+1≤x1:=ah [x0,x1] 0x10f010f109 O h
theorem Se(h: ¬x0=91): ¬(x0:J)=91:=ms (b:=91) h
theorem Sc(h:x0≤x1+2*x2+x3)(b:x4=x5+x6)(e:x1+2*x2≤x5)(a:x3≤x6):x0+2*0≤x4:=ah [x0,x1,x2,x3,x4,x5,x6] 0x40929c0b06315229c1b165b433229c1bb0109 O h b e a
theorem Sb(h:x0≤x1+x2)(b:x3=x4+x5)(e:x1≤x4)(a:x2≤x5):x0≤x3:=ah [x0,x1,x2,x3,x4,x5] 0x30052141154b3321b0109 O h b e a
theorem Sa(h:2≤x0)(b:x1=x2+x0)(e:x3+2*x4≤x2):x3+2*(x4+1)≤x1:=ah [x0,x1,x2,x3,x4] 0x14f29c3b02429c3b102b13029109 O h b e
theorem R_(h:x0≤x1):x0+1≤x1+1:=ah [x0,x1] 0x1f0f010109 O h
theorem R9(h:x0=x1+x2)(b:x3≤x1):x3≤x0:=ah [x0,x1,x2,x3] 0x3013121b0309 O h b
theorem EI(h:x0≤250)(b:x0=x1+x2)(e:x3+2*x4≤x1):x3+2*x4<300:=ah [x0,x1,x2,x3,x4] 0x12c3a429c3bf01429c3b121b03fa2a0109 O h b e
theorem y0(h:x0<60)(b:x1≤x0):x1<64:=ah [x0,x1] 0x402a1f00113c2a0f109 O h b
theorem EH(h:x0≤250)(b:x0=x1+x2)(e:x3≤x2):x3<300:=ah [x0,x1,x2,x3] 0x12c3a3f023121b03fa2a0109 O h b e
theorem EG(h:x0≤58)(b:x0=x1+x2)(e:x3≤x1)(a:x4≤x2):x3+x4<64:=ah [x0,x1,x2,x3,x4] 0x402a43bf024113121b033a2a0109 O h b e a
theorem R8(h:x0≤250)(b:x0=x1+x2)(e:x3+2*x4≤x1):x3<300:=ah [x0,x1,x2,x3,x4] 0x12c3a3f01429c3b121b03fa2a0109 O h b e
theorem R7(h:x0≤58)(b:x0=x1+x2)(e:x3≤x1):x3<60:=ah [x0,x1,x2,x3] 0x3c2a3f013121b033a2a0109 O h b e
theorem yZ(h:x0<60)(b:x1≤x0):x1<900:=ah [x0,x1] 0x3843a1f00113c2a0f109 O h b
theorem R6(h:x0≤x1)(b:x1+2*x2≤x3):x0+2*x2≤x3:=ah [x0,x1,x2,x3] 0x3229c0b03229c1b110109 O h b
theorem R5(h:x0=x1+x2)(b:x3≤x4)(e:x4+2*x5≤x1):x3+2*x5≤x0:=ah [x0,x1,x2,x3,x4,x5] 0x529c3b01529c4b143121b0309 O h b e
theorem R0(h:x0≤x1):x0≤x1+1:=ah [x0,x1] 0x1f0010109 O h
theorem RZ(h:1≤x0)(b:x1=x2+x0)(e:x3≤x2)(a:x4≤x3+1):x4≤x1:=ah [x0,x1,x2,x3,x4] 0x1403f4123102b13019109 O h b e a
theorem EF(h: ¬x0=45): ¬(x0:J)=45:=ms (b:=45) h
theorem RY(h: ¬x0=38): ¬(x0:J)=38:=ms (b:=38) h
theorem RX(h: ¬x0=123): ¬(x0:J)=123:=ms (b:=123) h
theorem RW:x0+(x1+1+x2)=x0+(x1+(x2+1)):=cW (ah [x0,x1,x2] 0x2f1b0b21fb0b009 O)<|ah [x0,x1,x2] 0x21fb0b2f1b0b009 O
theorem RV:x0+(x1+1)=x0+1+x1:=cW (ah [x0,x1] 0x10fb1f0b009 O)<|ah [x0,x1] 0x1f0b10fb009 O
theorem RU(h:x0+1+x1<60):x0<60:=ah [x0,x1] 0x3c2a0f03c2a10fbf109 O h
theorem RT(h: ¬x0=94): ¬(x0:J)=94:=ms (b:=94) h
theorem RS(h:x0<60):0+x0<60:=ah [x0] 0x3c2a009bf03c2a0f109 O h
theorem RQ(h:x0<60):x0<1000:=ah [x0] 0x3e83a0f03c2a0f109 O h
theorem RP(h:x0≤250)(b:x1+2*x2≤x0):x1<300:=ah [x0,x1,x2] 0x12c3a1f00229c1b1fa2a0109 O h b
theorem RO(h:x0<x1)(b:x1-(x0+1)=x2)(e:x1-x3=x4+x2)(f: ¬x4=0):x0+1=x3+x4:=(jR f).elim (λa=>gP<|ah [x0,x1,x1-(x0+1),x2,x3,x1-x3,x4] 0x9190096f109 O a) λa=>(dh (x0+1) x1).elim (λc=>(dh x3 x1).elim (λk=>cW (ah [x0,x1,x1-(x0+1),x2,x3,x1-x3,x4] 0x64b0f045b1110f2b136b5232309 O b e (aM<|bk<|ah [x0,x1,x1-(x0+1),x2,x3,x1-x3,x4] 0x10f010f109 O h) bZ)<|ah [x0,x1,x1-(x0+1),x2,x3,x1-x3,x4] 0xf64b0145b10f2b1136b5332209 O b e bZ<|aM<|bk<|ah [x0,x1,x1-(x0+1),x2,x3,x1-x3,x4] 0x14014109 O k) λk=>gP<|ah [x0,x1,x1-(x0+1),x2,x3,x1-x3,x4] 0x91900951609f136b5309 O e a<|aM<|eb<|ah [x0,x1,x1-(x0+1),x2,x3,x1-x3,x4] 0x41041109 O k) λc=>(dh x3 x1).elim (λk=>cW (ah [x0,x1,x1-(x0+1),x2,x3,x1-x3,x4] 0x64b0f045b1110f2b136b5232309 O b e (aM<|bk<|ah [x0,x1,x1-(x0+1),x2,x3,x1-x3,x4] 0x10f010f109 O h) bZ)<|ah [x0,x1,x1-(x0+1),x2,x3,x1-x3,x4] 0xf64b0145b10f1136b5309 O e c<|aM<|bk<|ah [x0,x1,x1-(x0+1),x2,x3,x1-x3,x4] 0x14014109 O k) λk=>gP<|ah [x0,x1,x1-(x0+1),x2,x3,x1-x3,x4] 0x91900951609f136b5309 O e a<|aM<|eb<|ah [x0,x1,x1-(x0+1),x2,x3,x1-x3,x4] 0x41041109 O k
theorem RN(h:x0+2*x1≤x2)(b:x3≤x0+2*x1):x3≤x2+2:=ah [x0,x1,x2,x3] 0x292b30129c0b312129c0b109 O h b
theorem RM(h:x0≤250)(b:x1+2*x2≤x0)(e:x3≤x1+2*x2):x3<300:=ah [x0,x1,x2,x3] 0x12c3a3f0229c1b310229c1b1fa2a0109 O h b e
theorem RL(h:x0+2*x1≤x2)(b:x3≤x0+2*x1)(e:x4≤2+x3):x4≤x2+2:=ah [x0,x1,x2,x3,x4] 0x292b40329b41129c0b312129c0b109 O h b e
theorem EE(h:97≤x0): ¬x0=58:=jQ<|ah [x0] 0x3a2af00612a3b2a6602a O h
theorem RK(h:x0≤18): ¬18<(x0:J):=fY<|aW [((x0:M):J)] 0x122a00122a0109 O<|dj.mpr h
theorem RJ(h:x0-x1=x2+x3)(b: ¬x2=0):x1≤x0:=(jR b).elim (λk=>gP<|ah [x0,x1,x0-x1,x2,x3] 0x9190093f109 O k) λk=>(dh x1 x0).elim (λa=>ah [x0,x1,x0-x1,x2,x3] 0x1001109 O a) λa=>gP<|ah [x0,x1,x0-x1,x2,x3] 0x91900921309f143b2309 O h k<|aM<|eb<|ah [x0,x1,x0-x1,x2,x3] 0x10010109 O a
theorem RH(h:0<x0): ¬(x0:J)=0:=rp<|aW [((x0:M):J)] 0x9f0009f109 O<|dQ.mpr h
theorem RG(h:0<x0):0<(x0:J):=aW [((x0:M):J)] 0x9f0009f109 O<|dQ.mpr h
theorem RD(h:x0<900000):0<(x0:J)+1∧(x0:J)+1<1000000:=⟨(aW [((x0:M):J)] 0xf09f0009109 O<|dA _),(aW [((x0:M):J)] 0xf42405a0ff0dbba05a0f109 O<|dQ.mpr h)⟩
theorem RC(h:x0<5):x0<1000000:=ah [x0] 0xf42405a0f0590f109 O h
theorem yY(h:x0<900):0+(x0-0)≤1000000:=ah [x0,x0-0] 0xf42405a109b00113843a0f109 O h<|fV _ _
theorem RB(h:x0+x1<800):x1<900:=ah [x0,x1] 0x3843a1f03203a10bf109 O h
theorem RA(h:x0+x1<800)(b:x2≤x1):x0+x2<900:=ah [x0,x1,x2] 0x3843a20bf01213203a10bf109 O h b
theorem Rz(h:x0+x1<900):x0+x1≤1000000:=ah [x0,x1] 0xf42405a10b03843a10bf109 O h
theorem ED(h:x0<800000):x0<900000:=ah [x0] 0xdbba05a0f0c35005a0f109 O h
theorem Ry(h:x0<800000):x0+1<900000:=ah [x0] 0xdbba05a0ff0c35005a0f109 O h
theorem zq421(h:x0<2):x0=0∨x0=1:=(by decide+kernel: ∀x0:M,x0<2→x0=0∨x0=1) _ h
theorem zq422(h:x0<4):x0=0∨x0=1∨x0=2∨x0=3:=(by decide+kernel: ∀x0:M,x0<4→x0=0∨x0=1∨x0=2∨x0=3) _ h
theorem Rx(h:x0<900)(b:x1=x2)(e:x2<x0):x1≤1000000:=ah [x0,x1,x2] 0xf42405a1002f12123843a0f109 O h b e
theorem Rw(h:x0<8):x0<1000000:=ah [x0] 0xf42405a0f0890f109 O h
theorem zq425(h:x0<8):x0=0∨x0=1∨x0=2∨x0=3∨x0=4∨x0=5∨x0=6∨x0=7:=(by decide+kernel: ∀x0:M,x0<8→x0=0∨x0=1∨x0=2∨x0=3∨x0=4∨x0=5∨x0=6∨x0=7) _ h
theorem EC(h:x0<4):x0<900:=ah [x0] 0x3843a0f0490f109 O h
theorem EB(h:x0<4)(b:x1<800000)(e:x2<x0):x1+x2<900000:=ah [x0,x1,x2] 0xdbba05a21bf002f1c35005a1f1490f109 O h b e
theorem l4:97≤97+x0:=ah [x0] 0x612ab612a009 O
theorem rX(h:x0<8):97+x0≤104:=ah [x0] 0x682a0612ab0890f109 O h
theorem yX(h:x0<4):x0<1000+0:=ah [x0] 0x93e83ab0f0490f109 O h
theorem Rq(h:x0≤104):x0<128:=ah [x0] 0x802a0f0682a0109 O h
theorem Rp(h:x0≤104):x0-48<128:=ah [x0,x0-48] 0x802a1f0011682a0109 O h<|fV _ _
theorem Ro(h:x0≤6*x1)(b:x2≤6):x2+x0≤6*(x1+1):=ah [x0,x1,x2] 0x1f69c02b06921169c0109 O h b
theorem Rn(h:x0<1000)(b:x1≤6*x0):x1≤1000000:=ah [x0,x1] 0xf42405a10069c113e83a0f69609 O h b
theorem EA(h:x0≤700000):x0<900000:=ah [x0] 0xdbba05a0f0aae605a0109 O h
theorem Rm(h:x0≤700000):x0+1<800000:=ah [x0] 0xc35005a0ff0aae605a0109 O h
theorem Rl(h:x0<4)(b:x1=x0):x1<4:=ah [x0,x1] 0x491f0012490f109 O h b
theorem Rk(h:x0≤700000)(b:x1<4)(e:x0+1+x1=x2):x2<800000:=ah [x0,x1,x2] 0xc35005a2f0210fb3491f1aae605a0109 O h b e
theorem Ez(h:x0<4)(b:x1=x0):x1≤1000000:=ah [x0,x1] 0xf42405a10012490f109 O h b
theorem Rj(h:x0<4)(b:x1=x0):x1<1000:=ah [x0,x1] 0x3e83a1f0012490f109 O h b
theorem Ri(h:x0<4)(b:x1=x0)(e:x2≤6*x1):1+x2≤1000000:=ah [x0,x1,x2] 0xf42405a219b0169c2101697490f69609 O h b e
theorem Rh(h:x0<4)(b:x1=x0)(e:x2≤6*x1):x2+1+1≤1000000:=ah [x0,x1,x2] 0xf42405a2ff0169c2101697490f69609 O h b e
theorem Rg(h:20≤x0)(b:x1<4)(e:x2=x1)(a:x3≤6*x2):x3+1+1≤x0:=ah [x0,x1,x2,x3] 0x3ff0269c3112697491f6960142a109 O h b e a
theorem Rf(h:x0+1+x1=x2)(b:x3=x1)(e:x3=1)(a:x2+1=x4):x4≤x0+7:=ah [x0,x1,x2,x3,x4] 0x790b4042f31932133210fb309 O h b e a
theorem Rd(h:x0=x1)(b:x2=x1)(e:x2=1):x0<100:=ah [x0,x1,x2] 0x642a0f0192212310209 O h b e
theorem Rb(h:x0<4)(b:x1=x0)(e:x2+1+x0=x3)(a:x3+x1=x4):x4≤x2+7:=ah [x0,x1,x2,x3,x4] 0x792b40413b3302fb3012490f29609 O h b e a
theorem Ra(h:x0<4)(b:x1=x0):x1<100:=ah [x0,x1] 0x642a1f0012490f109 O h b
theorem Q_(h:x0≤x1)(b:x1<8):(Max.max 0<|fW (x0:J) ((8:M):J)).toNat=x0:=(oN x0 8).trans<|kC<|fq<|wK h b
theorem Q9: ¬(x0:J)+1<0:=fY<|aW [((x0:M):J)] 0xf090009109 O<|dA _
theorem Q8(h:x0<8):(Max.max 0<|fW ((x0:J)+1) ((8:M):J)).toNat=x0+1:=(oN (x0+1) 8).trans<|kC h
theorem Q7(h:x0≤x1)(b:x1<8):97+x0≤104:=ah [x0,x1] 0x682a0612ab0891f110109 O h b
theorem Ey(h:x0≤700000):x0+1<900000:=ah [x0] 0xdbba05a0ff0aae605a0109 O h
theorem Q6:x0+1+1≤x0+4:=ah [x0] 0x490b0ff009 O
theorem Q5(h:20≤x0):6≤x0:=ah [x0] 0x6900142a39699 O h
theorem Q4(h:x0<8):0<8-x0:=ah [x0,8-x0] 0x109f001b891890f109 O h bZ
theorem Q3(h:x0<8-x1):8-(x1:J)=((8-x1:M):J):=(Int.ofNat_sub<|(dh x1 8).elim (λk=>ah [x0,x1,8-x1] 0x8910891109 O k) λk=>gP<|ah [x0,x1,8-x1] 0x9190092120f109 O h<|aM<|eb<|ah [x0,x1,8-x1] 0x1890189109 O k).symm
theorem yW(h:x0<8-x1):97+x1≤104:=(dh x1 8).elim (λk=>ah [x0,x1,8-x1] 0x682a1612ab08912b120f109 O h<|aM<|bk<|ah [x0,x1,8-x1] 0x8910891109 O k) λk=>gP<|ah [x0,x1,8-x1] 0x9190092120f109 O h<|aM<|eb<|ah [x0,x1,8-x1] 0x1890189109 O k
theorem Q1(h:x0≤700000):x0+1+1<900000:=ah [x0] 0xdbba05a0fff0aae605a0109 O h
theorem yV:97≤97+(x0+x1):=ah [x0,x1] 0x10b612ab612a009 O
theorem yU(h:x0<8-x1):97+(x1+x0)≤104:=(dh x1 8).elim (λk=>ah [x0,x1,8-x1] 0x682a01b612ab08912b120f109 O h<|aM<|bk<|ah [x0,x1,8-x1] 0x8910891109 O k) λk=>gP<|ah [x0,x1,8-x1] 0x9190092120f109 O h<|aM<|eb<|ah [x0,x1,8-x1] 0x1890189109 O k
theorem Q0(h:x0≤700000):x0+1+1+1<900000:=ah [x0] 0xdbba05a0ffff0aae605a0109 O h
theorem yT(h:x0<8-x1):x1+x0<8:=(dh x1 8).elim (λk=>ah [x0,x1,8-x1] 0x8901bf08912b120f109 O h<|aM<|bk<|ah [x0,x1,8-x1] 0x8910891109 O k) λk=>gP<|ah [x0,x1,8-x1] 0x9190092120f109 O h<|aM<|eb<|ah [x0,x1,8-x1] 0x1890189109 O k
theorem QZ(h:x0≤6):x0+1≤1000000:=ah [x0] 0xf42405a0f0690109 O h
theorem QY(h:x0≤6)(b:x1≤6):x0+1+x1≤1000000:=ah [x0,x1] 0xf42405a10fb06911690109 O h b
theorem QX:x0+1+1+1+1≤x0+4:=ah [x0] 0x490b0ffff009 O
theorem QW:97+x0≤97+(x0+x1):=ah [x0,x1] 0x10b612ab0612ab009 O
theorem QV(h:20≤x0)(b:x1≤6)(e:x2≤6):x1+(x2+1)≤x0:=ah [x0,x1,x2] 0x2f1b0692142a6691142a60142ad96132a O h b e
theorem QU(h:x0+1≤x1)(b:x1≤500000):x0<900000:=ah [x0,x1] 0xdbba05a0f07a1205a1110f109 O h b
theorem QT(h:x0+1≤x1):x0+1≤x1:=ah [x0,x1] 0x10f010f109 O h
theorem QS(h:x0≤x1+1+x2):x0≤x1+x2+1:=ah [x0,x1,x2] 0x21bf0021fb0109 O h
theorem Ew(h:3<x0):3<(x0:J):=aW [((x0:M):J)] 0x39f0039f109 O<|dQ.mpr h
theorem QR:0<((x0+1:M):J):=aW [((x0:M):J)] 0xf09f0009109 O<|dA _
theorem QQ(h: ¬(3<x0∧0<x1))(b:3<x0): ¬0<(x1:J):=λq=>h ⟨b,dQ.mp q⟩
theorem QP(h: ¬3<x0): ¬3<(x0:J):=fY<|aW [((x0:M):J)] 0x3900390109 O<|dj.mpr<|py h
theorem QO(h:x0+1≤x1)(b:x1≤500000):x0+1<800000:=ah [x0,x1] 0xc35005a0ff07a1205a1110f109 O h b
theorem QN(h:8≤x0):x1+1+2≤x1+x0+1:=ah [x0,x1] 0x1bf291fb0089139 O h
theorem QM(h:20≤x0)(b:x1≤11):x1≤x0:=ah [x0,x1] 0x10b91142a60142ab96132a O h b
theorem QL(h:2<x0):2<(x0:J):=aW [((x0:M):J)] 0x29f0029f109 O<|dQ.mpr h
theorem QK(h: ¬2<x0): ¬2<(x0:J):=fY<|aW [((x0:M):J)] 0x2900290109 O<|dj.mpr<|py h
theorem Ev(h:4≤x0):2≤x0:=ah [x0] 0x290049119 O h
theorem Eu(h:x0+1≤x1)(b:x1≤500000):x0+1≤700000:=ah [x0,x1] 0xaae605a0f07a1205a1110f109 O h b
theorem QJ(h:8≤x0)(b:x1≤x2+1+7):x1≤x2+x0+1:=ah [x0,x1,x2] 0x2bf10792fb189608979679 O h b
theorem QI(h: ¬2<x0)(b: ¬x0=2):x0<2:=(jR b).elim (λk=>ah [x0] 0x290f0290f109 O k) λk=>ah [x0] 0x290f0029f102929a09 O h k
theorem QH(h:8≤x0)(b:x1≤x2+1+4):x1≤x2+x0+1:=ah [x0,x1,x2] 0x2bf10492fb1296089119 O h b
theorem QG(h: ¬x0=2): ¬(x0:J)=2:=ms (b:=2) h
theorem QF(h:x0=x1+x2)(b:x3≤x1)(e:x4≤x2)(a:x5≤x4):x3+x5≤x0:=ah [x0,x1,x2,x3,x4,x5] 0x53b045124113121b0309 O h b e a
theorem zq494(h:x0<3):x0=0∨x0=1∨x0=2:=(by decide+kernel: ∀x0:M,x0<3→x0=0∨x0=1∨x0=2) _ h
theorem QD:(x0:J)%2=1↔x0%2=1:=⟨λh=>Int.ofNat.inj h,λh=>aR ef h⟩
theorem QC(h:x0+x1≤999000)(b:x2≤1):x0+x2≤1000000:=ah [x0,x1,x2] 0xf42405a20b01921f3e585a10b109 O h b
theorem QB(h:x0+x1≤999000)(b:x2≤1)(e:x3≤1):x0+x3+x2≤1000000:=ah [x0,x1,x2,x3] 0xf42405a230bb019311921f3e585a10b109 O h b e
theorem QA(h:x0+x1≤999000)(b:x2≤1)(e:x3≤1):x0+x3+x2+x1≤1000000:=ah [x0,x1,x2,x3] 0xf42405a1230bbb019311921f3e585a10b109 O h b e
theorem Qz(h:x0≤x1)(b:x2≤x3)(e:x4=x1+(x3+2))(a:x5≤1)(f:x6≤1):x0+(x5+(x6+x2))≤x4:=ah [x0,x1,x2,x3,x4,x5,x6] 0x426b5b0b019611951293b1b4332110109 O h b e a f
theorem Qy(h:x0<4)(b:x1<x0):x1≤3:=ah [x0,x1] 0x391001f1490f109 O h b
theorem Qx(h:x0+4000≤x1)(b:x2≤1000)(e:x3≤x0+x4)(a:x4≤3*(x2+2)):x3+1≤x1:=ah [x0,x1,x2,x3,x4] 0x13f0292b39c4140b313e83a23961fa03a0b109 O h b e a
theorem Qw(h:x0+4000≤x1)(b:x1≤500000)(e:x2≤1000)(a:x3≤x0+x4)(f:x4≤3*(x2+2))(c:x5≤x3+x2+1):x5<800000:=ah [x0,x1,x2,x3,x4,x5] 0xc35005a5f023bf51292b39c4140b313e83a24967a1205a111fa03a0b109 O h b e a f c
theorem Qv(h:x0≤300)(b:x1≤3*(x0+2))(e:x2≤2)(a:x3≤x1)(f:x4≤x0):x2+x3+x4≤999000:=ah [x0,x1,x2,x3,x4] 0xf3e585a432bb00411312921290b39c1112c3a049609 O h b e a f
theorem Qu(h:x0≤9)(b:x1≤3*x0)(e:x2≤x1)(a:x3≤x0):x2+x3<800:=ah [x0,x1,x2,x3] 0x3203a32bf0031121039c1199049609 O h b e a
theorem Qt(h:x0≤x1+x2)(b:x3=x2+(x4+2))(e:x5≤x0+x4+1)(a:x6≤x5+1):x6≤x1+x3:=ah [x0,x1,x2,x3,x4,x5,x6] 0x31b605f6140bf51294b2b3321b0109 O h b e a
theorem Qs:x0≤x0+0*(x1+2):=ah [x0,x1] 0x291b09c0b0009 O
theorem Qr(h:x0+4002≤x1)(b:x1≤500000)(e:x2≤x0):x2<900000:=ah [x0,x1,x2] 0xdbba05a2f00217a1205a111fa23a0b109 O h b e
theorem Qq(h:x0+4002≤x1)(b:x1≤500000)(e:x2≤x0):x2+1<900000:=ah [x0,x1,x2] 0xdbba05a2ff00217a1205a111fa23a0b109 O h b e
theorem Qp(h:x0+4002≤x1)(b:x2≤x0)(e:x2+1+1=x3):x3+4000≤x1:=ah [x0,x1,x2,x3] 0x1fa03a3b032ff30211fa23a0b109 O h b e
theorem Qo(h:x0<4):x0≤3:=ah [x0] 0x3900490f109 O h
theorem Qn(h:x0≤83)(b:x1≤3*x0):x1≤250:=ah [x0,x1] 0xfa2a10039c11532a039609 O h b
theorem Qm(h:x0≤9)(b:x1≤3*x0):x1≤58:=ah [x0,x1] 0x3a2a10039c1199039609 O h b
theorem Ql(h:x0≤3)(b:x1=x0):x1<60:=ah [x0,x1] 0x3c2a1f0012390109 O h b
theorem Qk(h:x0+1+1=x1)(b:x2≤x1+x3)(e:x3≤3*(x4+2)):x2≤x0+(2+3*(x4+2)):=ah [x0,x1,x2,x3,x4] 0x294b39c29b0b20294b39c3131b2110ff309 O h b e
theorem Qj(h:x0≤3*x1):x0+2≤3*x1+2:=ah [x0,x1] 0x29139cb290b0139c0109 O h
theorem Qi(h:x0≤300)(b:x1≤3*(x0+2))(e:x2≤x1)(a:x3≤2):x3+x2+1≤1000000:=ah [x0,x1,x2,x3] 0xf42405a23bf02931121290b39c1112c3a039609 O h b e a
theorem Qh(h:x0≤3*(x1+2))(b:x2≤x0)(e:x3≤2):x3+x2+1≤3+3*(x1+2):=ah [x0,x1,x2,x3] 0x291b39c39b23bf02931021291b39c0109 O h b e
theorem PZ(h:x0≤10):x0≤21:=ah [x0] 0x152a00a90109 O h
theorem PY(h:x0≤10)(b:x1≤10)(e:x2≤1):x0+x2+x1≤21:=ah [x0,x1,x2] 0x152a120bb01921a911a90109 O h b e
theorem PX(h:x0≤10)(b:x1≤1):x0+x1≤1000000:=ah [x0,x1] 0xf42405a10b01911a90109 O h b
theorem PW(h:x0≤10)(b:x1≤10)(e:x2≤1):x0+x2+x1≤1000000:=ah [x0,x1,x2] 0xf42405a120bb01921a911a90109 O h b e
theorem PV(h:x0≤21)(b:x1≤21*x2):x0+x1≤21*(x2+1):=ah [x0,x1,x2] 0x2f152ac10b02152ac11152a0109 O h b
theorem Es(h:x0<900)(b:x1≤21*x0):x1≤1000000:=ah [x0,x1] 0xf42405a100152ac113843a0f152a609 O h b
theorem PU:(Max.max 0<|fW 1 ((x0+1:M):J)).toNat=1:=(oN 1<|x0+1).trans<|kC<|Nat.le_add_left 1 x0
theorem PT(h:x0<900)(b:x1≤21*x0):1+x1≤1000000:=ah [x0,x1] 0xf42405a119b00152ac113843a0f152a609 O h b
theorem PS(h:x0<900)(b:x1≤21*x0):2+x1≤1000000:=ah [x0,x1] 0xf42405a129b00152ac113843a0f152a609 O h b
theorem PQ(h:x0<900)(b:x1≤21*x0):1+x1≤999999:=ah [x0,x1] 0xf423f5a119b00152ac113843a0f152a609 O h b
theorem PP(h:x0<900)(b:x1≤21*x0):2+x1≤999999:=ah [x0,x1] 0xf423f5a129b00152ac113843a0f152a609 O h b
theorem PO(h:x0%2=0):x0=2*(x0/2):=(Nat.mul_div_cancel'<|Nat.dvd_of_mod_eq_zero h).symm
theorem PN(h:x0<20):x0/2<20:=ah [x0,x0/2] 0x142a1f00129c1142a0f119 O h<|mS _ _
theorem PM(h:x0≤x1):x0+1≤x1+1+1:=ah [x0,x1] 0x1ff0f010109 O h
theorem PL(h:x0=2*x1)(b:x1<20):x0<300:=ah [x0,x1] 0x12c3a0f0142a1f296129c0209 O h b
theorem yS(h:x0<20):x0<300:=ah [x0] 0x12c3a0f0142a0f109 O h
theorem Er(h:x0=2*x1)(b:x1<20)(e:x2≤x0):x2<900:=ah [x0,x1,x2] 0x3843a2f0021142a1f296129c0209 O h b e
theorem PK(h:x0=2*x1)(b:x1<20)(e:x2≤x0)(a:x3≤21*x2):1+(x3+1)≤1000000:=ah [x0,x1,x2,x3] 0xf42405a3f19b02152ac3102152a6142a1f2a2a6129c0152a709 O h b e a
theorem PJ(h:x0=2*x1)(b:x1<20)(e:x2≤x0)(a:x3≤21*x2):2+(x3+1)≤1000000:=ah [x0,x1,x2,x3] 0xf42405a3f29b02152ac3102152a6142a1f2a2a6129c0152a709 O h b e a
theorem PI(h: ¬x0≤x1): ¬(x0:J)≤(x1:J):=kK<|aW [((x1:M):J),((x0:M):J)] 0x10f010f109 O<|dQ.mpr<|Nat.lt_of_not_le h
theorem PH(h:x0<128):(x0:J)<256:=aW [((x0:M):J)] 0x1003a0f0802a0f109 O<|dQ.mpr h
theorem PG(h:x0≤104)(b:x1=x0):x1≤104:=ah [x0,x1] 0x682a10012682a0109 O h b
theorem PF(h:x0≤x1)(b:x1≤104):x0≤104:=ah [x0,x1] 0x682a00682a1110109 O h b
theorem PE(h:97≤x0)(b:x0≤x1):97≤x1:=ah [x0,x1] 0x1612a01010612a109 O h b
theorem PC(h:x0≤8):x0*4≤250:=bF (jd 4 h)<|by decide
theorem PB(h:x0≤8):x0*1≤58:=bF (jd 1 h)<|by decide
theorem PA(h:x0≤8):x0<60:=ah [x0] 0x3c2a0f0890109 O h
theorem Pz(h:x0≤8):x0*4+2≤34:=Nat.add_le_add_right (jd 4 h) 2
theorem Py(h:x0≤8):x0*1≤8:=jd 1 h
theorem Px(h:x0≤63):x0≤1000000:=ah [x0] 0xf42405a003f2a0109 O h
theorem Pw:(Max.max 0<|fW 40 (x0:J)).toNat=fW 40 x0:=oN 40 x0
theorem Pu(h:x0≤40):x0<1000+0:=ah [x0] 0x93e83ab0f0282a0109 O h
theorem Pt(h:x0≤40):0+(x0-0)≤1000000:=ah [x0,x0-0] 0xf42405a109b0011282a0109 O h<|fV _ _
theorem zq566(h:x0<12):x0=0∨x0=1∨x0=2∨x0=3∨x0=4∨x0=5∨x0=6∨x0=7∨x0=8∨x0=9∨x0=10∨x0=11:=(by decide+kernel: ∀x0:M,x0<12→x0=0∨x0=1∨x0=2∨x0=3∨x0=4∨x0=5∨x0=6∨x0=7∨x0=8∨x0=9∨x0=10∨x0=11) _ h
theorem Ep:fW 40 x0<900:=wK (Nat.min_le_left _ _)<|by decide
theorem Eo(h:x0≤134):x0<900:=ah [x0] 0x3843a0f0862a0109 O h
theorem Ps(h:x0<20)(b:x1≤2):x1+(x0+1)<900:=ah [x0,x1] 0x3843a0f1bf02911142a0f109 O h b
theorem Pr(h:x0<20):1+x0≤1000000:=ah [x0] 0xf42405a019b0142a0f109 O h
theorem Pq(h:x0<20):1+x0+1≤1000000:=ah [x0] 0xf42405a019bf0142a0f109 O h
theorem Po(h:x0<20):2+x0≤1000000:=ah [x0] 0xf42405a029b0142a0f109 O h
theorem Pn(h:x0<20):2+x0+1≤1000000:=ah [x0] 0xf42405a029bf0142a0f109 O h
theorem En(h:x0<128):x0<256:=ah [x0] 0x1003a0f0802a0f109 O h
theorem Pl(h:x0≤10):x0≤1000:=ah [x0] 0x3e83a00a90109 O h
theorem Pk(h:x0≤657):x0<900:=ah [x0] 0x3843a0f02913a0109 O h
theorem Pj(h:x0≤657):x0+1<900:=ah [x0] 0x3843a0ff02913a0109 O h
theorem Ph(h:x0<900):1+x0≤1000000:=ah [x0] 0xf42405a019b03843a0f109 O h
theorem Pf(h:x0≤27):x0<64:=ah [x0] 0x402a0f01b2a0109 O h
theorem Pe(h:x0≤27):x0≤1000000:=ah [x0] 0xf42405a001b2a0109 O h
theorem vd(h: ¬x0<17):17≤x0:=ah [x0] 0x112a0112a0509 O h
theorem Pd(h: ¬x0<17)(b:x1=x0)(e:x1<17):x2=x0:=gP<|ah [x0,x1] 0x9190112a1f1013112a0509 O h b e
theorem Pc(h: ¬x0<17)(b:x1=x0)(e:x1<17):x0=x2:=gP<|ah [x0,x1] 0x9190112a1f1013112a0509 O h b e
theorem zq585(h:x0<7)(b: ¬x0=0):x0=1∨x0=2∨x0=3∨x0=4∨x0=5∨x0=6:=(by decide+kernel: ∀x0:M,x0<7→ ¬x0=0→x0=1∨x0=2∨x0=3∨x0=4∨x0=5∨x0=6) _ h b
theorem Pb(h: ¬((63:M):J)<(x0:J)):x0≤63:=dj.mp<|aW [((x0:M):J)] 0x3f2a0003f2a509 O h
end
section
variable{x0 x1 x2 x3:J}
theorem Gf(h: -1000000<x0): -2^64<x0:=ua (by decide)<|pG h
theorem Gd(h:x0<1000000):x0<2^64:=n8 h<|by decide
theorem Gc(h:0<x0): ¬x0=0:=rp<|aW [x0] 0x9f0009f109 O h
theorem Gb(h:0<x0):0≤x0:=aW [x0] 0x90009f109 O h
theorem F6(h:x0<4611686018427387904):x0<2^63:=n8 h<|by decide
theorem F5(h: -4611686018427387904≤x0): -2^63≤x0:=dR (by decide) h
theorem WL(h:0≤x0)(b:x0<256):0≤x0∧x0<256:=⟨(aW [x0] 0x90009109 O h),(aW [x0] 0x1003a0f01003a0f109 O b)⟩
theorem WG(h: -1000000≤x0): -2^63≤x0:=dR (by decide) h
theorem Wt(h:x0<256):x0.toNat<256:=(Int.toNat_lt'<|by decide).mpr h
theorem Wr(h:x0≤1000):x0.toNat≤1000:=Int.toNat_le.mpr h
theorem Wq(h:0≤x0)(b:x0≤1000): -9223372036854775808≤x0∧x0<9223372036854775808:=⟨dR (by decide) h,ub b<|by decide⟩
theorem Fd(h:x0<x1): ¬x1<x0:=fY<|aW [x0,x1] 0x10010f109 O h
theorem Ur(h:x0=x1)(b: ¬x2=x0): ¬x2=x1:=λq=>b<|q.trans h.symm
theorem Uq(h:x0=x1)(b: ¬x2<x0): ¬x2<x1:=fY<|aW [x0,x1,x2] 0x21002510309 O h b
theorem Up(h: ¬x0=x1)(b:x2=x0): ¬x2=x1:=λq=>h<|b.symm.trans q
theorem Uo(h:x0=x1)(b: ¬x1<x2): ¬x0<x2:=fY<|aW [x0,x1,x2] 0x2021510309 O h b
theorem Un(h: ¬x0=x1)(b: ¬x1<x2)(e: ¬x0<x1): ¬x0=x2:=(Int.lt_or_gt_of_ne h).elim (λk=>rp<|aW [x0,x1,x2] 0x2f01029a21510f109 O k b e) λk=>rp<|aW [x1,x0,x2] 0x12f020510f109 O k b
theorem Fc(h: ¬x0<x1)(b: ¬x2<x0): ¬x2<x1:=fY<|aW [x0,x1,x2] 0x21002510509 O h b
theorem Ua(h: ¬x0≤x1)(b:x0<x2):x1<x2:=aW [x0,x1,x2] 0x21f020f110409 O h b
theorem E6(h:x0≤x1):x0<x1+1:=aW [x0,x1] 0x1f0f010109 O h
theorem E5(h:x0≤x1): ¬x1+1≤x0:=kK<|aW [x0,x1] 0x1f0f010109 O h
theorem E4(h: ¬x0≤x1):x1+1≤x0:=aW [x0,x1] 0x1f010409 O h
theorem E3(h:x0≤x1)(b: ¬x0≤x2): ¬x1+1≤x2:=kK<|aW [x0,x1,x2] 0x1f2f020410109 O h b
theorem TG(h:x0<x1+1):x0≤x1+1:=aW [x0,x1] 0x1f001f0f109 O h
theorem TF(a:x0<x1+1):(x2<x1+1↔x2<x0∨x2≤x1):=⟨λh=> .inr<|Int.le_of_lt_add_one h,λh=>h.elim (λq=>n8 q a) Int.lt_add_one_of_le⟩
theorem TE(a: ¬x0<x1+1):(x2<x0↔x2<x0∨x2≤x1):=⟨.inl,λh=>h.elim id λq=>ua (Int.lt_add_one_of_le q)<|kJ.mp a⟩
theorem E0(h:x0<x1): ¬x1≤x0:=kK<|aW [x0,x1] 0x10f010f109 O h
theorem zq270(h:x0≤x1)(b:x1<x0):bR:=absurd b<|fY<|aW [x0,x1] 0x10010109 O h
theorem TD(h:x0<x1)(b:x1≤x2)(e: ¬x0≤x3): ¬x2≤x3:=kK<|aW [x0,x1,x2,x3] 0x23f030421110f109 O h b e
theorem TC(h:x0<x1)(b: ¬x0≤x2): ¬x1≤x2:=kK<|aW [x0,x1,x2] 0x12f020410f109 O h b
theorem TB(h:x0≤x1)(b: ¬x0≤x2): ¬x1≤x2:=kK<|aW [x0,x1,x2] 0x12f020410109 O h b
theorem TA(h:x0≤x1)(b:x1<x2):x0<x2:=aW [x0,x1,x2] 0x20f021f110109 O h b
theorem Tz(h:x0≤x1)(b:x2<x0)(e:x3≤x2):x3<x1+1:=aW [x0,x1,x2,x3] 0x1f3f023102f110109 O h b e
theorem EZ(h:x0<x1)(b:x1≤x2):x0≤x2:=aW [x0,x1,x2] 0x20021110f109 O h b
theorem EY(h: ¬0≤x0): ¬1114112≤x0:=kK<|aW [x0] 0x1100006a0f0009409 O h
theorem RE(h:0≤x0):x0=(x0:J).toNat:=(Int.toNat_of_nonneg h).symm
theorem Rv(h:97≤x0)(b:x0≤104):x0=97∨x0=98∨x0=99∨x0=100∨x0=101∨x0=102∨x0=103∨x0=104:=(Int.eq_ofNat_of_zero_le<|dR (by decide) h).elim λn e=>by
 have h:=dj.mp<|dR h<|iD e;have b:=dj.mp<|dR (iD e.symm) b;rw[e]
 exact(by decide+kernel: ∀x0:M,x0<105→97≤x0→(x0:J)=97∨(x0:J)=98∨(x0:J)=99∨(x0:J)=100∨(x0:J)=101∨(x0:J)=102∨(x0:J)=103∨(x0:J)=104) _ (Nat.lt_succ_of_le b) h
theorem Ru(a: ¬(97≤x0∧x0≤104)):(97≤x0↔105≤x0):=⟨lw a,λh=>dR (by decide) h⟩
theorem Rt(a: ¬(97≤x0∧x0≤104)):(102≤x0↔105≤x0):=⟨λh=>lw a (dR (by decide) h),λh=>dR (by decide) h⟩
theorem Rs(h:x0<1114112): ¬1114112≤x0:=kK<|aW [x0] 0x1100006a0f01100006a0f109 O h
theorem Rr(h: ¬x0<1114112):1114112≤x0:=aW [x0] 0x1100006a01100006a0509 O h
theorem QE(h:97≤x0)(b:x0≤104):0≤x0∧x0<1114112:=⟨(aW [x0] 0x900612a109 O h),(aW [x0] 0x1100006a0f0682a0109 O b)⟩
theorem Qg(h:x0<x1)(b:x1<x2): ¬x2≤x0:=kK<|aW [x0,x1,x2] 0x20f021f110f109 O h b
theorem Et(h: ¬x0≤x1):x1<x0:=aW [x0,x1] 0x1f010409 O h
theorem Qf(h: ¬(97≤x0∧x0≤104))(b:97≤x0):98≤x0:=dR (by decide)<|lw h b
theorem Qe(h: ¬(97≤x0∧x0≤104))(b:97≤x0):99≤x0:=dR (by decide)<|lw h b
theorem Qd(h: ¬(97≤x0∧x0≤104))(b:97≤x0):100≤x0:=dR (by decide)<|lw h b
theorem Qc(h: ¬(97≤x0∧x0≤104))(b:97≤x0):101≤x0:=dR (by decide)<|lw h b
theorem Qb(h: ¬(97≤x0∧x0≤104))(b:97≤x0):102≤x0:=dR (by decide)<|lw h b
theorem Qa(h: ¬(97≤x0∧x0≤104))(b:97≤x0):103≤x0:=dR (by decide)<|lw h b
theorem P_(h: ¬(97≤x0∧x0≤104))(b:97≤x0):104≤x0:=dR (by decide)<|lw h b
theorem P9(h: ¬(97≤x0∧x0≤104))(b:97≤x0):105≤x0:=lw h b
theorem P8(a:1114112≤x0): ¬(0≤x0∧x0<1114112):=λh=>absurd h.2<|kJ.mpr a
theorem P7(h:97≤x0)(b: ¬1114112≤x0):0≤x0∧x0<1114112:=⟨(aW [x0] 0x900612a109 O h),(aW [x0] 0x1100006a0f001100006a409 O b)⟩
theorem P5(h:0≤x0)(b: ¬97≤x0):0≤x0∧x0<1114112:=⟨(aW [x0] 0x90009109 O h),(aW [x0] 0x1100006a0f00612a409 O b)⟩
theorem P0(a: ¬0≤x0): ¬(0≤x0∧x0<1114112):=λh=>a h.1
end
theorem WV{a:J}{x:M}(h:0≤a+(x:J))(b:a+(x:J)<(x:J)):a<0∧ -(x:J)≤a∧(a+(x:J)).toNat=(a+(x:J)).toNat∧(a+(x:J)).toNat<x:=⟨(aW [a,((x:M):J)] 0x90f0110bf109 O b),(aW [a,((x:M):J)] 0x1e010b09109 O h),O,(Int.toNat_lt h).mpr b⟩
theorem WU{x:J}{a:M}(h:0≤x)(b:x<(a:J)):0≤x∧x.toNat=x.toNat∧x.toNat<a:=⟨h,O,(Int.toNat_lt h).mpr b⟩
theorem WT{x a:M}{b:J}(h:x=a)(c: -(a:J)≤b): -(x:J)≤b:=aW [((x:M):J),((a:M):J),b] 0x20e021e110309 O (aR ef h) c
theorem WS{x:M}{a:J}{b:M}(h:(x:J)=Max.max 0 (fW a (b:J))):x≤b:=dj.mp<|dR (iD h)<|Int.max_le.mpr ⟨dA _,Int.min_le_right _ _⟩
theorem WJ{x:J}{a:M}(h:x<0)(b: -(a:J)≤x):(x+(a:J)).toNat<a:=(Int.toNat_lt<|aW [x,((a:M):J)] 0x10b09001e109 O b).mpr<|aW [x,((a:M):J)] 0x110bf0090f109 O h
theorem WH{x:M}{a:J}{b:M}(h: -(x:J)≤a)(c:b=x): -(b:J)≤a:=aW [((x:M):J),a,((b:M):J)] 0x12e002310e109 O h<|aR ef c
theorem Ub{x a b:J}{f:M}(h:x<a)(c: ¬x≤b)(e:a≤b):f+1<0:=XK<|aW [x,a,b] 0x919021120410f119 O h c e
theorem SR:48≤54∧54≤57:=⟨(ah [] 0x362a302a009 O),(ah [] 0x392a362a009 O)⟩
theorem ER:48≤48∧48≤57:=⟨(ah [] 0x302a302a009 O),(ah [] 0x392a302a009 O)⟩
theorem SN:123≤127:=ah [] 0x7f2a7b2a009 O
theorem SM:125≤127:=ah [] 0x7f2a7d2a009 O
theorem y6:92≤127:=ah [] 0x7f2a5c2a009 O
theorem SJ:120≤127:=ah [] 0x7f2a782a009 O
theorem SI:117≤127:=ah [] 0x7f2a752a009 O
theorem EO: ¬1=0:=jQ<|ah [] 0x1909f009 O
theorem RF{x:J}{a:M}(h:0≤x)(b:x<(a:J)):x.toNat<a:=(Int.toNat_lt h).mpr b
theorem Rc{x:J}{a:M}:x=(a:J)↔(a:J)≤x∧x≤(a:J):=⟨λh=>⟨iD h.symm,iD h⟩,λh=>iE h.2 h.1⟩
theorem PD{x:J}{a b:M}(h: ¬(97≤x∧x≤104))(c:97≤a)(e:b≤104)(f:(a:J)≤x)(g:x≤(b:J)):bR:=h ⟨(aW [((a:M):J),((b:M):J),x] 0x2612a02010612a109 O (dj.mpr c) f),(aW [((a:M):J),((b:M):J),x] 0x682a20121682a1109 O (dj.mpr e) g)⟩
@[elab_as_elim] theorem rwl.{u}{α:Sort u}{a b:α}{motive:α→Prop}(h:a=b)(x:motive b):motive a:=by subst h;exact x
@[elab_as_elim] theorem rwr.{u}{α:Sort u}{a b:α}{motive:α→Prop}(h:a=b)(x:motive a):motive b:=by subst h;exact x
theorem gq{α:Type}{a:PySem.Model}{A:a9}{s:au}{b:α→au→Prop}{E:T→au→Prop}{c:Prop} [n9 c]{t e:aX α}(h:c)(x:ar a A t b E s):ar a A (if c then t else e) b E s:=rwl (aw h) x
theorem e_{α:Type}{a:PySem.Model}{A:a9}{s:au}{b:α→au→Prop}{E:T→au→Prop}{c:Prop} [n9 c]{t e:aX α}(h: ¬c)(x:ar a A e b E s):ar a A (if c then t else e) b E s:=rwl (az h) x
theorem om{P:M→Prop}: ∀i,i<0→P i:=λ_ h=>absurd h<|Nat.not_lt_zero _
theorem jo{P:M→Prop}{n:M}(h: ∀i,i<n→P i)(b:P n): ∀i,i<n+1→P i:=λi a=>(Nat.lt_or_eq_of_le<|Nat.le_of_lt_succ a).elim (h i) λe=>e▸b
theorem x0_2{a b:Prop}{G:Prop}(h:a∧b)(k:a→b→G):G:=by rcases h with⟨c,e⟩;exact k c e
theorem x0_3{a b c:Prop}{G:Prop}(h:a∧b∧c)(k:a→b→c→G):G:=by rcases h with⟨e,f,g⟩;exact k e f g
theorem x0_4{a b c e:Prop}{G:Prop}(h:a∧b∧c∧e)(k:a→b→c→e→G):G:=by rcases h with⟨f,g,i,j⟩;exact k f g i j
theorem x0_5{a b c e f:Prop}{G:Prop}(h:a∧b∧c∧e∧f)(m:a→b→c→e→f→G):G:=by rcases h with⟨g,i,j,k,l⟩;exact m g i j k l
theorem x0_6{a b c e f g:Prop}{G:Prop}(h:a∧b∧c∧e∧f∧g)(o:a→b→c→e→f→g→G):G:=by rcases h with⟨i,j,k,l,m,n⟩;exact o i j k l m n
theorem x0_7{a b c e f g i:Prop}{G:Prop}(h:a∧b∧c∧e∧f∧g∧i)(q:a→b→c→e→f→g→i→G):G:=by rcases h with⟨j,k,l,m,n,o,p⟩;exact q j k l m n o p
theorem x0_8{a b c e f g i j:Prop}{G:Prop}(h:a∧b∧c∧e∧f∧g∧i∧j)(s:a→b→c→e→f→g→i→j→G):G:=by rcases h with⟨k,l,m,n,o,p,q,r⟩;exact s k l m n o p q r
theorem x0_9{a b c e f g i j k:Prop}{G:Prop}(h:a∧b∧c∧e∧f∧g∧i∧j∧k)(u:a→b→c→e→f→g→i→j→k→G):G:=by rcases h with⟨l,m,n,o,p,q,r,s,t⟩;exact u l m n o p q r s t
theorem x1_1.{u}{e:Sort u}{b:e→Prop}{G:Prop}(h: ∃a,b a)(k: ∀a,b a→G):G:=by rcases h with⟨a,c⟩;exact k a c
theorem x1_2.{u}{g:Sort u}{b c:g→Prop}{G:Prop}(h: ∃a,b a∧c a)(k: ∀a,b a→c a→G):G:=by rcases h with⟨a,e,f⟩;exact k a e f
theorem x1_3.{u}{j:Sort u}{b c e:j→Prop}{G:Prop}(h: ∃a,b a∧c a∧e a)(k: ∀a,b a→c a→e a→G):G:=by rcases h with⟨a,f,g,i⟩;exact k a f g i
theorem x1_4.{u}{m:Sort u}{b c e f:m→Prop}{G:Prop}(h: ∃a,b a∧c a∧e a∧f a)(l: ∀a,b a→c a→e a→f a→G):G:=by rcases h with⟨a,g,i,j,k⟩;exact l a g i j k
theorem x1_8.{u}{v:Sort u}{b c e f g i j k:v→Prop}{G:Prop}(h: ∃a,b a∧c a∧e a∧f a∧g a∧i a∧j a∧k a)(t: ∀a,b a→c a→e a→f a→g a→i a→j a→k a→G):G:=by rcases h with⟨a,l,m,n,o,p,q,r,s⟩;exact t a l m n o p q r s
theorem x2_1.{u,f}{g:Sort u}{i:Sort f}{c:g→i→Prop}{G:Prop}(h: ∃a b,c a b)(k: ∀a b,c a b→G):G:=by rcases h with⟨a,b,e⟩;exact k a b e
theorem x2_2.{u,i}{j:Sort u}{l:Sort i}{c e:j→l→Prop}{G:Prop}(h: ∃a b,c a b∧e a b)(k: ∀a b,c a b→e a b→G):G:=by rcases h with⟨a,b,f,g⟩;exact k a b f g
theorem x2_3.{u,l}{m:Sort u}{n:Sort l}{c e f:m→n→Prop}{G:Prop}(h: ∃a b,c a b∧e a b∧f a b)(k: ∀a b,c a b→e a b→f a b→G):G:=by rcases h with⟨a,b,g,i,j⟩;exact k a b g i j
theorem x2_4.{u,n}{o:Sort u}{p:Sort n}{c e f g:o→p→Prop}{G:Prop}(h: ∃a b,c a b∧e a b∧f a b∧g a b)(m: ∀a b,c a b→e a b→f a b→g a b→G):G:=by rcases h with⟨a,b,i,j,k,l⟩;exact m a b i j k l
theorem x2_5.{u,p}{q:Sort u}{r:Sort p}{c e f g i:q→r→Prop}{G:Prop}(h: ∃a b,c a b∧e a b∧f a b∧g a b∧i a b)(o: ∀a b,c a b→e a b→f a b→g a b→i a b→G):G:=by rcases h with⟨a,b,j,k,l,m,n⟩;exact o a b j k l m n
theorem x2_6.{u,r}{s:Sort u}{t:Sort r}{c e f g i j:s→t→Prop}{G:Prop}(h: ∃a b,c a b∧e a b∧f a b∧g a b∧i a b∧j a b)(q: ∀a b,c a b→e a b→f a b→g a b→i a b→j a b→G):G:=by rcases h with⟨a,b,k,l,m,n,o,p⟩;exact q a b k l m n o p
theorem x2_7.{u,t}{v:Sort u}{w:Sort t}{c e f g i j k:v→w→Prop}{G:Prop}(h: ∃a b,c a b∧e a b∧f a b∧g a b∧i a b∧j a b∧k a b)(s: ∀a b,c a b→e a b→f a b→g a b→i a b→j a b→k a b→G):G:=by rcases h with⟨a,b,l,m,n,o,p,q,r⟩;exact s a b l m n o p q r
theorem x3_1.{u,g,i}{j:Sort u}{l:Sort g}{m:Sort i}{e:j→l→m→Prop}{G:Prop}(h: ∃a b c,e a b c)(k: ∀a b c,e a b c→G):G:=by rcases h with⟨a,b,c,f⟩;exact k a b c f
theorem x3_2.{u,j,l}{m:Sort u}{n:Sort j}{o:Sort l}{e f:m→n→o→Prop}{G:Prop}(h: ∃a b c,e a b c∧f a b c)(k: ∀a b c,e a b c→f a b c→G):G:=by rcases h with⟨a,b,c,g,i⟩;exact k a b c g i
theorem x3_3.{u,m,n}{o:Sort u}{p:Sort m}{q:Sort n}{e f g:o→p→q→Prop}{G:Prop}(h: ∃a b c,e a b c∧f a b c∧g a b c)(l: ∀a b c,e a b c→f a b c→g a b c→G):G:=by rcases h with⟨a,b,c,i,j,k⟩;exact l a b c i j k
theorem x3_4.{u,o,p}{q:Sort u}{r:Sort o}{s:Sort p}{e f g i:q→r→s→Prop}{G:Prop}(h: ∃a b c,e a b c∧f a b c∧g a b c∧i a b c)(n: ∀a b c,e a b c→f a b c→g a b c→i a b c→G):G:=by rcases h with⟨a,b,c,j,k,l,m⟩;exact n a b c j k l m
theorem x3_5.{u,q,r}{s:Sort u}{t:Sort q}{v:Sort r}{e f g i j:s→t→v→Prop}{G:Prop}(h: ∃a b c,e a b c∧f a b c∧g a b c∧i a b c∧j a b c)(p: ∀a b c,e a b c→f a b c→g a b c→i a b c→j a b c→G):G:=by rcases h with⟨a,b,c,k,l,m,n,o⟩;exact p a b c k l m n o
theorem x3_6.{u,s,t}{v:Sort u}{w:Sort s}{x:Sort t}{e f g i j k:v→w→x→Prop}{G:Prop}(h: ∃a b c,e a b c∧f a b c∧g a b c∧i a b c∧j a b c∧k a b c)(r: ∀a b c,e a b c→f a b c→g a b c→i a b c→j a b c→k a b c→G):G:=by rcases h with⟨a,b,c,l,m,n,o,p,q⟩;exact r a b c l m n o p q
theorem x4_2.{u,l,m,n}{o:Sort u}{p:Sort l}{q:Sort m}{r:Sort n}{e f:o→p→q→r→Prop}{G:Prop}(h: ∃a b c k,e a b c k∧f a b c k)(j: ∀a b c k,e a b c k→f a b c k→G):G:=by rcases h with⟨a,b,c,k,g,i⟩;exact j a b c k g i
theorem x4_3.{u,n,o,p}{q:Sort u}{r:Sort n}{s:Sort o}{t:Sort p}{e f g:q→r→s→t→Prop}{G:Prop}(h: ∃a b c k,e a b c k∧f a b c k∧g a b c k)(m: ∀a b c k,e a b c k→f a b c k→g a b c k→G):G:=by rcases h with⟨a,b,c,k,i,j,l⟩;exact m a b c k i j l
theorem x4_4.{u,p,q,r}{s:Sort u}{t:Sort p}{v:Sort q}{w:Sort r}{e f g i:s→t→v→w→Prop}{G:Prop}(h: ∃a b c k,e a b c k∧f a b c k∧g a b c k∧i a b c k)(o: ∀a b c k,e a b c k→f a b c k→g a b c k→i a b c k→G):G:=by rcases h with⟨a,b,c,k,j,l,m,n⟩;exact o a b c k j l m n
theorem x4_5.{u,r,s,t}{v:Sort u}{w:Sort r}{x:Sort s}{y:Sort t}{e f g i j:v→w→x→y→Prop}{G:Prop}(h: ∃a b c k,e a b c k∧f a b c k∧g a b c k∧i a b c k∧j a b c k)(q: ∀a b c k,e a b c k→f a b c k→g a b c k→i a b c k→j a b c k→G):G:=by rcases h with⟨a,b,c,k,l,m,n,o,p⟩;exact q a b c k l m n o p
theorem x4_7.{v,w,x,y}{A:Sort v}{B:Sort w}{C:Sort x}{H:Sort y}{e f g i j l m:A→B→C→H→Prop}{G:Prop}(h: ∃a b c k,e a b c k∧f a b c k∧g a b c k∧i a b c k∧j a b c k∧l a b c k∧m a b c k)(u: ∀a b c k,e a b c k→f a b c k→g a b c k→i a b c k→j a b c k→l a b c k→m a b c k→G):G:=by rcases h with⟨a,b,c,k,n,o,p,q,r,s,t⟩;exact u a b c k n o p q r s t
theorem x8_3.{u,r,s,t,v,w,x,y}{A:Sort u}{B:Sort r}{C:Sort s}{H:Sort t}{I:Sort v}{U:Sort w}{α6:Sort x}{α7:Sort y}{g l m:A→B→C→H→I→U→α6→α7→Prop}{G:Prop}(h: ∃a b c k e f i j,g a b c k e f i j∧l a b c k e f i j∧m a b c k e f i j)(q: ∀a b c k e f i j,g a b c k e f i j→l a b c k e f i j→m a b c k e f i j→G):G:=by rcases h with⟨a,b,c,k,e,f,i,j,n,o,p⟩;exact q a b c k e f i j n o p
theorem x8_9.{I,U,u2,u3,u4,u5,u6,u7}{α0:Sort I}{α1:Sort U}{α2:Sort u2}{α3:Sort u3}{α4:Sort u4}{α5:Sort u5}{α6:Sort u6}{α7:Sort u7}{g l m n o p q r s:α0→α1→α2→α3→α4→α5→α6→α7→Prop}{G:Prop}(h: ∃a b c k e f i j,g a b c k e f i j∧l a b c k e f i j∧m a b c k e f i j∧n a b c k e f i j∧o a b c k e f i j∧p a b c k e f i j∧q a b c k e f i j∧r a b c k e f i j∧s a b c k e f i j)(H: ∀a b c k e f i j,g a b c k e f i j→l a b c k e f i j→m a b c k e f i j→n a b c k e f i j→o a b c k e f i j→p a b c k e f i j→q a b c k e f i j→r a b c k e f i j→s a b c k e f i j→G):G:=by rcases h with⟨a,b,c,k,e,f,i,j,t,u,v,w,x,y,A,B,C⟩;exact H a b c k e f i j t u v w x y A B C
section
set_option compiler.extract_closed false
open Lean Parser.Tactic in
local macro_rules
  | `(tactic| show $t) => `(tactic| first | refine (?_ : $t) | change $t)
open Lean Parser.Tactic in
local macro_rules
  | `(tactic| obtain ⟨$ps,*⟩ := $e:term) => do
    let b := if e.raw.isIdent then e.raw.getId.toString else "w"
    let mut xs := #[]
    let mut t ← `(tactic| skip)
    for p in ps.getElems do
      let q := p.raw[0][0]
      let x := q[0][0]
      if q.getNumArgs == 1 && x.isIdent && x.getId != `rfl then xs := xs.push ⟨x⟩
      else
        let y ← if q[0].getNumArgs > 1 || q.getNumArgs > 1 || x.isIdent then pure (mkIdent (Name.mkSimple s!"{b}'{xs.size}")) else pure (mkIdent (← Macro.addMacroScope `w))
        xs := xs.push y
        if x.isIdent && q.getNumArgs == 1 then t ← `(tactic| ($t:tactic; first | subst $y:ident | cases $y:ident))
        else if q[0].getNumArgs > 1 || q.getNumArgs > 1 then t ← `(tactic| ($t:tactic; obtain $(⟨p.raw[0]⟩):rcasesPatMed := $y:ident))
    let n := xs.size
    let mut m ← `(tactic| fail)
    for i in [0:n] do
      m ← `(tactic| first | refine $(mkIdent (Name.mkSimple s!"x{n - 1 - i}_{i + 1}")) $e fun $xs* => ?_ | $m:tactic)
    let c ← if e.raw.isIdent && !(xs.any fun x => x.raw.getId == e.raw.getId) then `(tactic| try clear $(⟨e.raw⟩):ident) else `(tactic| skip)
    `(tactic| first | ($m:tactic; $c:tactic; $t:tactic) | rcases $e:term with ⟨$ps,*⟩)
open Lean Parser.Tactic in
local macro_rules
  | `(tactic| cases $h:ident) => `(tactic| first
    | (injection $h:ident with w1 w2 w3 w4; subst w1 w2 w3 w4)
    | (injection $h:ident with w1 w2 w3; subst w1 w2 w3)
    | (injection $h:ident with w1 w2; subst w1 w2)
    | (injection $h:ident with w1; subst w1)
    | (injection $h:ident; done)
    | cases ($h:ident))
open Lean Parser.Tactic in
local macro_rules
  | `(tactic| rw [$rs,*]) => do
    let mut t ← `(tactic| skip)
    for r in rs.getElems do
      let e : Term := ⟨r.raw[1]⟩
      let f ← if r.raw[0].isNone then `(rwl $e ?_) else `(rwr $e ?_)
      t ← if (e.raw.find? fun q => q.isOfKind ``Lean.Parser.Term.syntheticHole).isSome then `(tactic| ($t:tactic; rewrite [$r])) else `(tactic| ($t:tactic; first | refine $f | rewrite [$r]))
    `(tactic| ($t:tactic; try (with_reducible rfl)))
section
theorem runs_size(h:Runs a Γ p t f s e s'):s.heap.objs.size≤s'.heap.objs.size:=by
 induction h<;>(try simp only[Shared.setGen,fM,Heap.size_after_update]at*)<;>first|exact XG|exact z7 (by assumption)|exact sR (by assumption)|exact XF (by assumption) (by assumption)
theorem Im(h:Returns a Γ p s r s'):s.heap.objs.size≤s'.heap.objs.size:=runs_size h
theorem IV(h:Wakes a Γ p g r s f s'):s.heap.objs.size≤s'.heap.objs.size:=by
 unfold Wakes at h
 split at h
 ·exact h.elim
 ·split at h
  ·obtain ⟨e,c,b,_,_,rfl⟩:=h;exact(runs_size b:(s.setGen g .running).heap.objs.size≤c.heap.objs.size)
  ·rw[h.2];exact bo _
  ·rw[h.2];exact bo _
 ·obtain ⟨e,c,b,_,_,rfl⟩:=h;exact(runs_size b:(s.setGen g .running).heap.objs.size≤c.heap.objs.size)
 ·rw[h.2];exact bo _
 ·rw[h.2];exact bo _
theorem K9{α:Type}(l:Model)(Γ:Ctx)(n:Nat)(t:aX α): ∀(b:α→Pos→au→Prop) (E:T→Pos→au→Prop) (p:Pos) (s:au),n≤s.heap.objs.size→Sem.wp l Γ t b E p s→
  Sem.wp l Γ t (λa u s'=>n≤s'.heap.objs.size∧b a u s') (λe u s'=>n≤s'.heap.objs.size∧E e u s') p s:=by
 induction t with
 |pure a=>intro b E p s i h;exact⟨i,h⟩
 |raise e=>intro b E p s i h;exact⟨i,h⟩
 |unsupported _=>intro b E p s _ h;exact h
 |finish _=>intro b E p s _ h;exact h
 |rule _ k j=>intro b E p s i h;exact j () b E p s i h
 |«at» u k j=>intro b E p s i h;exact j () b E u s i h
 |load a _ k j=>intro b E p s i h;obtain ⟨o,y,h⟩:=h;exact⟨o,y,j o b E p s i h⟩
 |update a _ f k j=>intro b E p s i h;exact⟨h.1,j () b E p _ (by rw[Heap.size_after_update];exact i) h.2⟩
 |loadIfAlive a k j=>intro b E p s i h;exact j _ b E p s i h
 |point _ k j=>intro b E p s i h;exact j () b E p s i h
 |register _ _=>intro b E p s _ h;exact h
 |alloc o k j=>intro b E p s i h;exact j _ b E p _ (by rw[fM];exact Nat.le_succ_of_le i) h
 |fresh k j=>intro b E p s i h;exact j _ b E p _ i h
 |ask k j=>intro b E p s i h;exact j _ b E p s i h
 |choose C m k j=>intro b E p s i h;exact⟨h.1,j _ b E p _ i h.2⟩
 |os q _ k j=>intro b E p s i h;exact j _ b E p _ i h
 |call c G _ _ k j=>intro b E p s i h;obtain ⟨r,s',w,h⟩:=h;exact⟨r,s',w,j r b E p s' (Nat.le_trans i<|Im w) h⟩
 |handled B k j=>intro b E p s i h;exact j _ b E p s i h
 |genState g k j=>intro b E p s i h;obtain ⟨st,A,h⟩:=h;exact⟨st,A,j _ b E p s i h⟩
 |newGen c k j=>intro b E p s i h;exact j _ b E p _ i h
 |resume g r _ k j=>intro b E p s i h;obtain ⟨v,s',x,h⟩:=h;exact⟨v,s',x,j v b E p s' (Nat.le_trans i<|IV x) h⟩
 |yield _ _ _ _=>intro b E p s _ h;exact h
 |stack k j=>intro b E p s i h;exact j _ b E p s i h
 |fork _ _=>intro b E p s _ h;exact h
 |thread k j=>intro b E p s i h;exact j _ b E p s i h
 |await _ _ _ _ _=>intro b E p s _ h;exact h
theorem pI{α:Type}{b:Model}{A:a9}{s:au}{t:aX α}{c:α→au→Prop}{E:T→au→Prop}
  (h:ar b A t (λa s'=>s.heap.objs.size≤s'.heap.objs.size→c a s') (λe s'=>s.heap.objs.size≤s'.heap.objs.size→E e s') s):ar b A t c E s:=by
 have f:ar b A t (λa s'=>s.heap.objs.size≤s'.heap.objs.size∧(s.heap.objs.size≤s'.heap.objs.size→c a s')) (λe s'=>s.heap.objs.size≤s'.heap.objs.size∧(s.heap.objs.size≤s'.heap.objs.size→E e s')) s:=
  λΓ p g=>K9 b Γ s.heap.objs.size t (λa _ s'=>s.heap.objs.size≤s'.heap.objs.size→c a s') (λe _ s'=>s.heap.objs.size≤s'.heap.objs.size→E e s') p s (bo _)<|h Γ p g
 exact bq f (λ_ _ x=>x.2 x.1) λ_ _ x=>x.2 x.1
end
section
inductive V where
 |lbl (k:M)
 |p (x:P)
 deriving Inhabited
inductive af where
 |list (vs:Y P)
 |dict (es:Y (P×V))
 |inst (C:M) (fs:Y (M×V))
 |junk
 deriving Inhabited
inductive R(α:Type) where
 |ok (a:α) (H:Y af)
 |exc (k:J)
 |err
noncomputable def R.bind{α β:Type}(r:R α)(f:α→Y af→R β):R β:=match r with
 | .ok a H=>f a H
 | .exc k=> .exc k
 | .err=> .err
theorem R.bind_assoc{α β γ:Type}(r:R α)(f:α→Y af→R β)(k:β→Y af→R γ):(r.bind f).bind k=r.bind λa H=>(f a H).bind k:=by cases r<;>rfl
structure Tb where
 at_:M→an
 cls:M→ay
 hash:P→J
 attrs:M→Y M
abbrev Fz:=ay→d Obj
noncomputable abbrev fS(x:aQ T)(n:M):Obj:={cls:= .type "tuple",data:= .seq x n}
noncomputable abbrev cj(b:aQ fe)(n:M):Obj:={cls:= .type "dict",data:= .dict b n}
section
variable(tb:Tb)(F:Fz)
mutual
def PR:P→T→Prop
 | .none,u=>u= .none
 | .bool b,u=>u= .bool b
 | .int i,u=> ∃t,u= .int i t
 | .str s,u=> ∃t,u= .str ⟨s.toArray⟩ t
 | .bytes s,u=>(∀n∈s,n<256)∧ ∃t,u= .bytes ⟨s.map dw⟩ t
 | .tup vs,u=> ∃a n x,u= .ref a∧F a=z (fS x n)∧be vs x.toList
 | .list vs,u=> ∃a n x,u= .ref a∧F a=z (ci x n)∧be vs x.toList
 | .dict e,u=> ∃a n c,u= .ref a∧F a=z (cj c n)∧ky e c.toList∧(e.map (·.1)).Nodup∧(a==eJ)=N
 | .inst C f,u=> ∃a k n c,u= .ref a∧F a=z (instObj (tb.cls C) k)∧F k=z (cj c n)∧tD f c.toList
def be:Y P→Y T→Prop
 | [],b=>b= []
 |p::c,b=> ∃u a,b=u::a∧PR p u∧be c a
def ky:Y (P×P)→Y fe→Prop
 | [],b=>b= []
 |(k,v)::c,b=> ∃e a,b=e::a∧PR k e.key∧e.hash=tb.hash k∧PR v e.val∧ky c a
def tD:Y (M×P)→Y fe→Prop
 | [],b=>b= []
 |(k,v)::c,b=> ∃e a,b=e::a∧(∃t,e.key= .str (tb.at_ k) t)∧PR v e.val∧tD c a
end
end
theorem pL(h:be t F a e)(k:be t F b vs):be t F (a++b)<|e++vs:=by
 induction a generalizing e with
 |nil=>cases h;exact k
 |cons p j i=>obtain ⟨u,c,rfl,f,g⟩:=h;exact⟨u,c++vs,O,f,i g⟩
theorem nc(h:be t F a b):b.length=a.length:=by
 induction a generalizing b with
 |nil=>cases h;rfl
 |cons p g i=>obtain ⟨u,c,rfl,f,e⟩:=h;exact aR (· +1)<|i e
theorem rK{t:Tb}{F:Fz}{a:Y P}{b:Y T}(h:be t F a b){i:M}{p:P}(e:a[i]? =z p): ∃u,b[i]? =z u∧PR t F p u:=by
 induction a generalizing b i with
 |nil=>cases e
 |cons q k g=>
  obtain ⟨u,j,rfl,c,f⟩:=h
  cases i with
  |zero=>cases e;exact⟨u,O,c⟩
  |succ i=>exact g f e
section
variable{tb:Tb}{F F':Fz}(hF: ∀a o,F a=z o→F' a=z o)
include hF
theorem PR.mono(h:PR tb F p u):PR tb F' p u:=by
 refine P.rec (motive_1:=λp=> ∀u,PR tb F p u→PR tb F' p u) (motive_2:=λp=> ∀u,be tb F p u→be tb F' p u) (motive_3:=λp=> ∀u,ky tb F p u→ky tb F' p u) (motive_4:=λp=> ∀u,tD tb F p u→tD tb F' p u)
  (motive_5:=λq=>(∀u,PR tb F q.1 u→PR tb F' q.1 u)∧ ∀u,PR tb F q.2 u→PR tb F' q.2 u) (motive_6:=λq=> ∀u,PR tb F q.2 u→PR tb F' q.2 u)
  (λ_ h=>h) (λ_ _ h=>h) (λ_ _ h=>h) (λ_ _ h=>h) (λ_ _ h=>h) ?_ ?_ ?_ ?_ (λ_ h=>h) ?_ (λ_ h=>h) ?_ (λ_ h=>h) ?_ (λ_ _ a b=>⟨a,b⟩) (λ_ _ a=>a) p u h
 ·intro vs i u h;obtain ⟨a,n,x,c,e,f⟩:=h;exact⟨a,n,x,c,hF _ _ e,i _ f⟩
 ·intro vs i u h;obtain ⟨a,n,x,c,e,f⟩:=h;exact⟨a,n,x,c,hF _ _ e,i _ f⟩
 ·intro vs i u h;obtain ⟨a,n,x,c,e,f,g⟩:=h;exact⟨a,n,x,c,hF _ _ e,i _ f,g⟩
 ·intro C vs i u h;obtain ⟨a,k,n,x,c,e,f,g⟩:=h;exact⟨a,k,n,x,c,hF _ _ e,hF _ _ f,i _ g⟩
 ·intro p w j v u h;obtain ⟨a,b,c,e,f⟩:=h;exact⟨a,b,c,j _ e,v _ f⟩
 ·intro p w j v u h;obtain ⟨a,b,c,e,f,g,y⟩:=h;exact⟨a,b,c,j.1 _ e,f,j.2 _ g,v _ y⟩
 ·intro p w j v u h;obtain ⟨a,b,c,e,f,g⟩:=h;exact⟨a,b,c,e,j _ f,v _ g⟩
theorem be.mono(h:be tb F p u):be tb F' p u:=by
 induction p generalizing u with
 |nil=>exact h
 |cons q g i=>obtain ⟨a,b,c,e,f⟩:=h;exact⟨a,b,c,e.mono hF,i f⟩
theorem ky.mono(h:ky tb F p u):ky tb F' p u:=by
 induction p generalizing u with
 |nil=>exact h
 |cons q k j=>obtain ⟨a,b,c,e,f,g,i⟩:=h;exact⟨a,b,c,e.mono hF,f,g.mono hF,j i⟩
end
abbrev c_:=ay×d ay
structure Gh where
 F:Fz
 as:Y c_
noncomputable def bU(a:Y c_):Y ay:=a.flatMap λp=>p.1::p.2.toList
theorem labs_append(a b:Y c_):bU (a++b)=bU a++bU b:=by simp[bU]
def VR(t:Tb)(g:Gh):V→T→Prop
 | .lbl k,u=> ∃p,g.as[k]? =z p∧u= .ref p.1
 | .p x,u=>PR t g.F x u
def aV{γ δ:Type}(b:γ→δ→Prop):Y γ→Y δ→Prop
 | [],e=>e= []
 |c::f,e=> ∃u a,e=u::a∧b c u∧aV b f a
noncomputable def dJ{α β:Type}(f:α→d β):Y α→d (Y β)
 | []=>z []
 |p::c=>(f p).bind λi=>(dJ f c).bind λl=>z<|i::l
theorem bw{α β:Type}{o:d α}{f:α→d β}{b:β}{G:Prop}(h:o.bind f=some b)(k: ∀a,o=some a→f a=some b→G):G:=by
 cases o with
 |none=>cases h
 |some a=>exact k a O h
section
variable{γ δ γ':Type}{ad' Q':γ→δ→Prop}{Q2:γ'→δ→Prop}{cs ds:Y γ}{us vs:Y δ}
theorem aV.impM(h:aV ad' cs us)(k: ∀c u,c∈cs→ad' c u→Q' c u):aV Q' cs us:=by
 induction cs generalizing us with
 |nil=>exact h
 |cons c cs i=>obtain ⟨u,a,rfl,b,e⟩:=h;exact⟨u,a,O,k c u (.head _) b,i e λc u f=>k c u<|.tail _ f⟩
theorem aV.impMr(h:aV ad' cs us)(k: ∀c u,u∈us→ad' c u→Q' c u):aV Q' cs us:=by
 induction cs generalizing us with
 |nil=>exact h
 |cons c cs i=>obtain ⟨u,a,rfl,b,e⟩:=h;exact⟨u,a,O,k c u (.head _) b,i e λc u f=>k c u<|.tail _ f⟩
theorem aV.imp(h:aV ad' cs us)(k: ∀c u,ad' c u→Q' c u):aV Q' cs us:=h.impM λc u _=>k c u
theorem aV.length(h:aV ad' cs us):us.length=cs.length:=by
 induction cs generalizing us with
 |nil=>cases h;rfl
 |cons p c i=>obtain ⟨u,a,rfl,b,e⟩:=h;exact aR (· +1)<|i e
theorem aV.at(h:aV ad' cs us){i:M}{c:γ}(e:cs[i]? =z c): ∃u,us[i]? =z u∧ad' c u:=by
 induction cs generalizing us i with
 |nil=>cases e
 |cons q p f=>
  obtain ⟨u,g,rfl,b,a⟩:=h
  cases i with
  |zero=>cases e;exact⟨u,O,b⟩
  |succ i=>exact f a e
theorem aV.get(h:aV ad' cs us)(j:M)(b:j<us.length)(a:j<cs.length):ad' cs[j] us[j]:=by
 obtain ⟨u,e,q⟩:=h.at<|de a
 rw[de b]at e
 exact aY e▸q
theorem aV.append(h:aV ad' cs us)(k:aV ad' ds vs):aV ad' (cs++ds)<|us++vs:=by
 induction cs generalizing us with
 |nil=>cases h;exact k
 |cons p c i=>obtain ⟨u,a,rfl,b,e⟩:=h;exact⟨u,a++vs,O,b,i e⟩
theorem aV.reverse(h:aV ad' cs us):aV ad' cs.reverse us.reverse:=by
 induction cs generalizing us with
 |nil=>cases h;rfl
 |cons p c i=>
  obtain ⟨u,a,rfl,b,e⟩:=h
  rw[List.reverse_cons,List.reverse_cons]
  exact(i e).append ⟨u,[],O,b,O⟩
theorem aV.all{f:γ→d γ'}{a:Y γ'}(e:dJ f cs=z a)(h:aV ad' cs us)(k: ∀c g u,f c=z g→ad' c u→Q2 g u):aV Q2 a us:=by
 induction cs generalizing us a with
 |nil=>cases e;exact h
 |cons c cs p=>
  obtain ⟨u,b,rfl,n,o⟩:=h
  exact bw e λi j h=>bw h λl m h=>by rw[←aY h];exact⟨u,b,O,k c i u j n,p m o⟩
theorem aV.map{f:γ→γ'}(h:aV ad' cs us)(k: ∀c u,ad' c u→Q2 (f c) u):aV Q2 (cs.map f) us:=by
 induction cs generalizing us with
 |nil=>exact h
 |cons c cs i=>obtain ⟨u,a,rfl,b,e⟩:=h;exact⟨u,a,O,k c u b,i e⟩
end
theorem xW{α β γ:Type}{f:α→d β}{p:α→γ}{q:β→γ}(k: ∀a b,f a=z b→q b=p a){c:Y α}{e:Y β}(h:dJ f c=z e):e.map q=c.map p:=by
 induction c generalizing e with
 |nil=>cases h;rfl
 |cons a c m=>exact bw h λi g h=>bw h λl j h=>by rw[←aY h,ee,ee,k a i g,m j]
abbrev DE{α:Type}(t:Tb)(F:Fz)(b:α→T→Prop)(e:P×α)(k:fe):Prop:=PR t F e.1 k.key∧k.hash=t.hash e.1∧b e.2 k.val
abbrev AE{α:Type}(a:Tb)(b:α→T→Prop)(e:M×α)(k:fe):Prop:=(∃t,k.key= .str (a.at_ e.1) t)∧b e.2 k.val
section
variable{tb:Tb}{F:Fz}
theorem rJ:be tb F f g↔aV (PR tb F) f g:=by
 induction f generalizing g with
 |nil=>exact Iff.rfl
 |cons p f i=>exact⟨λh=>by obtain ⟨u,a,b,c,e⟩:=h;exact⟨u,a,b,c,i.mp e⟩,λh=>by obtain ⟨u,a,b,c,e⟩:=h;exact⟨u,a,b,c,i.mpr e⟩⟩
theorem uP:ky tb F i k↔aV (DE tb F<|PR tb F) i k:=by
 induction i generalizing k with
 |nil=>exact Iff.rfl
 |cons p i j=>exact⟨λh=>by obtain ⟨u,a,b,c,e,f,g⟩:=h;exact⟨u,a,b,⟨c,e,f⟩,j.mp g⟩,λh=>by obtain ⟨u,a,b,⟨c,e,f⟩,g⟩:=h;exact⟨u,a,b,c,e,f,j.mpr g⟩⟩
theorem Dh:tD tb F g j↔aV (AE tb<|PR tb F) g j:=by
 induction g generalizing j with
 |nil=>exact Iff.rfl
 |cons p g i=>exact⟨λh=>by obtain ⟨u,a,b,c,e,f⟩:=h;exact⟨u,a,b,⟨c,e⟩,i.mp f⟩,λh=>by obtain ⟨u,a,b,⟨c,e⟩,f⟩:=h;exact⟨u,a,b,c,e,i.mpr f⟩⟩
end
abbrev eC(t:Tb)(g:Gh):Y V→Y T→Prop:=aV<|VR t g
abbrev fT(t:Tb)(g:Gh):Y (P×V)→Y fe→Prop:=aV<|DE t g.F<|VR t g
abbrev qU(t:Tb)(g:Gh):Y (M×V)→Y fe→Prop:=aV<|AE t<|VR t g
structure Ge(g g':Gh):Prop where
 F: ∀a o,g.F a=z o→g'.F a=z o
 as: ∃new,g'.as=g.as++new
theorem Ge.refl(g:Gh):Ge g g:=⟨λ_ _ e=>e,[],by simp⟩
theorem Ge.trans(x:Ge a b)(y:Ge b c):Ge a c:=⟨λ_ _ e=>y.F _ _<|x.F _ _ e,by
 obtain ⟨m,h⟩:=x.as
 obtain ⟨n,f⟩:=y.as
 exact⟨m++n,by rw[f,h,cz]⟩⟩
theorem Ge.at{g a:Gh}(x:Ge g a){k:M}{p:c_}(h:g.as[k]? =z p):a.as[k]? =z p:=by
 obtain ⟨m,c⟩:=x.as
 rw[c]
 obtain ⟨b,_⟩:=dH.mp h
 rw[t5 b];exact h
section
variable{tb:Tb}{g g':Gh}(x:Ge g g')
include x
theorem VR.mono{v:V}{u:T}(h:VR tb g v u):VR tb g' v u:=by
 cases v with
 |lbl k=>obtain ⟨p,b,e⟩:=h;exact⟨p,x.at b,e⟩
 |p y=>exact PR.mono x.F h
theorem eC.mono(h:eC tb g v u):eC tb g' v u:=h.imp λ_ _ q=>q.mono x
theorem fT.mono(h:fT tb g v u):fT tb g' v u:=h.imp λ_ _ q=>⟨PR.mono x.F q.1,q.2.1,q.2.2.mono x⟩
theorem qU.mono(h:qU tb g v u):qU tb g' v u:=h.imp λ_ _ q=>⟨q.1,q.2.mono x⟩
end
def gH(t:Tb)(g:Gh)(h:bB)(p:c_):af→Prop
 | .list vs=> ∃n x,h.get? p.1=z (ci x n)∧be t g.F vs x.toList
 | .dict e=> ∃n b,h.get? p.1=z (cj b n)∧fT t g e b.toList∧(e.map (·.1)).Nodup
 | .inst C f=> ∃k n b,p.2=z k∧h.get? p.1=z (instObj (t.cls C) k)∧h.get? k=z (cj b n)∧qU t g f b.toList
 | .junk=>True
structure Wd where
 prog:dX
 w:cH
 tb:Tb
 base:bB
 os:jb
 F0:Fz
 mg:an→d T
 mb:an→d T
 K:Frag
 sm:base.get? eJ≠D
structure aN(W:Wd)(g:Gh)(H:Y af)(s:au):Prop where
 f0: ∀a o,W.F0 a=z o→g.F a=z o
 fz: ∀a o,g.F a=z o→s.heap.get? a=z o
 len:g.as.length=H.length
 cell: ∀(k:M) (c:af) (p:c_),H[k]? =z c→g.as[k]? =z p→gH W.tb g s.heap p c
 nd:(bU g.as).Nodup
 nf: ∀a∈bU g.as,g.F a=D
 al: ∀a∈bU g.as,a<s.heap.objs.size
 nb: ∀a∈bU g.as,W.base.get? a=D
 st:W.base.StaysIn s.heap
 gens:s.gens= #[]
 os:s.os=W.os
structure aL(X:Y ay)(g:Gh)(s:au)(g':Gh)(s':au):Prop where
 ge:Ge g g'
 only: ∀a o,s.heap.get? a=z o→a∉bU g.as→a∉X→s'.heap.get? a=z o
 frF: ∀a o,g'.F a=z o→g.F a=z o∨s.heap.objs.size≤a
 frL: ∀a∈bU g'.as,a∈bU g.as∨s.heap.objs.size≤a
 sz:s.heap.objs.size≤s'.heap.objs.size
theorem aL.refl(X:Y ay)(g:Gh)(s:au):aL X g s g s:=⟨.refl g,λ_ _ e _ _=>e,λ_ _ e=> .inl e,λ_ h=> .inl h,bo _⟩
theorem aL.trans(x:aL X g s f j)(y:aL X f j i k):aL X g s i k:=by
 refine⟨x.ge.trans y.ge,λa o e b c=>y.only a o (x.only a o e b c) (λh=> ?_) c,λa o e=> ?_,λa h=> ?_,bF x.sz y.sz⟩
 ·rcases x.frL a h with q|q
  ·exact b q
  ·exact absurd (cI e) (dz.mpr q)
 ·rcases y.frF a o e with q|q
  ·exact x.frF a o q
  ·exact .inr (bF x.sz q)
 ·rcases y.frL a h with q|q
  ·exact x.frL a q
  ·exact .inr (bF x.sz q)
theorem aL.weaken(x:aL X g s c s')(h: ∀a∈X,a∈b):aL b g s c s':=
 ⟨x.ge,λa o e f i=>x.only a o e f λq=>i<|h a q,x.frF,x.frL,x.sz⟩
end
section
inductive bV where
 |dict (a:ay) (x:an)
 |cell (c:ay)
noncomputable def bV.addr:bV→ay
 | .dict a _=>a
 | .cell c=>c
def bV.holds(h:bB)(u:T):bV→Prop
 | .dict a x=> ∃m,h.Ns a m∧m x=z u
 | .cell c=>h.IsCell c<|z u
def bV.room(h:bB):bV→Prop
 | .dict a _=> ∃m,h.Ns a m
 | .cell c=> ∃v,h.IsCell c v
abbrev aj:=Y<|d V
theorem bV.room.get{h:bB}{b:bV}(x:b.room h): ∃o,h.get? b.addr=z o∧(∀vs,o.data≠ .fields vs):=by
 cases b with
 |dict a y=>obtain ⟨m,o,g,f,e,G,_⟩:=x;exact⟨o,e,λvs q=>by rw[G]at q;cases q⟩
 |cell c=>obtain ⟨v,o,e,G⟩:=x;exact⟨o,e,λvs q=>by rw[G]at q;cases q⟩
theorem bV.holds.keeps{h f:bB}{u:T}{b:bV}(x:b.holds h u)(k: ∀o,h.get? b.addr=z o→f.get? b.addr=z o):b.holds f u:=by
 cases b with
 |dict a y=>obtain ⟨m,⟨o,i,g,e,r⟩,j⟩:=x;exact⟨m,⟨o,i,g,k o e,r⟩,j⟩
 |cell c=>obtain ⟨o,e,G⟩:=x;exact⟨o,k o e,G⟩
theorem bV.room.keeps{h f:bB}{b:bV}(x:b.room h)(k: ∀o,h.get? b.addr=z o→f.get? b.addr=z o):b.room f:=by
 cases b with
 |dict a y=>obtain ⟨m,o,i,g,e,r⟩:=x;exact⟨m,o,i,g,k o e,r⟩
 |cell c=>obtain ⟨v,o,e,G⟩:=x;exact⟨v,o,k o e,G⟩
structure gh(W:Wd)(acc:Y bV)(loc:aj)(g:Gh)(s:au):Prop where
 val: ∀(i:M) (v:V),loc[i]? =z (z v)→ ∃ac u,acc[i]? =z ac∧ac.holds s.heap u∧VR W.tb g v u
 room: ∀ac∈acc,ac.room s.heap
 nd:acc.Nodup
 ap: ∀ac∈acc,ac.addr∉bU g.as∧g.F ac.addr=D∧W.base.get? ac.addr=D
 len:acc.length=loc.length
structure FI where
 scope:d9
 vars:Y (d (an×aT))
structure jw(fi:FI)(env:bj)(acc:Y bV)(l:Y bj):Prop where
 scope:env.scope=fi.scope
 kind:fi.scope.kind= .function
 glob:env.globals=fU
 bi:env.builtins=nZ
 top: ∃e l',l=e::l'∧env.frame=e.frame
 var: ∀(i:M) (x:an) (k:aT),fi.vars[i]? =z (z (x,k))→fi.scope.names.lookup x=z k∧
  ((k= .local∧acc[i]? =z (.dict env.locals x))∨((k= .cell∨k= .free)∧ ∃c,env.cells.lookup x=z c∧acc[i]? =z (.cell c)))
structure dK(W:Wd)(n:M)(A:a9)(l:Y bj)(g:Gh)(s:au):Prop where
 hd:A.handled=D
 fr:A.frames=z l
 dp:A.depth+4*n+8<recursionLimit
 un:A.units+30*n+100<cLine
 ff:s.heap.FunFrames W.base l
 fl: ∀env∈l,∀L,env.frame=z L→L∉bU g.as∧g.F L=D
structure dD(W:Wd):Prop where
 g:W.base.Ns fU W.mg
 b:W.base.Ns nZ W.mb
 lim:W.base.NoLimit
 bb: ∀x:an,x≠"__name__"→W.mb x=bootBuiltins x
 kin:W.K.In W.base
 inj: ∀i j,W.tb.at_ i=W.tb.at_ j→i=j
inductive z4(W:Wd)(a:ay)(h:bB)(vs:aQ Value):Prop
 |no (e:vs[1]? =z .none):z4 W a h vs
 |at(T:ay) (oT:Obj) (ts:aQ Value) (e:vs[1]? =z (.ref T)) (hb:W.base.get? T=D) (ha:T≠a) (ho:h.get? T=z oT) (hd:oT.data= .fields ts) (hs:3<ts.size):z4 W a h vs
inductive j8(W:Wd)(k:J)(a dx:ay)(h:bB):Prop
 |mk (oe:Obj) (vs:aQ T) (od:Obj) (n:M) (ds:aQ fe) (t tk:Tok) (h1:h.get? a=z oe) (h2:oe.cls= .ref (W.tb.cls 0)) (h3:oe.dict=z dx) (h4:oe.data= .fields vs)
  (h5:h.get? dx=z od) (h6:od.data= .dict ds n) (h7: ∃e,ds.toList= [e]∧e.key= .str (W.tb.at_ 0) t∧e.val= .int k tk) (h8:W.base.get? a=D) (h9:z4 W a h vs):j8 W k a dx h
structure jv(W:Wd)(l:Y bj)(X:Y ay)(g:Gh)(k:J)(e:T)(s s':au):Prop where
 exc: ∃a dx,e= .ref a∧j8 W k a dx s'.heap
 st:W.base.StaysIn s'.heap
 ff:s'.heap.FunFrames W.base l
 gens:s'.gens= #[]
 os:s'.os=W.os
 keep: ∀b o,s.heap.get? b=z o→b∉bU g.as→b∉X→(∀vs,o.data≠ .fields vs)→ ∃sl,s'.heap.get? b=z {o with slots:=sl}
section
variable{α β γ δ:Type}
inductive jB(W:Wd)(X:Y ay)(g:Gh)(s:au)(r:R β)(rel:Gh→β→α→Prop)(u:α)(s':au):Prop
 |mk (v:β) (H':Y af) (g':Gh) (e:r= .ok v H') (hR:aN W g' H' s') (hv:rel g' v u) (hG:aL X g s g' s'):jB W X g s r rel u s'
inductive bX(W:Wd)(l:Y bj)(X:Y ay)(g:Gh)(s:au)(r:R β)(e:T)(s':au):Prop
 |mk (k:J) (er:r= .exc k) (hx:jv W l X g k e s s'):bX W l X g s r e s'
def Cl(W:Wd)(A:a9)(l:Y bj)(X:Y ay)(g:Gh)(s:au)(t:aX α)(r:R β)(a:Gh→β→α→Prop):Prop:=
 r≠ .err→ar (av W.prog W.w) A t (jB W X g s r a) (bX W l X g s r) s
theorem jv.after(x:jv W l X f k e j m)(y:aL X g s f j):jv W l X g k e s m:=by
 obtain ⟨n,p,r,t,u,v⟩:=x
 refine⟨n,p,r,t,u,λb o c h a i=> ?_⟩
 refine v b o (y.only b o c h a) (λq=> ?_) a i
 rcases y.frL b q with q|q
 ·exact h q
 ·exact absurd (cI c) (dz.mpr q)
section
variable{W:Wd}{A:a9}{l:Y bj}{X:Y ay}{g g₁:Gh}{s s₁ s₂:au}{rel:Gh→β→α→Prop}{rel':Gh→δ→γ→Prop}
theorem jB.after(b:aL X g s g₁ s₁)(p:jB W X g₁ s₁ r rel u s₂):jB W X g s r rel u s₂:=p.casesOn λv H a e c f h=>⟨v,H,a,e,c,f,b.trans h⟩
theorem bX.after(b:aL X g s g₁ s₁)(p:bX W l X g₁ s₁ r e s₂):bX W l X g s r e s₂:=p.casesOn λk a h=>⟨k,a,h.after b⟩
theorem bX.bind(p:bX W l X g s r e s₂):bX W l X g s (r.bind k) e s₂:=p.casesOn λq a h=>⟨q,by rw[a];rfl,h⟩
theorem R.bindE{r:R β}{k:β→Y af→R δ}(h:r.bind k≠ .err):r≠ .err:=λe=>h<|by rw[e];rfl
theorem Cl.pure'(c:aN W g H s)(h:rel g v u):Cl W A l X g s (Sem.pure u) (.ok v H) rel:=λ_=>aA ⟨v,H,g,O,c,h, .refl _ _ _⟩
theorem Cl.later(h:Cl W A l X g₁ s₁ t r rel)(b:aL X g s g₁ s₁)(a:r≠ .err):ar (av W.prog W.w) A t (jB W X g s r rel) (bX W l X g s r) s₁:=bq (h a) (λ_ _=>jB.after b) λ_ _=>bX.after b
theorem Cl.seq{t:aX α}{r:R β}{k:β→Y af→R δ}(c:Cl W A l X g s t r rel){f:α→aX γ}(i: ∀v H a u s',r= .ok v H→aN W a H s'→rel a v u→aL X g s a s'→Cl W A l X a s' (f u) (k v H) rel')(h:r.bind k≠ .err):
  ar (av W.prog W.w) A t (λu s'=>ar (av W.prog W.w) A (f u) (jB W X g s (r.bind k) rel') (bX W l X g s<|r.bind k) s') (bX W l X g s<|r.bind k) s:=by
 refine bq (c<|R.bindE h) (λu s' p=> ?_) λe s'=>bX.bind
 obtain ⟨v,H,a,e,j,m,b⟩:=p
 subst e
 exact(i v H a u s' O j m b).later b h
theorem Cl.bind
  (b:Cl W A l X g s t r rel)(e: ∀v H a u s',r= .ok v H→aN W a H s'→rel a v u→aL X g s a s'→Cl W A l X a s' (f u) (k v H) rel'):
  Cl W A l X g s (t>>=f) (r.bind k) rel':=λh=>am<|b.seq e h
end
theorem Cl.holding(h:Cl W A l X g s t r b):Cl W A l X g s (holding vs t) r b:=
 λa=>b0<|h a
theorem dK.grow(x:dK W n A l g s)(G:aL X g s p s')(U: ∀a∈X,∀o,s.heap.get? a=some o→ ∃f,s'.heap.get? a=some f∧ ∀vs,f.data≠ .fields vs):dK W n A l p s':=by
 refine⟨x.hd,x.fr,x.dp,x.un,?_,λb c L v=> ?_⟩
 ·have m: ∀l:Y bj,s.heap.FunFrames W.base l→(∀b∈l,∀L,b.frame=some L→L∉bU g.as∧g.F L=none)→s'.heap.FunFrames W.base l:=by
   intro l
   induction l with
   |nil=>intro _ _;trivial
   |cons b B ih=>
    rintro ⟨C,⟨L,o,i,t,u,H⟩,I⟩ w
    refine⟨C,?_,ih I λe c=>w e<|.tail _ c⟩
    by_cases y:L∈X
    ·obtain ⟨f,k,j⟩:=U L y o u
     exact⟨L,f,i,t,k,j⟩
    ·exact⟨L,o,i,t,G.only L o u (w b (.head _) L i).1 y,H⟩
  exact m l x.ff x.fl
 ·have r:=x.fl b c L v
  have h:L<s.heap.objs.size:=by
   obtain ⟨_,o,ho,_⟩:=x.ff.mem<|List.mem_filterMap.mpr ⟨b,c,v⟩
   exact cI ho
  refine⟨λq=> ?_,?_⟩
  ·rcases G.frL L q with q|q
   ·exact r.1 q
   ·exact absurd h (dz.mpr q)
  ·cases q:p.F L with
   |none=>rfl
   |some o=>
    rcases G.frF L o q with q|q
    ·rw[r.2]at q;cases q
    ·exact absurd h (dz.mpr q)
theorem dK.grow0(x:dK W n A l g s)(G:aL [] g s a s'):dK W n A l a s':=x.grow G λ_ h=>nomatch h
theorem gh.grow{W:Wd}{a:Y bV}{l:aj}{g f:Gh}{s s':au}(x:gh W a l g s)(G:aL [] g s f s'):gh W a l f s':=by
 have k: ∀b∈a,∀o,s.heap.get? b.addr=some o→s'.heap.get? b.addr=some o:=λb h o y=>G.only _ o y (x.ap b h).1 (λq=>nomatch q)
 refine⟨λi v h=> ?_,λb h=>(x.room b h).keeps<|k b h,x.nd,λb h=> ?_,x.len⟩
 ·obtain ⟨b,u,e,j,m⟩:=x.val i v h
  exact⟨b,u,e,j.keeps<|k b<|dG e,m.mono G.ge⟩
 ·obtain ⟨o,y,_⟩:=(x.room b h).get
  have c:=cI y
  obtain ⟨e,j,m⟩:=x.ap b h
  refine⟨λq=> ?_,?_,m⟩
  ·rcases G.frL _ q with q|q
   ·exact e q
   ·exact absurd c (dz.mpr q)
  ·cases q:f.F b.addr with
   |none=>rfl
   |some n=>
    rcases G.frF _ _ q with q|q
    ·rw[j]at q;cases q
    ·exact absurd c (dz.mpr q)
theorem aN.toks(x:aN W g H s)(t:M):aN W g H {s with toks:=t}:=⟨x.f0,x.fz,x.len,x.cell,x.nd,x.nf,x.al,x.nb,x.st,x.gens,x.os⟩
theorem aL.toks(t:M):aL X g s g {s with toks:=t}:=⟨.refl g,λ_ _ e _ _=>e,λ_ _ e=> .inl e,λ_ h=> .inl h,bo _⟩
end
theorem gH.mono(x:gH t g h p c)(G:Ge g m)(k: ∀a∈p.1::p.2.toList,∀o,h.get? a=z o→q.get? a=z o):gH t m q p c:=by
 cases c with
 |list vs=>obtain ⟨n,r,e,f⟩:=x;exact⟨n,r,k _ (.head _) _ e,be.mono G.F f⟩
 |dict s=>obtain ⟨n,i,e,f,j⟩:=x;exact⟨n,i,k _ (.head _) _ e,fT.mono G f,j⟩
 |inst C u=>
  obtain ⟨b,n,i,l,e,f,j⟩:=x
  exact⟨b,n,i,l,k _ (.head _) _ e,k _ (by rw[l];simp) _ f,qU.mono G j⟩
 |junk=>trivial
theorem lV{b:Y c_}{k:M}{p:c_}(h:b[k]? =z p){a:ay}(c:a∈p.1::p.2.toList):a∈bU b:=
 tX.mpr ⟨p,dG h,c⟩
theorem aN.frozen(x:aN W g H s)(o:Obj)(n:o.isFreed=N):
  aN W ⟨λa=>if a=s.heap.objs.size then z o else g.F a,g.as⟩ H {s with heap:=s.heap.push o}:=by
 have i:Ge g ⟨λa=>if a=s.heap.objs.size then z o else g.F a,g.as⟩:=by
  refine⟨λa f e=> ?_,[],by simp⟩
  have:a≠s.heap.objs.size:=iz<|cI<|x.fz a f e
  simp only[this,if_false];exact e
 refine⟨λa f e=>i.F _ _<|x.f0 a f e,λa f e=> ?_,x.len,λk c p l m=>(x.cell k c p l m).mono i λa _ o e=>cf _ e,x.nd,λa h=> ?_,λa h=> ?_,x.nb,λb f e=>cf _<|x.st b f e,x.gens,x.os⟩
 ·by_cases h:a=s.heap.objs.size
  ·simp only[h,if_true]at e;cases e;subst h;exact d_ _ n
  ·simp only[h,if_false]at e;exact cf _<|x.fz a f e
 ·have:a≠s.heap.objs.size:=iz (x.al a h)
  simp only[this,if_false];exact x.nf a h
 ·show a<(s.heap.push o).objs.size
  rw[fM];exact wJ<|x.al a h
theorem aL.frozen(x:aN W g H s)(o:Obj):aL X g s ⟨λa=>if a=s.heap.objs.size then z o else g.F a,g.as⟩ {s with heap:=s.heap.push o}:=by
 refine⟨⟨λa f e=> ?_,[],by simp⟩,λa f e _ _=>cf _ e,λa f e=> ?_,λa h=> .inl h,by show _≤(s.heap.push o).objs.size;rw[fM];exact eR _⟩
 ·have:a≠s.heap.objs.size:=iz (cI<|x.fz a f e)
  simp only[this,if_false];exact e
 ·by_cases h:a=s.heap.objs.size
  ·exact .inr<|aM h.symm
  ·simp only[h,if_false]at e;exact .inl e
def il(W:Wd)(g:Gh)(a:ay):Prop:=a∉bU g.as∧g.F a=D∧W.base.get? a=D
def lH(W:Wd)(g:Gh)(h:bB)(b:Y ay):Prop:= ∀a∈b,il W g a
theorem aN.hide{W:Wd}{g:Gh}{H:Y af}{s:au}{f:Y ay}{l:bB}{t:M}(R:aN W g H s)(n:lH W g s.heap f)(k: ∀b o,b∉f→s.heap.get? b=z o→l.get? b=z o)(r:s.heap.objs.size≤l.objs.size):
  aN W g H {s with heap:=l,toks:=t}∧aL f g s g {s with heap:=l,toks:=t}:=by
 refine⟨⟨R.f0,λa o e=>k a o (λq=>by rw[(n a q).2.1]at e;cases e)<|R.fz a o e,R.len,λi c p u m=>(R.cell i c p u m).mono (.refl g) λa v o e=>k a o (λq=>(n a q).1<|lV m v) e,R.nd,R.nf,λa h=>je (R.al a h) r,R.nb,λb o e=>k b o (λq=>by rw[(n b q).2.2]at e;cases e)<|R.st b o e,R.gens,R.os⟩,
  ⟨.refl g,λa o e _ m=>k a o m e,λa o e=> .inl e,λa h=> .inl h,r⟩⟩
end
section
structure bD(W:Wd)(fi:FI)(n:M)(A:a9)(l:Y bj)(env:bj)(acc:Y bV)(loc:aj)(g:Gh)(H:Y af)(s:au):Prop where
 ev:jw fi env acc l
 sit:dK W n A l g s
 rep:aN W g H s
 lo:gh W acc loc g s
theorem bD.grow(x:bD W h n A l b a c g H s)(G:aL [] g s e s')(r:aN W e f s'):
  bD W h n A l b a c e f s':=⟨x.ev,x.sit.grow0 G,r,x.lo.grow G⟩
def SE(W:Wd)(h:FI)(n:M)(e:aP)(m:aj→Y af→R V):Prop:=
 ∀A l b c a g H s,bD W h n A l b c a g H s→Cl W A l [] g s (bn e b) (m a H) (VR W.tb)
def ST(W:Wd)(h:FI)(n:M)(e:aP)(m:aj→Y af→R ak):Prop:=
 ∀A l a f c g H s,bD W h n A l a f c g H s→Cl W A l [] g s (isTrue e a<|bn e a) (m c H) (λ_ b u=>u=b)
section
variable{α β γ:Type}{W:Wd}{A:a9}{l:Y bj}{X:Y ay}{g:Gh}{s:au}{H:Y af}
theorem Cl.val(e:aN W g H s)(h: ∀b E,(∀u a,r g v u→b u {s with toks:=a})→ar (av W.prog W.w) A t b E s):Cl W A l X g s t (.ok v H) r:=
 λ_=>h _ _ λu a f=>⟨v,H,g,O,e.toks a,f,aL.toks a⟩
theorem Cl.skip(h: ∀b E,b u s→ar (av W.prog W.w) A t b E s)(k:Cl W A l X g s (f u) r c):Cl W A l X g s (t>>=f) r c:=
 λa=>am<|h _ _<|k a
theorem Cl.of_imp(h: ∀b E,ar (av W.prog W.w) A t b E s→ar (av W.prog W.w) A e b E s)(k:Cl W A l X g s t r c):Cl W A l X g s e r c:=
 λa=>h _ _<|k a
theorem Cl.via{t:aX α}{p:aX γ}{f:α→γ}{r:R β}{m:Gh→β→α→Prop}{δ:Type}{φ:β→δ}{j:Gh→δ→γ→Prop}(h: ∀i E,ar (av W.prog W.w) A t (λc s'=>i (f c) s') E s→ar (av W.prog W.w) A p i E s)
  (k:Cl W A l X g s t r m)(B: ∀g b c,m g b c→j g (φ b) (f c)):Cl W A l X g s p (r.bind λb H=> .ok (φ b) H) j:=λn=>by
 have o:r≠ .err:=λe=>n (by rw[e];rfl)
 exact h _ _<|bq (k o) (λu s' ⟨v,w,y,e,a,b,c⟩=>⟨φ v,w,y,by rw[e];rfl,a,B _ _ _ b,c⟩) λe s' ⟨q,x,C⟩=>⟨q,by rw[x];rfl,C⟩
theorem Cl.err{t:aX α}{a:Gh→β→α→Prop}:Cl W A l X g s t .err a:=λh=>absurd rfl h
end
section
variable{W:Wd}{fi:FI}{n:M}
theorem SE.cNone:SE W fi n (.Constant .none k p) λ_ H=> .ok (.p .none) H:=λA l e a c g H s P=>Cl.val P.rep λb E k=>aA<|by have:=k .none s.toks O;exact this
theorem SE.cBool:SE W fi n (.Constant (.bool b) k p) λ_ H=> .ok (.p<|.bool b) H:=λA l e c f g H s P=>Cl.val P.rep λa E k=>aA<|by have:=k (.bool b) s.toks O;exact this
theorem SE.cInt:SE W fi n (.Constant (.int i) k p) λ_ H=> .ok (.p<|.int i) H:=λA l e a c g H s P=>Cl.val P.rep λb E k=>wpAny_mkInt<|k _ _ ⟨_,O⟩
theorem SE.cStr(h:x=⟨f.toArray⟩):SE W fi n (.Constant (.str x) k p) λ_ H=> .ok (.p<|.str f) H:=λA l e a c g H s P=>Cl.val P.rep λb E k=>qX<|k _ _ ⟨_,by rw[h]⟩
theorem SE.cBytes(h:f.map dw=b)(i: ∀n∈f,n<256):SE W fi n (.Constant (.bytes b) k p) λ_ H=> .ok (.p<|.bytes f) H:=λA l e c j g H s P=>Cl.val P.rep λa E k=>by
 show ar _ _ (mkTextBytes b.toArray) _ _ _
 unfold mkTextBytes
 refine am<|wpAny_fresh<|aA<|k _ _ ⟨i,s.toks,by rw[←h]⟩
noncomputable def aa(i:M):aj→Y af→R V:=λl H=>l[i]?.elim .err λo=>o.elim .err λv=> .ok v H
theorem Cl.opt{α β γ:Type}{A:a9}{l:Y bj}{X:Y ay}{g:Gh}{s:au}{r:Gh→β→α→Prop}{t:aX α}{o:d γ}{f:γ→R β}(h: ∀a,o=some a→Cl W A l X g s t (f a) r):Cl W A l X g s t (o.elim .err f) r:=by
 cases o with
 |none=>exact Cl.err
 |some a=>exact h a O
theorem D6{A l a p o g H s}(P:bD W fi n A l a p o g H s){i:M}{x:an}{k:aT}{v:V}(hv:fi.vars[i]? =z (z (x,k)))(C:(x==("__classdict__":an))=N)(e:o[i]? =z (z v)){b:T→au→Prop}{E:T→au→Prop}
  (q: ∀u,VR W.tb g v u→b u s):ar (av W.prog W.w) A (loadName a x) b E s:=by
 obtain ⟨ac,u,B,r,t⟩:=P.lo.val i v e
 obtain ⟨I,G⟩:=P.ev.var i x k hv
 have h:a.kindOf x=z k:=by unfold jP;rw[P.ev.scope];exact I
 have y:a.scope.kind= .function:=by rw[P.ev.scope];exact P.ev.kind
 rcases G with⟨rfl,f⟩|⟨w,c,j,f⟩
 ·rw[B]at f;cases f
  obtain ⟨m,hn,U⟩:=r
  exact tK y h hn U<|q u t
 ·rw[B]at f;cases f
  rcases w with rfl|rfl
  ·exact wpAny_loadName_cell y h j r (q u t)
  ·exact wpAny_loadName_free y h j r (q u t) C
theorem SE.loc{i:M}{x:an}{k:aT}{p}(m:fi.vars[i]? =z (z (x,k)))(G:(x==("__debug__":an))=N)(h:(x==("__classdict__":an))=N):SE W fi n (.Name x p)<|aa i:=λA l f a loc g H s P=>
 Cl.opt λo e=>Cl.opt λv c=>Cl.val P.rep λb E q=>wpAny_Name (D6 P m h (c▸e) λu j=>q u s.toks j) G
theorem SE.glob(a:dD W)(i:fi.scope.names.lookup x=z .globalImplicit)(f:W.mg x=z u)(h:PR W.tb W.F0 p u)(G:(x==("__debug__":an))=N):
  SE W fi n (.Name x j) (λ_ H=> .ok (.p p) H):=λA l e c loc g H s P=>Cl.val P.rep λb E q=>by
 have k:e.scope.kind= .function:=by rw[P.ev.scope];exact P.ev.kind
 refine Name_function_global k (by unfold jP;rw[P.ev.scope];exact i) (loadGlobal_global (by rw[P.ev.glob];exact a.g.keeps P.rep.st) f<|q u s.toks ?_) G
 exact PR.mono P.rep.f0 h
def ag(o:V→V→Y af→R V)(a b:aj→Y af→R V):aj→Y af→R V:=λl H=>(a l H).bind λx H=>(b l H).bind λy H=>o x y H
def du(W:Wd)(n:M)(t:T→T→aX T)(o:V→V→Y af→R V):Prop:= ∀A l g H s x y u v,dK W n A l g s→aN W g H s→VR W.tb g x u→VR W.tb g y v→Cl W A l [] g s (t u v) (o x y H) (VR W.tb)
theorem Cl.operate{A:a9}{l:Y bj}{X:Y ay}{g:Gh}{s:au}{vs:Y T}{t:aX T}{β:Type}{r:R β}{a:Gh→β→T→Prop}(h:Cl W A l X g s t r a):Cl W A l X g s (operate vs t) r a:=
 λb Γ p c=>by rw[Sem.wp_operate];exact h b Γ p c
theorem Cl.stand{A:a9}{l:Y bj}{X:Y ay}{g:Gh}{s:au}{α β:Type}{p:Pos}{t:aX α}{r:R β}{a:Gh→β→α→Prop}(h:Cl W A l X g s t r a):Cl W A l X g s (do dF p;t) r a:=
 Cl.skip (u:=()) (λb E q=>fc q) h
theorem SE.bin(q:SE W fi n x a)(r:SE W fi n y b)(t:du W n (iy C) o):SE W fi n (.BinOp x C y I)<|ag o a b:=λA l e c loc g H s P=>by
 rw[eval_BinOp]
 refine Cl.bind (q A l e c loc g H s P) λv k p u s' _ w B G=> ?_
 have j:=P.grow G w
 refine Cl.bind (Cl.holding<|r A l e c loc p k s' j) λv2 m g2 u2 U _ h f i=> ?_
 exact Cl.stand<|Cl.operate<|t A l g2 m U v v2 u u2 (j.grow i h).sit h (B.mono i.ge) f
theorem SE.cmp1(r:SE W fi n x a)(t:SE W fi n y b)(w:du W n (bN k) o)(C:behindInMarks k y=N):
  SE W fi n (.Compare x [k] [y] U) (ag o a b):=λA l e c loc g H s P=>by
 rw[eval_Compare1]
 refine Cl.bind (r A l e c loc g H s P) λv m q u s' _ B I G=> ?_
 have j:=P.grow G B
 rw[tP C]
 refine Cl.bind (Cl.holding<|t A l e c loc q m s' j) λv2 p g2 u2 s2 _ h f i=> ?_
 exact Cl.stand<|Cl.operate<|w A l g2 p s2 v v2 u u2 (j.grow i h).sit h (I.mono i.ge) f
noncomputable def j4:V→Y af→R ak
 | .p (.bool b),H=> .ok b H
 |_,_=> .err
theorem nh{A:a9}{l:Y bj}{X:Y ay}{g:Gh}{s:au}{H:Y af}{v:V}{u:T}(h:aN W g H s)(f:VR W.tb g v u):Cl W A l X g s (truthy u) (j4 v H) λ_ b c=>c=b:=by
 cases v with
 |lbl=>exact Cl.err
 |p p=>cases p with
  |bool b=>
   obtain rfl:u=_:=f
   exact Cl.val h λa E k=>tH<|k _ s.toks O
  |_=>exact Cl.err
def aq(m:aj→Y af→R V):aj→Y af→R ak:=λl H=>(m l H).bind j4
theorem ST.plain(h:SE W fi n e m)(i: ∀b w,isTrue e b w=(do let v←w;standAt e.pos;holding [v] (truthy v))):ST W fi n e<|aq m:=λA l b a c g H s P=>by
 rw[i]
 refine Cl.bind (h A l b a c g H s P) λv k o u s' _ f j G=> ?_
 exact Cl.stand<|Cl.holding<|nh f j
theorem ST.cmp1(C:SE W fi n x a)(I:SE W fi n y b)(U:du W n (bN t) o)(hm:behindInMarks t y=N):
  ST W fi n (.Compare x [t] [y] pos0') (aq<|ag o a b):=λA l h f c g H s P=>by
 rw[isTrue_Compare1]
 have e:aq (ag o a b) c H=(a c H).bind λx H=>(b c H).bind λy H=>(o x y H).bind j4:=by
  show R.bind (R.bind _ _) _=_
  rw[R.bind_assoc];exact aR _ (funext λv=>funext λq=>R.bind_assoc _ _ _)
 rw[e]
 refine Cl.bind (C A l h f c g H s P) λv q B u s' _ hR hv G=> ?_
 have r:=P.grow G hR
 rw[tP hm]
 refine Cl.bind (Cl.holding<|I A l h f c B q s' r) λv2 w g2 u2 s2 _ i k p=> ?_
 refine Cl.stand<|Cl.bind (Cl.operate<|U A l g2 w s2 v v2 u u2 (r.grow p i).sit i (hv.mono p.ge) k) λv3 H3 g3 u3 s3 _ j m G3=> ?_
 exact Cl.holding<|nh j m
def sG(m:aj→Y af→R ak):aj→Y af→R ak:=λl H=>(m l H).bind λb H=> .ok (!b) H
theorem ST.not(h:ST W fi n e m):ST W fi n (.UnaryOp .Not e p)<|sG m:=λA l b a c g H s P=>by
 show Cl W A l [] g s (do return !(←isTrue e b<|bn e b)) _ _
 refine Cl.bind (h A l b a c g H s P) λv j k u s' _ f i G=> ?_
 obtain rfl:u=v:=i
 exact Cl.pure' f O
def a_(a b:aj→Y af→R ak):aj→Y af→R ak:=λl H=>(a l H).bind λx H=>if x then b l H else .ok N H
def cy(a b:aj→Y af→R ak):aj→Y af→R ak:=λl H=>(a l H).bind λx H=>if x then .ok Q H else b l H
def jK(W:Wd)(fi:FI)(n:M)(o:BoolOp)(f:Y aP)(m:aj→Y af→R ak):Prop:=
 ∀A l e c a g H s,bD W fi n A l e c a g H s→Cl W A l [] g s (allTrue o f e) (m a H) (λ_ b u=>u=b)
theorem jK.andNil:jK W fi n .And [] λ_ H=> .ok Q H:=λA l b a c g H s P=>Cl.pure' P.rep O
theorem jK.orNil:jK W fi n .Or [] λ_ H=> .ok N H:=λA l b a c g H s P=>Cl.pure' P.rep O
theorem jK.and(o:ST W fi n e a)(p:jK W fi n .And i b):jK W fi n .And (e::i)<|a_ a b:=λA l c f h g H s P=>by
 show Cl W A l [] g s (isTrue e c (bn e c)>>=λb=>match BoolOp.And,b with| .And,N=>pure N| .Or,Q=>pure Q|_,_=>allTrue .And i c) _ _
 refine Cl.bind (o A l c f h g H s P) λv k m u s' _ j q G=> ?_
 obtain rfl:u=v:=q
 cases u
 ·exact Cl.pure' j O
 ·exact p A l c f h m k s'<|P.grow G j
theorem jK.or(o:ST W fi n e a)(p:jK W fi n .Or i b):jK W fi n .Or (e::i)<|cy a b:=λA l c f h g H s P=>by
 show Cl W A l [] g s (isTrue e c (bn e c)>>=λb=>match BoolOp.Or,b with| .And,N=>pure N| .Or,Q=>pure Q|_,_=>allTrue .Or i c) _ _
 refine Cl.bind (o A l c f h g H s P) λv k m u s' _ j q G=> ?_
 obtain rfl:u=v:=q
 cases u
 ·exact p A l c f h m k s'<|P.grow G j
 ·exact Cl.pure' j O
theorem ST.boolOp(h:jK W fi n o e m):ST W fi n (.BoolOp o e p) m:=λA l b a c g H s P=>h A l b a c g H s P
def ax{α:Type}(c:aj→Y af→R ak)(a b:aj→Y af→R α):aj→Y af→R α:=λl H=>(c l H).bind λx H=>if x then a l H else b l H
theorem SE.ite(p:ST W fi n c m)(k:SE W fi n x a)(o:SE W fi n y b):SE W fi n (.IfExp c x y r)<|ax m a b:=λA l e f loc g H s P=>by
 show Cl W A l [] g s (do if←isTrue c e<|bn c e then bn x e else bn y e) _ _
 refine Cl.bind (p A l e f loc g H s P) λv h i u s' _ j q G=> ?_
 obtain rfl:u=v:=q
 cases u
 ·exact o A l e f loc i h s'<|P.grow G j
 ·exact k A l e f loc i h s'<|P.grow G j
theorem ST.ite(q:ST W fi n c m)(o:ST W fi n x a)(p:ST W fi n y b):ST W fi n (.IfExp c x y t)<|ax m a b:=λA l e f h g H s P=>by
 show Cl W A l [] g s (do if←isTrue c e<|bn c e then isTrue x e<|bn x e else isTrue y e<|bn y e) _ _
 refine Cl.bind (q A l e f h g H s P) λv i j u s' _ k r G=> ?_
 obtain rfl:u=v:=r
 cases u
 ·exact p A l e f h j i s'<|P.grow G k
 ·exact o A l e f h j i s'<|P.grow G k
def lG(W:Wd)(fi:FI)(n:M)(p:Pos)(o:BoolOp)(e:Y aP)(m:aj→Y af→R V):Prop:=
 ∀A l b c a g H s,bD W fi n A l b c a g H s→Cl W A l [] g s (boolOp p o<|evalEach e b) (m a H) (VR W.tb)
def kr(a b:aj→Y af→R V):aj→Y af→R V:=λl H=>(a l H).bind λx H=>(j4 x H).bind λt H=>if t then b l H else .ok x H
def mA(a b:aj→Y af→R V):aj→Y af→R V:=λl H=>(a l H).bind λx H=>(j4 x H).bind λt H=>if t then .ok x H else b l H
theorem lG.one(h:SE W fi n e a):lG W fi n p o [e] a:=λA l c b f g H s P=>h A l c b f g H s P
theorem lG.and(x:SE W fi n e a)(y:lG W fi n p .And (k::m) b):lG W fi n p .And (e::k::m)<|kr a b:=λA l c f i g H s P=>by
 show Cl W A l [] g s (bn e c>>=λv=>dF p>>=λ_=>ek [v] (truthy v)>>=λt=>match BoolOp.And,t with| .And,N| .Or,Q=>pure v|_,_=>boolOp p .And<|evalEach (k::m) c) _ _
 refine Cl.bind (x A l c f i g H s P) λv C I u s' _ o q G=> ?_
 refine Cl.stand<|Cl.bind (Cl.holding<|nh o q) λt w g2 r U _ h B j=> ?_
 obtain rfl:r=t:=B
 cases r
 ·exact Cl.pure' h<|q.mono j.ge
 ·exact y A l c f i g2 w U<|(P.grow G o).grow j h
theorem lG.or(x:SE W fi n e a)(y:lG W fi n p .Or (k::m) b):lG W fi n p .Or (e::k::m)<|mA a b:=λA l c f i g H s P=>by
 show Cl W A l [] g s (bn e c>>=λv=>dF p>>=λ_=>ek [v] (truthy v)>>=λt=>match BoolOp.Or,t with| .And,N| .Or,Q=>pure v|_,_=>boolOp p .Or<|evalEach (k::m) c) _ _
 refine Cl.bind (x A l c f i g H s P) λv C I u s' _ o q G=> ?_
 refine Cl.stand<|Cl.bind (Cl.holding<|nh o q) λt w g2 r U _ h B j=> ?_
 obtain rfl:r=t:=B
 cases r
 ·exact y A l c f i g2 w U<|(P.grow G o).grow j h
 ·exact Cl.pure' h<|q.mono j.ge
theorem SE.boolOp(h:lG W fi n p o e m):SE W fi n (.BoolOp o e p) m:=λA l b a loc g H s P=>h A l b a loc g H s P
def nG(m:aj→Y af→R V):aj→Y af→R V:=λl H=>(m l H).bind λv H=>(j4 v H).bind λb H=> .ok (.p<|.bool<|!b) H
theorem SE.not{e:aP}{p}{m:aj→Y af→R V}(h:SE W fi n e m):SE W fi n (.UnaryOp .Not e p)<|nG m:=λA l f i loc g H s P=>by
 show Cl W A l [] g s (do let v←eval e f;standAt p;holding [v] (unaryOp .Not v)) _ _
 refine Cl.bind (h A l f i loc g H s P) λv o q u s' _ j k G=> ?_
 exact Cl.stand<|Cl.holding (Cl.via (λa E h=>not_of h) (nh j k) λg b c h=>by obtain rfl:c=b:=h;exact O)
def lX(a b c:aj→Y af→R V)(o f:V→V→Y af→R V):aj→Y af→R ak:=λl H=>
 (a l H).bind λx H=>(b l H).bind λy H=>(o x y H).bind λr H=>(j4 r H).bind λt H=>if t then(c l H).bind λe H=>(f y e H).bind j4 else .ok N H
theorem Cl.release{A:a9}{l:Y bj}{X:Y ay}{g:Gh}{s:au}{α β:Type}{vs k:Y T}{t:aX α}{r:R β}{a:Gh→β→α→Prop}(h:Cl W A l X g s t r a):Cl W A l X g s (release vs k>>=λ_=>t) r a:=
 Cl.skip (u:=()) (λb E q Γ p c=>by rw[rb];exact q) h
theorem ST.chain2(h1:SE W fi n x a)(h2:SE W fi n y b)(h3:SE W fi n f c)(h4:du W n (bN C) p1)(h5:du W n (bN o) p2)
  (hm:behindInMarks o f=N):ST W fi n (.Compare x [C,o] [y,f] p)<|lX a b c p1 p2:=λA l h i j g H s P=>by
 have e:isTrue (.Compare x [C,o] [y,f] p) h (eval (.Compare x [C,o] [y,f] p) h)=(do
   let u←eval x h
   testChain p u [C,o] [eval y h,markedBehindIn o f<|eval f h]):=O
 rw[e,tP hm]
 refine Cl.bind (h1 A l h i j g H s P) λv H' g' u s' _ hR hv G=> ?_
 have P':=P.grow G hR
 show Cl W A l [] g' s' (ek [u] (eval y h)>>=λr=>dF p>>=λ_=>ek [u,r] (bN C u r)>>=λc=>release [u,r] [c]>>=λ_=>ek [c,r] (truthy c)>>=λt=>if t=Q then testChain p r [o] [eval f h]else pure N) _ _
 refine Cl.bind (Cl.holding<|h2 A l h i j g' H' s' P') λv2 H2 g2 I s2 _ k B G2=> ?_
 have P2:=P'.grow G2 k
 refine Cl.stand<|Cl.bind (Cl.holding<|h4 A l g2 H2 s2 v v2 u I P2.sit k (hv.mono G2.ge) B) λv3 H3 g3 u3 s3 _ m hv3' G3=> ?_
 refine Cl.release ?_
 refine Cl.bind (Cl.holding<|nh m hv3') λt H4 g4 t' s4 _ q ht G4=> ?_
 obtain rfl:t'=t:=ht
 cases t'
 ·exact Cl.pure' q O
 ·have P4:=(P2.grow G3 m).grow G4 q
  show Cl W A l [] g4 s4 (ek [I] (eval f h)>>=λr=>dF p>>=λ_=>operate [I,r] (bN o I r)>>=λc=>ek [c]<|truthy c) _ _
  refine Cl.bind (Cl.holding<|h3 A l h i j g4 H4 s4 P4) λv5 H5 g5 u5 s5 _ w hv5' G5=> ?_
  refine Cl.stand<|Cl.bind (Cl.operate<|h5 A l g5 H5 s5 v2 v5 I u5 (P4.grow G5 w).sit w (((B.mono G3.ge).mono G4.ge).mono G5.ge) hv5') λv6 H6 g6 u6 s6 _ U hv6' G6=> ?_
  exact Cl.holding<|nh U hv6'
end
end
section
open PySem.MeetsSeq PySem.SeqAt
noncomputable def j5(p:P):d J:=p.casesOn D (λ_=>D) z (λ_=>D) (λ_=>D) (λ_=>D) (λ_=>D) (λ_=>D) λ_ _=>D
noncomputable def yR(p:P):d ak:=p.casesOn D z (λ_=>D) (λ_=>D) (λ_=>D) (λ_=>D) (λ_=>D) (λ_=>D) λ_ _=>D
noncomputable def oE(p:P):d<|Y M:=p.casesOn D (λ_=>D) (λ_=>D) z (λ_=>D) (λ_=>D) (λ_=>D) (λ_=>D) λ_ _=>D
noncomputable def vH(p:P):d<|Y M:=p.casesOn D (λ_=>D) (λ_=>D) (λ_=>D) z (λ_=>D) (λ_=>D) (λ_=>D) λ_ _=>D
noncomputable def p_(p:P):d<|Y P:=p.casesOn D (λ_=>D) (λ_=>D) (λ_=>D) (λ_=>D) z (λ_=>D) (λ_=>D) λ_ _=>D
def nv(c:Y P):d<|Y J:=dJ j5 c
def ll(p:P):d<|Y J:=(p_ p).bind nv
def gX(c:Y P):d<|Y<|Y J:=dJ ll c
def Df(c:Y P):d<|Y ak:=dJ yR c
def lZ(c:Y P):d<|Y<|Y M:=dJ oE c
theorem jV{p:P}{i:J}(h:j5 p=z i):p= .int i:=by cases p<;>first|(cases h;done)|exact aR P.int (aY h)
theorem xF{p:P}{i:ak}(h:yR p=z i):p= .bool i:=by cases p<;>first|(cases h;done)|exact aR P.bool (aY h)
theorem kN{p:P}{i:Y M}(h:oE p=z i):p= .str i:=by cases p<;>first|(cases h;done)|exact aR P.str (aY h)
theorem xV(h:vH p=z i):p= .bytes i:=by cases p<;>first|(cases h;done)|exact aR P.bytes (aY h)
theorem rB(h:p_ p=z i):p= .tup i:=by cases p<;>first|(cases h;done)|exact aR P.tup (aY h)
abbrev eM(i:J)(u:T):Prop:= ∃t,u= .int i t
abbrev ik(F:Fz)(i:Y J)(u:T):Prop:= ∃a n x,u= .ref a∧F a=z (fS x n)∧aV eM i x.toList
section
variable{tb:Tb}{F:Fz}
theorem uw{γ:Type}{f:P→d γ}{b:γ→T→Prop}(m: ∀p i u,f p=z i→PR tb F p u→b i u){c:Y P}{n:Y γ}{a:Y T}(h:dJ f c=z n)(k:be tb F c a):aV b n a:=by
 induction c generalizing n a with
 |nil=>cases h;exact k
 |cons p c o=>
  obtain ⟨u,e,rfl,q,r⟩:=k
  exact bw h λi g h=>bw h λl j h=>by rw[←aY h];exact⟨u,e,O,m p i u g q,o j r⟩
theorem pR{c:Y P}{n:Y J}{b:Y T}(h:nv c=z n)(k:be tb F c b):aV eM n b:=uw (λp i u e k=>by rw[jV e]at k;exact k) h k
theorem Cq{c:Y P}{n:Y ak}{b:Y T}(h:Df c=z n)(k:be tb F c b):aV (λi u=>u= .bool i) n b:=uw (λp i u e k=>by rw[xF e]at k;exact k) h k
theorem xZ{c:Y P}{n:Y<|Y M}{b:Y T}(h:lZ c=z n)(k:be tb F c b):aV (λi u=> ∃t,u= .str ⟨i.toArray⟩ t) n b:=uw (λp i u e k=>by rw[kN e]at k;exact k) h k
theorem yv{p:P}{i:Y J}{u:T}(e:ll p=z i)(k:PR tb F p u):ik F i u:=bw e λvs b g=>by
 rw[rB b]at k
 obtain ⟨a,n,x,e,h,c⟩:=k
 exact⟨a,n,x,e,h,pR g c⟩
theorem uE{c:Y P}{n:Y<|Y J}{b:Y T}(h:gX c=z n)(k:be tb F c b):aV (ik F) n b:=uw (λ_ _ _=>yv) h k
end
noncomputable def nC{γ:Type} [BEq γ](a b:Y γ)(j:M):ak:=a[j]? ==b[j]?
theorem Cs{γ:Type} [BEq γ]{a b:Y γ}{j:M}(h:j<a.length)(e:j<b.length):nC a b j=(a[j]==b[j]):=by
 unfold nC
 rw[de h,de e];rfl
theorem xp{γ:Type} [BEq γ] [LawfulBEq γ](a b:Y γ)(h:a.length=b.length):(dO a.length).all (nC a b)=(a==b):=by
 rw[iF,jj,dM]
 refine⟨λf=>List.ext_getElem? λi=> ?_,λe i _=>e▸fD a[i]?⟩
 by_cases c:i<a.length
 ·exact dM.mp<|f i<|jh.mpr c
 ·rw[n4<|py c,n4<|h▸py c]
theorem KL{A:a9}{s:au}{x y:Y J}{a b:ay}{n m:M}{g k:aQ T}(hu:A.units+1<cLine)(U:s.heap.get? a=z (fS g n))(w:s.heap.get? b=z (fS k m))
  (B:aV eM x g.toList)(C:aV eM y k.toList):EqAt A s (.ref a) (.ref b)<|x==y:=by
 have r:g.size=x.length:=by rw[←eU];exact B.length
 have f:k.size=y.length:=by rw[←eU];exact C.length
 by_cases p:a=b
 ·subst p
  rw[U]at w
  cases w
  have:x=y:=by
   apply List.ext_getElem<|XE r f
   intro i o c
   obtain ⟨t,e⟩:=B.get i (by rw[eU];exact wb f c) o
   obtain ⟨t',u⟩:=C.get i (by rw[eU];exact wb f c) c
   rw[e]at u;injection u with H I
  subst this
  rw[fD]
  exact EqAt.same _
 ·have R:=RcAt.tuples (A:=A) (s:=s) (l:=a) (b:=b) (items:=g) (items2:=k) (e:=nC x y) ⟨_,U,O,_,O⟩ ⟨_,w,O,_,O⟩ (XD hu) λj o c=>by
   obtain ⟨t,e⟩:=B.get j (by rw[eU];exact o)<|qv r o
   obtain ⟨t',u⟩:=C.get j (by rw[eU];exact c)<|qv f c
   have H:g[j]= .int (x[j]'(qv r o)) t:=by rw[←xj];exact e
   have I:k[j]= .int (y[j]'(qv f c)) t':=by rw[←xj];exact u
   rw[H,I,Cs (qv r o)<|qv f c]
   exact(EqGives.int _ _ _ _).at _ _
  have e:((dO<|min g.size k.size).all (nC x y)&&g.size==k.size)=(x==y):=by
   rw[r,f]
   by_cases h:x.length=y.length
   ·rw[h,Nat.min_self,←h,xp x y h,fD,Bool.and_true]
   ·rw[cL.mpr h,n_,cL.mpr λq=>h<|aR kH q]
  rw[e]at R
  exact EqAt.of_refs p R
noncomputable def sK{β:Type} [BEq β](f:Y P→d (Y β))(a b:Y P):d ak:=(f a).bind λx=>(f b).bind λy=>z<|x==y
def fZ(a b:Y P):d ak:=(sK nv a b).or<|(sK gX a b).or<|sK Df a b
theorem fA{α:Type}{a b:d α}{c:α}{G:Prop}(h:a.or b=some c)(k:a=some c→G)(e:b=some c→G):G:=by
 cases a with
 |none=>exact e h
 |some a=>exact k h
theorem zx{β:Type} [BEq β]{f:Y P→d (Y β)}{a b:Y P}{r:ak}{G:Prop}(h:sK f a b=z r)(k: ∀x y,f a=z x→f b=z y→(x==y)=r→G):G:=
 bw h λx e h=>bw h λy g h=>k x y e g<|aY h
section
variable{A:a9}{s:au}{γ:Type} [BEq γ] [LawfulBEq γ]{as':γ→T→Prop}{x y:Y γ}{a b:ay}{n m:M}{xs ys:aQ T}
theorem aV.size(h:aV as' x xs.toList):xs.size=x.length:=eU.symm.trans h.length
theorem D0(h: ¬x.length=y.length):(x==y)=N:=cL.mpr λq=>h<|aR kH q
theorem FP(g:aV as' x xs.toList)(i:aV as' y ys.toList)(h:x.length=y.length)(p: ∀c k u v,as' c u→as' k v→EqAt A.in1 s u v (c==k))(j:M)(e:j<xs.size)(f:j<ys.size):EqAt A.in1 s xs[j] ys[j]<|nC x y j:=by
 have l:j<x.length:=g.size▸e
 have o:j<y.length:=i.size▸f
 rw[←xj,←xj,Cs l o]
 exact p _ _ _ _ (g.get j (by rw[eU];exact e) l)<|i.get j (by rw[eU];exact f) o
theorem Kh(p:A.units+3<cLine)(j:s.heap.get? a=z (ci xs n))(o:s.heap.get? b=z (ci ys m))
  (f:aV as' x xs.toList)(g:aV as' y ys.toList)(q: ∀c k u v,as' c u→as' k v→EqAt A.in1 s u v (c==k)):RcAt A s (.ref a) (.ref b)<|x==y:=by
 by_cases h:x.length=y.length
 ·have R:=RcAt.lists (A:=A) (s:=s) (l:=a) (b:=b) (items:=xs) (items2:=ys) (e:=nC x y) ⟨_,j,O,_,O⟩ ⟨_,o,O,_,O⟩ (GW f.size g.size h) (v_ p) (FP f g h q)
  rw[f.size,xp x y h]at R
  exact R
 ·rw[D0 h]
  exact RcAt.lists_lengths ⟨_,j,O,_,O⟩ ⟨_,o,O,_,O⟩ (bne_iff_ne.mpr<|Gi f.size g.size h)<|v_ p
theorem I5(p:A.units+3<cLine)(j:s.heap.get? a=z (ci xs n))(o:s.heap.get? b=z (ci ys m))
  (f:aV as' x xs.toList)(g:aV as' y ys.toList)(q: ∀c k u v,as' c u→as' k v→EqAt A.in1 s u v (c==k)):RcNeAt A s (.ref a) (.ref b)<|!(x==y):=by
 by_cases h:x.length=y.length
 ·have R:=RcNeAt.lists (A:=A) (s:=s) (l:=a) (b:=b) (items:=xs) (items2:=ys) (e:=nC x y) ⟨_,j,O,_,O⟩ ⟨_,o,O,_,O⟩ (GW f.size g.size h) (v_ p) (FP f g h q)
  rw[f.size,xp x y h]at R
  exact R
 ·rw[D0 h]
  exact RcNeAt.lists_lengths ⟨_,j,O,_,O⟩ ⟨_,o,O,_,O⟩ (bne_iff_ne.mpr<|Gi f.size g.size h)<|v_ p
end
theorem uy{A:a9}{s:au}{c k:J}{u v:T}(e:eM c u)(a:eM k v):EqAt A s u v<|c==k:=by
 obtain ⟨t,rfl⟩:=e;obtain ⟨b,rfl⟩:=a;exact(EqGives.int _ _ _ _).at _ _
theorem JU{A:a9}{s:au}{c k:ak}{u v:T}(e:u= .bool c)(a:v= .bool k):EqAt A s u v<|c==k:=by
 subst e a
 exact EqAt.bool_bool c k
theorem BJ{F:Fz}{A:a9}{s:au}{c k:Y J}{u v:T}(h: ∀a o,F a=z o→s.heap.get? a=z o)(l:A.units+1<cLine)(e:ik F c u)(g:ik F k v):EqAt A s u v<|c==k:=by
 obtain ⟨a,n,q,rfl,i,j⟩:=e;obtain ⟨m,p,x,rfl,b,f⟩:=g
 exact KL l (h _ _ i) (h _ _ b) j f
theorem Bq{t:Tb}{F:Fz}{A:a9}{s:au}{x y:Y P}{r:ak}{m vs:Y T}{G:ak→Prop}(n: ∀a o,F a=z o→s.heap.get? a=z o)(w:A.units+4<cLine)(j:be t F x m)(l:be t F y vs)
  (k: ∀{γ:Type} [BEq γ] [LawfulBEq γ] (b:γ→T→Prop) (p q:Y γ),aV b p m→aV b q vs→(∀c f u v,b c u→b f v→EqAt A.in1 s u v (c==f))→G (p==q))(h:fZ x y=z r):G r:=
 fA h (λh=>zx h λp q g i e=>e▸k _ p q (pR g j) (pR i l) λ_ _ _ _=>uy) λh=>fA h (λh=>zx h λp q g i e=>e▸k _ p q (uE g j) (uE i l) λ_ _ _ _=>BJ n<|W9 w)
  λh=>zx h λp q g i e=>e▸k _ p q (Cq g j) (Cq i l) λ_ _ _ _=>JU
end
section
open PySem.MeetsSeq PySem.SeqAt
theorem Lk(a b:Y M):(⟨a.toArray⟩:an)++⟨b.toArray⟩=⟨(a++b).toArray⟩:=by
 show Str.append _ _=_
 unfold Str.append
 simp
theorem iG(a:Y M):(⟨a.toArray⟩:an).length=a.length:=by
 unfold Str.length;simp
theorem BN(a b:Y M):(⟨a.map dw⟩:aQ da)++⟨b.map dw⟩=⟨(a++b).map dw⟩:=by simp
theorem lS(a:Y M):(⟨a.map dw⟩:aQ da).size=a.length:=by simp
noncomputable def pv(v:V):d P:=v.casesOn (λ_=>D) z
def dE(v:V):d J:=(pv v).bind j5
def g_(v:V):d<|Y M:=(pv v).bind oE
def i5(v:V):d<|Y M:=(pv v).bind vH
def wD(v:V):d ak:=(pv v).bind yR
def mI(v:V):d<|Y P:=(pv v).bind p_
noncomputable def zp(p:P):d<|Y P:=p.casesOn D (λ_=>D) (λ_=>D) (λ_=>D) (λ_=>D) (λ_=>D) z (λ_=>D) λ_ _=>D
noncomputable def qm(c:af):d<|Y P:=c.casesOn z (λ_=>D) (λ_ _=>D) D
theorem xN(h:zp p=z i):p= .list i:=by cases p<;>first|(cases h;done)|exact aR P.list (aY h)
theorem uG(h:qm c=z i):c= .list i:=by cases c<;>first|(cases h;done)|exact aR af.list (aY h)
theorem jI{γ:Type}{f:P→d γ}{v:V}{a:γ}(h:(pv v).bind f=z a): ∃p,v= .p p∧f p=z a:=by
 cases v with
 |lbl k=>cases h
 |p x=>exact⟨x,O,h⟩
def df(v:V)(H:Y af):d<|Y P:=v.casesOn (λk=>H[k]?.bind qm) zp
theorem eE(e:df v H=z vs)(i:aN W g H s)(j:VR W.tb g v u):
  ∃a n x,u= .ref a∧s.heap.get? a=z (ci x n)∧be W.tb g.F vs x.toList:=by
 cases v with
 |lbl k=>
  obtain ⟨p,b,h⟩:=j
  refine bw e λc I e=> ?_
  obtain ⟨n,x,f,l⟩:=i.cell k _ p (uG e▸I) b
  exact⟨p.1,n,x,h,f,l⟩
 |p y=>
  obtain ⟨a,n,x,b,h,f⟩:PR W.tb g.F (.list vs) u:=xN e▸j
  exact⟨a,n,x,b,i.fz _ _ h,f⟩
section
variable{W:Wd}{n:M}{α β γ:Type}{A:a9}{l:Y bj}{X:Y ay}{g:Gh}{s:au}{u:T}{v:V}{rel:Gh→β→α→Prop}
theorem Cl.gd{t:aX α}{c:Prop} [n9 c]{r:R β}(h:c→Cl W A l X g s t r rel):Cl W A l X g s t (if c then r else .err) rel:=by
 by_cases q:c
 ·rw[aw q];exact h q
 ·rw[az q];exact Cl.err
theorem Cl.gd2{t:aX α}{c:Prop} [n9 c]{r a:R β}(h:c→Cl W A l X g s t r rel)(b: ¬c→Cl W A l X g s t a rel):Cl W A l X g s t (if c then r else a) rel:=by
 by_cases q:c
 ·rw[aw q];exact h q
 ·rw[az q];exact b q
theorem Cl.alt(h: ∀a,o=some a→Cl W A l X g s t (f a) rel)(b:Cl W A l X g s t r rel):Cl W A l X g s t (o.elim r f) rel:=by
 cases o with
 |none=>exact b
 |some a=>exact h a O
theorem jH{G:T→Prop}{a:J}(h:VR W.tb g v u)(e:dE v=z a)(k: ∀t,G<|.int a t):G u:=by
 obtain ⟨p,rfl,e⟩:=jI e
 obtain ⟨t,rfl⟩:PR W.tb g.F (.int a) u:=jV e▸h
 exact k t
theorem iY{G:T→Prop}{a:Y M}(h:VR W.tb g v u)(e:g_ v=z a)(k: ∀t,G<|.str ⟨a.toArray⟩ t):G u:=by
 obtain ⟨p,rfl,e⟩:=jI e
 obtain ⟨t,rfl⟩:PR W.tb g.F (.str a) u:=kN e▸h
 exact k t
theorem g8{G:T→Prop}{a:Y M}(b:VR W.tb g v u)(e:i5 v=z a)(k:(∀n∈a,n<256)→ ∀t,G<|.bytes ⟨a.map dw⟩ t):G u:=by
 obtain ⟨p,rfl,e⟩:=jI e
 obtain ⟨h,t,rfl⟩:PR W.tb g.F (.bytes a) u:=xV e▸b
 exact k h t
theorem wk{G:T→Prop}{a:ak}(h:VR W.tb g v u)(e:wD v=z a)(k:G<|.bool a):G u:=by
 obtain ⟨p,rfl,e⟩:=jI e
 obtain rfl:u= .bool a:=(xF e▸h:PR W.tb g.F (.bool a) u)
 exact k
theorem oU{G:T→Prop}{a:Y P}(f:VR W.tb g v u)(e:mI v=z a)(k: ∀b m x,g.F b=z (fS x m)→be W.tb g.F a x.toList→G (.ref b)):G u:=by
 obtain ⟨p,rfl,e⟩:=jI e
 obtain ⟨b,m,x,rfl,h,c⟩:PR W.tb g.F (.tup a) u:=rB e▸f
 exact k b m x h c
theorem Cl.I{t:T→aX α}{f:J→R β}(b:VR W.tb g v u)(h: ∀a k,Cl W A l X g s (t<|.int a k) (f a) rel):Cl W A l X g s (t u) ((dE v).elim .err f) rel:=
 Cl.opt λa e=>jH (G:=λu=>Cl W A l X g s (t u) (f a) rel) b e<|h a
end
noncomputable def two{α β:Type}(f:V→d α)(x y:V)(k:α→α→R β)(r:R β):R β:=(f x).elim r λa=>(f y).elim .err λb=>k a b
section
variable{W:Wd}{α β γ:Type}{A:a9}{l:Y bj}{X:Y ay}{g:Gh}{s:au}{u v:T}{x y:V}{rel:Gh→β→α→Prop}{r:R β}
theorem Cl.two(h: ∀a b,f x=z a→f y=z b→Cl W A l X g s t (k a b) rel)(i:Cl W A l X g s t r rel):Cl W A l X g s t (Mine.two f x y k r) rel:=
 Cl.alt (λa e=>Cl.opt λb c=>h a b e c) i
theorem Cl.II{t:T→T→aX α}{k:J→J→R β}(m:VR W.tb g x u)(n:VR W.tb g y v)(h: ∀a b i j,Cl W A l X g s (t (.int a i)<|.int b j) (k a b) rel)(f:Cl W A l X g s (t u v) r rel):Cl W A l X g s (t u v) (Mine.two dE x y k r) rel:=
 Cl.two (λa b e c=>jH (G:=λu=>Cl W A l X g s (t u v) (k a b) rel) m e λi=>jH (G:=λv=>Cl W A l X g s (t _ v) (k a b) rel) n c<|h a b i) f
theorem Cl.SS{t:T→T→aX α}{k:Y M→Y M→R β}(m:VR W.tb g x u)(n:VR W.tb g y v)(h: ∀a b i j,Cl W A l X g s (t (.str ⟨a.toArray⟩ i)<|.str ⟨b.toArray⟩ j) (k a b) rel)(f:Cl W A l X g s (t u v) r rel):Cl W A l X g s (t u v) (Mine.two g_ x y k r) rel:=
 Cl.two (λa b e c=>iY (G:=λu=>Cl W A l X g s (t u v) (k a b) rel) m e λi=>iY (G:=λv=>Cl W A l X g s (t _ v) (k a b) rel) n c<|h a b i) f
end
section
variable{W:Wd}{n:M}
theorem Cl.new(o:Obj)(k:o.isFreed=N)(e:aN W g H s)
  (h: ∀b E,(∀c,b (.ref s.heap.objs.size) {s with heap:=s.heap.push o,toks:=c})→ar (av W.prog W.w) A t b E s)
  (i: ∀F:Fz,(∀a o,g.F a=z o→F a=z o)→F s.heap.objs.size=z o→PR W.tb F p (.ref s.heap.objs.size)):Cl W A l X g s t (.ok (.p p) H)<|VR W.tb:=
 λ_=>h _ _ λc=>⟨.p p,H,_,O,(e.frozen o k).toks c,i _ (aL.frozen (X:=X) e o).ge.F (by simp),(aL.frozen e o).trans<|aL.toks c⟩
def addS(x y:V)(H:Y af):R V:=
 two dE x y (λa b=> .ok (.p<|.int<|a+b) H)<|
 two g_ x y (λa b=>if a.length+b.length≤1000000 then .ok (.p<|.str<|a++b) H else .err)<|
 two i5 x y (λa b=>if a.length+b.length≤1000000 then .ok (.p<|.bytes<|a++b) H else .err)<|
 two mI x y (λa b=>if a.length+b.length≤1000000∧a≠ []∧b≠ []then .ok (.p<|.tup<|a++b) H else .err)<|
 two (df · H) x y (λa b=>if a.length+b.length≤1000000 then .ok (.p<|.list<|a++b) H else .err) .err
theorem dB:1000002≤d7:=by rw[gS];decide
theorem be.size{t:Tb}{F:Fz}{a:Y P}{x:aQ T}(h:be t F a x.toList):x.size=a.length:=eU.symm.trans<|nc h
theorem B2{a b:Y P}{x k:aQ T}(h:a.length+b.length≤1000000)(c:x.size=a.length)(e:k.size=b.length):x.size+k.size≤d7:=by
 rw[c,e];exact bF h<|bF (by decide) dB
theorem xA{a:Y P}{x:aQ T}(h:a≠ [])(b:x.size=a.length): ¬x.isEmpty=Q:=λq=>h<|t9<|b.symm.trans<|fB q
theorem Pa:du W n (iy .Add) addS:=λA l g H s x y u v S p B C=>by
 refine Cl.II B C (λa b i j=>Cl.val p λc E k=>add_int<|k _ _ ⟨_,O⟩) ?_
 refine Cl.SS B C (λa b i j=>Cl.gd λh=>Cl.val p λc E k=>PyProof.Rows.add_str (λt' tk=>k _ _ ⟨_,by rw[Lk]⟩)<|by rw[iG,iG];exact W8 h dB) ?_
 refine Cl.two (λa b q r=>Cl.gd λh=>Cl.val p λc E k=> ?_) ?_
 ·refine g8 (G:=λu=>ar (av W.prog W.w) A (iy .Add u v) c E s) B q λh1 t=>g8 (G:=λv=>ar (av W.prog W.w) A (iy .Add _ v) c E s) C r λh2 t'=>KBy.add_bytes (by rw[lS,lS];exact W7 h) λt' tk=>k _ _ ?_
  rw[BN]
  exact⟨λn hn=>(gw.mp hn).elim (h1 n)<|h2 n,_,O⟩
 refine Cl.two (λa b q r=>Cl.gd λh=> ?_) ?_
 ·refine oU (G:=λu=>Cl W A l [] g s (iy .Add u v) _ _) B q λa' m xs I f=>oU (G:=λv=>Cl W A l [] g s (iy .Add _ v) _ _) C r λb' m' ys U o=> ?_
  refine Cl.new (fS (xs++ys) 0) O p (λc E k=>PySem.P.add_tuple (p.fz _ _ I) (p.fz _ _ U) (xA h.2.1 f.size) (xA h.2.2 o.size) (k s.toks)<|B2 h.1 f.size o.size) λF w e=>⟨_,_,_,O,e,?_⟩
  rw[Array.toList_append];exact pL (be.mono w f)<|be.mono w o
 refine Cl.two (λa b q r=>Cl.gd λh=> ?_) Cl.err
 obtain ⟨a',m,xs,rfl,I,f⟩:=eE q p B
 obtain ⟨b',m',ys,rfl,U,o⟩:=eE r p C
 refine Cl.new (ci (xs++ys) 0) O p (λc E k=>PySem.P.add_list I U (k s.toks)<|B2 h f.size o.size) λF w e=>⟨_,_,_,O,e,?_⟩
 rw[Array.toList_append];exact pL (be.mono w f)<|be.mono w o
def subS(x y:V)(H:Y af):R V:=two dE x y (λa b=> .ok (.p<|.int<|a-b) H) .err
theorem NQ:du W n (iy .Sub) subS:=λA l g H s x y u v S h e f=>Cl.II e f (λa b i j=>Cl.val h λc E k=>sub_int<|k _ _ ⟨_,O⟩) Cl.err
def mulS(x y:V)(H:Y af):R V:=two dE x y (λa b=>if-1000000<b∧b<1000000 then .ok (.p<|.int<|a*b) H else if-1000000<a∧a<1000000 then .ok (.p<|.int<|a*b) H else .err) .err
theorem D1:du W n (iy .Mult) mulS:=λA l g H s x y u v S e f m=>
 Cl.II f m (λa b i j=>Cl.gd2 (λh=>Cl.val e λc E k=>PyProof.Rows.mul_int (k _ _ ⟨_,O⟩)<|IntMulOk.of_right<|intBits_le_64 (Gf h.1)<|Gd h.2)
  λ_=>Cl.gd λh=>Cl.val e λc E k=>PyProof.Rows.mul_int (k _ _ ⟨_,O⟩)<|IntMulOk.of_left<|intBits_le_64 (Gf h.1)<|Gd h.2) Cl.err
def fdivS(x y:V)(H:Y af):R V:=two dE x y (λa b=>if 0<b∧b<1000000 then .ok (.p<|.int<|a/b) H else .err) .err
theorem Md:du W n (iy .FloorDiv) fdivS:=λA l g H s x y u v S e f m=>
 Cl.II f m (λa b i j=>Cl.gd λh=>Cl.val e λc E k=>PyProof.Rows.floordiv_int (Gc h.1) (k _ _<|by rw[Int.fdiv_eq_ediv_of_nonneg _<|Gb h.1];exact⟨_,O⟩)<|.inl<|PyProof.noPylong_small<|by omega) Cl.err
def modS(x y:V)(H:Y af):R V:=two dE x y (λa b=>if 0<b then .ok (.p<|.int<|a%b) H else .err) .err
theorem Oc:du W n (iy .Mod) modS:=λA l g H s x y u v S e f m=>
 Cl.II f m (λa b i j=>Cl.gd λh=>Cl.val e λc E k=>PyProof.Rows.mod_int' (Gc h)<|k _ _<|by rw[Int.fmod_eq_emod_of_nonneg _<|Gb h];exact⟨_,O⟩) Cl.err
def shrS(x y:V)(H:Y af):R V:=two dE x y (λa b=>if 0≤b∧b<64 then .ok (.p<|.int<|a/2^b.toNat) H else .err) .err
theorem NW:du W n (iy .RShift) shrS:=λA l g H s x y u v S e f m=>
 Cl.II f m (λa b i j=>Cl.gd λh=>Cl.val e λc E k=>PyProof.Rows.rshift_int h.1<|k _ _<|by rw[Int.fdiv_eq_ediv_of_nonneg _<|pG<|Int.pow_pos<|by decide];exact⟨_,O⟩) Cl.err
def bandS(x y:V)(H:Y af):R V:=two dE x y (λa b=> .ok (.p<|.int<|Builtin.bitAnd a b) H) .err
theorem Ms:du W n (iy .BitAnd) bandS:=λA l g H s x y u v S h e f=>Cl.II e f (λa b i j=>Cl.val h λc E k=>PyProof.Rows.and_int<|k _ _ ⟨_,O⟩) Cl.err
def ltS(x y:V)(H:Y af):R V:=two dE x y (λa b=> .ok (.p<|.bool (decide (a<b))) H) .err
theorem VQ:du W n (bN .Lt) ltS:=λA l g H s x y u v S h e f=>Cl.II e f (λa b i j=>Cl.val h λc E k=>AU<|k _ s.toks O) Cl.err
def gtS(x y:V)(H:Y af):R V:=two dE x y (λa b=> .ok (.p<|.bool (decide (b<a))) H) .err
theorem V9:du W n (bN .Gt) gtS:=λA l g H s x y u v S h e f=>Cl.II e f (λa b i j=>Cl.val h λc E k=>PyProof.Rows.gt_int<|k _ s.toks O) Cl.err
def leS(x y:V)(H:Y af):R V:=two dE x y (λa b=> .ok (.p<|.bool (decide (a≤b))) H) .err
theorem VT:du W n (bN .LtE) leS:=λA l g H s x y u v S h e f=>Cl.II e f (λa b i j=>Cl.val h λc E k=>AV<|k _ s.toks O) Cl.err
def geS(x y:V)(H:Y af):R V:=two dE x y (λa b=> .ok (.p<|.bool (decide (b≤a))) H) .err
theorem V_:du W n (bN .GtE) geS:=λA l g H s x y u v S h e f=>Cl.II e f (λa b i j=>Cl.val h λc E k=>PyProof.Rows.ge_int<|k _ s.toks O) Cl.err
noncomputable def tn{α:Type} [BEq α](f:V→d α)(x y:V):d ak:=(f x).bind λa=>(f y).bind λb=>z<|a==b
def wz(x y:V)(H:Y af):d ak:=(tn dE x y).or<|(tn g_ x y).or<|(tn i5 x y).or<|(tn wD x y).or<|(df x H).bind λa=>(df y H).bind λb=>fZ a b
theorem nL{α:Type} [BEq α]{f:V→d α}{x y:V}{r:ak}{G:Prop}(h:tn f x y=z r)(k: ∀a b,f x=z a→f y=z b→(a==b)=r→G):G:=
 bw h λx e h=>bw h λy g h=>k x y e g<|aY h
def eqS(x y:V)(H:Y af):R V:=(wz x y H).elim .err λb=> .ok (.p<|.bool b) H
def neS(x y:V)(H:Y af):R V:=(wz x y H).elim .err λb=> .ok (.p<|.bool<|!b) H
theorem Ic{a b:Y M}(c: ∀n∈a,n<256)(e: ∀n∈b,n<256)(h:a.map dw=b.map dw):a=b:=by
 have g: ∀{a:Y M},(∀n∈a,n<256)→(a.map dw).map qW=a:=λ{a} c=>by
  rw[eu]
  exact(rn λn f=>(qV (n:=n)).trans<|ri<|c n f).trans<|List.map_id' a
 rw[←g c,h,g e]
theorem BL{a b:Y M}(c: ∀n∈a,n<256)(f: ∀n∈b,n<256):((⟨a.map dw⟩:aQ da).toList==(⟨b.map dw⟩:aQ da).toList)=(a==b):=by
 by_cases h:a=b
 ·subst h;simp
 ·have: ¬(a.map dw=b.map dw):=λe=>h (Ic c f e)
  rw[cL.mpr h]
  exact cL.mpr this
theorem x7(a b:Y M):((⟨a.toArray⟩:an)==⟨b.toArray⟩)=(a==b):=by
 by_cases h:a=b
 ·subst h;simp
 ·rw[cL.mpr h]
  refine cL.mpr λe=>h ?_
  injection e with e
  simpa using e
theorem OG{A:a9}{l:Y bj}{g:Gh}{H:Y af}{s:au}{x y:V}{u v:T}{b:ak}(S:dK W n A l g s)(w:aN W g H s)(j:VR W.tb g x u)(m:VR W.tb g y v)(e:wz x y H=z b)(f E)(k:f (.bool b) s):
  ar (av W.prog W.w) A (bN .Eq u v) f E s:=by
 refine fA e (λe=>nL e λa c h i q=> ?_) λe=>fA e (λe=>nL e λa c h i q=> ?_) λe=>fA e (λe=>nL e λa c h i q=> ?_) λe=>fA e (λe=>nL e λa c h i q=> ?_) λe=>bw e λa h e=>bw e λc i e=> ?_
 ·exact jH (G:=λu=>ar (av W.prog W.w) A (bN .Eq u v) f E s) j h λt=>jH (G:=λv=>ar (av W.prog W.w) A (bN .Eq _ v) f E s) m i λI=>PyProof.Rows.eq_int<|q▸k
 ·exact iY (G:=λu=>ar (av W.prog W.w) A (bN .Eq u v) f E s) j h λt=>iY (G:=λv=>ar (av W.prog W.w) A (bN .Eq _ v) f E s) m i λI=>PyProof.Rows.eq_str (by rw[x7,q];exact k)
 ·exact g8 (G:=λu=>ar (av W.prog W.w) A (bN .Eq u v) f E s) j h λo t=>g8 (G:=λv=>ar (av W.prog W.w) A (bN .Eq _ v) f E s) m i λr I=>eq_bytes (by rw[BL o r,q];exact k)
 ·exact wk (G:=λu=>ar (av W.prog W.w) A (bN .Eq u v) f E s) j h<|wk (G:=λv=>ar (av W.prog W.w) A (bN .Eq _ v) f E s) m i<|PyProof.Rows.eq_bool<|q▸k
 ·obtain ⟨a1,n1,xs,rfl,U,B⟩:=eE h w j
  obtain ⟨a2,n2,ys,rfl,hb,C⟩:=eE i w m
  exact Bq w.fz (vQ S.un) B C (λf p q o r he=>Kh (Gg<|vQ S.un) U hb o r he) e _ _ _ _ k
theorem Wb:du W n (bN .Eq) eqS:=λA l g H s x y u v S c h f=>Cl.opt λb e=>Cl.val c λa E k=>OG S c h f e a E<|k _ s.toks O
noncomputable def L3(p:P):ak:=p.casesOn Q (λ_=>N) (λ_=>N) (λ_=>N) (λ_=>N) (λ_=>N) (λ_=>N) (λ_=>N) λ_ _=>N
def mf(v:V):ak:=v.casesOn (λ_=>N) L3
theorem VR.shape(h:VR e g x u):(u==dN)=mf x∧handedIn u=Q:=by
 cases x with
 |lbl k=>obtain ⟨p,_,rfl⟩:=h;exact⟨O,O⟩
 |p x=>
  cases x
  ·obtain rfl:u=_:=h;exact⟨O,O⟩
  ·obtain rfl:u=_:=h;exact⟨O,O⟩
  ·obtain ⟨t,rfl⟩:=h;exact⟨O,O⟩
  ·obtain ⟨t,rfl⟩:=h;exact⟨O,O⟩
  ·obtain ⟨_,t,rfl⟩:=h;exact⟨O,O⟩
  ·obtain ⟨a,n,c,rfl,_⟩:=h;exact⟨O,O⟩
  ·obtain ⟨a,n,c,rfl,_⟩:=h;exact⟨O,O⟩
  ·obtain ⟨a,n,c,rfl,_⟩:=h;exact⟨O,O⟩
  ·obtain ⟨a,b,n,c,rfl,_⟩:=h;exact⟨O,O⟩
theorem uH(h:VR t g x u)(e:mf x=Q):u= .none:=eq_of_beq<|h.shape.1.trans e
def isS(x y:V)(H:Y af):R V:=if mf y=Q then .ok (.p<|.bool<|mf x) H else .err
theorem V3:du W n (bN .Is) isS:=λA l g H s x y u v S c h a=>Cl.gd λe=>by
 rw[uH a e]
 exact Cl.val c λb E k=>is_none<|by rw[h.shape.1];exact k _ s.toks O
def isNotS(x y:V)(H:Y af):R V:=if mf y=Q then .ok (.p<|.bool<|!(mf x)) H else .err
theorem KA:du W n (bN .IsNot) isNotS:=λA l g H s x y u v S c h a=>Cl.gd λe=>by
 rw[uH a e]
 exact Cl.val c λb E k=>isNot_none<|by rw[h.shape.1];exact k _ s.toks O
end
end
section
def eG(h a:bB):Prop:= ∀b o,h.get? b=z o→(∀vs,o.data≠ .fields vs)→ ∃c,a.get? b=z {o with slots:=c}
theorem eG.refl(h:bB):eG h h:=λ_ o e _=>⟨o.slots,e⟩
theorem eG.trans(x:eG a b)(y:eG b c):eG a c:=λk o e h=>by
 obtain ⟨i,f⟩:=x k o e h
 obtain ⟨s,g⟩:=y k _ f h
 exact⟨s,g⟩
theorem eG.frames(x:eG h c)(f:h.FunFrames a l):c.FunFrames a l:=
 f.of_keeps λb o g i=>by obtain ⟨s,e⟩:=x b o g i;exact⟨_,e,O⟩
structure eH(W:Wd)(l:Y bj)(k:J)(a dx:ay)(h:bB):Prop where
 st:W.base.StaysIn h
 ff:h.FunFrames W.base l
 re:j8 W k a dx h
def oA(a:ay)(h:bB):Prop:= ∃o vs b,h.get? a=z o∧o.data= .fields vs∧vs[1]? =z (.ref b)
section
variable{ac':Model}{W:Wd}{A:a9}{E:T→au→Prop}{s:au}
theorem ug(f:aQ T→aQ T)(e:h.get? a=z i)(G:i.data= .fields vs):eG h<|h.update a<|lL f:=λb o c g=>by
 have:a≠b:=λq=>by subst q;rw[e]at c;cases c;exact g vs G
 exact⟨o.slots,(jO _ _ this).trans c⟩
theorem A3{h c:bB}{a:ay}(f:aQ T→aQ T)(e:c.get? a=D)(st:c.StaysIn h):c.StaysIn<|h.update a<|lL f:=λb o g=>
 (jO _ _ λq=>by rw[q,g]at e;cases e).trans (st b o g)
theorem eH.update{l:Y bj}{k:J}{a w b:ay}{h:bB}{H:Obj}{ts:aQ T}{x:T}(F:eH W l k a w h)(C:W.base.get? b=D)(B:b≠a)(y:h.get? b=z H)(G:H.data= .fields ts):
  eH W l k a w (h.update b (lL (·.setIfInBounds 3 x))):=by
 obtain ⟨st,U,re⟩:=F
 refine⟨A3 _ C st,(ug _ y G).frames U,?_⟩
 obtain ⟨oe,vs,od,n,I,t,tk,h1,h2,h3,h4,i,p,h7,h8,h9⟩:=re
 refine⟨oe,vs,od,n,I,t,tk,(jO _ _ B).trans h1,h2,h3,h4,(jO _ _ λq=> ?_).trans i,p,h7,h8,?_⟩
 ·rw[←q,y]at i;cases i;rw[G]at p;cases p
 ·cases h9 with
  |no e=>exact .no e
  |«at» v r u e o m c j g=>
   by_cases q:b=v
   ·subst q
    rw[y]at c;cases c
    rw[G]at j;cases j
    have f:=wI G (·.setIfInBounds 3 x)
    exact .at b _ _ e C B (mQ _ y<|wH f) f (by rw[Array.size_setIfInBounds];exact g)
   ·exact .at v r u e o m ((jO _ _ q).trans c) j g
theorem ue(F:eH W l k a w s.heap)
  (h: ∀f,eH W l k a w f→eG s.heap f→(oA a s.heap→oA a f)→b () {s with heap:=f}):ar ac' A (setFlight (.ref a) I) b E s:=by
 obtain ⟨oe,vs,od,n,H,t,tk,g,_,_,i,_,_,_,_,u⟩:=F.re
 unfold setFlight
 cases u with
 |no e=>
  refine am<|wpAny_field g i e ?_
  refine e_ (by decide) ?_
  exact aA<|h _ F (eG.refl _) id
 |«at» c U ts e x j y G B=>
  refine am<|wpAny_field g i e ?_
  refine gq (show (eP c !=dN)=Q from rfl) ?_
  refine tI y G B<|h _ (F.update x j y G) (ug _ y G) λC=> ?_
  obtain ⟨o,v,p,q,g2,r⟩:=C
  exact⟨o,v,p,(jO _ _ j).trans q,g2,r⟩
theorem eH.link{l:Y bj}{k:J}{a w:ay}{h:bB}{H:Obj}{B:aQ T}(F:eH W l k a w h)(hd:H.data= .fields B)(hs:3<B.size){r:Obj}{vs:aQ T}(x:h.get? a=z r)(g:r.data= .fields vs):
  1<vs.size∧eH W l k a w ((h.push H).update a (lL (·.setIfInBounds 1 (eP h.objs.size))))∧eG h ((h.push H).update a (lL (·.setIfInBounds 1 (eP h.objs.size))))∧
   oA a ((h.push H).update a (lL (·.setIfInBounds 1 (eP h.objs.size)))):=by
 obtain ⟨st,ff,re⟩:=F
 obtain ⟨oe'',vs'',od,n,ds,t,tk,G,h2,h3,I,h5,U,h7,h8,h9⟩:=re
 rw[x]at G;cases G
 rw[g]at I;cases I
 have p:1<vs.size:=by cases h9 with
  |no e=>exact(Array.getElem?_eq_some_iff.mp e).1
  |«at» _ _ _ e=>exact(Array.getElem?_eq_some_iff.mp e).1
 have m:(h.push H).get? a=z r:=cf _ x
 have n₂:=ug (·.setIfInBounds 1 (eP h.objs.size)) m g
 have y:eG h ((h.push H).update a (lL (·.setIfInBounds 1 (eP h.objs.size)))):=eG.trans (λb o v _=>⟨o.slots,cf _ v⟩) n₂
 have f:=wI g (·.setIfInBounds 1 (eP h.objs.size))
 have c:=mQ (lL (·.setIfInBounds 1 (eP h.objs.size))) m<|wH f
 have i:h.objs.size≠a:=jQ<|cI x
 have C:(vs.setIfInBounds 1<|eP h.objs.size)[1]? =z (eP h.objs.size):=Array.getElem?_setIfInBounds_self_of_lt p
 obtain ⟨sl'',j⟩:=y w _ h5 λvs q=>by rw[U]at q;cases q
 refine⟨p,⟨A3 _ h8 λb o v=>cf _<|st b o v,y.frames ff,?_⟩,y,⟨_,_,_,c,f,C⟩⟩
 refine⟨_,_,_,n,ds,t,tk,c,(Obj.cls_mapFields _ _).trans h2,?_,f,j,U,h7,h8, .at h.objs.size H B C st.fresh i ((jO _ _<|Ne.symm i).trans<|d_ h<|wH hd) hd hs⟩
 obtain ⟨c0,d0,u,sl0'⟩:=r
 have g:u= .fields vs:=g
 subst g
 exact h3
theorem eH.slots(F:eH W l k a w h)(p: ∀b∈ls,W.base.get? b=D∧ ∀o vs,h.get? b=z o→o.data≠ .fields vs)(g:Heap.SlotsOnly ls h i):eH W l k a w i:=by
 obtain ⟨st,U,re⟩:=F
 have nr:eG h i:=λb o f _=>g.2.2 b o f
 have r: ∀{b o vs},h.get? b=z o→o.data= .fields vs→i.get? b=z o:=λ{b o vs} f G=>(g.2.1 b λq=>(p b q).2 o vs f G).trans f
 obtain ⟨oe,vs,od,n,u,t,tk,v,x,y,m,B,C,H,I,h9⟩:=re
 obtain ⟨sl,j⟩:=g.2.2 w od B
 refine⟨λb o f=>(g.2.1 b λq=>by rw[(p b q).1]at f;cases f).trans<|st b o f,nr.frames U,⟨oe,vs,_,n,u,t,tk,r v m,x,y,m,j,C,H,I,?_⟩⟩
 cases h9 with
 |no e=>exact .no e
 |«at» c oT ts e f ha ho G g=>exact .at c oT ts e f ha (r ho G) G g
theorem B9(n:A.frames=z (i::g))(I:i.frame=z L)(F:eH W (i::g) k a H s.heap)
  (h: ∀l,eH W (i::g) k a H l→eG s.heap l→oA a l→c () {s with heap:=l}):
  ar ac' A (do let f←frameOf i;let p←entryPlaceOf L hn;let b←EntryCells.newEntry head f .none (rawInt L) .none p;setField (.ref a) 1 b) c E s:=by
 refine am<|wpAny_frameOf_fun n F.ff I λh₁ j=> ?_
 have u:=F.slots (λb m=>by obtain ⟨q1,o,U,q⟩:=F.ff.mem m;exact⟨q1,λo' vs e=>by rw[U]at e;cases e;exact q vs⟩) j
 refine am<|wpAny_entryPlaceOf λp r=> ?_
 unfold EntryCells.newEntry newFields
 refine am<|iw ?_ (r.sizeOk5 _ _ _ _ _)
 obtain ⟨oe,vs,_,_,_,_,_,x,_,_,y,_⟩:=u.re
 obtain ⟨t,C,n₂,tr⟩:=u.link (H:={cls:= .type "traceback",dict:=D,data:= .fields ([head, .ref L, .none,rawInt L, .none]++(if p.isEmpty then cX 6 dN else p)).toArray}) O
  (by simp only[iA,bE,fX,lR];exact W6) x y
 exact tI (cf _ x) y t<|h _ C (eG.trans (λb o m _=>j.2.2 b o m) n₂) tr
theorem xm(j:A.frames=z (f::g))(F:eH W (f::g) k a w s.heap)
  (h: ∀i,eH W (f::g) k a w i→eG s.heap i→oA a i→c () {s with heap:=i}):ar ac' A (noteFrame (.ref a) f) c E s:=by
 obtain ⟨_,⟨L,_,o,_⟩,_⟩:=F.ff
 obtain ⟨C,vs,od,n,I,t,tk,l,_,_,m,_,_,_,_,u⟩:=F.re
 unfold noteFrame
 simp only[o]
 cases u with
 |no e=>
  refine am<|wpAny_field l m e ?_
  refine e_ (by decide) ?_
  exact B9 j o F h
 |«at» b U ts e x v y G q=>
  refine am<|wpAny_field l m e ?_
  refine gq (show (eP b !=dN)=Q from rfl) ?_
  refine am<|wpAny_field y G (oa q) ?_
  refine wpAny_ite_split (λ_=>aA<|h _ F (eG.refl _) ⟨C,vs,b,l,m,e⟩) λ_=> ?_
  refine am<|tI y G q<|B9 j o (F.update x v y G) λi r B H=>h i r (eG.trans (ug _ y G) B) H
theorem IG(n:A.frames=z (e::g))(F:eH W (e::g) k a w s.heap)
  (h: ∀c,eH W g k a w c→eG s.heap c→b () {s with heap:=c}):ar ac' A (leaving e<|.ref a) b E s:=by
 unfold leaving
 refine am<|xm n F λf u l _=> ?_
 refine ue (s:={s with heap:=f}) u λi C m _=>h i ⟨C.st,C.ff.2.2,C.re⟩<|l.trans m
theorem Ir(F:eH W l k a w s.heap)(B:oA a s.heap)
  (h: ∀e,eH W l k a w e→eG s.heap e→b (.ref a) {s with heap:=e}):cameBackBy ac' A f b (.ref a) s:=by
 unfold cameBackBy
 obtain ⟨o,vs,c,g,i,m⟩:=B
 refine am<|wpAny_field g i m ?_
 refine e_ (by simp) ?_
 exact ue F λe r p _=>h e r p
theorem JH(n:A.frames=z (e::g))(F:eH W (e::g) k a w s.heap)
  (h: ∀c,eH W (e::g) k a w c→eG s.heap c→oA a c→b (.ref a) {s with heap:=c}):notedBy ac' A e b (.ref a) s:=xm n F h
end
section
variable{W:Wd}{l:Y bj}{X:Y ay}{g:Gh}{k:J}{e:T}{s s':au}
theorem jv.fly(x:jv W l X g k e s s'): ∃a w,e= .ref a∧eH W l k a w s'.heap:=by
 obtain ⟨a,w,e,h⟩:=x.exc
 exact⟨a,w,e,x.st,x.ff,h⟩
theorem jv.next(x:jv W l X g k e s s')(F:eH W r k a w h)(n:eG s'.heap h):jv W r X g k (.ref a) s {s' with heap:=h}:=
 ⟨⟨a,w,O,F.re⟩,F.st,F.ff,x.gens,x.os,λb o p i m f=>by
  obtain ⟨t,q⟩:=x.keep b o p i m f
  obtain ⟨c,q'⟩:=n b _ q f
  exact⟨c,q'⟩⟩
end
end
section
inductive Fl where
 |next (loc:aj)
 |ret (v:V)
abbrev dC(a:Y bV):Y ay:=a.map bV.addr
def XB(W:Wd)(a:Y bV)(g:Gh)(s:au):Fl→Flow→Prop
 | .next l,f=>f= .next∧gh W a l g s
 | .ret v,f=> ∃u,f= .ret u∧VR W.tb g v u
inductive l9(W:Wd)(acc:Y bV)(g:Gh)(s:au)(r:R Fl)(f:Flow)(s':au):Prop
 |mk (v:Fl) (H':Y af) (g':Gh) (e:r= .ok v H') (hR:aN W g' H' s') (hf:XB W acc g' s' v f) (hG:aL (dC acc) g s g' s'):l9 W acc g s r f s'
def CS(W:Wd)(A:a9)(l:Y bj)(a:Y bV)(g:Gh)(s:au)(t:aX Flow)(r:R Fl):Prop:=
 r≠ .err→ar (av W.prog W.w) A t (l9 W a g s r) (bX W l (dC a) g s r) s
def S1(W:Wd)(h:FI)(n:M)(st:dy)(m:aj→Y af→R Fl):Prop:=
 ∀A l b a c g H s,bD W h n A l b a c g H s→CS W A l a g s (exec st b) (m c H)
def SS(W:Wd)(h:FI)(n:M)(e:Y dy)(m:aj→Y af→R Fl):Prop:=
 ∀A l b a c g H s,bD W h n A l b a c g H s→CS W A l a g s (execs e b) (m c H)
section
variable{W:Wd}{fi:FI}{n:M}{A:a9}{l:Y bj}{env:bj}{acc:Y bV}{loc:aj}{g:Gh}{H:Y af}{s:au}
theorem jv.weaken{X c:Y ay}{k:J}{e:T}{s':au}(x:jv W l X g k e s s')(h: ∀a∈X,a∈c):jv W l c g k e s s':=
 ⟨x.exc,x.st,x.ff,x.gens,x.os,λb o j f i m=>x.keep b o j f (λq=>i<|h b q) m⟩
theorem bD.next{b:aj}{c:Gh}{e:Y af}{s':au}(P:bD W fi n A l env acc loc g H s)(G:aL (dC acc) g s c s')(r:aN W c e s')(L:gh W acc b c s'):
  bD W fi n A l env acc b c e s':=by
 refine⟨P.ev,P.sit.grow G λa i o y=> ?_,r,L⟩
 obtain ⟨f,h,rfl⟩:=cY.mp i
 obtain ⟨m,k,j⟩:=(L.room f h).get
 exact⟨m,k,j⟩
theorem l9.after{r:R Fl}{f:Flow}{b:Gh}{s' a:au}(i:aL (dC acc) g s b s')(p:l9 W acc b s' r f a):l9 W acc g s r f a:=p.casesOn λv c b e j k h=>⟨v,c,b,e,j,k,i.trans h⟩
theorem CS.later{t:aX Flow}{r:R Fl}{b:Gh}{s':au}(h:CS W A l acc b s' t r)(c:aL (dC acc) g s b s')(a:r≠ .err):ar (av W.prog W.w) A t (l9 W acc g s r) (bX W l (dC acc) g s r) s':=
 bq (h a) (λ_ _=>l9.after c) λ_ _=>bX.after c
theorem bX.weaken{α:Type}{X:Y ay}{r:R α}{e:T}{s':au}(p:bX W l [] g s r e s'):bX W l X g s r e s':=p.casesOn λk a b=>⟨k,a,b.weaken λ_ h=>nomatch h⟩
theorem aL.wide{X:Y ay}{a:Gh}{s':au}(x:aL [] g s a s'):aL X g s a s':=x.weaken λ_ h=>nomatch h
theorem CS.seqE{α β:Type}{t:aX α}{f:α→aX Flow}{r:R β}{k:β→Y af→R Fl}{c:Gh→β→α→Prop}(j:Cl W A l [] g s t r c)
  (m: ∀v b a u s',r= .ok v b→aN W a b s'→c a v u→aL [] g s a s'→CS W A l acc a s' (f u) (k v b)):CS W A l acc g s (t>>=f)<|r.bind k:=λh=>by
 refine am<|bq (j<|R.bindE h) (λu s' p=> ?_) λe s' p=>p.bind.weaken
 obtain ⟨v,b,a,e,o,q,i⟩:=p
 subst e
 exact(m v b a u s' O o q i).later i.wide h
theorem CS.skip{γ:Type}{t:aX γ}{f:γ→aX Flow}{u:γ}{r:R Fl}(h: ∀b E,b u s→ar (av W.prog W.w) A t b E s)(k:CS W A l acc g s (f u) r):CS W A l acc g s (t>>=f) r:=
 λa=>am<|h _ _<|k a
theorem CS.stand{p:Pos}{t:aX Flow}{r:R Fl}(k:CS W A l acc g s t r):CS W A l acc g s (do dF p;t) r:=CS.skip (u:=()) (λ_ _ q=>fc q) k
theorem CS.done{b:aj}{a:Gh}{s':au}(c:aN W g H s)(L:gh W acc loc g s):CS W A l acc g s (pure .next)<|.ok (.next loc) H:=
 λ_=>aA ⟨_,H,g,O,c,⟨O,L⟩, .refl _ _ _⟩
theorem CS.err:CS W A l acc g s t .err:=λh=>absurd rfl h
def bV.put(h b:bB)(u:T):bV→Prop
 | .dict a x=> ∃m,h.Ns a m∧b.Ns a λy=>if y=x then z u else m y
 | .cell c=>b.IsCell c<|z u
theorem CJ{h:bB}{a:ay}{m:an→d T}{v:d T}(x:h.Ns a m)(y:h.IsCell a v):bR:=by
 obtain ⟨o,j,i,e,f,_⟩:=x
 obtain ⟨k,b,c⟩:=y
 rw[e]at b;cases b
 rw[f]at c;cases c
theorem LC{h:bB}{a:ay}{m f:an→d T}(x:h.Ns a m)(y:h.Ns a f)(b:an):m b=f b:=by
 obtain ⟨o,u,t,i,j,_,k⟩:=x
 obtain ⟨v,r,q,c,e,_,p⟩:=y
 rw[i]at c;cases c
 rw[j]at e;cases e
 rw[←k,p]
theorem bV.other{h r:bB}{j f:bV}{u:T}(B:f≠j)(G:j.room h)(i:f.room h)(hs:hU j.addr h r)(hp:j.put h r u):(∀w,f.holds h w→f.holds r w)∧f.room r:=by
 by_cases q:f.addr=j.addr
 ·cases j with
  |dict a x=>
   cases f with
   |dict b y=>
    obtain rfl:b=a:=q
    obtain ⟨m,t,p⟩:=hp
    refine⟨λw C=> ?_,⟨_,p⟩⟩
    obtain ⟨m',U,h4⟩:=C
    exact⟨_,p,(az λe=>B<|by rw[e]).trans<|(LC t U y).trans h4⟩
   |cell c=>
    obtain rfl:c=a:=q
    obtain ⟨m,t⟩:=G;obtain ⟨v,p⟩:=i;exact(CJ t p).elim
  |cell c=>
   cases f with
   |dict b y=>
    obtain rfl:b=c:=q
    obtain ⟨v,t⟩:=G;obtain ⟨m,p⟩:=i;exact(CJ p t).elim
   |cell k=>exact absurd (aR bV.cell q) B
 ·have I: ∀o,h.get? f.addr=z o→r.get? f.addr=z o:=λo e=>(hs.2 _ q).trans e
  exact⟨λw C=>C.keeps I,i.keeps I⟩
theorem BY{i:M}{x:an}{k:aT}{v:V}{u:T}(P:bD W fi n A l env acc loc g H s)(hv:fi.vars[i]? =z (z (x,k)))(hk:k≠ .free)(hr:VR W.tb g v u){f:Unit→au→Prop}{E:T→au→Prop}
  (h: ∀s' t,acc[i]? =z t→aN W g H s'→gh W acc (loc.set i<|z v) g s'→aL [t.addr] g s g s'→f () s'):ar (av W.prog W.w) A (storeName env x u) f E s:=by
 obtain ⟨hk0',hh⟩:=P.ev.var i x k hv
 have I:env.kindOf x=z k:=by unfold jP;rw[P.ev.scope];exact hk0'
 have hf:env.scope.kind= .function:=by rw[P.ev.scope];exact P.ev.kind
 have key': ∀(t:bV) (B:bB) (tk:M),acc[i]? =z t→hU t.addr s.heap B→t.put s.heap B u→t.holds B u→f () {s with heap:=B,toks:=tk}:=by
  intro t B tk C hs hp hho'
  have hmem':=dG C
  obtain ⟨r1,r2⟩:=P.rep.hide (t:=tk) (l:=B) (f:= [t.addr]) (λa ha=>by rw[bz.mp ha];exact P.lo.ap t hmem') (λb o hb e=>(hs.2 b λq=>hb<|bz.mpr q).trans e)<|aM hs.1.symm
  have oth': ∀j (p:bV),acc[j]? =z p→j≠i→(∀w,p.holds s.heap w→p.holds B w)∧p.room B:=λj p G r=>
   bV.other (λq=>r (by
    subst q
    obtain ⟨h1,e1⟩:=dH.mp C
    obtain ⟨h2,e2⟩:=dH.mp G
    exact(List.getElem_inj P.lo.nd).mp<|e2.trans e1.symm)) (P.lo.room t hmem') (P.lo.room p<|dG G) hs hp
  refine h _ t C r1 ⟨λj w G=> ?_,λp hac''=> ?_,P.lo.nd,P.lo.ap,by rw[List.length_set];exact P.lo.len⟩ r2
  ·by_cases r:j=i
   ·subst r
    rw[wV<|(List.length_set▸(dH.mp G).1:j<loc.length)]at G
    cases G
    exact⟨t,u,C,hho',hr⟩
   ·rw[List.getElem?_set_ne<|Ne.symm r]at G
    obtain ⟨p,w',h1,h2,h3⟩:=P.lo.val j w G
    exact⟨p,w',h1,(oth' j p h1 r).1 _ h2,h3⟩
  ·obtain ⟨j,G⟩:=wW hac''
   by_cases r:j=i
   ·subst r
    rw[G]at C
    obtain rfl:=aY C
    cases p with
    |dict a y=>obtain ⟨m,hm,_⟩:=hho';exact⟨m,hm⟩
    |cell c=>exact⟨_,hho'⟩
   ·exact(oth' j p G r).2
 rcases hh with⟨rfl,ha⟩|⟨hcf',c,hcl',ha⟩
 ·obtain ⟨m,hn⟩:=P.lo.room _ (dG ha)
  exact wpAny_storeName_local I hn (λB U hs'0'=>key' _ B _ ha hs'0' ⟨m,hn,U⟩ ⟨_,U,aw O⟩) (by rw[hf];rfl)
 ·obtain rfl:k= .cell:=by rcases hcf' with h|h;exact h;exact absurd h hk
  obtain ⟨v0,hv0'⟩:=P.lo.room _<|dG ha
  exact wpAny_storeName_cell hf I hcl' hv0' λB U hs'0'=>key' _ B _ ha hs'0' U U
theorem Ka(P:bD W fi n A l env acc loc g H s)(q:fi.vars[i]? =z (z (x,k)))(I:k≠ .free)(p:VR W.tb g v u)
  (h: ∀s',aN W g H s'→gh W acc (loc.set i<|z v) g s'→aL (dC acc) g s g s'→b () s'):ar (av W.prog W.w) A (storeName env x u) b E s:=
 BY P q I p λs' f c o m j=>h s' o m (j.weaken λa e=>by
  rw[bz]at e;subst e;exact cY.mpr ⟨f,dG c,O⟩)
theorem CS.store{i:M}{x:an}{k:aT}{v:V}{u:T}{f:Unit→aX Flow}{r:R Fl}(P:bD W fi n A l env acc loc g H s)(m:fi.vars[i]? =z (z (x,k)))(I:k≠ .free)(j:VR W.tb g v u)
  (h: ∀s',bD W fi n A l env acc (loc.set i<|z v) g H s'→CS W A l acc g s' (f ()) r):CS W A l acc g s (bindName env x u>>=f) r:=λa=>
 am (wpAny_bindName<|Ka P m I j λs' e c b=>(h s'<|P.next b e c).later b a)
end
section
variable{W:Wd}{fi:FI}{n:M}
noncomputable def nilM:aj→Y af→R Fl:=λl H=> .ok (.next l) H
noncomputable def lE(k:aj→Y af→R Fl)(f:Fl)(H:Y af):R Fl:=f.casesOn (λl=>k l H) λv=> .ok (.ret v) H
def ai(a b:aj→Y af→R Fl):aj→Y af→R Fl:=λl H=>(a l H).bind<|lE b
theorem SS.nil:SS W fi n [] nilM:=λA l b a c g H s P _=>tN ⟨_,H,g,O,P.rep,⟨O,P.lo⟩, .refl _ _ _⟩
theorem SS.cons{st:dy}{k:Y dy}{a b:aj→Y af→R Fl}(x:S1 W fi n st a)(y:SS W fi n k b):SS W fi n (st::k)<|ai a b:=λA l i c o g H s P h=>by
 unfold ai at h⊢
 refine nX<|bq (x A l i c o g H s P<|R.bindE h) (λf s' p=> ?_) λe s'=>bX.bind
 obtain ⟨v,q,r,e,t,w,m⟩:=p
 rw[e]at h⊢
 cases v with
 |next j=>
  obtain ⟨rfl,B⟩:=w
  exact(y A l i c j r q s'<|P.next m t B).later m h
 |ret v=>
  obtain ⟨u,rfl,C⟩:=w
  exact⟨.ret v,q,r,O,t,⟨u,O,C⟩,m⟩
noncomputable def errM{α:Type}:aj→Y af→R α:=λ_ _=> .err
theorem SS.err:SS W fi n e errM:=λA l b a c g H s P=>CS.err
theorem S1.err{st:dy}:S1 W fi n st errM:=λA l b a c g H s P=>CS.err
theorem SE.err:SE W fi n e errM:=λA l b a loc g H s P=>Cl.err
theorem ST.err:ST W fi n e errM:=λA l b a c g H s P=>Cl.err
def aB(i:M)(m:aj→Y af→R V):aj→Y af→R Fl:=λl H=>(m l H).bind λv H=> .ok (.next<|l.set i<|z v) H
noncomputable def uo(e:aP):d d9:=swapsWith.match_1 (λ_=>d d9) e (λ_ _ s _=>z s) (λ_ _ s _=>z s) (λ_ _ _ s _=>z s) λ_=>D
def iN(e:aP):ak:=(uo e).isSome
theorem swaps_none{e:aP}{t:d aP}{l:M}{b:bj}(h:iN e=N):swapsWith e t l b=pure N:=by
 have h:uo e=none:=by
  unfold iN at h
  cases q:uo e with
  |none=>rfl
  |some _=>rw[q]at h;cases h
 unfold uo at h
 unfold swapsWith
 rw[h]
theorem S1.assign{i:M}{x:an}{k:aT}{e:aP}{p c}{m:aj→Y af→R V}(y:fi.vars[i]? =z (z (x,k)))(h:SE W fi n e m)(I:k≠ .free)(t:iN e=N):
  S1 W fi n (.Assign [.Name x p] e c) (aB i m):=λA l b f a g H s P=>by
 rw[exec_Assign_Name b x p e c<|swaps_none t]
 refine CS.stand<|CS.seqE (h A l b f a g H s P) λv B q u s' _ r w G=>CS.stand<|CS.store (P.grow G r) y I w λC j=> ?_
 exact CS.done (a:=g) (s':=s) (b:=a) j.rep j.lo
def iS(x y:V)(H:Y af):R V:=two dE x y (λa b=> .ok (.p<|.int<|a+b) H) .err
theorem CY:du W n (inplaceOp .Add) iS:=λA l g H s x y u v S h e f=>Cl.II e f (λa b i j=>Cl.val h λc E k=>wpAny_iadd_int<|k _ _ ⟨_,O⟩) Cl.err
theorem SE.load{i:M}{x:an}{k:aT}(m:fi.vars[i]? =z (z (x,k)))(h:(x==("__classdict__":an))=N){A l a c loc g H s}(P:bD W fi n A l a c loc g H s):
  Cl W A l [] g s (loadName a x) (aa i loc H) (VR W.tb):=Cl.opt λo e=>Cl.opt λv f=>by
 subst f
 exact Cl.val P.rep λb E q=>D6 P m h e λu j=>q u s.toks j
theorem S1.aug{op:Operator}{o:V→V→Y af→R V}{i:M}{x:an}{k:aT}{e:aP}{p t}{m:aj→Y af→R V}(hv:fi.vars[i]? =z (z (x,k)))(h:SE W fi n e m)(ho:du W n (inplaceOp op) o)(hk:k≠ .free)
  (hc:(x==("__classdict__":an))=N):S1 W fi n (.AugAssign (.Name x p) op e t)<|aB i<|ag o (aa i) m:=λA l f c a g H s P=>by
 rw[exec_AugAssign_Name]
 have e':aB i (ag o (aa i) m) a H=(aa i a H).bind λx H=>(m a H).bind λy H=>(o x y H).bind λv H=> .ok (.next<|a.set i<|z v) H:=by
  show R.bind (R.bind _ _) _=_
  rw[R.bind_assoc];exact aR _ (funext λv=>funext λB=>R.bind_assoc _ _ _)
 rw[e']
 refine CS.stand<|CS.seqE (SE.load hv hc P) λv B g' u s' _ hR hu G=> ?_
 have C:=P.grow G hR
 refine CS.seqE (Cl.holding<|h A l f c a g' B s' C) λv2 H2 g2 u2 s2 _ b q w=> ?_
 have I:=C.grow w b
 refine CS.stand<|CS.seqE (Cl.operate<|ho A l g2 H2 s2 v v2 u u2 I.sit b (hu.mono w.ge) q) λv3 H3 g3 u3 s3 _ j r G3=> ?_
 refine CS.stand<|CS.store (I.grow G3 j) hv hk r λs₄ U=> ?_
 exact CS.done (a:=g) (s':=s) (b:=a) U.rep U.lo
def aK(m:aj→Y af→R V):aj→Y af→R Fl:=λl H=>(m l H).bind λv H=> .ok (.ret v) H
theorem S1.ret{e:aP}{p}{m:aj→Y af→R V}(h:SE W fi n e m):S1 W fi n (.Return (z e) p)<|aK m:=λA l b a c g H s P=>by
 rw[exec_Return_some]
 exact CS.stand<|CS.seqE (h A l b a c g H s P) λv f i u s' _ j k G=>λ_=>aA ⟨_,f,i,O,j,⟨u,O,k⟩, .refl _ _ _⟩
noncomputable def retN:aj→Y af→R Fl:=λ_ H=> .ok (.ret<|.p .none) H
theorem S1.retNone:S1 W fi n (.Return D p) retN:=λA l b a c g H s P _=>wpAny_Return_none ⟨_,H,g,O,P.rep,⟨_,O,(O:dN=dN)⟩, .refl _ _ _⟩
theorem S1.ite{e:aP}{a b:Y dy}{p}{t:aj→Y af→R ak}{o q:aj→Y af→R Fl}(h:ST W fi n e t)(r:SS W fi n a o)(w:SS W fi n b q):S1 W fi n (.If e a b p)<|ax t o q:=λA l f c i g H s P=>by
 rw[exec_If]
 refine CS.stand<|CS.seqE (h A l f c i g H s P) λv j k u s' _ m x G=> ?_
 obtain rfl:u=v:=x
 cases u
 ·exact w A l f c i k j s'<|P.grow G m
 ·exact r A l f c i k j s'<|P.grow G m
def yN(v:V):ak:=mf v||(dE v).isSome
def a7(m:aj→Y af→R V):aj→Y af→R Fl:=λl H=>(m l H).bind λv H=>if yN v=Q then .ok (.next l) H else .err
theorem Jj{W:Wd}{g:Gh}{v:V}{u:T}(h:VR W.tb g v u)(e:yN v=Q): ∀a,u≠ .ref a:=λa q=>by
 subst q
 rcases (Bool.or_eq_true _ _).mp e with e|e
 ·cases uH h e
 ·obtain ⟨i,e⟩:=mR.mp e
  exact jH (G:=λu=>u= .ref a→bR) h e (λt q=>nomatch q) O
theorem CS.gd{A:a9}{l:Y bj}{a:Y bV}{g:Gh}{s:au}{t:aX Flow}{c:Prop} [n9 c]{r:R Fl}(h:c→CS W A l a g s t r):CS W A l a g s t<|if c then r else .err:=by
 by_cases q:c
 ·rw[aw q];exact h q
 ·rw[az q];exact CS.err
theorem S1.expr{e:aP}{p}{m:aj→Y af→R V}(h:SE W fi n e m)(k:iN e=N):S1 W fi n (.Expr e p)<|a7 m:=λA l b c a g H s P=>by
 have o:b.scope.kind= .function:=by rw[P.ev.scope];exact P.ev.kind
 have r:interactive b=N:=by unfold interactive;rw[o];rfl
 rw[exec_Expr b e p r<|swaps_none k]
 refine CS.stand<|CS.seqE (h A l b c a g H s P) λv w i u s' _ j t G=>CS.gd λq=> ?_
 have C:=P.grow G j
 rw[dropValue_plain<|Jj t q]
 exact CS.done (a:=g) (s':=s) (b:=a) C.rep C.lo
def dS(t:aj→Y af→R ak)(b:aj→Y af→R Fl)(f:M):aj→Y af→R Fl:=lO (λ_ _=> .err) (λ_ i l H=>(t l H).bind λx H=>bif x then(b l H).bind<|lE i else .ok (.next l) H) f
theorem xK{A:a9}{l:Y bj}{c:bj}{f:Y bV}{j:aj}{g:Gh}{H:Y af}{s s':au}(P:bD W fi n A l c f j g H s){r:R Fl}{m:T}(p:bX W l (dC f) g s r m s'):
  notedBy (av W.prog W.w) A c (λe s'=>cameBackBy (av W.prog W.w) A c (bX W l (dC f) g s r) e s') m s':=by
 obtain ⟨k,v,t⟩:=p
 obtain ⟨w,l',i,h⟩:=P.ev.top
 obtain ⟨a,I,rfl,F⟩:=t.fly
 have q: ∀(e:T) (b:T→au→Prop),notedBy (av W.prog W.w) A c b e s'=notedBy (av W.prog W.w) A w b e s':=λe b=>by
  unfold notedBy noteFrame PySem.frameOf;rw[h]
 rw[q]
 exact JH (by rw[P.sit.fr,i]) (i▸F) λx u y B=>Ir (s:={s' with heap:=x}) (i▸u) B λU C G=>⟨k,v,t.next C<|y.trans G⟩
inductive WI(W:Wd)(fi:FI)(n:M)(A:a9)(l:Y bj)(env:bj)(acc:Y bV)(g:Gh)(s:au)(f:aj→Y af→R Fl)(r:R Fl)(s₁:au):Prop
 |mk (loc₁:aj) (g₁:Gh) (H₁:Y af) (P:bD W fi n A l env acc loc₁ g₁ H₁ s₁) (G:aL (dC acc) g s g₁ s₁) (e:f loc₁ H₁=r):WI W fi n A l env acc g s f r s₁
theorem S1.while{e:aP}{b:Y dy}{pos0'}{t:aj→Y af→R ak}{q:aj→Y af→R Fl}(i:M)(h:ST W fi n e t)(hb:SS W fi n b q):S1 W fi n (.While e b [] pos0')<|dS t q i:=λA l o j w g H s P k=>by
 refine wpAny_While ?_
 generalize hr:dS t q i w H=r at k⊢
 refine codeAny_whileLoop (λm s₁=>WI W fi n A l o j g s (dS t q m) r s₁) (λm s₁ I=> ?_) i ⟨w,g,H,P, .refl _ _ _,hr⟩
 obtain ⟨a,g₁,H₁,P₁,G₁,c⟩:=I
 cases m with
 |zero=>exact(k c.symm).elim
 |succ m=>
  have c:(t a H₁).bind (λx H=>bif x then(q a H).bind<|lE<|dS t q m else .ok (.next a) H)=r:=c
  refine bq (h A l o j a g₁ H₁ s₁ P₁<|R.bindE<|c▸k) (λx s₂ p=> ?_) λev s₂ p=>xK P<|c▸p.bind.weaken.after G₁
  obtain ⟨v,U,g₂,e₂,R₂,B,G₂⟩:=p
  rw[e₂]at c
  have P₂:=P₁.grow G₂ R₂
  have G:aL (dC j) g s g₂ s₂:=G₁.trans G₂.wide
  obtain rfl:x=v:=B
  cases x with
  |false=>exact tN ⟨_,U,g₂,c.symm,R₂,⟨O,P₂.lo⟩,G⟩
  |true=>
   have c:(q a U).bind (lE<|dS t q m)=r:=c
   refine bq (hb A l o j a g₂ U s₂ P₂<|R.bindE<|c▸k) (λf s₃ p=> ?_) λev s₃ p=>xK P<|c▸p.bind.after G
   obtain ⟨v,H₃,g₃,e₃,R₃,B,C⟩:=p
   rw[e₃]at c
   cases v with
   |next y=>
    obtain ⟨rfl,hL⟩:=B
    exact⟨m,fF m,y,g₃,H₃,P₂.next C R₃ hL,G.trans C,c⟩
   |ret v=>
    obtain ⟨u,rfl,hu⟩:=B
    exact⟨_,H₃,g₃,c.symm,R₃,⟨u,O,hu⟩,G.trans C⟩
end
end
section
noncomputable def ix:Y M→M→d M
 | [],_=>D
 |a::r,k=>if a=k then z 0 else(ix r k).map (· +1)
theorem CR(h:ix b k=z i):b[i]? =z k:=by
 induction b generalizing i with
 |nil=>cases h
 |cons a r e=>
  unfold ix at h
  by_cases q:a=k
  ·rw[aw q]at h;cases h;exact aR z q
  ·rw[az q]at h
   obtain ⟨j,c,rfl⟩:=fE.mp h
   exact e c
theorem CT(h:ix b k=D):k∉b:=by
 induction b with
 |nil=>exact λh=>nomatch h
 |cons a r i=>
  unfold ix at h
  by_cases q:a=k
  ·rw[aw q]at h;cases h
  ·rw[az q]at h
   exact λc=>(dP.mp c).elim (λe=>q e.symm)<|i<|Option.map_eq_none_iff.mp h
def vk(a:Y M)(v:V):d V:=v.casesOn (λk=>(ix a k).map .lbl) λx=>z<|.p x
def cZ(k:Y M)(vs:Y V):d<|Y V:=dJ (vk k) vs
def uV{α:Type}(k:Y M)(e:α×V):d<|α×V:=(vk k e.2).map λv=>(e.1,v)
def jW(k:Y M)(c:af):d af:=c.casesOn (λvs=>z<|.list vs) (λe=>(dJ (uV k) e).map .dict) (λC f=>(dJ (uV k) f).map<|.inst C)<|z .junk
def kn(a:Y M)(H:Y af)(r:Y M):d<|Y af:=dJ (λk=>H[k]?.bind (jW a)) r
noncomputable def j0(k:Y M)(m:M)(v:V):V:=v.casesOn (λj=>k[j]?.elim (.lbl<|m+(j-k.length)) .lbl) .p
def DP{α:Type}(k:Y M)(m:M)(e:α×V):α×V:=(e.1,j0 k m e.2)
def kU(k:Y M)(m:M)(c:af):af:=c.casesOn .list (λe=> .dict<|e.map<|DP k m) (λC f=> .inst C<|f.map<|DP k m) .junk
def vE(a:Y M)(m:M)(H:Y af)(k:M)(c:af):af:=(ix a k).elim c λi=>H[i]?.elim .junk (kU a m)
def lY(b:Y M)(m:M)(a:Y af):M→Y af→Y af
 |_,[]=> []
 |k,c::H=>vE b m a k c::lY b m a (k+1) H
def gA(k:Y M)(H a:Y af):Y af:=lY k H.length a 0 H++(a.drop k.length).map (kU k H.length)
noncomputable def lblsV:V→Y M
 | .lbl k=> [k]
 | .p _=> []
def zq:af→Y M
 | .dict a=>a.flatMap λe=>lblsV e.2
 | .inst _ f=>f.flatMap λe=>lblsV e.2
 |_=> []
def addNew:Y M→Y M→Y M
 |acc,[]=>acc
 |acc,k::r=>addNew (if(ix acc k).isSome then acc else acc++ [k]) r
def reach(H:Y af):M→Y M→Y M
 |0,a=>a
 |n+1,a=>reach H n (addNew a (a.flatMap λk=>match H[k]? with
  |some c=>zq c
  |none=> []))
def ia:Y M→ak
 | []=>Q
 |a::r=>(ix r a).isNone&&ia r
def vD(f:Y V→Y af→R V)(vs:Y V)(H:Y af)(k:Y M):R V:=
 if ia k=Q then(cZ k vs).elim .err λa=>(kn k H k).elim .err λc=>(f a c).bind λv b=> .ok (j0 k H.length v)<|gA k H b else .err
def aU(f:Y V→Y af→R V)(vs:Y V)(H:Y af):R V:=vD f vs H<|reach H 4<|addNew []<|vs.flatMap lblsV
theorem Co{f:Y V→Y af→R V}{vs:Y V}{H:Y af}{G:Prop}(h:aU f vs H≠ .err)
  (k: ∀a b c,ia a=Q→cZ a vs=some b→kn a H a=some c→aU f vs H=(f b c).bind (λv i=> .ok (j0 a H.length v)<|gA a H i)→G):G:=by
 unfold aU at h k
 generalize reach H 4 (addNew []<|vs.flatMap lblsV)=a at h k
 unfold vD at h k
 by_cases q:ia a=Q
 ·cases e:cZ a vs with
  |none=>rw[e,aw q]at h;exact(h O).elim
  |some b=>
   cases g:kn a H a with
   |none=>rw[e,g,aw q]at h;exact(h O).elim
   |some c=>exact k a b c q e g (by rw[aw q,e,g];rfl)
 ·exact(h<|az q).elim
theorem JI(h:ia k=Q):k.Nodup:=by
 induction k with
 |nil=>exact jg
 |cons a r i=>
  obtain ⟨b,e⟩:=(b_ _ _).mp h
  exact pC.mpr ⟨CT<|Option.isNone_iff_eq_none.mp b,i e⟩
theorem xz{α:Type}{a:Y M}{e c:α×V}{G:Prop}(h:uV a e=z c)(k: ∀v,vk a e.2=z v→c=(e.1,v)→G):G:=by
 obtain ⟨v,b,f⟩:=fE.mp h
 exact k v b f.symm
theorem IA{α:Type}{k:Y M}{c r:Y<|α×V}(h:dJ (uV k) c=z r):r.map (·.1)=c.map (·.1):=xW (λa b e=>xz e λv _ q=>by rw[q]) h
section
variable{tb:Tb}{g gs:Gh}{ks:Y M}(hF:gs.F=g.F)(ha: ∀(i k:M),ks[i]? =z k→gs.as[i]? =g.as[k]?)
include hF ha
theorem xJ{v a:V}{u:T}(e:vk ks v=z a)(h:VR tb g v u):VR tb gs a u:=by
 cases v with
 |lbl k=>
  obtain ⟨i,q,rfl⟩:=fE.mp e
  obtain ⟨p,b,c⟩:=h
  exact⟨p,(ha i k<|CR q).trans b,c⟩
 |p x=>cases e;show PR tb gs.F x u;rw[hF];exact h
theorem Bx(e:cZ ks vs=z v)(h:eC tb g vs b):eC tb gs v b:=h.all e λ_ _ _=>xJ hF ha
theorem JD{c i:af}{h:bB}{p:c_}(e:jW ks c=z i)(x:gH tb g h p c):gH tb gs h p i:=by
 cases c with
 |list vs=>cases e;obtain ⟨n,s,a,f⟩:=x;exact⟨n,s,a,by rw[hF];exact f⟩
 |dict t=>
  obtain ⟨r,b,rfl⟩:=fE.mp e
  obtain ⟨n,j,a,f,m⟩:=x
  exact⟨n,j,a,f.all b λc i u e q=>xz e λv b l=>by rw[l];exact⟨by rw[hF];exact q.1,q.2.1,xJ hF ha b q.2.2⟩,by rw[IA b];exact m⟩
 |inst C w=>
  obtain ⟨r,b,rfl⟩:=fE.mp e
  obtain ⟨k,n,j,o,a,f,m⟩:=x
  exact⟨k,n,j,o,a,f,m.all b λc i u e q=>xz e λv b l=>by rw[l];exact⟨q.1,xJ hF ha b q.2⟩⟩
 |junk=>cases e;trivial
end
section
variable{tb:Tb}{g gb:Gh}{ks:Y M}{m:M}(hF:gb.F=g.F)(h1: ∀(j k:M) (p:c_),ks[j]? =z k→g.as[j]? =z p→gb.as[k]? =z p)(h2: ∀(j:M) (p:c_),ks.length≤j→g.as[j]? =z p→gb.as[m+(j-ks.length)]? =z p)
include hF h1 h2
theorem xH(h:VR tb g v u):VR tb gb (j0 ks m v) u:=by
 cases v with
 |lbl j=>
  obtain ⟨p,b,e⟩:=h
  show VR tb gb (ks[j]?.elim (.lbl<|m+(j-ks.length)) .lbl) u
  cases q:ks[j]? with
  |some k=>exact⟨p,h1 j k p q b,e⟩
  |none=>exact⟨p,h2 j p (n3.mp q) b,e⟩
 |p x=>show PR tb gb.F x u;rw[hF];exact h
theorem Bu(x:gH tb g h p c):gH tb gb h p<|kU ks m c:=by
 cases c with
 |list vs=>obtain ⟨n,j,e,f⟩:=x;exact⟨n,j,e,by rw[hF];exact f⟩
 |dict l=>obtain ⟨n,b,e,f,a⟩:=x;exact⟨n,b,e,f.map λc u q=>⟨by rw[hF];exact q.1,q.2.1,xH hF h1 h2 q.2.2⟩,by rw[eu];exact a⟩
 |inst C o=>obtain ⟨k,n,b,i,e,f,a⟩:=x;exact⟨k,n,b,i,e,f,a.map λc u q=>⟨q.1,xH hF h1 h2 q.2⟩⟩
 |junk=>trivial
end
theorem xw(b:Y M)(m:M)(a:Y af)(k:M)(H:Y af)(j:M):(lY b m a k H)[j]? =(H[j]?).map (vE b m a<|k+j):=by
 induction H generalizing k j with
 |nil=>rfl
 |cons c H i=>
  cases j with
  |zero=>rfl
  |succ j=>exact(i (k+1) j).trans<|by rw[show k+1+j=k+(j+1)from W5];rfl
theorem mX(b:Y M)(m:M)(a:Y af)(k:M)(H:Y af):(lY b m a k H).length=H.length:=by
 induction H generalizing k with
 |nil=>rfl
 |cons c H i=>exact aR (· +1)<|i<|k+1
theorem uh{b:Y c_}(r:(bU b).Nodup){i j:Nat}{p q:c_}(m:b[i]? =z p)(n:b[j]? =z q)(c:i≠j)(a:ay)(f:a∈p.1::p.2.toList):a∉q.1::q.2.toList:=λk=>by
 have x:=List.pairwise_iff_getElem.mp (List.pairwise_flatMap.mp r).2
 obtain ⟨l,e⟩:=dH.mp m
 obtain ⟨o,g⟩:=dH.mp n
 rcases Nat.lt_or_gt_of_ne c with h|h
 ·exact x i j l o h a (e▸f) a (g▸k) O
 ·exact x j i o l h a (g▸k) a (e▸f) O
noncomputable def j2(a:Y c_)(b:Y M):Y c_:=b.map λk=>a[k]?.getD default
theorem JC(a:Y c_)(b:Y M)(i k:M)(I:k<a.length)(h:b[i]? =z k):(j2 a b)[i]? =a[k]? :=by
 unfold j2
 rw[eK,h]
 show z (a[k]?.getD default)=a[k]?
 rw[de I];rfl
theorem mZ(a:Y c_)(k:Y M):(j2 a k).length=k.length:=bc _
theorem xx(a:Y c_)(I: ∀k∈c,k<a.length)(h:p∈j2 a c): ∃k,k∈c∧a[k]? =z p:=by
 obtain ⟨k,b,e⟩:=cY.mp h
 rw[de<|I k b]at e
 exact⟨k,b,by rw[de<|I k b];exact aR z e⟩
theorem Iz{c:Y c_}(q:(bU c).Nodup){g:Y M}(I:g.Nodup)(h: ∀k∈g,k<c.length):(bU<|j2 c g).Nodup:=by
 refine List.pairwise_flatMap.mpr ⟨λp r=> ?_,rm.mpr<|I.imp_of_mem λ{i j} n o f a l b m e=> ?_⟩
 ·obtain ⟨k,_,e⟩:=xx c h r
  exact(List.pairwise_flatMap.mp q).1 p<|dG e
 ·rw[de<|h i n]at l
  rw[de<|h j o]at m
  exact uh q (de<|h i n) (de<|h j o) f a l<|e▸m
theorem pJ(e: ∀k∈g,k<b.length)(h:a∈bU (j2 b g)):a∈bU b:=by
 obtain ⟨p,f,c⟩:=tX.mp h
 obtain ⟨k,_,I⟩:=xx b e f
 exact lV I c
theorem ym{α β:Type}{f:α→d β}{g:Y α}{j:Y β}(h:dJ f g=z j):j.length=g.length∧ ∀(i:M) (a:α),g[i]? =z a→ ∃b,j[i]? =z b∧f a=z b:=by
 induction g generalizing j with
 |nil=>cases h;exact⟨O,λi a e=>by cases e⟩
 |cons a g p=>
  refine bw h λb m h=>bw h λl n h=> ?_
  obtain ⟨o,v⟩:=p n
  rw[←aY h]
  refine⟨aR (· +1) o,λi c k=> ?_⟩
  cases i with
  |zero=>cases k;exact⟨b,O,m⟩
  |succ i=>exact v i c k
def FW(W:Wd)(n:M)(f:T)(m:Y V→Y af→R V):Prop:=
 ∀A l g H s vs b,dK W n A l g s→aN W g H s→eC W.tb g vs b→Cl W A l [] g s (co f b []) (m vs H) (VR W.tb)
abbrev Tr:=(T→au→Prop)→(T→au→Prop)→Prop
def Tr.Mono(w:Tr):Prop:= ∀b Q' E a,w b E→(∀v s,b v s→Q' v s)→(∀e s,E e s→a e s)→w Q' a
def tG(W:Wd)(l:Y bj)(g:Gh)(s:au)(w:Tr)(r:R V):Prop:=r≠ .err→w (jB W [] g s r<|VR W.tb) (bX W l [] g s r)
def wB(W:Wd)(A:a9)(f:T)(u:Y T)(s:au):Tr:=λb E=>i_ (av W.prog W.w) A (.call f ⟨u,[]⟩) (λr s'=>match r with| .ok (.ret v)=>b v s'| .ok _=>bR| .error e=>E e s') s
theorem Cn:(wB W A f u s).Mono:=λb Q' E i h g c=>codeAny_mono h λr s' a=>by
 rcases r with e|(v|_|_|_)<;>first|exact c _ _ a|exact g _ _ a|exact a
theorem BR{W:Wd}{A:a9}{t:aX T}{s:au}:Tr.Mono λb E=>ar (av W.prog W.w) A t b E s:=λb Q' E a h g c=>bq h g c
def jM(W:Wd)(n:M)(f:T)(m:Y V→Y af→R V):Prop:=
 ∀A l g H s vs b,dK W n A l g s→aN W g H s→eC W.tb g vs b→tG W l g s (wB W A f b s) (m vs H)
theorem jM.fw(h:jM W n f m):FW W n f m:=λA l g H s vs u S R b a=>pg<|h A l g H s vs u S R b a
theorem DU{W:Wd}{n:M}{A:a9}{l:List bj}{g:Gh}{H:List af}{s:au}{t:List M}{Hs:List af}{wp:Tr}(mono':wp.Mono){r:R V}(S:dK W n A l g s)(R:aN W g H s)(hn:ia t=Q)(hp:kn t H t=some Hs)
  (h: ∀gs:Gh,gs.F=g.F→(∀(i k:M),t[i]? =some k→gs.as[i]? =g.as[k]?)→dK W n A l gs s→aN W gs Hs s→tG W l gs s wp r):
  tG W l g s wp (r.bind λv H'=> .ok (j0 t H.length v)<|gA t H H'):=λhne'=>by
 obtain ⟨p1,p2⟩:=ym hp
 have x: ∀k∈t,k<g.as.length:=λk hk=>by
  obtain ⟨i,hi⟩:=List.getElem?_of_mem hk
  obtain ⟨c,_,hc⟩:=p2 i k hi
  exact bw hc λc hc _=>R.len▸(List.getElem?_eq_some_iff.mp hc).1
 have hF:(⟨g.F,j2 g.as t⟩:Gh).F=g.F:=O
 have ha: ∀(i k:M),t[i]? =some k→(⟨g.F,j2 g.as t⟩:Gh).as[i]? =g.as[k]? :=λi k hi=>JC _ _ _ _ (x k<|List.mem_of_getElem? hi) hi
 have S':dK W n A l ⟨g.F,j2 g.as t⟩ s:=⟨S.hd,S.fr,S.dp,S.un,S.ff,λenv0' he L hL=>⟨λq=>(S.fl env0' he L hL).1<|pJ x q,(S.fl env0' he L hL).2⟩⟩
 have R':aN W ⟨g.F,j2 g.as t⟩ Hs s:=by
  refine⟨R.f0,R.fz,by rw[mZ,p1],λi c p w h2=> ?_,Iz R.nd (JI hn) x,λa h=>R.nf a<|pJ x h,λa h=>R.al a<|pJ x h,λa h=>R.nb a<|pJ x h,R.st,R.gens,R.os⟩
  have hi:i<t.length:=by rw[←p1];exact(List.getElem?_eq_some_iff.mp w).1
  obtain ⟨c',e2,e1⟩:=p2 i _<|List.getElem?_eq_getElem hi
  rw[w]at e2;cases e2
  exact bw e1 λc0 e1 e3=>JD hF ha e3<|R.cell _ c0 p e1<|(ha i _<|List.getElem?_eq_getElem hi).symm.trans h2
 refine mono' _ _ _ _ (h _ hF ha S' R'<|Mine.R.bindE hne') (λu s' p=> ?_) λe s' p=>p.casesOn λk er hx=>⟨k,by rw[er];rfl,hx.exc,hx.st,hx.ff,hx.gens,hx.os,λb o hb w h2 hn=>hx.keep b o hb (λq=>w<|pJ x q) h2 hn⟩
 obtain ⟨v,H',C,e,B,hv,G⟩:=p
 subst e
 obtain ⟨m,f⟩:=G.ge.as
 have f:C.as=j2 g.as t++m:=f
 have U:H'.length=t.length+m.length:=by rw[←B.len,f,List.length_append,mZ]
 have u1: ∀(j k:M) (p:c_),t[j]? =some k→C.as[j]? =some p→(g.as++m)[k]? =some p:=λj k p hj hp=>by
  have hjl':j<t.length:=(List.getElem?_eq_some_iff.mp hj).1
  rw[f,List.getElem?_append_left<|by rw[mZ];exact hjl']at hp
  have:=x k<|List.mem_of_getElem? hj
  rw[List.getElem?_append_left this,←ha j k hj];exact hp
 have u2: ∀(j:M) (p:c_),t.length≤j→C.as[j]? =some p→(g.as++m)[H.length+(j-t.length)]? =some p:=λj p hj hp=>by
  rw[f,List.getElem?_append_right (by rw[mZ];exact hj),mZ]at hp
  rw[←R.len,List.getElem?_append_right<|hZ _ _,pA];exact hp
 have y: ∀a∈bU m,s.heap.objs.size≤a:=λa h=>by
  rcases G.frL a (by rw[f,labs_append];exact List.mem_append_right _ h)with q|q
  ·have:=B.nd
   rw[f,labs_append,List.nodup_append]at this
   exact absurd rfl (this.2.2 a q a h)
  ·exact q
 have nfOld': ∀a∈bU g.as,C.F a=none:=λa h=>by
  cases q:C.F a with
  |none=>rfl
  |some o=>
   rcases G.frF a o q with q'|q'
   ·have:g.F a=some o:=q'
    rw[R.nf a h]at this;cases this
   ·exact absurd (R.al a h)<|dz.mpr q'
 have ge:Ge g ⟨C.F,g.as++m⟩:=⟨G.ge.F,m,O⟩
 refine⟨j0 t H.length v,gA t H H',⟨C.F,g.as++m⟩,O,?_,xH (g:=C) (gb:=⟨C.F,g.as++m⟩) O u1 u2 hv,ge,λa o ho w h2=>G.only a o ho (λq=>w<|pJ x q) h2,G.frF,λa h=> ?_,G.sz⟩
 ·refine⟨B.f0,B.fz,?_,λk c p w h2=> ?_,?_,λa h=> ?_,λa h=> ?_,λa h=> ?_,B.st,B.gens,B.os⟩
  ·show (g.as++m).length=_
   unfold gA
   rw[List.length_append,List.length_append,mX,List.length_map,List.length_drop,U,R.len];exact W4
  ·unfold gA at w
   by_cases hk:k<H.length
   ·rw[List.getElem?_append_left (by rw[mX];exact hk),xw]at w
    have hk'':k<g.as.length:=by rw[R.len];exact hk
    have I:g.as[k]? =some p:=by rw[←h2];exact(List.getElem?_append_left hk'').symm
    rw[List.getElem?_eq_getElem hk,lN]at w
    have w:vE t H.length H' k H[k]=c:=aY w
    unfold vE at w
    cases hix':ix t k with
    |some i=>
     rw[hix']at w
     have hi:=CR hix'
     have hil':i<t.length:=(List.getElem?_eq_some_iff.mp hi).1
     have hiH':H'[i]? =some (H'[i]'(by rw[U];exact W3 hil')):=List.getElem?_eq_getElem _
     have w:H'[i]?.elim .junk (kU t H.length)=c:=w
     rw[hiH']at w
     subst w
     refine Bu (g:=C) (gb:=⟨C.F,g.as++m⟩) O u1 u2<|B.cell i _ p hiH' ?_
     rw[f,List.getElem?_append_left<|by rw[mZ];exact hil']
     exact(ha i k hi).trans I
    |none=>
     rw[hix']at w
     subst w
     refine(R.cell k _ p (List.getElem?_eq_getElem hk) I).mono ge λa haa' o ho=>G.only a o ho (λq=> ?_) (λq=>nomatch q)
     obtain ⟨p',hp'',ha''⟩:=List.mem_flatMap.mp q
     obtain ⟨k',hk1',hk2'⟩:=xx _ x hp''
     exact uh R.nd I hk2' (λe=>CT hix'<|e▸hk1') a haa' ha''
   ·have hk:=dz.mp hk
    rw[List.getElem?_append_right (by rw[mX];exact hk),mX,List.getElem?_map,List.getElem?_drop]at w
    obtain ⟨c',hc'',rfl⟩:=fE.mp w
    refine Bu (g:=C) (gb:=⟨C.F,g.as++m⟩) O u1 u2<|B.cell _ c' p hc'' ?_
    have I:(g.as++m)[k]? =some p:=h2
    rw[List.getElem?_append_right (by rw[R.len];exact hk),R.len]at I
    rw[f,List.getElem?_append_right (by rw[mZ];exact hZ _ _),mZ,pA];exact I
  ·show (bU<|g.as++m).Nodup
   rw[labs_append,List.nodup_append]
   have:=B.nd
   rw[f,labs_append,List.nodup_append]at this
   refine⟨R.nd,this.2.1,λa h b hb hab'=> ?_⟩
   subst hab'
   exact absurd (R.al a h)<|dz.mpr<|y a hb
  ·have h:a∈bU (g.as++m):=h
   rw[labs_append]at h
   rcases List.mem_append.mp h with h|h
   ·exact nfOld' a h
   ·exact B.nf a (by rw[f,labs_append];exact List.mem_append_right _ h)
  ·have h:a∈bU (g.as++m):=h
   rw[labs_append]at h
   rcases List.mem_append.mp h with h|h
   ·exact je (R.al a h) G.sz
   ·exact B.al a (by rw[f,labs_append];exact List.mem_append_right _ h)
  ·have h:a∈bU (g.as++m):=h
   rw[labs_append]at h
   rcases List.mem_append.mp h with h|h
   ·exact R.nb a h
   ·exact B.nb a (by rw[f,labs_append];exact List.mem_append_right _ h)
 ·have h:a∈bU (g.as++m):=h
  rw[labs_append]at h
  rcases List.mem_append.mp h with h|h
  ·exact .inl h
  ·exact .inr (y a h)
theorem FW.sel(h:FW W n f m):FW W n f<|aU m:=λA l g H s vs u S R t a=>Co a λw v c r k o e=>by
 rw[e]at a⊢
 exact DU BR S R r o (λj p q i b=>h A l j c s v u i b<|Bx p q k t) a
theorem jM.sel(h:jM W n f m):jM W n f<|aU m:=λA l g H s vs u S R t a=>Co a λw v c r k o e=>by
 rw[e]at a⊢
 exact DU Cn S R r o (λj p q i b=>h A l j c s v u i b<|Bx p q k t) a
end
section
noncomputable def vP{α:Type}(f:V→d P)(e:α×V):d<|α×P:=(f e.2).map λx=>(e.1,x)
def zv(f:V→d P)(c:af):d P:=c.casesOn (λvs=>z<|.list vs) (λe=>(dJ (vP f) e).map .dict) (λC a=>(dJ (vP f) a).map<|.inst C) D
def AG:af→d P:=zv pv
def lc(k:M)(c:af):ak:=(zq c).all (· <k)
def fin(k:M)(v:V)(H:Y af):R V:=
 if(H.take k).all (lc k)=Q then v.casesOn (λj=>if j<k then .ok (.lbl j)<|H.take k else(H[j]?.bind AG).elim .err λx=> .ok (.p x)<|H.take k) λx=> .ok (.p x)<|H.take k else .err
theorem zh{α:Type}{f:V→d P}{e:α×V}{c:α×P}{G:Prop}(h:vP f e=z c)(k: ∀x,f e.2=z x→c=(e.1,x)→G):G:=by
 obtain ⟨x,b,a⟩:=fE.mp h
 exact k x b a.symm
theorem Ed{W:Wd}{g:Gh}{h:bB}{p:c_}{c:af}{x:P}{m:Fz}{f:V→d P}(B:gH W.tb g h p c)(s:zv f c=z x)(G: ∀a o,g.F a=z o→m a=z o)(H: ∀v x u,f v=z x→VR W.tb g v u→PR W.tb m x u)(r: ∀a∈p.1::p.2.toList,m a=h.get? a)(hb:W.base.get? p.1=D):PR W.tb m x<|.ref p.1:=by
 cases c with
 |list vs=>cases s;obtain ⟨n,xs,i,j⟩:=B;exact⟨p.1,n,xs,O,(r _<|.head _).trans i,be.mono G j⟩
 |dict es=>
  obtain ⟨A,e,rfl⟩:=fE.mp s
  obtain ⟨n,w,i,j,t⟩:=B
  exact⟨p.1,n,w,O,(r _<|.head _).trans i,uP.mpr (j.all e λc U u e q=>zh e λx y l=>by rw[l];exact⟨PR.mono G q.1,q.2.1,H _ _ _ y q.2.2⟩),(xW (p:=λe:P×V=>e.1) (q:=λe:P×P=>e.1) (λa b e=>zh e λx _ l=>by rw[l]) e).symm▸t,cL.mpr λq=>W.sm<|q▸hb⟩
 |inst C fs=>
  obtain ⟨A,e,rfl⟩:=fE.mp s
  obtain ⟨k,n,w,I,i,j,t⟩:=B
  exact⟨p.1,k,n,w,O,(r _<|.head _).trans i,(r k<|by rw[I];exact .tail _<|.head _).trans j,Dh.mpr<|t.all e λc U u e q=>zh e λx y l=>by rw[l];exact⟨q.1,H _ _ _ y q.2⟩⟩
 |junk=>cases s
theorem zk(b: ∀a o,g.F a=z o→m a=z o)(v:V)(x:P)(u:T)(h:pv v=z x)(f:VR t g v u):PR t m x u:=by
 cases v with
 |lbl k=>cases h
 |p y=>cases h;exact PR.mono b f
section
variable{tb:Tb}{g g2:Gh}{k:M}(hF: ∀a o,g.F a=z o→g2.F a=z o)(hk: ∀(j:M) (p:c_),j<k→g.as[j]? =z p→g2.as[j]? =z p)
include hF hk
theorem VR.below(h:VR tb g v u)(c:(lblsV v).all (· <k)=Q):VR tb g2 v u:=by
 cases v with
 |lbl j=>obtain ⟨p,b,e⟩:=h;exact⟨p,hk j p (fB ((b_ _ _).mp c).1) b,e⟩
 |p x=>exact PR.mono hF h
omit hF hk in
theorem B_{α:Type}{vs:Y<|α×V}(h:(vs.flatMap λe=>lblsV e.2).all (· <k)=Q){c:α×V}(f:c∈vs):(lblsV c.2).all (· <k)=Q:=jj.mp (List.all_flatMap▸h) c f
theorem gH.below{h:bB}{p:c_}{c:af}(x:gH tb g h p c)(l:lc k c=Q):gH tb g2 h p c:=by
 cases c with
 |list vs=>obtain ⟨n,o,b,e⟩:=x;exact⟨n,o,b,be.mono hF e⟩
 |dict r=>obtain ⟨n,f,b,e,i⟩:=x;exact⟨n,f,b,e.impM λc u j q=>⟨PR.mono hF q.1,q.2.1,q.2.2.below hF hk<|B_ l j⟩,i⟩
 |inst C s=>obtain ⟨a,n,f,m,b,e,i⟩:=x;exact⟨a,n,f,m,b,e,i.impM λc u j q=>⟨q.1,q.2.below hF hk<|B_ l j⟩⟩
 |junk=>trivial
end
theorem BB{g:Gh}(n:(bU g.as).Nodup){k j:M}{p:c_}(e:k≤j)(l:g.as[j]? =z p){a:ay}(c:a∈p.1::p.2.toList):a∉bU (g.as.take k):=λf=>by
 obtain ⟨q,m,h⟩:=tX.mp f
 obtain ⟨i,b⟩:=wW m
 have I:i<k:=je (dH.mp b).1<|List.length_take_le _ _
 rw[t4 I]at b
 exact uh n l b (Ga e I) a c h
theorem um(h:a∈bU (b.take k)):a∈bU b:=by
 rw[←wN k b,labs_append];exact List.mem_append_left _ h
theorem FA{W:Wd}{g:Gh}{H:Y af}{s:au}(R:aN W g H s){k:M}(u:(H.take k).all (lc k)=Q)(m:Fz)
  (t: ∀a o,g.F a=some o→m a=some o)(b: ∀a o,m a=some o→g.F a=some o∨(s.heap.get? a=some o∧ ∃(j:M) (p:c_),k≤j∧g.as[j]? =some p∧a∈p.1::p.2.toList)):
  aN W ⟨m,g.as.take k⟩ (H.take k) s:=by
 have f: ∀(j:M) (p:c_),j<k→g.as[j]? =some p→(g.as.take k)[j]? =some p:=λj p v w=>(t4 v).trans w
 refine⟨λa o e=>t a o<|R.f0 a o e,λa o e=>(b a o e).elim (R.fz a o) λh=>h.1,?_,λi c p n r=> ?_,?_,λa h=> ?_,λa h=>R.al a<|um h,λa h=>R.nb a<|um h,R.st,R.gens,R.os⟩
 ·show (g.as.take k).length=_;rw[mT,mT,R.len]
 ·have I:i<k:=je (dH.mp r).1 (List.length_take_le _ _)
  exact(R.cell i c p ((t4 I).symm.trans n)<|(t4 I).symm.trans r).below (g2:=⟨m,g.as.take k⟩) t f<|jj.mp u c<|dG n
 ·have:=R.nd
  rw[←wN k g.as,labs_append,kG]at this
  exact this.1
 ·show m a=none
  cases q:m a with
  |none=>rfl
  |some o=>exact(b a o q).elim (λl=>by rw[R.nf a<|um h]at l;cases l) λy=>y.2.elim λj y=>y.elim λp y=>(BB R.nd y.1 y.2.1 y.2.2 h).elim
theorem Gm{W:Wd}{g b:Gh}{H:Y af}{s s':au}{X:Y ay}(R:aN W b H s')(G:aL X g s b s')(k:(H.take g.as.length).all (lc g.as.length)=Q)(m:Fz)
  (i: ∀a o,b.F a=z o→m a=z o)(c: ∀a o,m a=z o→b.F a=z o∨(s'.heap.get? a=z o∧ ∃(j:M) (p:c_),g.as.length≤j∧b.as[j]? =z p∧a∈p.1::p.2.toList)):
  aN W ⟨m,g.as⟩ (H.take g.as.length) s'∧aL X g s ⟨m,g.as⟩ s':=by
 have B:b.as.take g.as.length=g.as:=by obtain ⟨n,f⟩:=G.ge.as;rw[f];exact List.take_left
 have r:=FA R k m i c
 rw[B]at r
 refine⟨r,⟨λa o e=>i a o<|G.ge.F a o e,[],(ft _).symm⟩,G.only,λa o e=>(c a o e).elim (G.frF a o) λy=>y.2.elim λj y=>y.elim λp y=>(G.frL a<|lV y.2.1 y.2.2).imp (λq=> ?_) id,λa h=> .inl h,G.sz⟩
 exact(BB R.nd y.1 y.2.1 y.2.2<|B.symm▸q).elim
theorem OD{W:Wd}{g b:Gh}{H r:Y af}{s s':au}{X:Y ay}{v w:V}{u:T}(R:aN W b H s')(G:aL X g s b s')(t:VR W.tb b v u)(e:fin g.as.length v H= .ok w r):
  ∃g2,aN W g2 r s'∧VR W.tb g2 w u∧aL X g s g2 s':=by
 unfold fin at e
 by_cases l:(H.take g.as.length).all (lc g.as.length)=Q
 ·rw[aw l]at e
  have same:=Gm R G l b.F (λ_ _ h=>h) λ_ _ h=> .inl h
  cases v with
  |p x=>cases e;exact⟨_,same.1,t,same.2⟩
  |lbl j=>
   obtain ⟨p,f,rfl⟩:=t
   by_cases m:j<g.as.length
   ·cases (aw m).symm.trans e
    obtain ⟨A,i⟩:=G.ge.as
    rw[i,t5 m]at f
    exact⟨_,same.1,⟨p,f,O⟩,same.2⟩
   ·have e:=(az m).symm.trans e
    cases k:H[j]?.bind AG with
    |none=>rw[k]at e;cases e
    |some x=>
     rw[k]at e;cases e
     refine bw k λc y k=> ?_
     have n: ∀a o,b.F a=some o→(if a∈p.1::p.2.toList then s'.heap.get? a else b.F a)=some o:=λa o h=>(az λq=>by rw[R.nf a<|lV f q]at h;cases h).trans h
     obtain ⟨B,C⟩:=Gm R G l (λa=>if a∈p.1::p.2.toList then s'.heap.get? a else b.F a) n λa o h=>by
      by_cases q:a∈p.1::p.2.toList
      ·exact .inr ⟨(aw q).symm.trans h,j,p,dz.mp m,f,q⟩
      ·exact .inl<|(az q).symm.trans h
     exact⟨_,B,Ed (R.cell j c p y f) k n (zk n) (λa q=>aw q)<|R.nb p.1<|lV f<|.head _,C⟩
 ·cases (az l).symm.trans e
theorem Mc:fin k v H≠ .exc i:=λq=>by
 unfold fin at q
 by_cases c:(H.take k).all (lc k)=Q
 ·rw[aw c]at q
  cases v with
  |p x=>cases q
  |lbl j=>
   by_cases b:j<k
   ·cases (aw b).symm.trans q
   ·have q:=(az b).symm.trans q
    cases h:H[j]?.bind AG with
    |none=>rw[h]at q;cases q
    |some x=>rw[h]at q;cases q
 ·cases (az c).symm.trans q
def aZ(m:Y V→Y af→R V):Y V→Y af→R V:=λvs H=>(m vs H).bind λv a=>fin H.length v a
theorem FO{W:Wd}{n:M}{l:Y bj}{g:Gh}{H:Y af}{s:au}{w:Tr}(mono':w.Mono){r:R V}(R:aN W g H s)(h:tG W l g s w r):tG W l g s w<|r.bind λv b=>Mine.fin H.length v b:=λa=>by
 refine mono' _ _ _ _ (h<|Mine.R.bindE a) (λu s' p=> ?_) λe s'=>bX.bind
 obtain ⟨v,b,o,e,f,c,G⟩:=p
 subst e
 show jB W [] g s (Mine.fin H.length v b) (VR W.tb) u s'
 have a:Mine.fin H.length v b≠ .err:=a
 cases q:Mine.fin H.length v b with
 |err=>exact(a q).elim
 |exc k=>exact(Mc q).elim
 |ok j m=>
  rw[←R.len]at q
  obtain ⟨g2,B,C,i⟩:=OD f G c q
  exact⟨j,m,g2,O,B,C,i⟩
theorem FW.fin{W:Wd}{n:M}{f:T}{m:Y V→Y af→R V}(h:FW W n f m):FW W n f<|aZ m:=λA l g H s vs u S R a=>
 FO (n:=n) (w:=λb E=>ar (av W.prog W.w) A (co f u []) b E s) BR R (h A l g H s vs u S R a)
theorem jM.fin{W:Wd}{n:M}{f:T}{m:Y V→Y af→R V}(h:jM W n f m):jM W n f<|aZ m:=λA l g H s vs b S R a=>
 FO (n:=n) Cn R (h A l g H s vs b S R a)
end
section
theorem aN.ext(R:aN W g H s)(k: ∀b o,s.heap.get? b=z o→s'.heap.get? b=z o)(m:s.heap.objs.size≤s'.heap.objs.size)(l:s'.gens=s.gens)(y:s'.os=s.os):aN W g H s':=
 ⟨R.f0,λa o e=>k _ _<|R.fz a o e,R.len,λi c p f j=>(R.cell i c p f j).mono (.refl g) λa _ o e=>k _ _ e,R.nd,R.nf,λa h=>je (R.al a h) m,R.nb,λb o e=>k _ _<|R.st b o e,l.trans R.gens,y.trans R.os⟩
theorem aL.ext(k: ∀b o,s.heap.get? b=z o→s'.heap.get? b=z o)(c:s.heap.objs.size≤s'.heap.objs.size):aL X g s g s':=
 ⟨.refl g,λa o e _ _=>k _ _ e,λa o e=> .inl e,λa h=> .inl h,c⟩
structure qu(scope:d9)(ns:Y (an×aT))(params:Y an):Prop where
 kind:scope.kind= .function
 look: ∀p∈ns,scope.names.lookup p.1=z p.2∧(p.2= .local∨(p.2= .cell∧ ∀N,((cellsFrom N scope.names []).lookup p.1).isSome=Q))
 nd:(ns.map (·.1)).Nodup
 par:(ns.map (·.1)).take params.length=params
theorem H9(n:Y<|an×aT)(e c:M)(a b:Y<|an×ay)(h:a.map (·.1)=b.map (·.1)):(cellsFrom e n a).map (·.1)=(cellsFrom c n b).map (·.1):=by
 induction n generalizing e c a b with
 |nil=>exact h
 |cons p r i=>
  unfold cellsFrom
  by_cases q:(p.2== .cell)=Q
  ·rw[aw q,aw q];exact i _ _ _ _ (aR (p.1:: ·) h)
  ·rw[az q,az q];exact i _ _ _ _ h
theorem Ie{α:Type}(l:Y<|an×α)(x:an):(l.lookup x).isSome=(l.map (·.1)).contains x:=by
 induction l with
 |nil=>rfl
 |cons p r i=>
  obtain ⟨y,v⟩:=p
  rw[wQ,ee,n6,←i]
  cases x==y<;>rfl
noncomputable def sr(s:d9)(n:Y<|an×aT)(a:Y an):ak:=
 s.kind== .function&&n.all (λp=>s.names.lookup p.1==z p.2&&(p.2== .local||(p.2== .cell&&((cellsFrom 0 s.names []).lookup p.1).isSome)))&&
  decide ((n.map (·.1)).Nodup)&&(n.map (·.1)).take a.length==a
theorem uJ(h:sr s n a=Q):qu s n a:=by
 unfold sr at h
 simp only[b_,jj,fC,Bool.or_eq_true,dM]at h
 obtain ⟨⟨⟨g,b⟩,i⟩,j⟩:=h
 refine⟨g,λp c=>⟨(b p c).1,?_⟩,i,j⟩
 rcases (b p c).2 with q|⟨q,f⟩
 ·exact .inl q
 ·refine .inr ⟨q,λe=> ?_⟩
  rw[Ie]at f⊢
  rw[H9 s.names e 0 [] [] O];exact f
inductive kw(W:Wd)(f:ay)(body:Y dy)(scope:d9)(params:Y an)(np:M):Prop
 |mk (fd:FuncData) (o:Obj) (k1:W.base.get? f=z o) (k2:o.data= .func fd) (k3:fd.body= .stmts body) (k4:fd.scope=scope) (k5:fd.globals=fU) (k6:fd.builtins=nZ) (k7:fd.closure= []) (k8:W.base.CodeRec fd.code fd.qualname)
  (k9:scope.isCoroutine=N) (k10:scope.isGenerator=N)
  (k11: ∀(s:au) (us:Y T),W.base.StaysIn s.heap→us.length=np→BindsTo s fd ⟨us,[]⟩ (params.zip (us++cX (params.length-np) dN))):kw W f body scope params np
theorem J4(b:Y<|an×T)(m:an→d T)(x:an)(h:x∉b.map (·.1)):bindL k b m x=m x:=by
 induction b generalizing m with
 |nil=>rfl
 |cons p r i=>
  obtain ⟨a,e⟩:=not_or.mp<|mt dP.mpr h
  unfold bindL
  rw[i _ e]
  by_cases q:k p.1=z .local
  ·rw[aw q];exact az a
  ·rw[az q]
theorem J5(b:Y<|an×T)(m:an→d T)(x:an)(h:x∉b.map (·.1)):bindC k b m x=m x:=by
 induction b generalizing m with
 |nil=>rfl
 |cons p r i=>
  obtain ⟨a,e⟩:=not_or.mp<|mt dP.mpr h
  unfold bindC
  rw[i _ e]
  by_cases q:k p.1=z .local
  ·rw[aw q]
  ·rw[az q];exact az a
theorem xU(b:Y<|an×T)(m:an→d T)(i:M)(x:an)(u:T)(c:(b.map (·.1)).Nodup)(h:b[i]? =z (x,u))(I:k x=z .local):bindL k b m x=z u:=by
 induction b generalizing m i with
 |nil=>cases h
 |cons p r f=>
  obtain ⟨a,e⟩:=pC.mp c
  unfold bindL
  cases i with
  |zero=>
   obtain rfl:p=(x,u):=aY h
   rw[J4 r _ x a,aw I];exact aw O
  |succ i=>exact f _ i e h
theorem KX(b:Y<|an×T)(m:an→d T)(i:M)(x:an)(u:T)(c:(b.map (·.1)).Nodup)(h:b[i]? =z (x,u))(I:k x≠z .local):bindC k b m x=z u:=by
 induction b generalizing m i with
 |nil=>cases h
 |cons p r f=>
  obtain ⟨a,e⟩:=pC.mp c
  unfold bindC
  cases i with
  |zero=>
   obtain rfl:p=(x,u):=aY h
   rw[J5 r _ x a,az I];exact aw O
  |succ i=>exact f _ i e h
noncomputable def oL(b:bj)(p:an×aT):bV:=if p.2= .local then .dict b.locals p.1 else .cell<|(b.cells.lookup p.1).getD 0
def lm(b:bj)(n:Y<|an×aT):Y bV:=n.map<|oL b
theorem eC.nones(n:M):eC t g (cX n<|.p .none)<|cX n dN:=by
 induction n with
 |zero=>rfl
 |succ n i=>exact⟨_,_,O,(O:dN=dN),i⟩
def aS(a n b:M)(m:aj→Y af→R Fl):Y V→Y af→R V:=λvs H=>
 if vs.length=a then(m ((vs++cX n (V.p P.none)).map z++cX (b-(a+n)) D) H).bind λf H=>f.casesOn (λ_=> .ok (.p .none) H) λv=> .ok v H
 else .err
theorem uq(R:aN W g H s)(h:s.heap.objs.size≤a):a∉bU g.as∧g.F a=none∧W.base.get? a=none:=by
 refine⟨λq=>absurd (R.al _ q)<|dz.mpr h,?_,?_⟩
 ·cases q:g.F a with
  |none=>rfl
  |some o=>exact absurd (cI<|R.fz _ o q)<|dz.mpr h
 ·cases q:W.base.get? a with
  |none=>rfl
  |some o=>exact absurd (cI<|R.st _ o q)<|dz.mpr h
theorem zz(G:dD W)(K:kw W f body' scope' m U)(j:qu scope' C m)(hnp':U≤m.length)
  (S:dK W (n+1) A l g s)(R:aN W g H s)(hv:eC W.tb g vs us)(hlen0':vs.length=U)
  (h: ∀r s₀,bD W ⟨scope',C.map z⟩ n (A.deeper r) (r::l) r (lm r C) ((vs++cX (m.length-U) (V.p P.none)).map z++cX (C.length-(U+(m.length-U))) D) g H s₀→(∀b o,s.heap.get? b=z o→s₀.heap.get? b=z o)→s.heap.objs.size≤s₀.heap.objs.size→
   (∀a∈dC (lm r C),s.heap.objs.size≤a)→ar (av W.prog W.w) (A.deeper r) (execs body' r) (λfl s'=>RR (.ok<|.ret<|match fl with| .ret v=>v|_=> .none) s')
    (λe s'=>ar (av W.prog W.w) (A.deeper r) (leaving r e) (λ_ s'''=>RR (.error e) s''') (λe' s'''=>RR (.error e') s''') s') s₀):
  i_ (av W.prog W.w) A (.call (.ref f) ⟨us,[]⟩) RR s:=by
 obtain ⟨fd,o,k1,k2,k3,k4,k5,k6,k7,k8,k9,k10',k11'⟩:=K
 subst k4
 refine codeAny_call_function (W2 S.dp) (R.st f o k1) k2 k9 k10' k3 (k8.keeps R.st) ?_
 refine k11' s us R.st (hv.length.trans hlen0') _ _ _ _ ?_
 rw[k7]
 have hpl':m.length≤C.length:=by
  have:=aR kH j.par
  rw[mT,bc]at this;exact W1 this
 have hv'0':eC W.tb g (vs++cX (m.length-U) (V.p P.none))<|us++cX (m.length-U) dN:=aV.append hv<|eC.nones _
 have husl':m.length=(us++cX (m.length-U) dN).length:=by rw[bE,hv.length,hlen0',wU];exact(F_ hnp').symm
 have hll':((vs++cX (m.length-U) (V.p P.none)).map z++cX (C.length-(U+(m.length-U))) D).length=C.length:=by
  rw[bE,bc,bE,wU,wU,hlen0'];exact(W0 hnp' hpl').symm
 generalize vs++cX (m.length-U) (V.p P.none)=vs'' at hv'0' h hll'
 generalize us++cX (m.length-U) dN=us'' at hv'0' husl'
 have hzf':(m.zip us'').map (·.1)=m:=List.map_fst_zip<|aM husl'
 have hpar': ∀(i:M) (x:an),m[i]? =z x→ ∃k,C[i]? =z (x,k):=λi x hx=>by
  rw[←j.par,List.getElem?_take,eK]at hx
  by_cases q:i<m.length
  ·rw[aw q]at hx
   obtain ⟨p,hy,rfl⟩:=fE.mp hx
   exact⟨p.2,hy⟩
  ·rw[az q]at hx;cases hx
 have hbn':((m.zip us'').map (·.1)).Nodup:=by rw[hzf',←j.par];exact j.nd.sublist<|List.take_sublist _ _
 refine wpAny_newFunctionEnv_cells j.kind (λx hx=> ?_) λr he s₀ x=> ?_
 ·obtain ⟨i,hi⟩:=wW hx
  obtain ⟨k,hk⟩:=hpar' i x.1 (List.getElem?_zip_eq_some.mp hi).1
  obtain ⟨q1,q2⟩:=j.look _<|dG hk
  rcases q2 with q2|⟨q2,q3⟩
  ·exact .inl (q1.trans (aR z q2))
  ·exact .inr ⟨q1.trans (aR z q2),q3 _⟩
 have e1:r.scope=fd.scope:=by rw[he];rfl
 have e2:r.locals=s.heap.objs.size:=by rw[he];rfl
 have e5:r.frame=z s.heap.objs.size:=by rw[he];rfl
 have e6:r.cells=cellsFrom (s.heap.objs.size+1) fd.scope.names []:=by rw[he];rfl
 have e3:r.globals=fU:=by rw[he];exact k5
 have e4:r.builtins=nZ:=by rw[he];exact k6
 clear he
 have hkd': ∀y,r.kindOf y=fd.scope.names.lookup y:=λy=>by unfold jP;rw[e1]
 obtain ⟨⟨same,nsx',keep',fresh⟩,xcell',xapart',xabove'⟩:=x
 obtain ⟨hh,tk,hs₀'⟩:=same
 have hsz':s.heap.objs.size≤s₀.heap.objs.size:=fq<|wK fresh nsx'.lt
 have R₀:aN W g H s₀:=R.ext keep' hsz' (by rw[hs₀']) (by rw[hs₀'])
 have G₀:aL [] g s g s₀:=aL.ext keep' hsz'
 have t: ∀(p:an×aT),p∈C→p.2≠ .local→ ∃c,r.cells.lookup p.1=z c∧oL r p= .cell c:=λp hp hk=>by
  rcases (j.look p hp).2 with q|⟨_,q⟩
  ·exact absurd q hk
  ·obtain ⟨c,hc⟩:=mR.mp (q<|s.heap.objs.size+1)
   rw[←e6]at hc
   exact⟨c,hc,by unfold oL;rw[az hk,hc];rfl⟩
 have w: ∀(p:an×aT),p.2= .local→oL r p= .dict r.locals p.1:=λp hk=>aw hk
 have one': ∀p∈C,s.heap.objs.size≤(oL r p).addr∧(oL r p).room s₀.heap:=λp hp=>by
  by_cases hk:p.2= .local
  ·rw[w p hk];exact⟨aM e2.symm,_,nsx'⟩
  ·obtain ⟨c,hc,hc''⟩:=t p hp hk
   rw[hc''];exact⟨e2▸fq (xabove' p.1 c<|PySem.mem_of_lookup hc),_,xcell' _ c hc⟩
 have hadr': ∀ac∈lm r C,s.heap.objs.size≤ac.addr:=λac I=>by
  obtain ⟨p,hp,rfl⟩:=cY.mp I
  exact(one' p hp).1
 have hat': ∀{i:M} {p:an×aT},C[i]? =z p→(lm r C)[i]? =z (oL r p):=λ{i p} hp=>by unfold lm;rw[eK,hp];rfl
 have L₀:gh W (lm r C) (vs''.map z++cX (C.length-(U+(m.length-U))) D) g s₀:=by
  refine⟨λi v hi=> ?_,λac I=> ?_,?_,λac I=>uq R<|hadr' ac I,?_⟩
  ·rw[List.getElem?_append]at hi
   by_cases hil':i<(vs''.map z).length
   ·rw[aw hil',eK]at hi
    obtain ⟨v',hv''',e'⟩:=fE.mp hi
    cases e'
    obtain ⟨u,hu,hvu'⟩:=hv'0'.at hv'''
    have hpi':m[i]? =z (m[i]'(husl'▸(dH.mp hu).1)):=de _
    obtain ⟨k,hk⟩:=hpar' i _ hpi'
    have hb:=(List.getElem?_zip_eq_some (z:=(_,u))).mpr ⟨hpi',hu⟩
    refine⟨_,u,hat' hk,?_,hvu'⟩
    have q1:=(j.look _<|dG hk).1
    by_cases B:k= .local
    ·rw[w _ B]
     exact⟨_,nsx',xU _ _ i _ u hbn' hb<|(hkd' _).trans<|q1.trans<|aR z B⟩
    ·obtain ⟨c,hc,hc''⟩:=t _ (dG hk) B
     rw[hc'']
     have xc:=xcell' _ c hc
     rw[KX _ _ i _ u hbn' hb λq=>B<|aY<|q1.symm.trans<|(hkd' _).symm.trans q]at xc
     exact xc
   ·rw[az hil']at hi
    cases List.eq_of_mem_replicate (dG hi)
  ·obtain ⟨p,hp,rfl⟩:=cY.mp I
   exact(one' p hp).2
  ·refine rm.mpr ((rm.mp j.nd).imp_of_mem λ{a b} ha hb hab' q=> ?_)
   by_cases h1:a.2= .local
   ·rw[w a h1]at q
    by_cases h2:b.2= .local
    ·rw[w b h2]at q;injection q with _ q;exact hab' q
    ·obtain ⟨c2,_,hc20'⟩:=t b hb h2
     rw[hc20']at q;cases q
   ·obtain ⟨c,hc,hc''⟩:=t a ha h1
    rw[hc'']at q
    by_cases h2:b.2= .local
    ·rw[w b h2]at q;cases q
    ·obtain ⟨c2,hc20',hc2''⟩:=t b hb h2
     rw[hc2'']at q
     injection q with q
     exact hab'<|PySem.name_of_addr xapart' (PySem.mem_of_lookup hc)<|PySem.mem_of_lookup<|q▸hc20'
  ·rw[hll'];exact bc _
 have E₀:jw ⟨fd.scope,C.map z⟩ r (lm r C)<|r::l:=by
  refine⟨e1,j.kind,e3,e4,⟨r,l,O,O⟩,λi y k hi=> ?_⟩
  rw[eK]at hi
  obtain ⟨p,hp,e'⟩:=fE.mp hi
  obtain rfl:=aY e'
  obtain ⟨q1,q2⟩:=j.look _<|dG hp
  refine⟨q1,?_⟩
  by_cases B:k= .local
  ·exact .inl ⟨B,(hat' hp).trans<|aR z<|w (y,k) B⟩
  ·obtain ⟨c,hc,hc''⟩:=t _ (dG hp) B
   exact .inr ⟨.inl (q2.elim (λq=>absurd q B) (·.1)),c,hc,(hat' hp).trans<|aR z hc''⟩
 have new':=uq R<|bo s.heap.objs.size
 have S₀:dK W n (A.deeper r) (r::l) g s₀:=by
  have S1:=S.grow0 G₀
  refine⟨S.hd,by show A.frames.map (r:: ·)=_;rw[S.fr];rfl,F9 S.dp,WZ S.un,⟨by rw[e1,j.kind];exact(λq=>nomatch q),⟨s.heap.objs.size,?_⟩,S1.ff⟩,λenv'' he' L hL=> ?_⟩
  ·obtain ⟨o',es,ep,a1,a2,_⟩:=nsx'
   exact⟨o',e5,new'.2.2,e2▸a1,λvs q=>by rw[a2]at q;cases q⟩
  ·rcases dP.mp he' with rfl|he'
   ·rw[e5]at hL;cases hL
    exact⟨new'.1,new'.2.1⟩
   ·exact S1.fl env'' he' L hL
 have hX: ∀a∈dC (lm r C),s.heap.objs.size≤a:=λa ha=>by
  obtain ⟨ac,I,rfl⟩:=cY.mp ha
  exact hadr' ac I
 exact⟨(G.lim.keeps R.st).keeps keep',codeAny_func<|h r s₀ ⟨E₀,S₀,R₀,L₀⟩ keep' hsz' hX⟩
theorem aL.inner(G:aL X g c e s')(I: ∀b o,s.heap.get? b=z o→c.heap.get? b=z o)(h:s.heap.objs.size≤c.heap.objs.size)(U: ∀a∈X,s.heap.objs.size≤a):aL [] g s e s':=
 ⟨G.ge,λa o y f _=>G.only a o (I a o y) f λq=>absurd (cI y)<|dz.mpr<|U a q,λa o y=>(G.frF a o y).imp id<|bF h,λa i=>(G.frL a i).imp id<|bF h,bF h G.sz⟩
theorem HN(e:dD W)(K:kw W f w t c B)(j:qu t U c)(hnp':B≤c.length)
  (h:SS W ⟨t,U.map z⟩ n w m):jM W (n+1) (.ref f)<|aS B (c.length-B) U.length m:=λA l g H s vs us S R hv=>by
 unfold aS
 by_cases hlen0':vs.length=B
 ·rw[aw hlen0']
  intro C
  unfold wB
  refine zz e K j hnp' S R hv hlen0' λi s₀ P₀ r I hX=> ?_
  refine bq (h (A.deeper i) (i::l) i (lm i U) _ g H s₀ P₀<|Mine.R.bindE C) (λfl s' p=> ?_) λev s' p=> ?_
  ·obtain ⟨v,H',g',e',R',x,G'⟩:=p
   have G:=G'.inner r I hX
   rw[e']
   cases v with
   |next loc''=>
    obtain ⟨rfl,_⟩:=x
    exact⟨.p .none,H',g',O,R',(O:dN=dN),G⟩
   |ret v=>
    obtain ⟨u,rfl,hu⟩:=x
    exact⟨v,H',g',O,R',hu,G⟩
  ·obtain ⟨k,er,hx⟩:=p
   obtain ⟨a,dx,rfl,F⟩:=hx.fly
   refine IG (A:=A.deeper i) (by show A.frames.map (i:: ·)=_;rw[S.fr];rfl) F λh' F' n'=>⟨k,by rw[er];rfl,?_⟩
   have y:=hx.next F' n'
   exact⟨y.exc,y.st,y.ff,y.gens,y.os,λb o hb h1 h2 hn=>y.keep b o (r b o hb) h1 (λq=>absurd (cI hb)<|dz.mpr<|hX b q) hn⟩
 ·rw[az hlen0'];exact λh=>absurd rfl h
theorem FN(b:dD W)(K:kw W f c s a e)(j:qu s g a)(hnp':e≤a.length)
  (h:SS W ⟨s,g.map z⟩ n c m):FW W (n+1) (.ref f)<|aS e (a.length-e) g.length m:=(HN b K j hnp' h).fw
end
section
theorem aN.upd(R:aN W g H s)(m:g.as[k]? =z p)(v:a∈p.1::p.2.toList)(u:hU a s.heap h)
  (y:gH W.tb g h p w):aN W g (H.set k w) {s with heap:=h,toks:=A}∧aL [] g s g {s with heap:=h,toks:=A}:=by
 have r:=lV m v
 have keep': ∀b o,s.heap.get? b=z o→b≠a→h.get? b=z o:=λb o e t=>(u.2 b t).trans e
 refine⟨⟨R.f0,λb o e=>keep' b o (R.fz b o e) λq=>(by rw[q,R.nf a r]at e;cases e),by rw[List.length_set];exact R.len,λj x q c l=> ?_,R.nd,R.nf,λb f=>by show b<h.objs.size;rw[u.1];exact R.al b f,R.nb,λb o e=>keep' b o (R.st b o e) λq=>(by rw[q,R.nb a r]at e;cases e),R.gens,R.os⟩,
  ⟨.refl g,λb o e c _=>keep' b o e λq=>c<|q▸r,λb o e=> .inl e,λb f=> .inl f,by show s.heap.objs.size≤h.objs.size;rw[u.1];exact bo _⟩⟩
 by_cases n:k=j
 ·subst n
  have I:k<H.length:=by rw[←R.len];exact(dH.mp m).1
  rw[wV I]at c
  cases c
  rw[m]at l;cases l
  exact y
 ·rw[List.getElem?_set_ne n]at c
  exact(R.cell j x q c l).mono (.refl g) λb f o e=>keep' b o e λq'=>by
   subst q'
   exact uh R.nd m l n b v f
def ig(C i:M):ak:=(kQ C).contains i
structure Wg(W:Wd)(C:M):Prop where
 dict:hasDictIn W.K (W.tb.cls C)=Q
 ga:d8 W.K (.ref (W.tb.cls C)) "__getattribute__"=z (z (.builtin "object.__getattribute__"))
 gat:d8 W.K (.ref (W.tb.cls C)) "__getattr__"=z D
 sa:d8 W.K (.ref (W.tb.cls C)) "__setattr__"=z (z (.builtin "object.__setattr__"))
 over:plainOver W.K (W.tb.cls C)=Q
 attr: ∀i,ig C i=Q→d8 W.K (.ref (W.tb.cls C)) (W.tb.at_ i)=z D
def nK{α:Type}(a:Y<|M×α)(i:M):d α:=eo D (λf _ b=>if f.1=i then z f.2 else b) a
def vS{α:Type}(a:Y<|M×α)(i:M)(v:α):Y<|M×α:=eo [(i,v)] (λf r b=>if f.1=i then(f.1,v)::r else f::b) a
section
variable{α:Type}{tb:Tb}{at':α→T→Prop}{fs:Y (M×α)}{es:Y fe}
theorem BF(h:e.key= .str (tb.at_ k) t):getL name (e::es)=if tb.at_ k=name then z<|z e.val else getL name es:=by
 have b:e.refKey=N:=by unfold DictEntry.refKey;rw[h]
 have a:e.key.isStr name=(tb.at_ k==name):=by rw[h];rfl
 unfold getL
 rw[t7,a,ro,b,Bool.false_or]
 by_cases q:tb.at_ k=name
 ·rw[aw q,dM.mpr q]
 ·rw[az q,cL.mpr q]
theorem Jf(a: ∀i j,tb.at_ i=tb.at_ j→i=j)(h:aV (AE tb at') fs es):(∀v,nK fs i=z v→ ∃u,getL (tb.at_ i) es=z (z u)∧at' v u)∧(nK fs i=D→getL (tb.at_ i) es=z D):=by
 induction fs generalizing es with
 |nil=>cases h;exact⟨λv e=>(by cases e),λ_=>rfl⟩
 |cons f r n=>
  obtain ⟨k,w⟩:=f
  obtain ⟨e,b,rfl,⟨⟨t,c⟩,g⟩,l⟩:=h
  rw[BF c]
  show (∀v,(if k=i then z w else nK r i)=z v→_)∧((if k=i then z w else nK r i)=D→_)
  by_cases I:k=i
  ·rw[aw<|aR _ I,aw I]
   exact⟨λv m=>⟨e.val,O,aY m▸g⟩,λm=>nomatch m⟩
  ·rw[az λq=>I<|a _ _ q,az I]
   exact n l
theorem Je(h:aV (AE tb at') fs es)(b: ∀f∈fs,tb.at_ f.1≠name):getL name es=z D:=by
 induction fs generalizing es with
 |nil=>cases h;rfl
 |cons f r i=>
  obtain ⟨e,a,rfl,⟨⟨t,c⟩,j⟩,g⟩:=h
  rw[BF c,az<|b _<|.head _]
  exact i g λf k=>b f<|.tail _ k
theorem I7(a: ∀i j,tb.at_ i=tb.at_ j→i=j)(g:at' v u)(h:aV (AE tb at') fs es):aV (AE tb at') (vS fs i v)<|putL (tb.at_ i) s (.str (tb.at_ i) t) u es:=by
 induction fs generalizing es with
 |nil=>cases h;exact⟨_,_,O,⟨⟨t,O⟩,g⟩,O⟩
 |cons f r p=>
  obtain ⟨k,w⟩:=f
  obtain ⟨e,m,rfl,⟨⟨l,b⟩,n⟩,c⟩:=h
  have o:e.key.isStr (tb.at_ i)=(tb.at_ k==tb.at_ i):=by rw[b];rfl
  show aV _ (if k=i then(k,v)::r else(k,w)::vS r i v) _
  unfold putL
  rw[o]
  by_cases I:k=i
  ·rw[aw I,aw<|dM.mpr<|aR _ I]
   exact⟨_,_,O,⟨⟨l,b⟩,g⟩,c⟩
  ·rw[az I,az λq=>I<|a _ _<|eq_of_beq q]
   exact⟨_,_,O,⟨⟨l,b⟩,n⟩,p c⟩
theorem N9(h:aV (AE tb at') fs es):es.any (·.refKey)=N:=by
 induction fs generalizing es with
 |nil=>cases h;rfl
 |cons f r i=>
  obtain ⟨e,a,rfl,⟨⟨t,b⟩,g⟩,c⟩:=h
  rw[ro,i c,jk]
  unfold DictEntry.refKey;rw[b]
end
noncomputable def V6(p:P):d<|M×Y (M×V):=p.casesOn D (λ_=>D) (λ_=>D) (λ_=>D) (λ_=>D) (λ_=>D) (λ_=>D) (λ_=>D) λC a=>z (C,a.map λf=>(f.1,V.p f.2))
noncomputable def vy(c:af):d<|M×Y (M×V):=c.casesOn (λ_=>D) (λ_=>D) (λC f=>z (C,f)) D
def f6(v:V)(H:Y af):d<|M×Y (M×V):=v.casesOn (λk=>H[k]?.bind vy) V6
theorem Cg(h:vy c=z q):c= .inst q.1 q.2:=by cases c<;>first|(cases h;done)|(cases h;rfl)
theorem xB(e:f6 x H=z q)(R:aN W g H s)(j:VR W.tb g x u):
  ∃a b n f,u= .ref a∧s.heap.get? a=z (instObj (W.tb.cls q.1) b)∧s.heap.get? b=z (cj f n)∧qU W.tb g q.2 f.toList:=by
 cases x with
 |lbl k=>
  obtain ⟨p,h,i⟩:=j
  refine bw e λc I e=> ?_
  obtain ⟨b,n,f,v,l,m,o⟩:=R.cell k _ p (Cg e▸I) h
  exact⟨p.1,b,n,f,i,l,m,o⟩
 |p y=>
  cases y<;>first|(cases e;done)|skip
  cases e
  obtain ⟨a,b,n,f,h,i,r,t⟩:=j
  exact⟨a,b,n,f,h,R.fz _ _ i,R.fz _ _ r,(Dh.mp t).map λ_ _ q=>q⟩
theorem uI{W:Wd}{h:bB}{C:M}{a k:ay}{b:aQ fe}{n:M}(c:h.get? a=z (instObj (W.tb.cls C) k))(e:h.get? k=z (cj b n)):InstAt h a (instObj (W.tb.cls C) k) (W.tb.cls C)<|z<|cj b n:=⟨c,O,O,e⟩
def aF(i:M)(x:V)(H:Y af):R V:=(f6 x H).elim .err λq=>if ig q.1 i=Q then(nK q.2 i).elim .err λv=> .ok v H else .err
abbrev oM(W:Wd):Prop:= ∀C i,ig C i=Q→Wg W C
section
variable{W:Wd}{fi:FI}{n:M}(aJ':dD W)(CL:oM W)
include aJ' CL
theorem Bm{A:a9}{l:Y bj}{X:Y ay}{g:Gh}{H:Y af}{s:au}{i:M}{name:an}{x:V}{u:T}{p:ak}(h:W.tb.at_ i=name)(R:aN W g H s)(C:VR W.tb g x u):
  Cl W A l X g s (getAttr u name p) (aF i x H) (VR W.tb):=by
 subst h
 refine Cl.opt λq e=>Cl.gd λf=>Cl.opt λv o=> ?_
 obtain ⟨a,c,m,G,rfl,r,t,y⟩:=xB e R C
 obtain ⟨w,B,j⟩:=(Jf aJ'.inj y).1 v o
 have K:=CL q.1 i f
 exact Cl.val R λb E k=>get_value (aJ'.kin.keeps R.st) (uI r t) K.ga (findObj_own K.dict (K.attr i f) O B) j.shape.2<|k _ _ j
end
abbrev pX(o:aP):Prop:= ∀a b w,attributeBase o a b w=w
theorem AY(h:pX o):eval (.Attribute o a p) b=(do
  let v←eval o b
  dF p.atName
  let r←holding [v] (getAttr v a Q)
  letTemporaryGo o v r
  pure r):=by
 have e:eval (.Attribute o a p) b=(do
  let v←attributeBase o a b (eval o b)
  dF p.atName
  let r←holding [v] (getAttr v a Q)
  letTemporaryGo o v r
  pure r):=O
 rw[e,h]
theorem A6(a:Y fe):(putL name n k v a).length≤a.length+1:=by
 induction a with
 |nil=>exact bo 1
 |cons e r i=>
  unfold putL
  by_cases q:e.key.isStr name=Q
  ·rw[aw q];exact eR _
  ·rw[az q];exact Nat.succ_le_succ i
def aD(o:V→Y af→R V)(m:aj→Y af→R V):aj→Y af→R V:=λl H=>(m l H).bind o
section
variable{W:Wd}{fi:FI}{n:M}(av':dD W)(CL:oM W)
include av' CL
theorem SE.attr(i:M)(a:W.tb.at_ i=name)(h:SE W fi n o m)(k:pX o):SE W fi n (.Attribute o name x)<|aD (aF i) m:=λA l f c loc g H s P=>by
 rw[AY k]
 refine Cl.bind (h A l f c loc g H s P) λv y C u s' _ j w G=>Cl.stand ?_
 have:=Bm av' CL (A:=A) (l:=l) (X:= []) (p:=Q) a j w
 refine Cl.of_imp (t:=getAttr u name Q) (λb E q=>am<|b0<|bq q (λr I p=> ?_) λ_ _ e=>e) this
 exact am<|tM<|aA p
def eW(i:M)(x v:V)(H:Y af):R Unit:=x.casesOn (λk=>(H[k]?.bind vy).elim .err λq=>if ig q.1 i=Q∧q.2.length≤100 then .ok ()<|H.set k<|.inst q.1<|vS q.2 i v else .err) λ_=> .err
theorem Be{A:a9}{l:Y bj}{g:Gh}{H:Y af}{s:au}{i:M}{name:an}{x v:V}{u w:T}(j:W.tb.at_ i=name)(R:aN W g H s)(hx:VR W.tb g x u)(hv:VR W.tb g v w):
  Cl W A l [] g s (qZ u name w) (eW i x v H) (λ_ _ _=>True):=by
 subst j
 cases x with
 |p x=>exact Cl.err
 |lbl k=>
 refine Cl.opt λq e=>Cl.gd λhq=>bw e λc hk e=> ?_
 obtain ⟨y,hlen0'⟩:=hq
 obtain ⟨p,hp,rfl⟩:=hx
 obtain ⟨f,m,t,a0,B,o,G⟩:=R.cell k _ p (Cg e▸hk) hp
 have K:=CL q.1 i y
 have X:=av'.kin.keeps R.st
 have I:=uI (W:=W) B o
 refine λ_=>set_plain X I K.sa (osa_open (s:={s with toks:=s.toks+1}) X I K.over (r:=D) (by unfold takerIn;rw[K.attr i y];rfl) λb=> ?_)
 obtain ⟨cd,hc,U⟩:=any_some K.dict
 obtain ⟨C,h⟩: ∃C,Obj.putName (W.tb.at_ i) (lK W.w.params (W.tb.at_ i)) (.str (W.tb.at_ i) (s.toks+1)) w (cj t m)=cj (putL (W.tb.at_ i) (lK W.w.params (W.tb.at_ i)) (.str (W.tb.at_ i) (s.toks+1)) w t.toList).toArray C:=⟨_,putName_dict (W.tb.at_ i) _ _ w t.toList m⟩
 have hne':f≠p.1:=λq=>by rw[q,B]at o;cases o
 have hg:(s.heap.update f<|Obj.putName (W.tb.at_ i) (lK W.w.params<|W.tb.at_ i) (.str (W.tb.at_ i)<|s.toks+1) w).get? f=z (cj (putL (W.tb.at_ i) (lK W.w.params<|W.tb.at_ i) (.str (W.tb.at_ i)<|s.toks+1) w t.toList).toArray C):=by
  rw[mQ _ o (by rw[h];rfl),h]
 obtain ⟨r1,r2⟩:=R.upd (A:=s.toks+2) (w:= .inst q.1<|vS q.2 i v) hp (by rw[a0];exact .tail _<|.head _) (jc s.heap f _) ⟨f,C,_,a0,(jO _ _ hne').trans B,hg,by rw[wM];exact I7 av'.inj hv G⟩
 refine am<|aA<|am<|am<|wpAny_loadPart B<|am<|looks_clsIn X hc _ _ _ _ (λ_ _ e=>e) ?_
 rw[U]
 refine aA (a:=z f)<|am<|aA<|am ?_
 unfold nsSet
 refine am<|am<|wpAny_askSetting<|aA<|am<|qX<|am<|wpAny_loadPart o ?_
 have c:aRefKeyMayBeTheName (W.tb.at_ i) t=N:=by rw[aRefKeyMayBeTheName_at,show t.any (·.refKey)=N by rw[←Array.any_toList];exact N9 G,n_]
 dsimp only
 rw[c]
 refine wpAny_updatePart o (am<|wpAny_lookBehind hg (pastItsLine_dict<|by rw[iA,gS];exact WY hlen0' (A6 _) G.length) ?_)
 exact aA ⟨(),_,g,O,r1,trivial,r2⟩
end
end
section
abbrev rL(e:aP):Prop:= ∀B b,gv (e::B) b=(N,bn e b)::gv B b
noncomputable abbrev argsOf(a:Y aP)(b:bj):Y<|ak×aX T:=a.map λe=>(N,bn e b)
structure dW(W:Wd)(fi:FI)(n:M)(es:Y aP)(m:aj→Y af→R (Y V)):Prop where
 ns: ∀pos env,gT pos (gv es env)=argsOf es env
 cl: ∀A l env acc loc g H s,bD W fi n A l env acc loc g H s→Cl W A l [] g s (spliced (argsOf es env)) (m loc H) (eC W.tb)
noncomputable def nilA:aj→Y af→R (Y V):=λ_ H=> .ok [] H
def ae(a:aj→Y af→R V)(b:aj→Y af→R (Y V)):aj→Y af→R (Y V):=λl H=>(a l H).bind λv H=>(b l H).bind λvs H=> .ok (v::vs) H
section
variable{W:Wd}{fi:FI}{n:M}
theorem dW.nil:dW W fi n [] nilA:=⟨λ_ _=>rfl,λA l b a c g H s P=>Cl.pure' P.rep O⟩
theorem dW.cons(B:SE W fi n e a)(t:dW W fi n o b)(I:rL e):dW W fi n (e::o)<|ae a b:=by
 refine⟨λp c=>by rw[I];exact aR (_:: ·)<|t.ns p c,λA l c i j g H s P=> ?_⟩
 show Cl W A l [] g s (bn e c>>=λv=>(pure [v]:aX<|Y T)>>=λh=>(ek h<|spliced<|argsOf o c)>>=λr=>pure<|h++r) _ _
 refine Cl.bind (B A l c i j g H s P) λv x y u s' _ C U G=> ?_
 refine Cl.skip (λf E q=>aA q) ?_
 refine Cl.bind (Cl.holding<|t.cl A l c i j y x s'<|P.grow G C) λvs H2 g2 us s2 _ k m w=> ?_
 exact Cl.pure' k ⟨u,us,O,U.mono w.ge,m⟩
theorem uf(q:ar (av W.prog W.w) A (spliced<|argsOf c a) (λvs s'=>b ⟨vs,[]⟩ s') E s):ar (av W.prog W.w) A (evalArgs f Q (argsOf c a) []) b E s:=by
 cases c with
 |nil=>
  unfold evalArgs
  show ar _ A (spliced []>>=_) b E s
  refine am<|bq q (λvs s' h=> ?_) λ_ _ x=>x
  refine am<|aA<|b0 ?_
  exact am<|aA<|am<|aA<|aA h
 |cons e r=>exact tR q
theorem ui:(argsOf a b).any (·.1)=N:=by
 induction a with
 |nil=>rfl
 |cons e r i=>exact i
abbrev gE(W:Wd)(f:T):Prop:= ∀h,W.base.StaysIn h→ ∃k,(k=Keeper.frame∨k=Keeper.machine∨k=Keeper.boundFrame)∧Looks (av W.prog W.w) h (keeperOf f) k
theorem mW:gE W<|.builtin i:=λh _=>⟨.machine, .inr<|.inl O,Looks.now⟩
theorem IH:gE W<|.type i:=λh _=>⟨.machine, .inr<|.inl O,Looks.now⟩
theorem JN(K:kw W f e c a l):gE W<|.ref f:=λh st=>by
 obtain ⟨j,o,g,i,_⟩:=K
 refine⟨.frame, .inl O,?_⟩
 intro A b E s k q
 unfold keeperOf
 refine am<|wpAny_load (k _ _<|st _ _ g) ?_
 rw[i];exact aA q
theorem Ca(a:dD W)(h:keepIn W.K f=Q):gE W f:=λi st=>by
 obtain ⟨k,c,g⟩:=looks_keep (M:=av W.prog W.w) h<|a.kin.keeps st
 exact⟨k,c.elim .inl λe=> .inr<|.inl e,g⟩
theorem CW{β δ:Type}{A:a9}{l:Y bj}{X:Y ay}{g:Gh}{s:au}{f:T}{first:Y T}{o:Y aP}{b:bj}{i:Pos}{r:R β}{m:β→Y af→R δ}{k:Gh→β→Y T→Prop}{j:Gh→δ→T→Prop}(I:gE W f)
  (h:Cl W A l X g s (spliced<|argsOf o b) r k)
  (t: ∀vs H a u s',aN W a H s'→k a vs u→aL X g s a s'→Cl W A l X a s' (co f (first++u) []) (m vs H) j):
  Cl W A l X g s (ja i f first (argsOf o b) []) (r.bind m) j:=λc=>by
 refine mP (P:=λh=>W.base.StaysIn h) ((jk _).trans ui) I<|uf<|bq (h<|R.bindE c) (λu s' p=> ?_) λe s'=>bX.bind
 obtain ⟨v,H,a,e,q,w,G⟩:=p
 subst e
 exact⟨q.st,(t v H a u s' q w G).later G c⟩
def GN(W:Wd)(x:an)(u:T):Prop:=W.mg x=z u∨(W.mg x=D∧W.mb x=z u)
theorem li(a:dD W){x:an}{u:T}(h:GN W x u){A l e c f g H s}(P:bD W fi n A l e c f g H s){p:Pos}(m:fi.scope.names.lookup x=z .globalImplicit)(G:(x==("__debug__":an))=N){b E}(q:b u s):
  ar (av W.prog W.w) A (bn (.Name x p) e) b E s:=by
 have k:e.scope.kind= .function:=by rw[P.ev.scope];exact P.ev.kind
 refine Name_function_global k (by unfold jP;rw[P.ev.scope];exact m) ?_ G
 rcases h with h|⟨i,j⟩
 ·exact loadGlobal_global (by rw[P.ev.glob];exact a.g.keeps P.rep.st) h q
 ·exact loadGlobal_builtin (by rw[P.ev.glob];exact a.g.keeps P.rep.st) i (by rw[P.ev.bi];exact a.b.keeps P.rep.st) j q
def ao(m:Y V→Y af→R V)(a:aj→Y af→R (Y V)):aj→Y af→R V:=λl H=>(a l H).bind m
theorem SE.call(a:dD W){x:an}{f:T}{i:Y aP}{p c:Pos}{j:aj→Y af→R (Y V)}{m:Y V→Y af→R V}(w:GN W x f)(C:fi.scope.names.lookup x=z .globalImplicit)(I:gE W f)(y:FW W n f m)(o:dW W fi n i j)
  (v:(x==("__debug__":an))=N):SE W fi n (.Call (.Name x p) i [] c)<|ao m j:=λA l e h loc g H s P=>by
 show Cl W A l [] g s (bn (.Name x p) e>>=λf=>ja c f [] (gT c<|gv i e) []) _ _
 rw[o.ns]
 refine Cl.skip (u:=f) (λb E q=>li a w P C v q)<|CW I (o.cl A l e h loc g H s P) λvs r t U s' k B G=> ?_
 exact y A l t r s' vs U (P.grow G k).sit k B
structure FX(W:Wd)(C:M)(name:an)(f:ay):Prop where
 find:d8 W.K (.ref (W.tb.cls C)) name=z (z (.ref f))
 fn:typeIn W.K (.ref f)=z (.type "function")
 other: ∀i,ig C i=Q→W.tb.at_ i≠name
def mj(C:M)(a:Y<|M×V):ak:=a.all λf=>ig C f.1
def aC(C:M)(m:Y V→Y af→R V)(o:aj→Y af→R V)(a:aj→Y af→R (Y V)):aj→Y af→R V:=λl H=>(o l H).bind λx H=>(f6 x H).elim .err λq=>
 if q.1=C∧mj C q.2=Q then(a l H).bind λvs H=>m (x::vs) H else .err
theorem HR(h:(a.endLine==p.line)=Q):methodCallPos f o b a p=pure p:=by
 unfold methodCallPos
 rw[h,Bool.or_true];rfl
theorem OE(h:a.length<30):methodCallForm (a.length+0) (argsOf a b) []=Q:=by
 unfold methodCallForm
 have c:(argsOf a b).all (!·.1)=Q:=by
  clear h
  induction a with
  |nil=>rfl
  |cons e r i=>exact i
 rw[c];simp;exact h
theorem xD{o:aP}{name:an}{a p:Pos}{c:Y aP}{b:bj}(h:pX o)(j: ∀p b,gT p (gv c b)=argsOf c b)(i:c.length<30)(k:(a.endLine==p.line)=Q):
  ∃l:aX ak,eval (.Call (.Attribute o name a) c [] p) b=(do
   let g←eval o b
   dF a.atName
   let (f,first)←ek [g] (getMethod g name l)
   ja p f first (argsOf c b) []):=by
 refine⟨(do return(←importBound o b).getD Q),?_⟩
 have e:eval (.Call (.Attribute o name a) c [] p) b=(do
  let g←attributeBase o name b (eval o b)
  dF a.atName
  methodCall o name a p b g (c.length+0) (gT p<|gv c b) []):=O
 rw[e,h,j]
 unfold methodCall calleeOf
 rw[HR k,OE i]
 rfl
theorem SE.meth(b:dD W)(CL:oM W){C:M}{o:aP}{name:an}{f:ay}{j w:Pos}{B:Y aP}{mo:aj→Y af→R V}{as:aj→Y af→R (Y V)}{m:Y V→Y af→R V}(i:M)(hC:ig C i=Q)(K:FX W C name f)(hk:gE W<|.ref f)(hm:FW W n (.ref f) m)
  (ho:SE W fi n o mo)(ha:dW W fi n B as)(hb:pX o)(hl:B.length<30)(hp:(j.endLine==w.line)=Q):
  SE W fi n (.Call (.Attribute o name j) B [] w) (aC C m mo as):=λA l c r loc g H s P=>by
 obtain ⟨pl,e⟩:=xD (b:=c) (name:=name) hb ha.ns hl hp
 rw[e]
 refine Cl.bind (ho A l c r loc g H s P) λv H' g' u s' _ y hu G=>Cl.stand<|Cl.opt λq hi=>Cl.gd λhh=> ?_
 obtain ⟨hq,I⟩:=hh
 obtain ⟨a,p,k,ds,rfl,h1,h2,h3⟩:=xB hi y hu
 rw[hq]at h1
 have KC:=CL C i hC
 refine Cl.skip (u:=(eP f,[eP a])) (λh E q=>b0<|method_fn (b.kin.keeps y.st) (uI h1 h2) KC.ga KC.gat K.find K.fn ?_ q)<|CW hk (ha.cl A l c r loc g' H' s'<|P.grow G y) λvs H2 g2 us s2 t hv U=> ?_
 ·show (getL name ds.toList).map _=_
  rw[Je h3 λx hx=>K.other _<|jj.mp I x hx];rfl
 ·exact hm A l g2 H2 s2 (v::vs) (.ref a::us) ((P.grow G y).grow U t).sit t ⟨_,us,O,hu.mono U.ge,hv⟩
end
end
section
theorem A_(p:c_):bU [p]=p.1::p.2.toList:=ft _
theorem aN.label(R:aN W g H s)(n: ∀a∈p.1::p.2.toList,il W g a∧a<s.heap.objs.size)(y:(p.1::p.2.toList).Nodup)(A:gH W.tb ⟨g.F,g.as++ [p]⟩ s.heap p c):aN W ⟨g.F,g.as++ [p]⟩ (H++ [c]) s:=by
 have v:Ge g ⟨g.F,g.as++ [p]⟩:=⟨λ_ _ e=>e,[p],O⟩
 have m:bU (g.as++ [p])=bU g.as++(p.1::p.2.toList):=by rw[labs_append,A_]
 refine⟨R.f0,R.fz,by rw[bE,bE,R.len];rfl,λi u q f k=> ?_,?_,λa h=> ?_,λa h=> ?_,λa h=> ?_,R.st,R.gens,R.os⟩
 ·have k:(g.as++ [p])[i]? =z q:=k
  rw[List.getElem?_append]at f k
  by_cases l:i<H.length
  ·rw[aw l]at f
   rw[aw<|R.len▸l]at k
   exact(R.cell i u q f k).mono v λa _ o e=>e
  ·rw[az l]at f
   rw[az<|R.len▸l,R.len]at k
   cases t:i-H.length with
   |zero=>rw[t]at f k;cases f;cases k;exact A
   |succ j=>rw[t]at f;cases f
 ·show (bU<|g.as++ [p]).Nodup
  rw[m,kG]
  exact⟨R.nd,y,λa w b x r=>(n b x).1.1<|r▸w⟩
 ·exact(gw.mp (m▸h:a∈bU g.as++_)).elim (R.nf a) λh=>(n a h).1.2.1
 ·exact(gw.mp (m▸h:a∈bU g.as++_)).elim (R.al a) λh=>(n a h).2
 ·exact(gw.mp (m▸h:a∈bU g.as++_)).elim (R.nb a) λh=>(n a h).1.2.2
theorem CK{g:Gh}{p:c_}{a:ay}(h:a∈bU (g.as++ [p])):a∈bU g.as∨a∈p.1::p.2.toList:=gw.mp<|A_ p▸labs_append g.as [p]▸h
theorem aN.addL(R:aN W g H s)(k: ∀b o,s.heap.get? b=z o→s'.heap.get? b=z o)(j:s.heap.objs.size≤s'.heap.objs.size)(l:s'.gens=s.gens)(y:s'.os=s.os)
  (f: ∀a∈p.1::p.2.toList,s.heap.objs.size≤a∧a<s'.heap.objs.size)(m:(p.1::p.2.toList).Nodup)(n:gH W.tb ⟨g.F,g.as++ [p]⟩ s'.heap p c):
  aN W ⟨g.F,g.as++ [p]⟩ (H++ [c]) s'∧ ∀X,aL X g s ⟨g.F,g.as++ [p]⟩ s':=
 ⟨(R.ext k j l y).label (λa i=>⟨uq R (f a i).1,(f a i).2⟩) m n,λX=>⟨⟨λ_ _ e=>e,[p],O⟩,λa o e _ _=>k a o e,λa o e=> .inl e,λa h=>(CK h).imp id λh=>(f a h).1,j⟩⟩
theorem aN.addOne(R:aN W g H s)(k:o.isFreed=N)(y:gH W.tb ⟨g.F,g.as++ [(s.heap.objs.size,D)]⟩ (s.heap.push o) (s.heap.objs.size,D) c):
  aN W ⟨g.F,g.as++ [(s.heap.objs.size,D)]⟩ (H++ [c]) {s with heap:=s.heap.push o}∧ ∀X,aL X g s ⟨g.F,g.as++ [(s.heap.objs.size,D)]⟩ {s with heap:=s.heap.push o}:=
 R.addL (s':={s with heap:=s.heap.push o}) (λb f e=>cf _ e) (by show _≤(s.heap.push o).objs.size;rw[fM];exact eR _) O rfl
  (λa h=>by
   rw[bz.mp h]
   exact⟨bo _,by show s.heap.objs.size<(s.heap.push o).objs.size;rw[fM];exact fF _⟩) (kF _ _) y
theorem rH{g:Gh}{H:Y af}{p:c_}(h:g.as.length=H.length):(g.as++ [p])[H.length]? =z p:=by rw[←h];exact List.getElem?_concat_length
structure GS(W:Wd)(C:M)(f:ay):Prop where
 makes:makesIn W.K (W.tb.cls C)=Q
 init:d8 W.K (.ref (W.tb.cls C)) "__init__"=z (z (.ref f))
 fn:typeIn W.K (.ref f)=z (.type "function")
def yB(k:M)(r:V)(H:Y af):R V:=if mf r=Q then .ok (.lbl k) H else .err
def ko(C:M)(m:Y V→Y af→R V):Y V→Y af→R V:=λvs H=>(m (.lbl H.length::vs)<|H++ [.inst C []]).bind<|yB H.length
theorem FW.cls{W:Wd}{n:M}{C:M}{f:ay}{m:List V→List af→R V}(j:dD W)(K:GS W C f)(h:jM W n (.ref f) m):jM W (n+1) (.ref<|W.tb.cls C)<|ko C m:=λA l g H s vs I S R hv t=>by
 have X:=j.kin.keeps R.st
 obtain ⟨i,gg,dd,tt,oo⟩:=s
 have hd:((i.push emptyDict).push<|instObj (W.tb.cls C) i.objs.size).get? i.objs.size=z emptyDict:=cf _<|d_ i O
 have hx:=d_ (i.push emptyDict) (o:=instObj (W.tb.cls C) i.objs.size) O
 have hz:((i.push emptyDict).push<|instObj (W.tb.cls C) i.objs.size).objs.size=i.objs.size+1+1:=by rw[fM,fM]
 rw[fM]at hx
 have keep': ∀b o,i.get? b=z o→((i.push emptyDict).push<|instObj (W.tb.cls C) i.objs.size).get? b=z o:=λb o' e=>cf _<|cf _ e
 unfold wB
 refine make_core (makes_of X K.makes) (looks_findIn X K.init) (λself=>bind_fn X self K.fn) (.inl O) ?_
 generalize (i.push emptyDict).push (instObj (W.tb.cls C) i.objs.size)=x at*
 obtain ⟨R1,G⟩:=R.addL (s':=⟨x,gg,dd,tt,oo⟩) (c:= .inst C []) (p:=(i.objs.size+1,z i.objs.size)) keep' (hz▸WX) O rfl
  (λa ha=>by
   show i.objs.size≤a∧a<x.objs.size
   rw[hz]
   rcases List.mem_cons.mp ha with rfl|ha
   ·exact⟨eR _,fF _⟩
   ·rw[List.mem_singleton.mp ha];exact⟨bo _,wJ (fF _)⟩)
  (List.nodup_cons.mpr ⟨λq=>Nat.succ_ne_self _<|List.mem_singleton.mp q,List.pairwise_singleton _ _⟩) ⟨i.objs.size,0,#[],O,hx,hd,O⟩
 have S1:dK W n (A.under<|.builtin "type.__call__" ⟨.ref (W.tb.cls C)::I,[]⟩) l ⟨g.F,g.as++ [(i.objs.size+1,z i.objs.size)]⟩ ⟨x,gg,dd,tt,oo⟩:=by
  have y:=S.grow0<|G []
  exact⟨y.hd,y.fr,F9 y.dp,WW y.un O,y.ff,y.fl⟩
 refine codeAny_mono (h _ l _ _ _ (.lbl H.length::vs) (.ref (i.objs.size+1)::I) S1 R1 ⟨_,I,O,⟨(i.objs.size+1,z i.objs.size),rH R.len,O⟩,eC.mono (G []).ge hv⟩<|Mine.R.bindE t) λr s' k=> ?_
 rcases r with e|(v|_|_|u)
 ·exact(bX.bind k).after (G [])
 ·exact k
 ·exact k
 ·exact k
 ·obtain ⟨v,H',g',e,R',B,U⟩:=k
  have e2:ko C m vs H=yB H.length v H':=by unfold ko;rw[e];rfl
  rw[e2]at t⊢
  unfold yB at t⊢
  by_cases q:mf v=Q
  ·rw[aw q]
   obtain ⟨new',w⟩:=U.ge.as
   refine⟨uH B q,_,H',g',O,R',⟨(i.objs.size+1,z i.objs.size),?_,O⟩,(G []).trans U⟩
   rw[w]
   exact(List.getElem?_append_left<|by rw[List.length_append,R.len];exact fF _).trans<|rH R.len
  ·exact absurd (az q) t
def dm(i:M)(m a:aj→Y af→R V):aj→Y af→R Fl:=λl H=>(a l H).bind λv H=>(m l H).bind λx H=>(eW i x v H).bind λ_ H=> .ok (.next l) H
section
variable{W:Wd}{fi:FI}{n:M}
theorem Ii(a:dD W)(C:oM W)(h:W.tb.at_ i=name)(y:SE W fi n o mo)(P:bD W fi n A l c j f g H s)(I:VR W.tb g v u):
  Cl W A l [] g s (hO (.Attribute o name r) c u) ((mo f H).bind λx H=>eW i x v H) (λ_ _ _=>True):=by
 show Cl W A l [] g s (do
  let m←holding [u] (eval o c)
  dF r.atName
  holding [u,m] (qZ m name u)
  release [u,m] []) _ _
 refine Cl.bind (Cl.holding<|y A l c j f g H s P) λx H2 g2 w s2 _ k U G=>Cl.stand ?_
 refine Cl.of_imp (t:=qZ w name u) (λb E q=>am<|b0<|bq q (λ_ s₂ B Γ p hΓ=>by rw[rb];exact B) λ_ _ e=>e)<|Be a C h k U<|I.mono G.ge
theorem S1.setAttr(a:dD W)(C:oM W)(i:M)(h:W.tb.at_ i=name)(hv:SE W fi n c p)(ho:SE W fi n o m)(U:iN c=N):
  S1 W fi n (.Assign [.Attribute o name ap] c pos0') (dm i m p):=λA l j f b g H s P=>by
 rw[plainObj_exec_Assign_Attribute _ _ _ _ _<|swaps_none U]
 have e:dm i m p b H=(p b H).bind λv H=>((m b H).bind λx H=>eW i x v H).bind λ_ H=> .ok (.next b) H:=by
  exact aR _ (funext λv=>funext λy=>(R.bind_assoc _ _ _).symm)
 rw[e]
 refine CS.stand<|CS.seqE (hv A l j f b g H s P) λv y B u s' _ I hu G=> ?_
 have q:=P.grow G I
 refine CS.seqE (Ii a C h ho q hu) λ_ H3 g3 _ s3 _ k _ w=> ?_
 have r:=q.grow w k
 exact CS.done (a:=g) (s':=s) (b:=b) r.rep r.lo
def oj(i:M)(o:V→V→Y af→R V)(m c:aj→Y af→R V):aj→Y af→R Fl:=λl H=>(m l H).bind λx H=>(aF i x H).bind λa H=>(c l H).bind λb H=>(o a b H).bind λv H=>(eW i x v H).bind λ_ H=> .ok (.next l) H
theorem S1.augAttr(c:dD W)(CL:oM W)(i:M)(m:W.tb.at_ i=name)(ho:SE W fi n o mo)(hv:SE W fi n j mv)(hf:du W n (inplaceOp op) f):
  S1 W fi n (.AugAssign (.Attribute o name ap) op j C) (oj i f mo mv):=λA l k t h g H s P=>by
 have e:exec (.AugAssign (.Attribute o name ap) op j C) k=(do
   dF C
   let ov←eval o k
   let y←holding [ov] (do
    dF ap.atName
    let B←getAttr ov name Q
    let v←holding [B] (eval j k)
    dF C
    operate [B,v] (inplaceOp op B v))
   dF ap.atName
   holding [y,ov] (qZ ov name y)
   release [y,ov] []
   pure .next):=O
 rw[e]
 refine CS.stand<|CS.seqE (ho A l k t h g H s P) λx H1 g1 w s1 _ G hx G1=> ?_
 have P1:=P.grow G1 G
 have e2:((aF i x H1).bind λa H=>(mv h H).bind λb H=>(f a b H).bind λv H=>(eW i x v H).bind λ_ H=>Mine.R.ok (Fl.next h) H)=
   ((aF i x H1).bind λa H=>(mv h H).bind λb H=>f a b H).bind λv H=>(eW i x v H).bind λ_ H=> .ok (.next h) H:=by
  rw[Mine.R.bind_assoc];exact aR _ (funext λa=>funext λH'=>(Mine.R.bind_assoc _ _ _).symm)
 show CS W A l t g1 s1 _ ((aF i x H1).bind λa H=>(mv h H).bind λb H=>(f a b H).bind λv H=>(eW i x v H).bind λ_ H=>Mine.R.ok (Fl.next h) H)
 rw[e2]
 refine CS.seqE (c:=VR W.tb) (Cl.holding<|Cl.stand<|Cl.bind (Bm c CL m G hx) λa H2 g2 u2 s2 _ hR2' ha G2=> ?_) λv H5 g5 u5 s5 _ U hv5' G5=> ?_
 ·have P2:=P1.grow G2 hR2'
  refine Cl.bind (Cl.holding<|hv A l k t h g2 H2 s2 P2) λb H3 g3 u3 s3 _ I hb G3=>Cl.stand ?_
  have P3:=P2.grow G3 I
  exact Cl.operate<|hf A l g3 H3 s3 a b u2 u3 P3.sit I (ha.mono G3.ge) hb
 ·refine CS.stand (CS.seqE (Cl.holding<|Be c CL m U (hx.mono G5.ge) hv5') λ_ H6 g6 _ s6 _ hR6' _ G6=> ?_)
  have P6:=(P1.grow G5 U).grow G6 hR6'
  refine CS.skip (u:=()) (λr E q Γ p hΓ=>by rw[rb];exact q) ?_
  exact CS.done (a:=g) (s':=s) (b:=h) P6.rep P6.lo
end
end
section
def j6(vs:Y V):d<|Y P:=dJ pv vs
theorem K0(e:j6 vs=z a)(h:eC t g vs b):be t g.F a b:=
 rJ.mpr (h.all e λc f u e q=>by
  cases c with
  |lbl k=>cases e
  |p x=>cases e;exact q)
def vB(k:Y P→Y af→R V)(vs:Y V)(H:Y af):R V:=(j6 vs).elim .err λc=>if c.length≤1000000 then k c H else .err
def listM(a:aj→Y af→R (Y V)):aj→Y af→R V:=λl H=>(a l H).bind<|vB λc H=> .ok (.lbl H.length)<|H++ [.list c]
def listF(a:aj→Y af→R (Y V)):aj→Y af→R V:=λl H=>(a l H).bind<|vB λc H=> .ok (.p<|.list c) H
def tupF(a:aj→Y af→R (Y V)):aj→Y af→R V:=λl H=>(a l H).bind<|vB λc H=> .ok (.p<|.tup c) H
section
variable{W:Wd}{fi:FI}{n:M}
theorem xX(h:be t F c u)(b:c.length≤1000000):u.toArray.size≤d7:=by
 rw[iA];exact F8 b (nc h) dB
theorem JK(R:aN W g H s)(h:be W.tb g.F p b)(a:p.length≤1000000):
  Cl W A l X g s (newList b) (.ok (.lbl H.length)<|H++ [.list p]) (VR W.tb):=λ_=>by
 obtain ⟨B,C⟩:=R.addOne (o:=ci b.toArray 0) (c:= .list p) O ⟨0,b.toArray,d_ _ O,h⟩
 exact iw ⟨.lbl H.length,_,_,O,B,⟨(s.heap.objs.size,D),rH R.len,O⟩,C X⟩<|xX h a
theorem SE.disp{e:aP}{i:Y aP}{p:Pos}{f:aj→Y af→R (Y V)}{k:Y P→Y af→R V}{m:Y T→aX T}(r: ∀b,bn e b=(do dF p;let vs←spliced<|argsOf i b;m vs))(h:dW W fi n i f)
  (I: ∀A l g H s c u,aN W g H s→be W.tb g.F c u→c.length≤1000000→Cl W A l [] g s (m u) (k c H) (VR W.tb)):SE W fi n e λloc H=>(f loc H).bind<|vB k:=λA l b a loc g H s P=>by
 rw[r]
 exact Cl.stand<|Cl.bind (h.cl A l b a loc g H s P) λvs j o u s' _ q v G=>Cl.opt λc e=>Cl.gd λt=>I A l o j s' c u q (K0 e v) t
theorem SE.listM{e:Y aP}{p}{a:aj→Y af→R (Y V)}(h:dW W fi n e a):SE W fi n (.List e p)<|Mine.listM a:=
 SE.disp (p:=p) (m:=newList) (λb=>by rw[arm_eval_List,h.ns]) h λA l g H s i u R f c=>JK R f c
theorem SE.listF{c:Y aP}{p}{a:aj→Y af→R (Y V)}(h:dW W fi n c a):SE W fi n (.List c p)<|Mine.listF a:=
 SE.disp (p:=p) (m:=newList) (λi=>by rw[arm_eval_List,h.ns]) h λA l g H s q u R f m=>Cl.new (ci u.toArray 0) O R (λb E k=>iw (k s.toks)<|xX f m) λF j e=>⟨_,_,_,O,e,be.mono j f⟩
theorem SE.tupF{c:Y aP}{k p}{a:aj→Y af→R (Y V)}(h:dW W fi n c a):SE W fi n (.Tuple c k p)<|Mine.tupF a:=
 SE.disp (p:=p) (m:=newTuple) (λi=>by rw[arm_eval_Tuple,h.ns]) h λA l g H s q u R f m=>Cl.new (fS u.toArray 0) O R (λb E k=>iw (k s.toks)<|xX f m) λF j e=>⟨_,_,_,O,e,be.mono j f⟩
noncomputable def kX:aj→Y M→Y V→aj
 |loc,i::a,v::vs=>kX (loc.set i<|z v) a vs
 |loc,_,_=>loc
abbrev ta(fi:FI)(x:an)(i:M):Prop:= ∃k,fi.vars[i]? =z (z (x,k))∧k≠ .free
abbrev yG(fi:FI)(e:aP)(i:M):Prop:= ∃x p,e= .Name x p∧ta fi x i
abbrev sw(fi:FI):Y aP→Y M→Prop:=aV<|yG fi
def i7(W:Wd)(fi:FI)(n:M)(A:a9)(l:Y bj)(e:bj)(c:Y bV)(g:Gh)(H:Y af)(a:Y ay)(f:T→aX Unit)(i:M):Prop:=
 ∀h s v u,bD W fi n A l e c h g H s→VR W.tb g v u→ ∀(b:Unit→au→Prop) (E:T→au→Prop),(∀s',bD W fi n A l e c (h.set i<|z v) g H s'→aL a g s g s'→b () s')→ar (av W.prog W.w) A (f u) b E s
theorem i7.bind(h:ta fi x i)(w: ∀e,j[i]? =z e→e.addr∈b):i7 W fi n A l m j g H b (bindName m x) i:=λC s v u P y c E q=>by
 obtain ⟨k,B,I⟩:=h
 refine wpAny_bindName<|BY P B I y λs' e f t r p=>q s' (P.next (p.weaken λa o=> ?_) t r)<|p.weaken λa o=> ?_
 ·rw[bz.mp o];exact cY.mpr ⟨e,dG f,O⟩
 ·rw[bz.mp o];exact w e f
theorem i7.name(h:yG fi e i)(w: ∀k,f[i]? =z k→k.addr∈a):i7 W fi n A l c f g H a (hO e c) i:=λj s v u P o b E q=>by
 obtain ⟨x,p,rfl,m⟩:=h
 show ar _ _ (do dF p;bindName c x u) _ _ _
 exact am<|fc<|i7.bind m w j s v u P o b E q
theorem i7.all(t:aV (i7 W fi n A l j e g H a) k q)(P:bD W fi n A l j e c g H s)(w:eC W.tb g vs x)(p:vs.length=k.length)
  (h: ∀s',bD W fi n A l j e (kX c q vs) g H s'→aL a g s g s'→b () s'):ar (av W.prog W.w) A (assignInOrder k x) b E s:=by
 induction k generalizing q vs x c s with
 |nil=>
  cases t
  cases vs with
  |nil=>cases w;exact aA<|h s P<|.refl _ _ _
  |cons _ _=>cases p
 |cons f k I=>
  obtain ⟨i,q,rfl,B,C⟩:=t
  cases vs with
  |nil=>cases p
  |cons v vs=>
   obtain ⟨u,m,rfl,v1,v2⟩:=w
   show ar _ _ (ek m (f u)>>=λ_=>assignInOrder k m) _ _ _
   exact am<|b0<|B c s v u P v1 _ _ λs' y G=>I C y v2 (Nat.succ.inj p) λr o U=>h r o<|G.trans U
theorem Ih(h:sw fi a c):assignEach a b=a.map λe=>(N,hO e b):=by
 induction a generalizing c with
 |nil=>rfl
 |cons e a g=>
  obtain ⟨i,c,rfl,⟨x,p,rfl,_⟩,f⟩:=h
  exact aR (_:: ·)<|g f
theorem LD{α β:Type}(f:α→β)(a:Y α):(a.map λe=>(N,f e)).findIdx? (·.1)=D:=by
 induction a with
 |nil=>rfl
 |cons e a i=>rw[ee,List.findIdx?_cons,i];rfl
theorem rI{a:Y bV}{i:M}(b:bV)(h:a[i]? =z b):b.addr∈dC a:=cY.mpr ⟨b,dG h,O⟩
theorem bD.ext(P:bD W fi n A l e a c g H s)(k: ∀b o,s.heap.get? b=z o→s'.heap.get? b=z o)(h:s.heap.objs.size≤s'.heap.objs.size)(f:s'.gens=s.gens)(y:s'.os=s.os):bD W fi n A l e a c g H s':=
 P.grow (aL.ext k h) (P.rep.ext k h f y)
end
end
section
section
variable{W:Wd}{fi:FI}{n:M}
theorem Bt(P:bD W fi n A l f c i g H s)(B:IsTup s.heap t G)
  (h: ∀s',bD W fi n A l f c i g H s'→aL [] g s g s'→a G.toList s'):ar (av W.prog W.w) A (unpackItems (.ref t) G.size D) a E s:=by
 refine pI<|bq (E:=E) (unpackItems_tuple (Q:=λv s'=>s.heap.objs.size≤s'.heap.objs.size→a v s') P.sit.hd B λj m p=> ?_) (λ_ _ q=>q) λ_ _ q _=>q
 have k: ∀b o,s.heap.get? b=z o→j.get? b=z o:=λb o e=>m b o (iz<|cI e) e
 exact h _ (P.ext k p O rfl)<|aL.ext k p
def kh(a:Y M)(b:aj→Y af→R (Y V)):aj→Y af→R Fl:=λl H=>(b l H).bind λvs H=>if vs.length=a.length∧vs.length≤100 then .ok (.next<|kX l a vs) H else .err
def iK(a:Y M)(b:aj→Y af→R (Y V)):aj→Y af→R Fl:=λl H=>(b l H).bind λvs H=>if vs.length=a.length∧vs.length≤100 then .ok (.next<|kX l a.reverse vs.reverse) H else .err
theorem xG{A l f c m g H s a}(P:bD W fi n A l f c m g H s){B:Y aP}{o:Y M}(p:sw fi B o){t:ay}{G:aQ T}(ht:IsTup s.heap t G){vs:Y V}(u:eC W.tb g vs G.toList)(U:vs.length=o.length)(C: ∀i∈o,∀r,c[i]? =z r→r.addr∈a){k tp}
  {b:Unit→au→Prop}{E:T→au→Prop}(h: ∀s',bD W fi n A l f c (kX m o vs) g H s'→aL a g s g s'→b () s'):ar (av W.prog W.w) A (hO (.Tuple B k tp) f<|.ref t) b E s:=by
 have j:vs.length=B.length:=U.trans p.length
 rw[assign_Tuple]
 refine am<|fc ?_
 unfold PySem.unpack
 rw[Ih p,LD,bc,eu,show B.length=G.size from j.symm.trans<|u.length.symm.trans eU]
 refine am<|b0<|Bt P ht λs3 x w=> ?_
 exact i7.all ((p.impMr λe i I q=>i7.name q<|C i I).map λ_ _ q=>q) x u (j.trans (bc _).symm) λs4 y v=>h s4 y<|w.wide.trans v
theorem Bp{B:Y aP}{k t c p}{b:bj}{r:d<|Y an}(f:iN c=N)(a:qY [.Tuple B k t] c b=pure r):PySem.exec (.Assign [.Tuple B k t] c p) b=(do
  dF p
  let v←eval c b
  assignStores b v r [hO (.Tuple B k t) b]):=by
 rw[PyProof.Rows.exec_Assign,show swapsWithSole [.Tuple B k t] c p.line b=pure N from(swaps_none f:swapsWith c (z<|.Tuple B k t) p.line b=pure N),a]
 rfl
theorem BH(h:gT a (gv vs b)=argsOf vs b)(c:qY [.Tuple B k t] (.Tuple vs e a) b=pure r):PySem.exec (.Assign [.Tuple B k t] (.Tuple vs e a) p) b=(do
  dF p
  dF a
  let u←spliced<|argsOf vs b
  let v←newTuple u
  assignStores b v r [hO (.Tuple B k t) b]):=by
 rw[Bp O c,arm_eval_Tuple,h]
 simp only[bind_assoc]
abbrev zF(fi:FI)(B:Y aP)(k:M)(t:Pos)(c:aP)(r:d<|Y an):Prop:= ∀b:bj,b.scope=fi.scope→qY [.Tuple B k t] c b=pure r
theorem DZ(P:bD W fi n A l i c k g H s)(v:eC W.tb g vs u)(t:vs.length≤100)
  (h: ∀a s',bD W fi n A l i c k g H s'→IsTup s'.heap a u.toArray→CS W A l c g s' (f<|.ref a) r):CS W A l c g s (newTuple u>>=f) r:=λj=>by
 have q: ∀b o,s.heap.get? b=z o→(s.heap.push<|fS u.toArray 0).get? b=z o:=λb o e=>cf _ e
 have p:s.heap.objs.size≤(s.heap.push<|fS u.toArray 0).objs.size:=by rw[fM];exact eR _
 exact am<|iw ((h _ {s with heap:=s.heap.push<|fS u.toArray 0} (P.ext q p O rfl) ⟨_,d_ _ O,O,0,O⟩).later (aL.ext q p) j)<|by show u.toArray.size≤d7;rw[iA];exact F7 t v.length dB
theorem S1.tup(t:sw fi B x)(h:dW W fi n vs p)(u:zF fi B k I (.Tuple vs y U) D):
  S1 W fi n (.Assign [.Tuple B k I] (.Tuple vs y U) C) (kh x p):=λA l b c e g H s P=>by
 rw[BH (h.ns _ _)<|u b P.ev.scope]
 refine CS.stand<|CS.stand<|CS.seqE (h.cl A l b c e g H s P) λws m q us s' _ r j G=>CS.gd λi=>DZ (P.grow G r) j i.2 λa s2 o w=> ?_
 exact λ_=>am<|xG o t w j i.1 (λ_ _=>rI) λs4 f v=>aA ⟨_,m,q,O,f.rep,⟨O,f.lo⟩,v⟩
theorem S1.tupSw(m:aV (ta fi) b is)(h:dW W fi n vs C)(hs:zF fi ts k tp (.Tuple vs k' vp)<|z b):
  S1 W fi n (.Assign [.Tuple ts k tp] (.Tuple vs k' vp) pos0') (iK is C):=λA l f e r g H s P=>by
 rw[BH (h.ns _ _)<|hs f P.ev.scope]
 refine CS.stand<|CS.stand<|CS.seqE (h.cl A l f e r g H s P) λws u I us s' _ U p G=>CS.gd λj=>DZ (P.grow G U) p j.2 λa s2 y ht=> ?_
 have o:b.length=us.toArray.size:=by rw[←m.length,iA];exact j.1.symm.trans p.length.symm
 refine λ_=>am<|pe ?_
 rw[o]
 refine am (Bt y ht λs3 B w=>am<|i7.all (a:=dC e) (m.reverse.map λx i q=>i7.bind q rI) B p.reverse (by rw[List.length_reverse,bc,List.length_reverse,←m.length];exact j.1) λs4 t v=> ?_)
 exact aA ⟨_,u,I,O,t.rep,⟨O,t.lo⟩,w.wide.trans v⟩
def kO(a:Y M)(m:aj→Y af→R V):aj→Y af→R Fl:=λl H=>(m l H).bind λv H=>(mI v).elim .err λc=>if c.length=a.length then .ok (.next<|kX l a<|c.map .p) H else .err
theorem be.toV{t:Tb}{g:Gh}{c:Y P}{b:Y T}(h:be t g.F c b):eC t g (c.map .p) b:=(rJ.mp h).map λ_ _ q=>q
theorem CS.opt{A:a9}{l:Y bj}{b:Y bV}{g:Gh}{s:au}{γ:Type}{t:aX Flow}{o:d γ}{f:γ→R Fl}(h: ∀a,o=some a→CS W A l b g s t (f a)):CS W A l b g s t<|o.elim .err f:=by
 cases o with
 |none=>exact CS.err
 |some a=>exact h a O
theorem S1.unpack{B:Y aP}{c:aP}{k t p}{w:Y M}{m:aj→Y af→R V}(hn:sw fi B w)(h:SE W fi n c m)(I:iN c=N)(ht: ∀b,qY [.Tuple B k t] c b=pure D):
  S1 W fi n (.Assign [.Tuple B k t] c p) (kO w m):=λA l b f j g H s P=>by
 rw[Bp I<|ht b]
 refine CS.stand<|CS.seqE (h A l b f j g H s P) λv y q u s' _ r hu G=>CS.opt λps e=>CS.gd λU=> ?_
 refine oU (G:=λu=>CS W A l f q s' (assignStores b u D [hO (.Tuple B k t) b]) _) hu e λa m' xs C i=>λ_=> ?_
 exact am<|xG (P.grow G r) hn ⟨_,r.fz _ _ C,O,m',O⟩ i.toV ((bc _).trans U) (λ_ _=>rI) λs4 o x=>aA ⟨_,y,q,O,o.rep,⟨O,o.lo⟩,x⟩
end
end
section
def ku(W:Wd)(A:a9)(l:Y bj)(g:Gh)(s:au)(u v:T)(r:R V):Prop:=(∀{b:ak→au→Prop} {E},b N s→ar (av W.prog W.w) A (getitemInPython u) b E s)∧Cl W A l [] g s (getItem u v) r (VR W.tb)
def zG(W:Wd)(n:M)(o:V→V→Y af→R V):Prop:= ∀A l g H s x y u v,dK W n A l g s→aN W g H s→VR W.tb g x u→VR W.tb g y v→o x y H≠ .err→ku W A l g s u v (o x y H)
section
variable{β γ:Type}(Φ:R β→Prop){o:d γ}{f:γ→R β}{r:R β}
theorem qd(h: ∀a,o=some a→f a≠ .err→Φ (f a)):o.elim .err f≠ .err→Φ (o.elim .err f):=by
 cases o with
 |none=>exact λq=>absurd rfl q
 |some a=>exact h a O
theorem vo(h: ∀a,o=some a→f a≠ .err→Φ (f a))(b:r≠ .err→Φ r):o.elim r f≠ .err→Φ (o.elim r f):=by
 cases o with
 |none=>exact b
 |some a=>exact h a O
theorem Gw{c:Prop} [n9 c](h:c→r≠ .err→Φ r):(if c then r else .err)≠ .err→Φ (if c then r else .err):=by
 by_cases q:c
 ·rw[aw q];exact h q
 ·rw[az q];exact λq=>absurd rfl q
end
theorem nI{c:Model}{A:a9}{s:au}{u:T}{a id:i9}{b:ak→au→Prop}{E}(B:s.TypeIs u a)(e:Slot a "__getitem__" id)(h:u≠ .builtin "sys.modules#opaque")(q:b N s):ar c A (getitemInPython u) b E s:=by
 rw[getitemInPython_of_ne h]
 exact am<|wpAny_specialOf B e.lookup<|aA q
theorem gV{h:bB}{a:ay}{x:aQ T}{n:M}(e:h.get? a=z (ci x n)):h.IsList a x:=⟨_,e,O,n,O⟩
theorem rE(e:h.get? a=z (fS x n)):IsTup h a x:=⟨_,e,O,n,O⟩
noncomputable def mh(i:J):ak:=decide (-4611686018427387904≤i)&&decide (i<4611686018427387904)
noncomputable def tC(i:J)(c:Y P)(H:Y af):R V:=(kz i c.length).elim .err λj=>c[j]?.elim .err λp=> .ok (.p p) H
def aE(x y:V)(H:Y af):R V:=(dE y).elim .err λi=>if mh i=Q then(mI x).elim ((i5 x).elim ((df x H).elim .err λc=>tC i c H)
 λb=>if 0≤i∧i<b.length∧b.length≤1000000 then b[i.toNat]?.elim .err λk=> .ok (.p<|.int k) H else .err) λc=>tC i c H else .err
section
variable{W:Wd}{fi:FI}{n:M}
theorem seqIndex_some(h:kz i n=z j):(0≤i∧j=i.toNat∧j<n)∨(i<0∧ -(n:J)≤i∧j=(i+n).toNat∧j<n):=by
 unfold kz at h
 by_cases a:i<0
 ·rw[aw a]at h
  by_cases c:0≤i+(n:J)∧i+(n:J)<n
  ·rw[aw<|by rw[b_,fC,fC];exact c]at h;cases h;right;exact WV c.1 c.2
  ·rw[az<|by rw[b_,fC,fC];exact c]at h;cases h
 ·rw[az a]at h
  by_cases c:0≤i∧i<(n:J)
  ·rw[aw<|by rw[b_,fC,fC];exact c]at h;cases h;left;exact WU c.1 c.2
  ·rw[az<|by rw[b_,fC,fC];exact c]at h;cases h
theorem CX(c:mh i=Q): -4611686018427387904≤i∧i<4611686018427387904:=by
 obtain ⟨b,e⟩:=(b_ _ _).mp c
 exact⟨fB b,fB e⟩
theorem IF{A:a9}{l:Y bj}{X:Y ay}{g:Gh}{H:Y af}{s:au}{a:ay}{x:aQ T}{m:M}{r:Y P}{i:J}{j:M}{t:Tok}{p:P}(R:aN W g H s)(w:s.heap.get? a=z (ci x m))(f:be W.tb g.F r x.toList)
  (e:mh i=Q)(y:kz i r.length=z j)(B:r[j]? =z p):Cl W A l X g s (getItem (.ref a)<|.int i t) (.ok (.p p) H)<|VR W.tb:=by
 have e:=CX e
 obtain ⟨u,C,h⟩:=rK f B
 have hlen0':=f.size
 have c:x[j]? =z u:=mV▸C
 rcases seqIndex_some y with⟨o,q,v⟩|⟨o,q,v,G⟩
 ·exact Cl.val R λb E k=>wpAny_getItem_list (gV w) o (F6 e.2) (q▸c)<|k u s.toks h
 ·exact Cl.val R λb E k=>wpAny_getItem_list_neg (gV w) o (WT hlen0' q) (F5 e.1) (by rw[hlen0',←v];exact c)<|k u s.toks h
theorem LX:zG W n aE:=λA l g H s x y u v S R U hy=>by
 refine qd (ku W A l g s u v) λi ei=>jH (G:=λv=>_≠Mine.R.err→ku W A l g s u v _) hy ei λt=>Gw _ λhb=>vo _ (λps e=> ?_)<|vo _ (λb e=> ?_)<|qd _ λps e _=> ?_
 ·refine oU (G:=λu=>_≠Mine.R.err→ku W A l g s u _ _) U e λa m xs r f _=> ?_
  have h:=R.fz _ _ r
  refine⟨λq=>nI ((rE h).typeIs (s:=s)) F.slot_tuple_getitem (λe=>nomatch e) q,Cl.opt λj B=>Cl.opt λp C=> ?_⟩
  obtain ⟨u,hu,I⟩:=rK f C
  have o:=CX hb
  exact Cl.val R λc E k=>PyProof.Rows.getItem_tuple (rE h) (F5 o.1) (F6 o.2) (by rw[f.size];exact B) (mV▸hu)<|k u s.toks I
 ·refine g8 (G:=λu=>_≠Mine.R.err→ku W A l g s u _ _) U e λh1 t' _=> ?_
  refine⟨λq=>nI (mO s _ _) FB.slot_bytes_getitem (λe=>nomatch e) q,Cl.gd λw=>Cl.opt λk hk=>Cl.val R λc E q=>getItem_bytes (by rw[bc];exact zJ w.2.2) w.1 (by rw[bc];exact w.2.1)<|q _ _ ⟨s.toks,?_⟩⟩
  rw[gx,eK,hk]
  show po (ef (dw k).toNat) _=_
  rw[qV,ri<|h1 k<|dG hk];rfl
 ·obtain ⟨a,m,xs,rfl,r,f⟩:=eE e R U
  exact⟨λq=>nI ((gV r).typeIs (s:=s)) F.slot_list_getitem (λe=>nomatch e) q,Cl.opt λj B=>Cl.opt λp C=>IF R r f hb B C⟩
theorem SE.sub(y:SE W fi n e a)(B:SE W fi n i b)(C:zG W n o)(hs: ∀o v,subscripted i N o v=operate [o,v] (getItem o v)):SE W fi n (.Subscript e i pos0')<|ag o a b:=λA l f c loc g H s P=>by
 rw[eval_Subscript]
 refine Cl.bind (y A l f c loc g H s P) λv q w u s' _ I hv G=> ?_
 have p:=P.grow G I
 refine Cl.bind (Cl.holding<|B A l f c loc w q s' p) λv2 t g2 u2 s2 _ h k m=>Cl.stand ?_
 intro j
 obtain ⟨k1,k2⟩:=C A l g2 t s2 v v2 u u2 (p.grow m h).sit h (hv.mono m.ge) k j
 refine am<|k1 ?_
 rw[hs]
 exact am<|bq (Cl.operate k2 j) (λr s3 U=>am<|tM<|aA U) λ_ _ x=>x
noncomputable def eY{α:Type}(x:Y α)(lo a:d J):Y α:=(x.drop<|lo.elim 0<|cq x.length).take<|a.elim x.length (cq x.length)-lo.elim 0 (cq x.length)
def jz(x:V)(lo h:d J)(H:Y af):R V:=(g_ x).elim ((i5 x).elim ((df x H).elim .err λc=>if c.length≤1000000 then .ok (.p<|.list<|eY c lo h) H else .err)
 λa=>if a.length≤1000000 then .ok (.p<|.bytes<|eY a lo h) H else .err) λa=>if a.length≤1000000 then .ok (.p<|.str<|eY a lo h) H else .err
theorem K4(k:M)(h:be t F c b):be t F (c.drop k)<|b.drop k:=by
 induction c generalizing b k with
 |nil=>cases h;rw[List.drop_nil,List.drop_nil];rfl
 |cons p c i=>
  cases k with
  |zero=>exact h
  |succ k=>obtain ⟨u,a,rfl,f,e⟩:=h;exact i k e
theorem K3(k:M)(h:be t F c b):be t F (c.take k)<|b.take k:=by
 induction c generalizing b k with
 |nil=>cases h;rw[List.take_nil,List.take_nil];rfl
 |cons p c i=>
  cases k with
  |zero=>rfl
  |succ k=>obtain ⟨u,f,rfl,a,e⟩:=h;exact⟨u,_,O,a,i k e⟩
theorem IU(h:be t F c b):be t F c.reverse b.reverse:=rJ.mpr (rJ.mp h).reverse
theorem Kr{α:Type}{x:Y α}{lo b:d J}{a:α}(h:a∈eY x lo b):a∈x:=List.mem_of_mem_drop<|List.mem_of_mem_take h
end
end
section
theorem J1(n:M)(i:J):cq n i≤n:=by
 have:=clipAt_cast n i
 exact WS this
theorem zt{α:Type}(x:Y α)(a:d J):a.elim x.length (cq x.length)≤x.length:=by cases a;exact bo _;exact J1 _ _
theorem C8{α:Type}(x:Y α)(lo a:d J):(eY x lo a).length=a.elim x.length (cq x.length)-lo.elim 0 (cq x.length):=by
 have:a.elim x.length (cq x.length)≤x.length:=zt x a
 unfold eY
 rw[mT,tZ];exact WR this
theorem JY{α:Type}{x:Y α}{lo a:d J}(h:(eY x lo a).length=x.length):eY x lo a=x:=by
 have e:=h
 rw[C8]at e
 have:a.elim x.length (cq x.length)≤x.length:=zt x a
 unfold eY
 by_cases c:x.length=0
 ·rw[t9 c,List.drop_nil,List.take_nil]
 ·have b:lo.elim 0 (cq x.length)=0:=WQ e this c
  have g:a.elim x.length (cq x.length)=x.length:=WP e b
  rw[b,g,iC,Nat.sub_zero,tW]
theorem Bw(lo a:d J)(n:M):tS lo a 1 n=(dO<|a.elim n (cq n)-lo.elim 0 (cq n)).map (lo.elim 0 (cq n)+ ·):=by
 have e:tS lo a 1 n=sliceRange (sliceBounds lo a D n).1 (sliceBounds lo a D n).2.1 (sliceBounds lo a D n).2.2:=by
  cases lo<;>cases a<;>rfl
 rw[e,sliceBounds_plain]
 exact sliceRange_one _ _
theorem NR{x:Y M}{lo a:d J}:(tS lo a 1 x.length).filterMap ((⟨x⟩:aQ M)[·]?)=eY x lo a:=by
 rw[Bw,pick_run];rfl
noncomputable def partN:aj→Y af→R (d J):=λ_ H=> .ok D H
def VH(v:V)(H:Y af):R<|d J:=(dE v).elim .err λi=> .ok (z i) H
def ct(m:aj→Y af→R V):aj→Y af→R (d J):=λl H=>(m l H).bind VH
def cR(m:aj→Y af→R V)(p b:aj→Y af→R (d J)):aj→Y af→R V:=λl H=>(m l H).bind λx H=>(p l H).bind λlo H=>(b l H).bind λa H=>jz x lo a H
section
variable{W:Wd}{fi:FI}{n:M}
def SP(W:Wd)(fi:FI)(n:M)(e:d aP)(m:aj→Y af→R (d J)):Prop:=
 ∀A l b c a g H s,bD W fi n A l b c a g H s→Cl W A l [] g s (valueOrNone<|evalOpt e b) (m a H) (λ_ k u=>IsPart u k)
theorem SP.none:SP W fi n D partN:=λA l b a c g H s P=>Cl.pure' P.rep .none
theorem SP.some(h:SE W fi n e m):SP W fi n (z e)<|ct m:=λA l b a c g H s P=>by
 show Cl W A l [] g s (bn e b) _ _
 rw[←bind_pure<|bn e b]
 exact Cl.bind (h A l b a c g H s P) λv o f u s' _ j k G=>Cl.opt λi e=>jH (G:=λu=>Cl W A l [] f s' (Sem.pure u) _ _) k e λt=>Cl.pure' j<|.int _ _
theorem CF(h:IsPart v k): ∃r:d (J×Tok),v=partValue r∧r.map (·.1)=k:=by cases h;exact⟨D,O,O⟩;exact⟨z (_,_),O,O⟩
theorem OM{a:Y M}{lo h:d J}:(eY a lo h).length≤a.length:=bF (List.length_take_le _ _)<|zt a h |> bF (fV _ _)
theorem OL{A:a9}{l:Y bj}{g:Gh}{H:Y af}{s:au}{x:V}{u:T}{lo f:d J}{vl vu:T}(R:aN W g H s)(y:VR W.tb g x u)(j:IsPart vl lo)(v:IsPart vu f){B:ay}(r:s.heap.IsSliceOf B vl vu .none)
  :jz x lo f H≠ .err→ku W A l g s u (.ref B) (jz x lo f H):=by
 refine vo (ku W A l g s u<|.ref B) (λa e=> ?_)<|vo _ (λa e=> ?_)<|qd _ λps e _=> ?_
 ·refine iY (G:=λu=>_≠Mine.R.err→ku W A l g s u _ _) y e λt _=>⟨λq=>nI (typeIs_str s _ _) F.slot_str_getitem (λe=>nomatch e) q,Cl.gd λh=>Cl.val R λb E k=> ?_⟩
  obtain ⟨I,rfl,p⟩:=CF j
  obtain ⟨U,rfl,w⟩:=CF v
  obtain ⟨o,ho,hc,hd⟩:=r
  refine wpAny_getItem_str_slice (l:=I) (u:=U) (st:=D) ⟨o,ho,hc,hd⟩ O ?_
  have hp:slicePicked (⟨a.toArray⟩:an) I U D=tS lo f 1 a.length:=by
   unfold slicePicked
   rw[p,w,iG];rfl
  unfold sliceMade
  rw[hp]
  split
  ·rename_i c
   obtain ⟨_,c⟩:=(b_ _ _).mp c
   have c:=eq_of_beq c
   rw[Bw,bc,pE,iG]at c
   refine k _ s.toks ?_
   rw[JY<|(C8 _ _ _).trans c]
   exact⟨t,O⟩
  ·rw[show ((tS lo f 1 a.length).filterMap ((⟨a.toArray⟩:an).cps[·]?))=eY a lo f from NR]
   exact⟨by rw[iG];exact WO h OM dB,k (.str ⟨(eY a lo f).toArray⟩ s.toks) (s.toks+1) ⟨s.toks,O⟩⟩
 ·refine g8 (G:=λu=>_≠Mine.R.err→ku W A l g s u _ _) y e λh1 t _=>⟨λq=>nI (mO s _ _) FB.slot_bytes_getitem (λe=>nomatch e) q,Cl.gd λh=>Cl.val R λb E k=> ?_⟩
  refine getItem_meets (mO _ _ _) (by decide) FB.slot_bytes_getitem FB.entry_bytes_getitem (FB.args_bytes_getitem_2 _ _) (KBc.meets_slice2 _ t _ j v) ⟨r,bF (KBc.size_picked_le _ lo f) (by rw[lS,gS];exact oF h),λt' tk=>k _ _ ⟨λn hn=>h1 n<|Kr hn,t',?_⟩⟩
  rw[KBc.picked_eq]
  congr 1
  show (((a.map dw).drop _).take _).toArray=(⟨(eY a lo f).map dw⟩:aQ da)
  unfold eY
  rw[lS,List.map_take,List.map_drop]
 ·obtain ⟨a,m,xs,rfl,C,i⟩:=eE e R y
  refine⟨λq=>nI ((gV C).typeIs (s:=s)) F.slot_list_getitem (λe=>nomatch e) q,Cl.gd λh=>Cl.new (ci (slicePick xs lo f D) 0) O R (λb E k=>wpAny_getItem_list_slice (gV C) r j v .none (λe=>nomatch e) (k s.toks)<|by rw[i.size,gS];exact oF h) λF hF e=>⟨_,_,_,O,e,?_⟩⟩
  rw[slicePick_plain]
  unfold eY
  rw[i.size]
  exact be.mono hF<|K3 _<|K4 _ i
noncomputable def rC(v b vs:T):Obj:={cls:= .type "slice",data:= .fields #[v,b,vs]}
theorem Il{lo o:d aP}{p}{r t:aj→Y af→R (d J)}(I:SP W fi n lo r)(U:SP W fi n o t){A l e h c g H s}(P:bD W fi n A l e h c g H s):
  Cl W A l [] g s (bn (.Slice lo o D p) e) ((r c H).bind λa H=>(t c H).bind λb H=> .ok (a,b) H) (λg k u=> ∃a v j,u= .ref a∧g.F a=z (rC v j .none)∧IsPart v k.1∧IsPart j k.2):=by
 rw[arm_eval_Slice]
 refine Cl.bind (I A l e h c g H s P) λa x C v s1 _ G m w=> ?_
 have B:=P.grow w G
 refine Cl.bind (Cl.holding<|U A l e h c C x s1 B) λb y g2 j s2 _ i hvu' G2=> ?_
 refine Cl.skip (u:=dN) (λf E q=>b0<|aA q) ?_
 refine λ_=>iw ⟨(a,b),y,_,O,i.frozen (rC v j .none) O,⟨_,v,j,O,aw O,m,hvu'⟩,aL.frozen i _⟩<|F4 dB
theorem SE.slice{e:aP}{lo v:d aP}{p t}{a:aj→Y af→R V}{f i:aj→Y af→R (d J)}(U:SE W fi n e a)(h2:SP W fi n lo f)(h3:SP W fi n v i):SE W fi n (.Subscript e (.Slice lo v D p) t)<|cR a f i:=λA l o m loc g H s P=>by
 rw[eval_Subscript]
 have I:cR a f i loc H=(a loc H).bind λx H=>((f loc H).bind λa H=>(i loc H).bind λb H=>Mine.R.ok (a,b) H).bind λk H=>jz x k.1 k.2 H:=by
  exact aR _ (funext λx=>funext λH1=>by rw[R.bind_assoc];exact aR _ (funext λy=>funext λB=>by rw[R.bind_assoc];rfl))
 rw[I]
 refine Cl.bind (U A l o m loc g H s P) λx H' g' u s' _ hR hx G=> ?_
 have C:=P.grow G hR
 refine Cl.bind (Cl.holding<|Il h2 h3 C) λk B g2 iv s2 _ h hk w=>Cl.stand ?_
 obtain ⟨j,vl,vu,rfl,q,hl,hu⟩:=hk
 intro c
 obtain ⟨k1,k2⟩:=OL (A:=A) (l:=l) h (hx.mono w.ge) hl hu (B:=j) ⟨_,h.fz _ _ q,O,O⟩ c
 refine am<|k1 ?_
 show ar _ _ (operate [.ref j,u] (getItem u<|.ref j)>>=λr=>_) _ _ _
 exact am<|bq (Cl.operate k2 c) (λr s3 hr=>am<|tM<|aA hr) λ_ _ x=>x
def sD(x:V)(H:Y af):R V:=(df x H).elim .err λc=>if c.length≤1000000 then .ok (.p<|.list c.reverse) H else .err
theorem SE.rev(h1:SE W fi n e a)(h2:SE W fi n i λ_ H=> .ok (.p<|.int<|-1) H):SE W fi n (.Subscript e (.Slice D D (z i) p) pos0')<|aD sD a:=λA l c o loc g H s P=>by
 rw[eval_Subscript,arm_eval_Slice]
 refine Cl.bind (h1 A l c o loc g H s P) λx j g' u s' _ hR hx G=> ?_
 have P1:=P.grow G hR
 have key':Cl W A l [] g' s' (do
   let l←valueOrNone<|evalOpt D c
   let u←holding [l]<|valueOrNone<|evalOpt D c
   let s←holding [l,u] (valueOrNone<|evalOpt (z i) c)
   newFields "slice" [l,u,s]) (.ok () j) (λg _ u=> ∃a vs,u= .ref a∧g.F a=z (rC .none .none vs)∧IsPart vs (z<|-1)):=by
  refine Cl.skip (u:=dN) (λb E q=>aA q)<|Cl.skip (u:=dN) (λb E q=>b0<|aA q) ?_
  have:=Cl.bind (k:=λ_ H=>Mine.R.ok () H) (rel':=λg _ u=> ∃a vs,u= .ref a∧g.F a=z (rC .none .none vs)∧IsPart vs (z<|-1)) (Cl.holding (vs:= [dN,dN])<|h2 A l c o loc g' j s' P1) (f:=λst=>newFields "slice" [.none, .none,st]) λv H2 g2 st U hv h hst' G2=>by
   cases hv
   obtain ⟨t,rfl⟩:=hst'
   exact λ_=>iw ⟨(),_,_,O,h.frozen (rC .none .none<|.int (-1) t) O,⟨_, .int (-1) t,O,aw O, .int _ _⟩,aL.frozen h _⟩<|F4 dB
  exact this
 have er:sD x j=(Mine.R.ok () j).bind λ_ H=>sD x H:=O
 rw[er]
 refine Cl.bind (Cl.holding key') λ_ H2 g2 iv U hv h hk G2=>Cl.stand ?_
 cases hv
 obtain ⟨sl,vs,rfl,hsl',hp⟩:=hk
 refine Cl.opt λps I=>Cl.gd λB=> ?_
 obtain ⟨y,m,xs,rfl,ha,w⟩:=eE I h<|hx.mono G2.ge
 intro C
 refine am (nI ((gV ha).typeIs (s:=U)) F.slot_list_getitem (λe=>nomatch e) ?_)
 show ar _ _ (operate [.ref y, .ref sl] (getItem (.ref y)<|.ref sl)>>=λr=>_) _ _ _
 have k2:Cl W A l [] g2 U (getItem (.ref y)<|.ref sl) (.ok (.p<|.list ps.reverse) j)<|VR W.tb:=
  Cl.new (ci (slicePick xs D D<|z<|-1) 0) O h (λb E k=>wpAny_getItem_list_slice (gV ha) ⟨_,h.fz _ _ hsl',O,O⟩ .none .none hp (λe=>nomatch e) (k U.toks)<|by rw[w.size,gS];exact oF B) λF hF e=>⟨_,_,_,O,e,by
   rw[krv_pick,wM]
   exact be.mono hF<|IU w⟩
 exact am<|bq (Cl.operate k2 C) (λr s3 hr=>am<|tM<|aA hr) λ_ _ x=>x
end
end
section
open PySem.MeetsSeq PySem.SeqAt
section
variable{W:Wd}{fi:FI}{n:M}
theorem VN:du W n (bN .NotEq) neS:=λA l g H s x y u v S o j m=>Cl.opt λb e=>Cl.val o λf E k=>by
 have k:=k (.bool<|!b) s.toks O
 refine fA e (λe=>nL e λa c h i q=> ?_) λe=>fA e (λe=>nL e λa c h i q=> ?_) λe=>fA e (λe=>nL e λa c h i q=> ?_) λe=>fA e (λe=>nL e λa c h i q=> ?_) λe=>bw e λa h e=>bw e λc i e=> ?_
 ·exact jH (G:=λu=>ar (av W.prog W.w) A (bN .NotEq u v) f E s) j h λt=>jH (G:=λv=>ar (av W.prog W.w) A (bN .NotEq _ v) f E s) m i λU=>PyProof.Rows.ne_int (by rw[bne,q];exact k)
 ·exact iY (G:=λu=>ar (av W.prog W.w) A (bN .NotEq u v) f E s) j h λt=>iY (G:=λv=>ar (av W.prog W.w) A (bN .NotEq _ v) f E s) m i λU=>PyProof.Rows.ne_str (by rw[bne,x7,q];exact k)
 ·exact g8 (G:=λu=>ar (av W.prog W.w) A (bN .NotEq u v) f E s) j h λw t=>g8 (G:=λv=>ar (av W.prog W.w) A (bN .NotEq _ v) f E s) m i λB U=>ne_bytes (by rw[bne,BL w B,q];exact k)
 ·exact wk (G:=λu=>ar (av W.prog W.w) A (bN .NotEq u v) f E s) j h (wk (G:=λv=>ar (av W.prog W.w) A (bN .NotEq _ v) f E s) m i<|PyProof.Rows.ne_bool<|by rw[bne,q];exact k)
 ·obtain ⟨a1,n1,xs,rfl,ha,C⟩:=eE h o j
  obtain ⟨a2,n2,ys,rfl,hb,I⟩:=eE i o m
  exact Bq (G:=λr=>RcNeAt A s (.ref a1) (.ref a2)<|!r) o.fz (vQ S.un) C I (λf p q w B he=>I5 (Gg<|vQ S.un) ha hb w B he) e _ _ _ _ k
def qe{β:Type} [BEq β](f:P→d β)(x:P)(c:Y P):d ak:=(f x).bind λi=>(dJ f c).bind λa=>z (a.any (· ==i))
def oh(x:P)(c:Y P):d ak:=(qe j5 x c).or<|(qe ll x c).or<|qe oE x c
theorem aV.any{γ:Type}{b:γ→T→Prop}{e:T→ak}{f:γ→ak}(h: ∀c u,b c u→e u=f c){a:Y γ}{g:Y T}(x:aV b a g):g.any e=a.any f:=by
 induction a generalizing g with
 |nil=>cases x;rfl
 |cons c a k=>obtain ⟨u,l,rfl,i,j⟩:=x;rw[ro,ro,h c u i,k j]
theorem aV.mem{γ:Type}{b:γ→T→Prop}{f:List γ}{a:List T}(x:aV b f a)(u:T)(hu:u∈a): ∃c,b c u:=by
 induction f generalizing a with
 |nil=>cases x;cases hu
 |cons c f i=>
  obtain ⟨v,g,rfl,h,e⟩:=x
  rcases List.mem_cons.mp hu with rfl|hu
  ·exact⟨c,h⟩
  ·exact i e hu
theorem aV.uniq{γ:Type}{b:γ→T→Prop}(p: ∀c k v,b c v→b k v→c=k){f a:Y γ}{u:Y T}(x:aV b f u)(y:aV b a u):f=a:=by
 induction f generalizing a u with
 |nil=>
  cases x
  cases a with
  |nil=>rfl
  |cons k a=>obtain ⟨v,g,e,_⟩:=y;cases e
 |cons c f q=>
  obtain ⟨v,g,rfl,j,l⟩:=x
  cases a with
  |nil=>cases y
  |cons k a=>
   obtain ⟨w,r,e,m,o⟩:=y
   injection e with h i
   rw[p c k v j<|h▸m,q l<|i▸o]
theorem Cf{c k:J}{v:T}(h:eM c v)(a:eM k v):c=k:=by
 obtain ⟨t,rfl⟩:=h;obtain ⟨b,e⟩:=a;injection e
def FY(t:Tb)(F:Fz)(A:a9)(s:au)(u:T)(a:Y T)(b:ak):Prop:= ∃e:T→ak,(∀y∈a,EqAt A s y u<|e y)∧a.any e=b
open Classical in
theorem xM{t:Tb}{F:Fz}{A:a9}{s:au}{u:T}{i:Y T}{γ:Type} [BEq γ]{b:γ→T→Prop}{a:γ}{e:Y γ}(g:aV b e i)(j: ∀c v,b c v→EqAt A s v u (c==a))(l: ∀c k v,b c v→b k v→c=k):FY t F A s u i (e.any (· ==a)):=by
 have x: ∀{v c},b c v→(if h: ∃c,b c v then(h.choose==a)else N)=(c==a):=λ{v c} q=>by
  have hex: ∃c,b c v:=⟨c,q⟩
  rw[dif_pos hex,l _ _ _ hex.choose_spec q]
 refine⟨λv=>if h: ∃c,b c v then(h.choose==a)else N,λy m=> ?_,aV.any (b:=b) (f:=(· ==a)) (λc v q=>x q) g⟩
 obtain ⟨c,q⟩:=g.mem y m
 dsimp only
 rw[x q];exact j c y q
theorem yC{β:Type} [BEq β]{f:P→d β}{x:P}{c:Y P}{b:ak}{G:Prop}(h:qe f x c=z b)(k: ∀i a,f x=z i→dJ f c=z a→a.any (· ==i)=b→G):G:=
 bw h λi e h=>bw h λa g h=>k i a e g<|aY h
theorem A9{w:Tb}{F:Fz}{A:a9}{s:au}{x:P}{G:Y P}{u:T}{H:Y T}{b:ak}(I: ∀a o,F a=z o→s.heap.get? a=z o)(U:A.units+3<cLine)(h:oh x G=z b)(l:PR w F x u)(r:be w F G H):
  FY w F A s u H b:=by
 refine fA h (λh=>yC h λi y g j q=>q▸ ?_) λh=>fA h (λh=>yC h λi y g j q=>q▸ ?_) λh=>yC h λi y g j q=>q▸ ?_
 ·rw[jV g]at l
  exact xM (pR j r) (λc v h=>uy h l) λc k v=>Cf
 ·refine xM (uE j r) (λc v h=>BJ I (WN U) h<|yv g l) λc k v h p=> ?_
  obtain ⟨a,m,xs,rfl,q2,q3⟩:=h
  obtain ⟨a',m',xs'',B,C,r3⟩:=p
  injection B with B
  rw[←B,q2]at C
  injection C with C
  injection C with _ _ C
  injection C with C
  exact aV.uniq (b:=eM) (λ_ _ _=>Cf) q3<|C▸r3
 ·rw[kN g]at l
  obtain ⟨t,rfl⟩:=l
  refine xM (xZ j r) (λc v h=> ?_) λc k v h p=> ?_
  ·obtain ⟨t',rfl⟩:=h;rw[←x7];exact EqAt.str_str _ _ _ _
  ·obtain ⟨t1,rfl⟩:=h;obtain ⟨t2,e⟩:=p
   injection e with e;injection e with e;exact congrArg Array.toList e
end
end
section
abbrev lu:P→d (Y M):=oE
abbrev ml:P→d J:=j5
noncomputable def cJ(s:Y M):an:=⟨s.toArray⟩
structure gO(W:Wd){J:Type} [dI J]{K:Type} [dI K](knd:KeyKind W.prog W.w K)(dec:P→d J)(emb:J→K):Prop where
 rel: ∀F p k u,dec p=z k→PR W.tb F p u→knd.is (emb k) u=Q
 back: ∀F p k u,dec p=z k→knd.is (emb k) u=Q→PR W.tb F p u
 hash: ∀p k,dec p=z k→W.tb.hash p=knd.hash (emb k)
 inj: ∀p q k,dec p=z k→dec q=z k→p=q
 emb: ∀j k,emb j=emb k→j=k
section
variable{W:Wd}{ab':Type} [dI ab']{K:Type} [dI K]{knd:KeyKind W.prog W.w K}{dec:P→d ab'}{emb:ab'→K}
noncomputable abbrev oz(dec:P→d ab')(a:Y<|P×V):ak:=a.all λe=>(dec e.1).isSome
abbrev ZY(W:Wd)(dec:P→d ab')(emb:ab'→K)(g:Gh)(e:P×V)(k:K×T):Prop:=(∃j,dec e.1=z j∧k.1=emb j)∧VR W.tb g e.2 k.2
abbrev KV(W:Wd)(dec:P→d ab')(emb:ab'→K)(g:Gh):Y (P×V)→Y (K×T)→Prop:=aV<|ZY W dec emb g
theorem Xd(E:gO W knd dec emb)(h:fT W.tb g b u)(w:oz dec b=Q): ∃a,KV W dec emb g b a∧Pairs knd u a∧ ∀e∈u,∃k,knd.is k e.key=Q∧e.hash=knd.hash k:=by
 induction b generalizing u with
 |nil=>cases h;exact⟨[],O, .nil,λ_ h=>nomatch h⟩
 |cons q b x=>
  obtain ⟨e,y,rfl,⟨r,s,t⟩,v⟩:=h
  obtain ⟨i,l⟩:=(b_ _ _).mp w
  obtain ⟨j,c⟩:=mR.mp i
  obtain ⟨a,m,n,o⟩:=x v l
  have f:=E.rel _ _ _ _ c r
  refine⟨(emb j,e.val)::a,⟨_,_,O,⟨⟨j,c,O⟩,t⟩,m⟩, .cons f O n,λp he'=> ?_⟩
  rcases dP.mp he' with rfl|he'
  ·exact⟨_,f,s.trans (E.hash _ _ c)⟩
  ·exact o p he'
theorem OA(E:gO W knd dec emb)(h:KV W dec emb g b a)(m:Pairs knd f a)(n: ∀e∈f,∃k,knd.is k e.key=Q∧e.hash=knd.hash k):fT W.tb g b f:=by
 induction b generalizing a f with
 |nil=>cases h;cases m;rfl
 |cons q b x=>
  obtain ⟨y,o,rfl,⟨⟨j,l,I⟩,v⟩,w⟩:=h
  obtain ⟨k,u⟩:=y
  obtain rfl:k=emb j:=I
  cases m with
  |cons p A B=>
   rename_i e i
   obtain ⟨C,r,s⟩:=n e<|.head _
   exact⟨e,i,O,⟨E.back _ _ _ _ l p,by rw[s,E.hash _ _ l,knd.inj _ _ _ r p],by rw[A];exact v⟩,x w B λt c=>n t<|.tail _ c⟩
theorem KV.keys(E:gO W knd dec emb)(h:KV W dec emb g b a):((b.map (·.1)).Nodup↔(a.map (·.1)).Nodup)∧ ∀j p,dec p=z j→(p∈b.map (·.1)↔emb j∈a.map (·.1)):=by
 induction b generalizing a with
 |nil=>cases h;exact⟨⟨λ_=>jg,λ_=>jg⟩,λj p _=>⟨λh=>(nomatch h),λh=>nomatch h⟩⟩
 |cons q b l=>
  obtain ⟨y,o,rfl,⟨⟨j,c,I⟩,m⟩,i⟩:=h
  obtain ⟨k,v⟩:=l i
  refine⟨?_,λf u hp''=> ?_⟩
  ·rw[ee,ee,pC,pC,k,I,v j q.1 c]
  ·rw[ee,ee,dP,dP,v f u hp'',I]
   rw[show u=q.1↔emb f=emb j from⟨λe=>by subst e;rw[c]at hp'';cases hp'';rfl,λe=>by obtain rfl:=E.emb _ _ e;exact E.inj _ _ _ hp'' c⟩]
def getD(dec:P→d ab')(k:ab')(a:Y<|P×V):d V:=eo D (λe _ i=>if dec e.1=z k then z e.2 else i) a
theorem KV.get(E:gO W knd dec emb)(h:KV W dec emb g b a):
  (∀v,getD dec k b=z v→ ∃u,valueAt a (emb k)=z u∧VR W.tb g v u)∧(getD dec k b=D→valueAt a (emb k)=D):=by
 induction b generalizing a with
 |nil=>cases h;exact⟨λv e=>(nomatch e),λ_=>rfl⟩
 |cons q b l=>
  obtain ⟨y,o,rfl,⟨⟨j,c,I⟩,f⟩,i⟩:=h
  obtain ⟨m,u⟩:=y
  obtain rfl:m=emb j:=I
  show (∀v,(if dec q.1=z k then z q.2 else getD dec k b)=z v→_)∧((if dec q.1=z k then z q.2 else getD dec k b)=D→_)
  unfold valueAt
  rw[t7]
  by_cases h:j=k
  ·subst h
   rw[aw c,bx O]
   exact⟨λn e=>⟨u,O,aY e▸f⟩,λe=>nomatch e⟩
  ·rw[az λe=>h<|aY<|c.symm.trans e,bu λe=>h<|E.emb _ _ e]
   exact l i
def zN(dec:P→d ab')(k:ab')(p:P)(v:V)(a:Y<|P×V):Y<|P×V:=eo [(p,v)] (λe r i=>if dec e.1=z k then(e.1,v)::r else e::i) a
theorem H7{k:K}{u v:T}{a:Y<|K×T}(b:k∉a.map (·.1)):stored ((k,u)::a) k v=(k,v)::a:=by
 unfold stored
 rw[ro,bx O,Bool.true_or,aw O,ee,map_store_of_not_mem a _ v b,aw O]
theorem HV{k e:K}{u v:T}{a:Y<|K×T}(h: ¬e=k):stored ((e,u)::a) k v=(e,u)::stored a k v:=by
 unfold stored
 rw[ro,bu h,Bool.false_or,ee,az h]
 split<;>rfl
theorem KV.put{g:Gh}(E:gO W knd dec emb){k:ab'}{p:P}(n:dec p=z k){v:V}{u:T}(i:VR W.tb g v u){b:Y<|P×V}{a:Y<|K×T}(h:KV W dec emb g b a)(m:(a.map (·.1)).Nodup):KV W dec emb g (zN dec k p v b)<|stored a (emb k) u:=by
 induction b generalizing a with
 |nil=>cases h;exact⟨_,_,O,⟨⟨k,n,O⟩,i⟩,O⟩
 |cons q b r=>
  obtain ⟨y,o,rfl,⟨⟨j,c,I⟩,l⟩,f⟩:=h
  obtain ⟨s,x⟩:=y
  obtain rfl:s=emb j:=I
  obtain ⟨t,w⟩:=pC.mp m
  show KV W dec emb g (if dec q.1=z k then(q.1,v)::b else q::zN dec k p v b) _
  by_cases h:j=k
  ·subst h
   rw[H7 t,aw c]
   exact⟨_,_,O,⟨⟨j,c,O⟩,i⟩,f⟩
  ·rw[HV λe=>h<|E.emb _ _ e,az λe=>h<|aY<|c.symm.trans e]
   exact⟨_,_,O,⟨⟨j,c,O⟩,l⟩,r f w⟩
theorem uL(E:gO W knd dec emb){g:Gh}{h:bB}{a:ay}{c:aQ fe}{n:M}{b:Y<|P×V}(l:h.get? a=z (cj c n))(p:fT W.tb g b c.toList)(o:(b.map (·.1)).Nodup)(G:oz dec b=Q):
  ∃k,h.DictOf knd a k∧KV W dec emb g b k:=by
 obtain ⟨k,f,i,j⟩:=Xd E p G
 exact⟨k,⟨_,c,n,l,⟨O,O,O⟩,O,λe m=>j e<|rt.mpr m,i,(KV.keys E f).1.mp o⟩,f⟩
theorem xE(E:gO W knd dec emb){g:Gh}{h:bB}{a:ay}{b:Y<|K×T}{i:Y<|P×V}(G:h.DictOf knd a b)(I:KV W dec emb g i b): ∃n f,h.get? a=z (cj f n)∧fT W.tb g i f.toList∧(i.map (·.1)).Nodup:=by
 obtain ⟨⟨c,k,t,u⟩,f,m,y,⟨p,q,B⟩,j,l,s,r⟩:=G
 simp only at p q B j
 subst p q B j
 exact⟨m,f,y,OA E I s λe o=>l e<|rt.mp o,(KV.keys E I).1.mpr r⟩
end
structure j_(W:Wd):Prop where
 str: ∀s,W.tb.hash (.str s)=(strKind W.prog W.w).hash (cJ s)
 int: ∀i,W.tb.hash (.int i)=(intKind W.prog W.w).hash i
theorem qO(c:j_ W):gO W (strKind W.prog W.w) lu cJ:=by
 refine⟨λF p k u h a=> ?_,λF p k u h a=> ?_,λp k h=> ?_,λp q k h b=>(kN h).trans (kN b).symm,λj k h=> ?_⟩
 ·rw[kN h]at a
  obtain ⟨t,rfl⟩:=a
  exact fD _
 ·rw[kN h]
  obtain ⟨t,rfl⟩:=Value.isStrOf_shape a
  exact⟨t,O⟩
 ·rw[kN h];exact c.str _
 ·injection h with h;exact congrArg Array.toList h
theorem tf(c:j_ W):gO W (intKind W.prog W.w) ml id:=by
 refine⟨λF p k u h a=> ?_,λF p k u h a=> ?_,λp k h=> ?_,λp q k h b=>(jV h).trans (jV b).symm,λj k h=>h⟩
 ·rw[jV h]at a
  obtain ⟨t,rfl⟩:=a
  exact fD k
 ·rw[jV h]
  obtain ⟨t,rfl⟩:=Value.isInt_shape a
  exact⟨t,O⟩
 ·rw[jV h];exact c.int _
noncomputable def Xw(p:P):d<|Y<|P×V:=p.casesOn D (λ_=>D) (λ_=>D) (λ_=>D) (λ_=>D) (λ_=>D) (λ_=>D) (λa=>z<|a.map λe=>(e.1,V.p e.2)) λ_ _=>D
noncomputable def zU(c:af):d<|Y<|P×V:=c.casesOn (λ_=>D) z (λ_ _=>D) D
def nu(v:V)(H:Y af):d<|Y<|P×V:=v.casesOn (λk=>H[k]?.bind zU) Xw
theorem C5(h:zU c=z e):c= .dict e:=by cases c<;>first|(cases h;done)|exact aR af.dict (aY h)
theorem rA(e:nu x H=z i)(R:aN W g H s)(j:VR W.tb g x u):
  ∃a n b,u= .ref a∧s.heap.get? a=z (cj b n)∧fT W.tb g i b.toList∧(i.map (·.1)).Nodup∧(a==eJ)=N:=by
 cases x with
 |lbl k=>
  obtain ⟨p,h,f⟩:=j
  refine bw e λc I e=> ?_
  obtain ⟨n,b,l,m,o⟩:=R.cell k _ p (C5 e▸I) h
  exact⟨p.1,n,b,f,l,m,o,cL.mpr λq=>W.sm<|q▸R.nb p.1 (lV h<|.head _)⟩
 |p y=>
  cases y<;>first|(cases e;done)|skip
  cases e
  obtain ⟨a,n,w,h,f,r,t,v⟩:=j
  exact⟨a,n,w,h,R.fz _ _ f,(uP.mp r).map λ_ _ q=>q,by rw[eu];exact t,v⟩
end
section
open PySem.MeetsSeq PySem.SeqAt
def sq{a:Type} [dI a](b:P→d a)(k:P)(e:Y<|P×V):d ak:=(b k).bind λj=>if oz b e=Q then z (getD b j e).isSome else D
def jY{a:Type} [dI a](b:P→d a)(k:P)(e:Y<|P×V):d V:=(b k).bind λj=>if oz b e=Q then getD b j e else D
def C4(k:P)(e:Y<|P×V):d ak:=(sq lu k e).or<|sq ml k e
def uz(k:P)(e:Y<|P×V):d V:=(jY lu k e).or<|jY ml k e
theorem iZ{α:Type}{c:Prop} [n9 c]{o:d α}{b:α}{G:Prop}(h:(if c then o else D)=z b)(k:c→o=z b→G):G:=by
 by_cases q:c
 ·rw[aw q]at h;exact k q h
 ·rw[az q]at h;cases h
theorem jA{α β:Type}{o:d α}{f:α→d β}{r:d β}{b:β}{G:Prop}(h:o.elim r f=some b)(k: ∀a,o=some a→f a=some b→G)(e:o=none→r=some b→G):G:=by
 cases o with
 |none=>exact e O h
 |some a=>exact k a O h
section
variable{W:Wd}{fi:FI}{n:M}(aa':dD W)(Hs:j_ W)
theorem Ov{f K:Type} [dI f] [dI K]{x:KeyKind W.prog W.w K}{l:P→d f}{p:f→K}(i:gO W x l p){A:a9}{g:Gh}{s:au}{k:P}{u:T}{a:ay}{C:aQ fe}{m:M}{r:Y<|P×V}{b:ak}(h:sq l k r=some b)(hk:PR W.tb g.F k u)(U:s.heap.get? a=some (cj C m))(hv:fT W.tb g r C.toList)(hn:(r.map (·.1)).Nodup)(G:(a==eJ)=N){c:ak→T→au→Prop}{E:T→au→Prop}:
  (c Q (.bool b) {s with toks:=s.toks+1}→ar (av W.prog W.w) A (bN .In u<|.ref a) (c Q) E s)∧(c N (.bool<|!b) {s with toks:=s.toks+1}→ar (av W.prog W.w) A (bN .NotIn u<|.ref a) (c N) E s):=by
 refine bw h λj hj h=>iZ h λhd h=> ?_
 obtain rfl:=aY h
 obtain ⟨y,B,H⟩:=uL i U hv hn hd
 have e:(getD l j r).isSome=(valueAt y<|p j).isSome:=by
  obtain ⟨I,g2⟩:=KV.get i (k:=j) H
  cases q:getD l j r with
  |none=>rw[g2 q];rfl
  |some v=>obtain ⟨w,hw,_⟩:=I v q;rw[hw];rfl
 rw[e]
 have o:=i.rel g.F k j u hj hk
 exact⟨λq=>wpAny_in_of o G B.mapOf q,λq=>wpAny_notIn_of o G B.mapOf q⟩
def Cj(k:P)(e:Y<|P×V):d ak:=(p_ k).bind λc=>if e.isEmpty=Q∧(lZ c).isSome=Q then z N else D
theorem Jz{F:Fz}{p:Y P}{s:Y<|Y M}{b:Y T}(h:lZ p=z s)(a:be W.tb F p b):ItemsAre (jN W.prog W.w) (s.map cJ) b:=by
 have:=xZ h a
 clear h a
 induction s generalizing b with
 |nil=>cases this;exact .nil
 |cons c s i=>obtain ⟨u,f,rfl,⟨t,rfl⟩,e⟩:=this;exact .cons (fD _)<|i e
theorem IK{A:a9}{g:Gh}{s:au}{k:P}{u:T}{a:ay}{e:aQ fe}{m:M}{j:Y<|P×V}{b:ak}(r: ∀a o,g.F a=z o→s.heap.get? a=z o)(H:A.units+2<cLine)(h:Cj k j=z b)(l:PR W.tb g.F k u)(v:s.heap.get? a=z (cj e m))(p:fT W.tb g j e.toList)(G:(a==eJ)=N){c:T→au→Prop}{E:T→au→Prop}
  (q: ∀tk,c (.bool b) {s with toks:=tk}):ar (av W.prog W.w) A (bN .In u<|.ref a) c E s:=by
 refine bw h λps C h=>iZ h λx h=> ?_
 obtain ⟨y,I⟩:=x
 obtain rfl:=aY h
 obtain ⟨ss,f⟩:=mR.mp I
 rw[rB C]at l
 obtain ⟨b,n',xs,rfl,w,i⟩:=l
 rw[List.isEmpty_iff.mp y]at p
 obtain rfl:e= #[]:=Array.toList_eq_nil_iff.mp p
 have B:s.heap.DictOfH (tupleKind<|jN W.prog W.w) a []:=⟨_,#[],m,v,⟨O,O,O⟩,O,O,λ_ U=>(nomatch U),jg⟩
 exact wpAny_in_heap (knd:=tupleKind<|jN W.prog W.w) (k:=ss.map cJ) (WM H) ⟨_,xs,n',r _ _ w,O,O,Jz f i⟩ G B<|q _
include Hs
omit Hs in
theorem Cp{b:aQ da}{t u:Tok}{i:J}(c:0≤i)(e:i<256):Meets (hV.«bytes.__contains__» ⟨[.bytes b t, .int i u],[]⟩) λA R s=>R (.ok<|.ret<|.bool<|b.contains i.toNat.toUInt8) s:=by
 refine .of_wp λp w A R s h=> ?_
 show ar _ _ (do ret (.bool (←Builtin.Bytes.containsIn "bytes.__contains__" (.bytes b t)<|.int i u))) _ _ s
 unfold Builtin.Bytes.containsIn
 rw[KBy.buffer_eq]
 refine am<|am<|wpAny_attempt<|wpAny_of_eq (a:=i) O ?_
 refine am<|aA ?_
 show ar _ _ (if(decide (i<0)||decide (i≥256))=Q then _ else _) _ _ s
 refine e_ (by simp;exact WL c e) ?_
 exact aA<|aA ⟨_,O,h⟩
omit Hs in
theorem Iq{b:Y M}{i:J}(c: ∀n∈b,n<256)(h:0≤i)(a:i<256):(⟨b.map dw⟩:aQ da).contains i.toNat.toUInt8=b.contains i.toNat:=by
 rw[←Array.contains_toList]
 show (b.map dw).contains (dw i.toNat)=_
 induction b with
 |nil=>rfl
 |cons x r g=>
  rw[ee,n6,n6,g λn f=>c n<|.tail _ f]
  congr 1
  rw[iF,dM,dM]
  refine⟨λe=> ?_,λe=>by rw[e]⟩
  have:=aR qW e
  rwa [qV,qV,ri<|c x<|.head _,ri<|(Int.toNat_lt h).mpr a]at this
noncomputable def VC(a b:Y M):ak:= !(Builtin.Str.occurrences ⟨b.toArray⟩ ⟨a.toArray⟩ 0 b.length 1).isEmpty
def ZH(x:P)(e:Y<|P×V):d ak:=(C4 x e).or<|Cj x e
def qQ(x y:V)(H:Y af):d ak:=(pv x).bind λq=>(i5 y).elim ((g_ y).elim ((mI y).elim ((df y H).elim ((nu y H).bind<|ZH q)<|oh q)<|oh q) λb=>(oE q).bind λa=>z<|VC a b)
 λb=>(j5 q).bind λi=>if 0≤i∧i<256 then z<|b.contains i.toNat else D
def inS(x y:V)(H:Y af):R V:=(qQ x y H).elim .err λb=> .ok (.p<|.bool b) H
def yF(v:V):ak:=(mI v).isSome
def notInS(x y:V)(H:Y af):R V:=if(yF x&&(nu y H).isSome)=N then(qQ x y H).elim .err λb=> .ok (.p<|.bool<|!b) H else .err
theorem Eb{A:a9}{l:Y bj}{g:Gh}{H:Y af}{s:au}{x y:V}{u v:T}{b:ak}(S:dK W n A l g s)(R:aN W g H s)(w:VR W.tb g x u)(o:VR W.tb g y v)(h:qQ x y H=z b){c Q':T→au→Prop}{E:T→au→Prop}
  (q: ∀tk,c (.bool b) {s with toks:=tk})(q': ∀tk,Q' (.bool<|!b) {s with toks:=tk}):
  ar (av W.prog W.w) A (bN .In u v) c E s∧((yF x&&(nu y H).isSome)=N→ar (av W.prog W.w) A (bN .NotIn u v) Q' E s):=by
 have hu:=S.un
 refine bw h λx' hx'' h=> ?_
 cases x with
 |lbl k=>cases hx''
 |p x'=>
 cases hx''
 refine jA h (λb' e h=>bw h λi ei h=>iZ h λC h=> ?_) λ_ h=>jA h (λb' e h=>bw h λa ea h=> ?_) λ_ h=>jA h (λps e h=> ?_) λ_ h=>jA h (λps e h=> ?_) λ_ h=>bw h λes e h=> ?_
 ·obtain rfl:=aY h
  refine g8 (G:=λv=>ar (av W.prog W.w) A (bN .In u v) c E s∧(_→ar (av W.prog W.w) A (bN .NotIn u v) Q' E s)) o e λh1 t=> ?_
  rw[jV ei]at w
  obtain ⟨t',rfl⟩:=w
  rw[←Iq h1 C.1 C.2]at q q'
  exact⟨SeqRoads2.in_meets (mO _ _ _) FB.slot_bytes_contains FB.entry_bytes_contains (FB.args_bytes_contains_2 _ _) (Cp C.1 C.2) ⟨_,O,q s.toks⟩,
   λ_=>SeqRoads2.notIn_meets (mO _ _ _) FB.slot_bytes_contains FB.entry_bytes_contains (FB.args_bytes_contains_2 _ _) (Cp C.1 C.2) ⟨_,O,q' s.toks⟩⟩
 ·obtain rfl:=aY h
  refine iY (G:=λv=>ar (av W.prog W.w) A (bN .In u v) c E s∧(_→ar (av W.prog W.w) A (bN .NotIn u v) Q' E s)) o e λt=> ?_
  rw[kN ea]at w
  obtain ⟨t',rfl⟩:=w
  have e:(⟨b'.toArray⟩:an).length=b'.length:=iG _
  exact⟨PyProof.Rows.in_str (by rw[e];exact q s.toks),λ_=>PyProof.Rows.notIn_str<|by rw[e];exact q' s.toks⟩
 ·refine oU (G:=λv=>ar (av W.prog W.w) A (bN .In u v) c E s∧(_→ar (av W.prog W.w) A (bN .NotIn u v) Q' E s)) o e λa m xs r B=> ?_
  obtain ⟨e,U,hb⟩:=A9 (A:=A.in1) R.fz (F3 hu) h w B
  rw[←hb,Array.any_toList]at q q'
  exact⟨in_tupleAt e ⟨_,R.fz _ _ r,O,_,O⟩ (λy o=>U y<|rt.mpr o)<|q s.toks,λ_=>notIn_tupleAt e ⟨_,R.fz _ _ r,O,_,O⟩ (λy o=>U y<|rt.mpr o)<|q' s.toks⟩
 ·obtain ⟨a,m,xs,rfl,r,B⟩:=eE e R o
  obtain ⟨e,U,hb⟩:=A9 (A:=A.in1) R.fz (F3 hu) h w B
  rw[←hb,Array.any_toList]at q q'
  exact⟨in_listAt e ⟨_,r,O,_,O⟩ (λy o=>U y<|rt.mpr o)<|q s.toks,λ_=>notIn_listAt e ⟨_,r,O,_,O⟩ (λy o=>U y<|rt.mpr o)<|q' s.toks⟩
 ·obtain ⟨a,m,ds,rfl,r,hv,hn,hsm'⟩:=rA e R o
  refine fA h (λh=> ?_) λh=>⟨IK R.fz (WK hu) h w r hv hsm' q,λhh=>bw h λps hp _=> ?_⟩
  ·have key': ∀{f K:Type} [dI f] [dI K] {knd':KeyKind W.prog W.w K} {I:P→d f} {emb':f→K},gO W knd' I emb'→sq I x' es=z b→ar (av W.prog W.w) A (bN .In u<|.ref a) c E s∧ar (av W.prog W.w) A (bN .NotIn u<|.ref a) Q' E s:=λj h=>by
    obtain ⟨k1,k2⟩:=Ov j (A:=A) (E:=E) (c:=λb=>bif b then c else Q') h w r hv hn hsm'
    exact⟨k1<|q _,k2<|q' _⟩
   have:=fA h (key'<|qO Hs)<|key'<|tf Hs
   exact⟨this.1,λ_=>this.2⟩
  ·rw[e]at hh
   have:yF (.p x')=Q:=by show ((p_ x').isSome)=Q;rw[hp];rfl
   rw[this]at hh;cases hh
theorem V7:du W n (bN .In) inS:=λA l g H s x y u v S R h c=>Cl.opt λb e=>Cl.val R λa E k=>(Eb Hs S R h c e (Q':=λ_ _=>True) (λt=>k _ t O) λ_=>trivial).1
theorem Kp:du W n (bN .NotIn) notInS:=λA l g H s x y u v S R c f=>Cl.gd λh=>Cl.opt λb e=>Cl.val R λa E k=>(Eb Hs S R c f e (c:=λ_ _=>True) (λ_=>trivial) λt=>k _ t O).2 h
def k_(x y:V)(H:Y af):R V:=(pv y).elim .err λk=>(nu x H).elim .err λe=>(uz k e).elim .err λv=> .ok v H
theorem IM{A:a9}{g:Gh}{s:au}{k:P}{u:T}{a:ay}{r:aQ fe}{m:M}{l:Y<|P×V}{v:V}(h:uz k l=z v)(I:PR W.tb g.F k u)(y:s.heap.get? a=z (cj r m))(hv:fT W.tb g l r.toList)(U:(l.map (·.1)).Nodup){c:T→au→Prop}{E:T→au→Prop}
  (q: ∀w,VR W.tb g v w→c w {s with toks:=s.toks+1}):ar (av W.prog W.w) A (getItem (.ref a) u) c E s:=by
 have i: ∀{b K:Type} [dI b] [dI K] {x:KeyKind W.prog W.w K} {f:P→d b} {p:b→K},gO W x f p→jY f k l=z v→ar (av W.prog W.w) A (getItem (.ref a) u) c E s:=λe h=>bw h λj C h=>iZ h λG h=>by
  obtain ⟨kvs0',B,H⟩:=uL e y hv U G
  obtain ⟨w,hw,o⟩:=(KV.get e (k:=j) H).1 v h
  exact wpAny_getItem_of (e.rel g.F k j u C I) B.mapOf hw<|q w o
 exact fA h (i<|qO Hs)<|i<|tf Hs
omit Hs in
theorem qb(h:pv v=z p)(f:VR W.tb g v u):PR W.tb g.F p u:=by
 cases v with
 |lbl k=>cases h
 |p q=>cases h;exact f
omit Hs in
theorem JQ{s:au}{a:ay}{b:aQ fe}{m:M}(c:s.heap.get? a=z (cj b m)):s.TypeIs (.ref a) "dict":=⟨_,c,O⟩
theorem KQ:zG W n k_:=λA l g H s x y u v S R p r=>by
 refine qd (ku W A l g s u v) λk I=>qd (ku W A l g s u v) λB h _=> ?_
 obtain ⟨a,m,t,rfl,c,i,f,hsm'⟩:=rA h R p
 exact⟨λq=>nI (JQ c) F.slot_dict_getitem (λe=>nomatch e) q,Cl.opt λw o=>Cl.val R λb E k=>IM Hs o (qb I r) c i f λw j=>k w _ j⟩
end
end
section
theorem Bk(x:aQ T)(n:M)(f:aQ T→aQ T): ∃p,eQ f (ci x n)=ci (f x) p:=by
 exact⟨_,O⟩
section
variable{prog:dX}{w:cH}{A:a9}{E:T→au→Prop}{s:au}
theorem Iy(y:s.heap.get? l=z (ci G n))(c:k<0)(g: -(G.size:J)≤k)(h: -(2^63)≤k)
  (m: ∀e p,e.get? l=z (ci (G.setIfInBounds (k+G.size).toNat v) p)→hU l s.heap e→b () {s with heap:=e}):ar (av prog w) A (setItem (.ref l) (.int k t) v) b E s:=by
 have B:s.TypeIs (.ref l) "list":=⟨_,y,O⟩
 unfold setItem
 try with_reducible refine b0 ?_
 refine am (wpAny_sequenceKey B (by decide) ?_)
 refine am (wpAny_callSpecial?_slot (name:=n0 "__setitem__") B PySem.slot_list_setitem
  (wpAny_call_entry PySem.slot_list_setitem B PySem.entry_list_setitem ?_ (PySem.args_list_setitem _ _ _)))
 show ar _ _ (Builtin.List.listSubscript? (.int k t)>>=_) _ _ s
 refine am<|wpAny_listSubscript_int (fitsIndex_neg c h) ?_
 clear h
 have a:=seqIndex_neg c g
 have f:(k+G.size).toNat<G.size:=WJ c g
 obtain ⟨p,U⟩:=Bk G n (·.setIfInBounds (k+G.size).toNat v)
 obtain ⟨j,rfl⟩: ∃j:M,k=Int.negSucc j:=by
  cases k with
  |ofNat n=>exact absurd c<|kJ.mpr<|Int.ofNat_nonneg n
  |negSucc n=>exact⟨n,O⟩
 show ar _ _ ((Builtin.List.listItems (.ref l)>>=λx=>pure ((kz (Int.negSucc j) x.size).bind λi=>x[i]?.map (i,·)))>>=_) _ _ s
 refine am<|am ?_
 show ar _ _ (seqItems? (.ref l)>>=_) _ _ s
 refine am<|tJ y O<|aA<|aA ?_
 rw[a]
 simp only[Option.bind_some,oa f,Option.map_some]
 show ar _ _ (setSeqItemAt l _ v>>=_) _ _ s
 have q:(s.heap.update l (eQ (·.setIfInBounds (Int.negSucc j+G.size).toNat v))).get? l=z (ci (G.setIfInBounds (Int.negSucc j+G.size).toNat v) p):=by
  rw[mQ _ y (by rw[U];rfl),U]
 refine am<|wpAny_setSeqItemAt y O ?_
 first
  |exact am (aA (aA ⟨.none,O,aA (m _ p q (jc ..))⟩))
  |exact aA ⟨.none,O,aA (m _ p q (jc ..))⟩
end
def zM{a:Type} [dI a](b:P→d a)(k:P)(v:V)(e:Y<|P×V):d<|Y<|P×V:=(b k).bind λj=>if oz b e=Q∧e.length≤1000000 then z<|zN b j k v e else D
def nz(x k v:V)(H:Y af):R Unit:=x.casesOn (λj=>(pv k).elim .err λa=>(H[j]?.bind zU).elim
 ((H[j]?.bind qm).elim .err λc=>(j5 a).elim .err λi=>(pv v).elim .err λp=>if-1000000≤i∧i<0∧ -(c.length:J)≤i then .ok ()<|H.set j<|.list<|c.set (i+c.length).toNat p else .err)
 λe=>((zM lu a v e).or<|zM ml a v e).elim .err λr=> .ok ()<|H.set j<|.dict r) λ_=> .err
theorem Mz(i:M)(h:be t F c b)(g:PR t F p u):be t F (c.set i p)<|b.set i u:=by
 induction c generalizing b i with
 |nil=>cases h;rfl
 |cons q c j=>
  obtain ⟨U,a,rfl,f,e⟩:=h
  cases i with
  |zero=>exact⟨u,a,O,g,e⟩
  |succ i=>exact⟨U,_,O,f,j i e⟩
section
variable{W:Wd}{fi:FI}{n:M}(Hs:j_ W)
include Hs
theorem I3(R:aN W g H s)(hx:VR W.tb g x u)(hk:VR W.tb g k U)(I:VR W.tb g v w):
  Cl W A l [] g s (setItem u U w) (nz x k v H) (λ_ _ _=>True):=by
 cases x with
 |p x=>exact Cl.err
 |lbl j=>
 obtain ⟨p,G,rfl⟩:=hx
 cases k with
 |lbl k=>exact Cl.err
 |p k=>
 refine Cl.alt (λes he=>Cl.opt λr e=> ?_)<|Cl.opt λps he=>Cl.opt λi ei=>Cl.opt λq eq=>Cl.gd λf=> ?_
 ·have C: ∀{b K:Type} [dI b] [dI K] {knd':KeyKind W.prog W.w K} {B:P→d b} {emb':b→K},gO W knd' B emb'→zM B k v es=z r→Cl W A l [] g s (PySem.setItem (.ref p.1) U w) (.ok ()<|H.set j<|.dict r) (λ_ _ _=>True):=λa h=>bw h λi hi h=>iZ h λf h=>bw he λc hc'' ec=>by
   obtain ⟨m,ds,a1,o,a3⟩:=R.cell j _ p (C5 ec▸hc'') G
   obtain ⟨kvs0',d1,d2⟩:=uL a a1 o a3 f.1
   refine λ_=>wpAny_setItem_pairs (a.rel g.F k i U hi hk) d1 (λh' hd hsm'=> ?_) (by rw[aV.length d2,gS];exact oF f.2)
   obtain ⟨r1,r2⟩:=R.upd (A:=s.toks+1) (w:= .dict r) G (.head _) hsm'<|aY h▸xE a hd (KV.put a hi I d2<|(KV.keys a d2).1.mp a3)
   exact⟨(),_,g,O,r1,trivial,r2⟩
  exact fA e (C<|qO Hs)<|C<|tf Hs
 ·refine bw he λc hc'' ec=> ?_
  obtain ⟨m,xs,a1,o⟩:=R.cell j _ p (uG ec▸hc'') G
  obtain ⟨t,rfl⟩:PR W.tb g.F (.int i) U:=jV ei▸hk
  have I:PR W.tb g.F q w:=by
   cases v with
   |lbl k=>cases eq
   |p y=>cases eq;exact I
  refine λ_=>Iy a1 f.2.1 (WH f.2.2 o.size) (WG f.1) λh' n' hg hsm'=> ?_
  obtain ⟨r1,r2⟩:=R.upd (A:=s.toks) (w:= .list<|ps.set (i+ps.length).toNat q) G (.head _) hsm' ⟨n',_,hg,by rw[Array.toList_setIfInBounds,o.size];exact Mz _ o I⟩
  exact⟨(),_,g,O,r1,trivial,r2⟩
omit Hs in
theorem Jt(o i:aP)(s:Pos)(b:bj)(u:T): ∃k:T→T→Y T,hO (.Subscript o i s) b u=(do
   let g←holding [u]<|eval o b
   let a←holding [u,g] (eval i b)
   dF s
   holding [u,g,a] (PySem.setItem g a u)
   release (k g a) []):=⟨λg a=>match i with| .Slice _ _ D _=> [a,u,g]|_=> [u,g,a],O⟩
def gz(a m b:aj→Y af→R V):aj→Y af→R Fl:=λl H=>(b l H).bind λv H=>(a l H).bind λx H=>(m l H).bind λk H=>(nz x k v H).bind λ_ H=> .ok (.next l) H
theorem S1.setItem(hv:SE W fi n c mv)(ho:SE W fi n o y)(hi:SE W fi n i r)(hc:iN c=N):
  S1 W fi n (.Assign [.Subscript o i sp] c pos0') (gz y r mv):=λA l b h a g H s P=>by
 rw[exec_Assign_Subscript _ _ _ _ _<|swaps_none hc]
 have e:gz y r mv a H=(mv a H).bind λv H=>((y a H).bind λx H=>(r a H).bind λk H=>nz x k v H).bind λ_ H=> .ok (.next a) H:=by
  exact aR _ (funext λv=>funext λH1=>by rw[R.bind_assoc];exact aR _ (funext λx=>funext λH2=>(R.bind_assoc _ _ _).symm))
 rw[e]
 refine CS.stand<|CS.seqE (hv A l b h a g H s P) λv H' C u s' _ hR hu G=> ?_
 have B:=P.grow G hR
 have U:Cl W A l [] C s' (hO (.Subscript o i sp) b u) ((y a H').bind λx H=>(r a H).bind λk H=>nz x k v H) λ_ _ _=>True:=by
  obtain ⟨ks,e1⟩:=Jt o i sp b u
  rw[e1]
  refine Cl.bind (Cl.holding<|ho A l b h a C H' s' B) λx H2 g2 w s2 _ I hx G2=> ?_
  have P2:=B.grow G2 I
  refine Cl.bind (Cl.holding<|hi A l b h a g2 H2 s2 P2) λk H3 g3 uk s3 _ j hk m=>Cl.stand ?_
  refine Cl.of_imp (t:=PySem.setItem w uk u) (λf E q=>am<|b0<|bq q (λ_ s₂ hr Γ p hΓ=>by rw[rb];exact hr) λ_ _ e=>e)<|I3 Hs j (hx.mono m.ge) hk<|(hu.mono G2.ge).mono m.ge
 refine CS.seqE U λ_ H3 g3 _ s3 _ j _ m=> ?_
 have P3:=B.grow m j
 exact CS.done (a:=g) (s':=s) (b:=a) P3.rep P3.lo
end
end
section
noncomputable def iV{β:Type}(f:V→Y af→R β)(vs:Y V)(H:Y af):R β:=vs.casesOn .err λx r=>r.casesOn (f x H) λ_ _=> .err
def mq{β:Type}(f:V→V→Y af→R β)(vs:Y V)(H:Y af):R β:=vs.casesOn .err λx r=>iV (f x) r H
section
variable{W:Wd}{n:M}{f:T}{β:Type}{g:Gh}{H:Y af}(Φ:Y T→R β→Prop)
theorem uO(e:eC W.tb g vs b)(c: ∀b,Φ b .err)(h: ∀x u,VR W.tb g x u→Φ [u] (m x H)):Φ b<|iV m vs H:=by
 cases vs with
 |nil=>exact c _
 |cons x r=>
 cases r with
 |cons y r=>exact c _
 |nil=>
 obtain ⟨u,i,rfl,a,rfl⟩:=e
 exact h x u a
theorem FW.a1(h: ∀A l g H s x u,dK W n A l g s→aN W g H s→VR W.tb g x u→Cl W A l [] g s (co f [u] []) (m x H) (VR W.tb)):FW W n f<|iV m:=λA l g H s vs b S R c=>
 uO (λb r=>Cl W A l [] g s (co f b []) r<|VR W.tb) c (λ_=>Cl.err) λx u a=>h A l g H s x u S R a
theorem FW.a2(h: ∀A l g H s x y u v,dK W n A l g s→aN W g H s→VR W.tb g x u→VR W.tb g y v→Cl W A l [] g s (co f [u,v] []) (m x y H) (VR W.tb)):FW W n f<|mq m:=λA l g H s vs b S R i=>by
 cases vs with
 |nil=>exact Cl.err
 |cons x r=>
 obtain ⟨u,j,rfl,a,e⟩:=i
 exact uO (λb r=>Cl W A l [] g s (co f (u::b) []) r<|VR W.tb) e (λ_=>Cl.err) λy v c=>h A l g H s x y u v S R a c
end
def qj(W:Wd)(b:i9)(i:V→Y af→ak):Prop:= ∀g H s x u,aN W g H s→VR W.tb g x u→i x H=Q→s.TypeIs u b∧ ∀a,u= .ref a→ ∃o,s.heap.get? a=z o∧o.dict=D
def f_(x:V)(H:Y af):ak:=(df x H).isSome
def vx(x:V)(H:Y af):ak:=(nu x H).isSome
def kZ(v:V)(_:Y af):ak:=(g_ v).isSome
def yH(v:V)(_:Y af):ak:=(i5 v).isSome
def cU(i:V→Y af→ak)(m:Y V→Y af→R V)(o:aj→Y af→R V)(a:aj→Y af→R (Y V)):aj→Y af→R V:=λl H=>(o l H).bind λx H=>if i x H=Q then(a l H).bind λvs H=>m (x::vs) H else .err
section
variable{W:Wd}{fi:FI}{n:M}
theorem CD:qj W "list" f_:=λg H s x u R f h=>by
 obtain ⟨p,I⟩:=mR.mp h
 obtain ⟨a,m,j,rfl,c,i⟩:=eE I R f
 exact⟨⟨_,c,O⟩,λb e=>ph e▸⟨_,c,O⟩⟩
theorem Lu:qj W "dict" vx:=λg H s x u R f h=>by
 obtain ⟨p,I⟩:=mR.mp h
 obtain ⟨a,m,i,rfl,c,_⟩:=rA I R f
 exact⟨⟨_,c,O⟩,λb e=>ph e▸⟨_,c,O⟩⟩
theorem x9:qj W "str" kZ:=λg H s x u R b h=>by
 obtain ⟨i,e⟩:=mR.mp h
 exact iY (G:=λu=>s.TypeIs u "str"∧ ∀a,u= .ref a→ ∃o,s.heap.get? a=z o∧o.dict=D) b e λt=>⟨typeIs_str _ _ _,λ_ e=>nomatch e⟩
theorem CE:qj W "bytes" yH:=λg H s x u R b h=>by
 obtain ⟨i,e⟩:=mR.mp h
 exact g8 (G:=λu=>s.TypeIs u "bytes"∧ ∀a,u= .ref a→ ∃o,s.heap.get? a=z o∧o.dict=D) b e λ_ t=>⟨mO _ _ _,λ_ e=>nomatch e⟩
theorem SE.bmeth{Ty:i9}{id:i9}{i:V→Y af→ak}{o:aP}{name:an}{c p:Pos}{k:Y aP}{U:aj→Y af→R V}{y:aj→Y af→R (Y V)}{m:Y V→Y af→R V}(hT:qj W Ty i)(pa:PlainAttrs Ty)(j:Slot Ty name id)(t:typeOf (.builtin id)=pure (.type "method_descriptor"))(hm:FW W n (.builtin id) m)
  (ho:SE W fi n o U)(C:dW W fi n k y)(hb:pX o)(hl:k.length<30)(hp:(c.endLine==p.line)=Q):
  SE W fi n (.Call (.Attribute o name c) k [] p) (cU i m U y):=λA l b f loc g H s P=>by
 obtain ⟨pl,e⟩:=xD (b:=b) (name:=name) hb C.ns hl hp
 rw[e]
 refine Cl.bind (ho A l b f loc g H s P) λv x B u s' _ r I G=>Cl.stand<|Cl.gd λhh=> ?_
 obtain ⟨k1,k2⟩:=hT B x s' v u r I hh
 exact Cl.skip (u:=(Value.builtin id,[u])) (λa E q=>b0<|getMethod_builtin k1 pa j t k2 q)<|CW mW (C.cl A l b f loc B x s'<|P.grow G r) λvs H2 g2 us s2 h hv w=>
  hm A l g2 H2 s2 (v::vs) (u::us) ((P.grow G r).grow w h).sit h ⟨_,us,O,I.mono w.ge,hv⟩
def ofList(x:V)(H:Y af)(f:M→Y P→R V):R V:=x.casesOn (λk=>(H[k]?.bind qm).elim .err<|f k) λ_=> .err
theorem Cl.ofList(R:aN W g H s)(w:VR W.tb g x u)(h: ∀k q a m b,g.as[k]? =z q→H[k]? =z (.list a)→u= .ref q.1→s.heap.get? q.1=z (ci b m)→be W.tb g.F a b.toList→Cl W A l [] g s t (f k a) (VR W.tb)):Cl W A l [] g s t (Mine.ofList x H f)<|VR W.tb:=by
 cases x with
 |p x=>exact Cl.err
 |lbl k=>
 obtain ⟨q,o,rfl⟩:=w
 refine Cl.opt λa e=>bw e λc j i=> ?_
 obtain ⟨m,b,r,v⟩:=R.cell k _ q (uG i▸j) o
 exact h k q a m b o (uG i▸j) O r v
def fh:Y V→Y af→R V:=mq λx y H=>ofList x H λk c=>(pv y).elim .err λp=>if c.length≤1000000 then .ok (.p .none)<|H.set k<|.list<|c++ [p]else .err
theorem J7:FW W n (.builtin "list.append") fh:=FW.a2 λA l g H s x y u v S R j o=>Cl.ofList R j λk q r m U c G i e f=>i▸Cl.opt λp a=>Cl.gd λb _=>by
 refine append_at e (λw hsm' h=> ?_) (by rw[f.size,gS];exact oF b)
 obtain ⟨B,C⟩:=R.upd (A:=s.toks) (w:= .list<|r++ [p]) c (.head _) hsm' ⟨_,_,h,by rw[xh];exact pL f ⟨v,[],O,qb a o,O⟩⟩
 exact⟨_,_,g,O,B,(O:dN=dN),C⟩
def uK:Y V→Y af→R V:=mq λx y H=>ofList x H λk c=>(df y H).elim .err λq=>if c.length+q.length≤1000000 then .ok (.p .none)<|H.set k<|.list<|c++q else .err
theorem JT:FW W n (.builtin "list.extend") uK:=FW.a2 λA l g H s x y u v S R w B=>Cl.ofList R w λk q I m c r hH t h f=>t▸Cl.opt λqs e=>Cl.gd λj _=>by
 obtain ⟨b,C,a,rfl,p,i⟩:=eE e R B
 have o:Builtin.List.listTooLong (c.size+a.size)=N:=by
  show decide (c.size+a.size>d7)=N
  rw[wF,gS];exact WF j f.size i.size
 obtain ⟨G,U⟩:=Bk c m (· ++a)
 refine nY PySem.F.slot_list_extend ⟨_,h,O⟩ PySem.F.entry_list_extend (PySem.F.args_list_extend_2 _ _) (AutoSeq1.list_extend_list_list_0 q.1 c m b a C (by rw[o,n_];decide) (by rw[f.size,gS];exact WE j)<|by rw[f.size,i.size,gS];exact WC j) ⟨h,p,?_⟩
 obtain ⟨r1,r2⟩:=R.upd (A:=s.toks) (h:=s.heap.update q.1<|eQ λx=>x++a) (w:= .list<|I++qs) r (.head _) (jc ..) ⟨G,_,by rw[mQ _ h (by rw[U];rfl),U],by rw[Array.toList_append];exact pL f i⟩
 exact⟨_,_,g,O,r1,(O:dN=dN),r2⟩
def lh:Y V→Y af→R V:=mq λx y H=>(g_ x).elim .err λi=>if i= []then(df y H).elim .err λc=>(lZ c).elim .err λs=>if s.flatten.length≤1000000 then .ok (.p<|.str s.flatten) H else .err else .err
theorem IJ: ∀s:Y (Y M),Builtin.Str.glued ⟨#[]⟩ (s.map cJ)=cJ s.flatten:=by
 intro s
 unfold Builtin.Str.glued
 cases s with
 |nil=>rfl
 |cons a r=>
  simp only[ee,List.drop_succ_cons,iC,List.headD_cons,Array.append_empty]
  have g: ∀(r:Y<|Y M) (c:aQ M),(r.map cJ).foldl (λc p=>c++p.cps) c=⟨c.toList++r.flatten⟩:=by
   intro r
   induction r with
   |nil=>intro c;simp
   |cons b r i=>
    intro c
    simp only[ee,n5,i]
    simp[cJ]
  rw[g]
  simp[cJ]
theorem Iu(l:List<|an×Tok): ∀k,(l.map (·.1)).foldl (λn p=>n+p.length+0) k=k+((l.map (·.1)).map (·.length)).sum:=by
 induction l with
 |nil=>intro k;simp
 |cons p r i=>intro k;simp only[List.map_cons,List.foldl_cons,i,List.sum_cons];exact WB
noncomputable def Cd(l:Y<|an×Tok):Made:=if l.length=1 then .val<|.str (l.headD (⟨#[]⟩,0)).1 (l.headD (⟨#[]⟩,0)).2 else .str (Builtin.Str.glued ⟨#[]⟩ (l.map (·.1)))
theorem Jd(l:Y<|an×Tok)(h:Builtin.Str.tooLong ((l.map (·.1)).toArray.foldl (λx b=>x+b.length+(⟨#[]⟩:an).length) 0)=N):Gives (joinTail ⟨#[]⟩<|strValues l)<|Cd l:=by
 cases l with
 |nil=>exact gives_joinRest _ [] h
 |cons p r=>
 cases r with
 |nil=>exact .rule<|.of_eq O
 |cons q r=>exact gives_joinRest _ (p::q::r) h
theorem IZ(h:aV (λi u=> ∃t,u=Value.str ⟨i.toArray⟩ t) s b): ∃p:Y (an×Tok),b=strValues p∧p.map (·.1)=s.map cJ:=by
 induction s generalizing b with
 |nil=>cases h;exact⟨[],O,O⟩
 |cons c r e=>
  obtain ⟨u,f,rfl,⟨t,rfl⟩,a⟩:=h
  obtain ⟨p,rfl,j⟩:=e a
  exact⟨(cJ c,t)::p,O,aR (_:: ·) j⟩
theorem JO{b:Y<|Y M}{a:Y<|an×Tok}{K:T→au→Prop}{s:au}(i:b.flatten.length≤1000000)(e:a.map (·.1)=b.map cJ)(k: ∀t j,K (.str (cJ b.flatten) t) {s with toks:=j}):(Cd a).post K s:=by
 have l:=IJ b
 rw[←e]at l
 have c: ∀{g:an},g=cJ b.flatten→Made.post (.str g) K s:=λh=>h▸⟨F8 i (iG b.flatten) dB,k _ _⟩
 cases a with
 |nil=>exact c l
 |cons p r=>
 cases r with
 |cons q r=>exact c l
 |nil=>
  have h:p.1=cJ b.flatten:=l
  show K (.str p.1 p.2) s
  rw[h];exact k p.2 s.toks
theorem LV:FW W n (.builtin "str.join") lh:=FW.a2 λA l g H s x y u v S R hx hy=>Cl.opt λi ei=>Cl.gd λhi=>Cl.opt λps ey=>Cl.opt λU f=>Cl.gd λI=>by
 subst hi
 refine iY (G:=λu=>Cl W A l [] g s (co _ [u,v] []) _ _) hx ei λt=> ?_
 obtain ⟨a,m,xs,rfl,C,h⟩:=eE ey R hy
 obtain ⟨p,e1,B⟩:=IZ<|xZ f h
 obtain ⟨e,et⟩:=join_tree (⟨#[]⟩:an) t a
 refine Cl.val R λb E k=>nY (S:=λ_ R s'=>s'=s∧ ∀t j,R (.ok<|.ret<|.str (cJ U.flatten) t) {s with toks:=j}) PySem.F.slot_str_join (typeIs_str _ _ _) PySem.F.entry_str_join (PySem.F.args_str_join_2 _ _) ?_ ⟨O,λt j=>k _ j ⟨t,O⟩⟩
 rintro c w A R' s' ⟨rfl,hk⟩
 have o:Builtin.Str.tooLong ((p.map (·.1)).toArray.foldl (λq r=>q+r.length+(⟨#[]⟩:an).length) 0)=N:=by
  have h1:(p.map (·.1)).toArray.foldl (λq r=>q+r.length+(⟨#[]⟩:an).length) 0=0+((p.map (·.1)).map (·.length)).sum:=by
   rw[←Array.foldl_toList]
   exact Iu p 0
  have h2:((p.map (·.1)).map (·.length)).sum=U.flatten.length:=by
   rw[B,eu,List.length_flatten]
   congr 1
  rw[h1,h2]
  show decide (_>d7)=N
  rw[wF];exact WA I dB
 have G:=Jd p o c w A R' s'<|JO I B hk
 rw[←e1]at G
 rw[et]
 refine am<|pd ⟨_,C,O⟩ ?_
 refine gq (by decide) ?_
 exact am<|tJ C O G
end
end
section
inductive cG where
 |list (x:V)
 |tup (ps:Y P)
 |rng (a c:J) (n:M)
 |str (s:Y M)
 |bytes (s:Y M)
 |enum (x:V)
noncomputable def cG.split(C:cG):ak:=C.casesOn (λ_=>N) (λ_=>N) (λ_ _ _=>N) (λ_=>N) (λ_=>N) λ_=>Q
def fv(H:Y af)(i:M)(C:cG):d<|d P:=C.casesOn (λx=>(df x H).bind λb=>z b[i]?) (λb=>z b[i]?) (λa c n=>z<|if i<n then z<|.int<|a+i*c else D) (λs=>z<|s[i]?.map λc=> .str [c]) (λs=>z (s[i]?.map λc:M=>P.int (c:J)))
 λx=>(df x H).bind λb=>z<|b[i]?.map λp=> .tup [.int i,p]
inductive gp(tb:Tb)(g:Gh)(h:bB):Y ay→T→M→cG→Prop
 |list {I a i x}:VR tb g x (.ref a)→h.IsListIter I a i→gp tb g h [I] (.ref I) i (.list x)
 |tup {I a i ps}:PR tb g.F (.tup ps) (.ref a)→IsTupIter h I a i→gp tb g h [I] (.ref I) i (.tup ps)
 |rng {I a c} {i:M} {n:M}:IsRangeIter h I (a+((i:M):Int)*c) ((n:Int)-(i:Int)) c→gp tb g h [I] (.ref I) i (.rng a c n)
 |str {I i t s}:h.IsStrIter I "str_ascii_iterator" ⟨s.toArray⟩ t i→gp tb g h [I] (.ref I) i (.str s)
 |bytes {I i t s}:(∀n∈s,n<256)→KBw.IsBytesIter h I ⟨s.map dw⟩ t i→gp tb g h [I] (.ref I) i (.bytes s)
 |enum {I J a old x} {i:M}:I≠J→VR tb g x (.ref a)→IsEnum h I J i old→h.IsListIter J a i→gp tb g h [I,J] (.ref I) i (.enum x)
theorem si{h a:bB}{I:ay}{φ:Obj→Prop}(k: ∀o,h.get? I=z o→a.get? I=z o)(x: ∃o,h.get? I=z o∧φ o): ∃o,a.get? I=z o∧φ o:=x.elim λo y=>⟨o,k o y.1,y.2⟩
theorem gp.keep{t:Tb}{g j:Gh}{h l:bB}{f:Y ay}{m:T}{i:M}{C:cG}(x:gp t g h f m i C)(G:Ge g j)(k: ∀a∈f,∀o,h.get? a=z o→l.get? a=z o):gp t j l f m i C:=by
 cases x with
 |list a b=>exact .list (a.mono G)<|si (k _<|.head _) b
 |tup a b=>exact .tup (PR.mono G.F a)<|si (k _<|.head _) b
 |rng a=>exact .rng<|k _ (.head _) _ a
 |str a=>exact .str<|si (k _<|.head _) a
 |bytes a b=>exact .bytes a<|si (k _<|.head _) b
 |enum a b c e=>exact .enum a (b.mono G) (k _ (.head _) _ c)<|si (k _<|.tail _<|.head _) e
noncomputable abbrev yy:Y i9:= ["enumerate","zip","dict_itemiterator","dict_reverseitemiterator","odict_iterator","itertools.zip_longest","itertools.pairwise"]
theorem gp.plain(x:gp t g h e m i C)(f:C.split=N): ∃I o n,m= .ref I∧h.get? I=z o∧o.cls= .type n∧yy.contains n=N:=by
 cases x with
 |list a b=>exact b.elim λo y=>⟨_,o,_,O,y.1,y.2.1,by decide⟩
 |tup a b=>exact b.elim λo y=>⟨_,o,_,O,y.1,y.2.1,by decide⟩
 |rng a=>exact⟨_,_,"range_iterator",O,a,O,by decide⟩
 |str a=>exact a.elim λo y=>⟨_,o,_,O,y.1,y.2.1,by decide⟩
 |bytes a b=>exact b.elim λo y=>⟨_,o,_,O,y.1,y.2.1,by decide⟩
 |enum a b c k=>cases f
theorem H_(y:s.heap.get? I=z o)(f:o.cls= .type n)(h:yy.contains n=N)(q:b () s):
  ar c A (q_ t (.ref I) v) b E s:=by
 have go: ∀e k p,ar c A (q_ (.Tuple e k p) (.ref I) v) b E s:=λe k p=>by
  cases v with
  |ref a=>
   refine am<|wpAny_load y ?_
   rw[f]
   cases o.data with
   |fields vs=>
    show ar c A (if(yy.contains n&&vs[0]? ==z (rawInt a))=Q then _ else _) b E s
    rw[h,Bool.false_and,az<|by decide]
    exact aA q
   |_=>exact aA q
  |_=>exact aA q
 cases t with
 |Tuple e k p=>exact go e k p
 |List e p=>exact go [] 0 p
 |_=>exact aA q
theorem lU(R:aN W g H s)(h:s.heap.objs.size≤a):il W g a:=uq R h
noncomputable def oX(g:Gh)(a:ay)(o:Obj):Gh:=⟨λb=>if b=a then z o else g.F b,g.as⟩
theorem pV(g:Gh)(a:ay)(o:Obj):(oX g a o).F a=z o:=aw O
theorem fzg_ne(h:b≠a):(oX g a o).F b=g.F b:=az h
theorem aN.freeze(R:aN W g H s)(n:il W g a)(y:s.heap.get? a=z o):aN W (oX g a o) H s∧Ge g (oX g a o):=by
 have i:Ge g<|oX g a o:=⟨λb f e=>(fzg_ne λq=>by rw[q,n.2.1]at e;cases e).trans e,[],(ft _).symm⟩
 refine⟨⟨λb f e=>i.F _ _<|R.f0 b f e,λb f e=> ?_,R.len,λk c p j l=>(R.cell k c p j l).mono i λ_ _ _ e=>e,R.nd,λb h=>(fzg_ne λq:b=a=>n.1<|q▸h).trans<|R.nf b h,R.al,R.nb,R.st,R.gens,R.os⟩,i⟩
 by_cases h:b=a
 ·subst h;exact y.trans<|(pV g b o).symm.trans e
 ·exact R.fz b f<|(fzg_ne h).symm.trans e
theorem aL.freeze(G:aL X g s c s')(i:Ge c<|oX c b o)(f:s.heap.objs.size≤b):aL X g s (oX c b o) s':=⟨G.ge.trans i,G.only,λa j e=>by
 by_cases h:a=b
 ·exact .inr<|h▸f
 ·exact G.frF a j<|(fzg_ne h).symm.trans e,G.frL,G.sz⟩
theorem lH.next(x:lH W g h b)(G:aL X g s f s')(i: ∀a∈b,a<s.heap.objs.size)(j:bB):lH W f j b:=λa c=>by
 obtain ⟨k,l,m⟩:=x a c
 refine⟨λq=>(G.frL a q).elim k λq=>absurd (i a c)<|dz.mpr q,?_,m⟩
 cases e:f.F a with
 |none=>rfl
 |some o=>exact(G.frF a o e).elim (λq=>q.symm.trans l) λq=>absurd (i a c)<|dz.mpr q
section
variable{W:Wd}{A:a9}{g:Gh}{H:Y af}{s:au}{hid:Y ay}{it:T}{i:M}{src:cG}{r:d P}{ae':d T→au→Prop}{E:T→au→Prop}
structure vJ(W:Wd)(A:a9)(g:Gh)(H:Y af)(s:au)(hid:Y ay)(it:T)(i:M)(src:cG)(r:d P)(ae':d T→au→Prop):Prop where
 item: ∀p,r=z p→ ∀s' g' u,aN W g' H s'→aL hid g s g' s'→VR W.tb g' (.p p) u→
  (∀(t:aP) (Q':Unit→au→Prop) (E':T→au→Prop),(src.split=Q→ ∃es k pos,t= .Tuple es k pos)→(∀s'',aN W g' H s''→aL hid g' s' g' s''→gp W.tb g' s''.heap hid it (i+1) src→Q' () s'')→ar (av W.prog W.w) A (q_ t it u) Q' E' s')→ae' (z u) s'
 stop:r=D→ ∀s',aN W g H s'→aL hid g s g s'→ae' D s'
theorem pM(a:vJ W A g H s hid it i src r ae')(R:aN W g H s)(n:lH W g s.heap hid)(k:I∈hid)(l:r=D)
  (x: ∀{Q':d T→au→Prop},(∀h,Heap.ExtBut I s.heap h→Q' D {s with heap:=h})→ar (av W.prog W.w) A (pyNext it) Q' E s):ar (av W.prog W.w) A (pyNext it) ae' E s:=by
 refine pI<|bq (E:=E) (x (Q':=λv s'=>s.heap.objs.size≤s'.heap.objs.size→ae' v s') λh f p=> ?_) (λ_ _ q=>q) λ_ _ q _=>q
 obtain ⟨B,C⟩:=R.hide (t:=s.toks) n (λb o c e=>f b o (λq=>c<|q▸k) e) p
 exact a.stop l _ B C
theorem next_item(a:vJ W A g H s [I] (.ref I) i src r ae')(R:aN W g H s)(w:lH W g s.heap [I])(j:M)(G:src.split=N)(C:r=z p)(U:VR W.tb g (.p p) u)
  (hw: ∀{Q':d T→au→Prop},(∀c,gp W.tb g c [I] (.ref I) (i+1) src→hU I s.heap c→Q' (z u) {s with heap:=c,toks:=j})→ar (av W.prog W.w) A (pyNext<|.ref I) Q' E s):ar (av W.prog W.w) A (pyNext<|.ref I) ae' E s:=hw λc h k=>by
 obtain ⟨B,r2⟩:=R.hide (t:=j) w (λb o f e=>k.extBut b o (λq=>f<|q▸ .head _) e)<|aM k.1.symm
 obtain ⟨I',o,n,e,y,v,x⟩:=h.plain G
 obtain rfl:=ph e
 exact a.item p C _ g u B r2 U λt Q' E' ht q=>H_ y v x<|q _ B (.refl _ _ _) h
theorem JJ(f:vJ W A g H s [I,c] (.ref I) i (.enum x) r ae')(R:aN W g H s)(hh:lH W g s.heap [I,c])(l:I≠c)(e4:VR W.tb g x<|.ref a)(G:IsEnum s.heap I c i old')(e6:s.heap.IsListIter c a i)(hr:r=z (.tup [.int i,p]))(q2:s.heap.get? a=z (ci xs m))(hx:xs[i]? =z u)(hu:PR W.tb g.F p u):ar (av W.prog W.w) A (pyNext<|.ref I) ae' E s:=by
 refine wpAny_pyNext_enum_item G e6 (gV q2) hx l λv k1 k2 k3 k4 k5=> ?_
 obtain ⟨r1,r2⟩:=R.hide (t:=s.toks+1) hh (λb o h e=>k5 b o (λq=>h<|q▸ .head _) (λq=>h<|q▸ .tail _ (.head _)) e)<|bF (eR _)<|aM k4.symm
 obtain ⟨C,n⟩:=r1.freeze (lU R<|bo _) k3
 have B: ∀b∈ [I,c],b<s.heap.objs.size:=λb h=>(dP.mp h).elim (λq=>q▸cI G) λh=>bz.mp h▸e6.elim λo y=>cI y.1
 have U:=r2.freeze n<|bo _
 refine f.item _ hr _ _ _ C U ⟨_,0,#[.int i s.toks,u],O,pV _ _ _, .int i s.toks,[u],O,⟨s.toks,O⟩,u,[],O,PR.mono n.F hu,O⟩ λt Q' E' ht q=> ?_
 obtain ⟨es,k,pos0',rfl⟩:=ht O
 refine wpAny_letOwnedTupleGo_enum k1 λw a1 j=> ?_
 obtain ⟨z1,z2⟩:=C.hide (s:={s with heap:=v,toks:=s.toks+1}) (l:=w) (t:=s.toks+1) (hh.next U B v) (λb o h e=>j.extBut b o (λq=>h<|q▸ .head _) e)<|aM j.1.symm
 exact q _ z1 z2<|.enum l (e4.mono n) (Int.natCast_succ i▸a1)<|k2.elim λo y=>⟨o,(j.2 c l.symm).trans y.1,y.2⟩
theorem xQ{c:Y P}{x:aQ T}{t:Tb}{F:Fz}(h:be t F c x.toList){i:M}(e:c[i]? =D):x[i]? =D:=xk.mpr<|bF (aM h.size)<|n3.mp e
theorem xP{c:Y P}{x:aQ T}{t:Tb}{F:Fz}(h:be t F c x.toList){i:M}{p:P}(e:c[i]? =z p): ∃u,x[i]? =z u∧PR t F p u:=by
 obtain ⟨u,f,a⟩:=rK h e
 exact⟨u,mV.symm.trans f,a⟩
theorem LF(R:aN W g H s)(C:A.handled=none)(f:lH W g s.heap hid)(hI:gp W.tb g s.heap hid it i src)(v:fv H i src=some r)(e:vJ W A g H s hid it i src r ae'):ar (av W.prog W.w) A (pyNext it) ae' E s:=by
 cases hI with
 |list j l=>
  refine bw v λps x v=> ?_
  obtain rfl:=aY v
  obtain ⟨a',m,xs,q1,y,B⟩:=eE x R j
  obtain rfl:=ph q1
  cases b:ps[i]? with
  |none=>exact pM e R f (.head _) b λk=>wpAny_pyNext_list_end C l (gV y) (xQ B b) k
  |some p=>
   obtain ⟨u,hu,o⟩:=xP B b
   exact next_item e R f s.toks O b o λk=>wpAny_pyNext_list_item l (gV y) hu λw h=>k w<|.list j h
 |tup j l=>
  rename_i ps
  obtain rfl:=aY v
  obtain ⟨a',m,xs,q1,y,B⟩:=id j
  obtain rfl:=ph q1
  have q2'':=rE<|R.fz _ _ y
  cases b:ps[i]? with
  |none=>exact pM e R f (.head _) b λk=>next_tuple_end C l q2'' (xQ B b) k
  |some p=>
   obtain ⟨u,hu,o⟩:=xP B b
   exact next_item e R f s.toks O b o λk=>next_tuple_item l q2'' hu λw h=>k w<|.tup j h
 |rng j=>
  rename_i I a c n
  obtain rfl:=aY v
  by_cases hi:i<n
  ·refine next_item e R f (s.toks+1) O (aw hi) ⟨s.toks,O⟩ λk=>wpAny_pyNext_range_item j (Wz hi) λw h=>k w (.rng ?_)
   have e1:a+((i+1:M):J)*c=a+(i:J)*c+c:=by rw[Int.natCast_succ,Int.add_mul,Int.one_mul,Int.add_assoc]
   have e2:(n:J)-((i+1:M):J)=(n:J)-(i:J)-1:=by rw[Int.natCast_succ];exact Wy
   rw[e1,e2];exact h
  ·exact pM e R f (.head _) (az hi) λk=>wpAny_pyNext_range_end C j (Wx hi) k
 |str j=>
  rename_i I t G
  obtain rfl:=aY v
  cases q:G[i]? with
  |none=>exact pM e R f (.head _) (aR (rh _) q) λk=>wpAny_pyNext_ascii_end C j ((List.getElem?_toArray).trans q) k
  |some c=>exact next_item e R f (s.toks+1) O (aR (rh _) q) ⟨s.toks,O⟩ λk=>wpAny_pyNext_ascii_item j (c:=c) ((List.getElem?_toArray).trans q) λw h=>k w<|.str h
 |bytes j l=>
  rename_i I t G
  obtain rfl:=aY v
  have hm:(⟨G.map dw⟩:aQ da)[i]? =G[i]?.map dw:=List.getElem?_toArray.trans eK
  cases q:G[i]? with
  |none=>exact pM e R f (.head _) (aR (rh _) q) λk=>KBw.next_end C l (by rw[hm,q];rfl) k
  |some c=>
   have U:(dw c).toNat=c:=qV.trans<|ri<|j c<|dG q
   exact next_item e R f (s.toks+1) O (aR (rh _) q) ⟨s.toks,aR (λn:M=>po (n:J) s.toks) U⟩ λk=>KBw.next_item l (c:=dw c) (by rw[hm,q];rfl) λw h=>k w<|.bytes j h
 |enum j l e5 e6=>
  refine bw v λps x v=> ?_
  obtain rfl:=aY v
  obtain ⟨a',m,xs,q1,y,B⟩:=eE x R l
  obtain rfl:=ph q1
  cases b:ps[i]? with
  |none=>exact pM e R f (.tail _<|.head _) (aR (rh _) b) λk=>wpAny_pyNext_enum_end C e5 e6 (gV y) (xQ B b) k
  |some p=>
   obtain ⟨u,hu,o⟩:=xP B b
   exact JJ e R f j l e5 e6 (aR (rh _) b) y hu o
structure ka(W:Wd)(g:Gh)(s:au)(hid:Y ay)(it:T)(i:M)(src:cG):Prop where
 hd:lH W g s.heap hid
 at_:gp W.tb g s.heap hid it i src
 lt: ∀a∈hid,a<s.heap.objs.size
theorem ka.grow(x:ka W g s hid it i src)(G:aL X g s b s')(U: ∀a∈hid,a∉X):ka W b s' hid it i src:=
 ⟨x.hd.next G x.lt _,x.at_.keep G.ge λa c o y=>G.only a o y (x.hd a c).1<|U a c,λa c=>je (x.lt a c) G.sz⟩
theorem xY(R:aN W g H s)(C:A.handled=D)(G:ka W g s hid it i src)(x:fv H i src=z r){t:aP}(B:src.split=Q→ ∃j k f,t= .Tuple j k f){K:T→au→Prop}{F:T→T→au→Prop}
  (o: ∀u s',ar (av W.prog W.w) A (q_ t it u) (λ_=>K u) (F u) s'→ae' (z u) s')
  (l: ∀p,r=z p→ ∀s' c u,aN W c H s'→aL hid g s c s'→VR W.tb c (.p p) u→ka W c s' hid it (i+1) src→K u s')
  (m:r=D→ ∀s',aN W g H s'→aL hid g s g s'→ae' D s'):ar (av W.prog W.w) A (pyNext it) ae' E s:=
 LF R C G.hd G.at_ x ⟨λp w s' c u I U y v=>o u s'<|v t _ _ B λh e b n=>l p w h c u e (U.trans b) y ⟨G.hd.next (U.trans b) G.lt _,n,λa q=>je (G.lt a q) (U.trans b).sz⟩,m⟩
end
end
section
def lf(v:V)(H:Y af):d cG:=(mI v).elim ((g_ v).elim ((i5 v).elim ((df v H).bind λ_=>z<|.list v) λf=>z<|.bytes f) λf=>if f.all (· <128)=Q then z<|.str f else D) λc=>z<|.tup c
def iT(W:Wd)(g:Gh)(s:au)(r:R cG)(m:T)(s':au):Prop:= ∃C H c b,r= .ok C H∧aN W c H s'∧aL [] g s c s'∧ka W c s' b m 0 C∧ ∀a∈b,s.heap.objs.size≤a
theorem iT.after{W:Wd}{g i:Gh}{s j l:au}{r:R cG}{m:T}(G:aL [] g s i j)(x:iT W i j r m l):iT W g s r m l:=by
 obtain ⟨C,H,n,f,a,b,c,k,e⟩:=x
 exact⟨C,H,n,f,a,b,G.trans c,k,λq h=>bF G.sz<|e q h⟩
section
variable{W:Wd}{A:a9}
theorem ry{g:Gh}{H:Y af}{s:au}{o:Obj}{C:cG}(R:aN W g H s)(i:gp W.tb g (s.heap.push o) [s.heap.objs.size] (.ref s.heap.objs.size) 0 C):
  iT W g s (.ok C H) (.ref s.heap.objs.size) {s with heap:=s.heap.push o}:=by
 have k: ∀b f,s.heap.get? b=z f→(s.heap.push o).get? b=z f:=λb f e=>cf _ e
 have h:s.heap.objs.size≤(s.heap.push o).objs.size:=by rw[fM];exact eR _
 exact⟨C,H,g,[s.heap.objs.size],O,R.ext k h O rfl,aL.ext k h,⟨λa c=>bz.mp c▸lU R (bo _),i,λa c=>bz.mp c▸by rw[fM];exact fF _⟩,λa c=>aM (bz.mp c).symm⟩
theorem JF(R:aN W g H s)(f:VR W.tb g v u)(k:lf v H=z C):
  ar (av W.prog W.w) A (pyIter u) (iT W g s<|.ok C H) E s:=by
 refine jA k (λb e h=> ?_) λ_ h=>jA h (λi e h=>iZ h λj h=> ?_) λ_ h=>jA h (λi e h=> ?_) λ_ h=>bw h λb e h=> ?_
 ·obtain rfl:=aY h
  obtain ⟨p,rfl,e⟩:=jI e
  have c:PR W.tb g.F (.tup b) u:=rB e▸f
  obtain ⟨a,m,x,rfl,q,B⟩:=id c
  exact iter_tuple (rE<|R.fz _ _ q)<|ry R<|.tup c ⟨_,d_ _ O,O,O⟩
 ·obtain rfl:=aY h
  exact iY (G:=λu=>ar (av W.prog W.w) A (pyIter u) _ E s) f e λt=>wpAny_pyIter_ascii (by rw[t_];exact j)<|ry R<|.str ⟨_,d_ _ O,O,O⟩
 ·obtain rfl:=aY h
  exact g8 (G:=λu=>ar (av W.prog W.w) A (pyIter u) _ E s) f e λU t=>KBw.pyIter_bytes<|ry R<|.bytes U ⟨_,d_ _ O,O,O⟩
 ·obtain rfl:=aY h
  obtain ⟨a,m,x,rfl,q,B⟩:=eE e R f
  exact wpAny_pyIter_list (gV q)<|ry R<|.list f ⟨_,d_ _ O,O,O⟩
theorem A4(h:gp W.tb g s.heap a m i C)(q:b m s):ar (av W.prog W.w) A (pyIter m) b E s:=by
 cases h with
 |list j l=>exact wpAny_pyIter_listiter l q
 |tup j l=>exact wpAny_pyIter_tupleiter l q
 |rng j=>exact wpAny_pyIter_rangeiter j q
 |str j=>exact wpAny_pyIter_striter_ascii j q
 |bytes _ j=>exact KBw.pyIter_self j q
 |enum j l G e=>exact wpAny_pyIter_enum G q
end
def eI(W:Wd)(A:a9)(l:Y bj)(g:Gh)(s:au)(t:aX T)(r:R cG):Prop:=r≠ .err→ar (av W.prog W.w) A t (λx c=>ar (av W.prog W.w) A (pyIter x) (iT W g s r) (bX W l [] g s r) c) (bX W l [] g s r) s
def IE(W:Wd)(h:FI)(n:M)(e:aP)(m:aj→Y af→R cG):Prop:= ∀A l b c a g H s,bD W h n A l b c a g H s→eI W A l g s (bn e b) (m a H)
def wE(W:Wd)(n:M)(f:T)(m:Y V→Y af→R cG):Prop:= ∀A l g H s vs b,dK W n A l g s→aN W g H s→eC W.tb g vs b→eI W A l g s (co f b []) (m vs H)
def bT(m:aj→Y af→R V):aj→Y af→R cG:=λl H=>(m l H).bind λv H=>(lf v H).elim .err λC=> .ok C H
section
variable{W:Wd}{fi:FI}{n:M}{A:a9}{l:Y bj}{g g₁:Gh}{s s₁:au}{t:aX T}
theorem eI.opt{γ:Type}{o:d γ}{f:γ→R cG}(h: ∀a,o=some a→eI W A l g s t (f a)):eI W A l g s t<|o.elim .err f:=by
 cases o with
 |none=>exact λh=>absurd rfl h
 |some a=>exact h a O
theorem eI.err:eI W A l g s t .err:=λh=>absurd rfl h
theorem eI.later(h:eI W A l g₁ s₁ t r)(G:aL [] g s g₁ s₁)(a:r≠ .err):ar (av W.prog W.w) A t (λx k=>ar (av W.prog W.w) A (pyIter x) (iT W g s r) (bX W l [] g s r) k) (bX W l [] g s r) s₁:=
 bq (h a) (λ_ _ h=>bq h (λ_ _=>iT.after G) λ_ _=>bX.after G) λ_ _=>bX.after G
theorem IE.of(h:SE W fi n e m):IE W fi n e<|bT m:=λA l b c i g H s P=>by
 have k: ∀{r:R V},Cl W A l [] g s (bn e b) r (VR W.tb)→eI W A l g s (bn e b) (r.bind λv H=>(lf v H).elim .err λC=> .ok C H):=λh a=>bq (h<|R.bindE a) (λu s' p=>by
  obtain ⟨v,x,y,e,o,w,j⟩:=p
  subst e
  exact qd (λr=>ar (av W.prog W.w) A (pyIter u) (iT W g s r) (bX W l [] g s r) s') (λC q _=>bq (JF (E:=λ_ _=>bR) o w q) (λ_ _=>iT.after j) λ_ _ f=>f.elim) a) λ_ _=>bX.bind
 exact k<|h A l b c i g H s P
def gW(m:Y V→Y af→R cG)(b:aj→Y af→R (Y V)):aj→Y af→R cG:=λa H=>(b a H).bind m
theorem IE.call(a:dD W){x:an}{f:T}{j:Y aP}{p i:Pos}{w:aj→Y af→R (Y V)}{m:Y V→Y af→R cG}(U:GN W x f)(hx:fi.scope.names.lookup x=z .globalImplicit)(hk:gE W f)(hm:wE W n f m)(y:dW W fi n j w)
  (I:(x==("__debug__":an))=N):IE W fi n (.Call (.Name x p) j [] i)<|gW m w:=λA l b k u g H s P=>by
 have q: ∀{r:R<|Y V},Cl W A l [] g s (spliced<|argsOf j b) r (eC W.tb)→eI W A l g s (ja i f [] (argsOf j b) []) (r.bind m):=λh c=>by
  refine mP (P:=λh=>W.base.StaysIn h) ((jk _).trans ui) hk<|uf<|bq (h<|R.bindE c) (λus s' p=> ?_) λe s'=>bX.bind
  obtain ⟨v,B,C,e,o,hv,G⟩:=p
  subst e
  exact⟨o.st,(hm A l C B s' v us (P.grow G o).sit o hv).later G c⟩
 show eI W A l g s (bn (.Name x p) b>>=λf=>ja i f [] (gT i<|gv j b) []) _
 rw[y.ns]
 exact λc=>am<|li a U P hx I<|q (y.cl A l b k u g H s P) c
noncomputable def qa(a b c:J)(H:Y af):R cG:=if c≠0∧AS a b c=Q∧0≤rf a b c∧(b-a).natAbs<2^29∧c.natAbs<2^29 then .ok (.rng a c (rf a b c).toNat) H else .err
def iM(vs:Y V)(H:Y af):R cG:=(dJ dE vs).elim .err λi=>i.casesOn .err λa r=>r.casesOn (qa 0 a 1 H) λb r=>r.casesOn (qa a b 1 H) λc r=>r.casesOn (qa a b c H) λ_ _=> .err
theorem Kj:wE W n (.type "range") iM:=λA l g H s vs us S R hv=>by
 have m: ∀{a b c:J} {w u v:Tok} {I:M} {t:aX T},(c≠0∧c.natAbs<2^29→ ∀f E,f (.ref s.heap.objs.size) {s with heap:=s.heap.push {cls:= .type "range",data:= .fields #[.int a w, .int b u, .int c v]},toks:=I}→ar (av W.prog W.w) A t f E s)→
   eI W A l g s t (qa a b c H):=λ{a b c w u v I t} h=>
  Gw (λr=>ar (av W.prog W.w) A t (λx s₁=>ar (av W.prog W.w) A (pyIter x) (iT W g s r) (bX W l [] g s r) s₁) (bX W l [] g s r) s) λB _=>h ⟨B.1,B.2.2.2.2⟩ _ _ (by
   have k: ∀b' C,s.heap.get? b'=z C→(s.heap.push {cls:= .type "range",data:= .fields #[.int a w, .int b u, .int c v]}).get? b'=z C:=λb C e=>cf _ e
   have hs:s.heap.objs.size≤(s.heap.push {cls:= .type "range",data:= .fields #[.int a w, .int b u, .int c v]}).objs.size:=by rw[fM];exact eR _
   have e1:a+((0:M):J)*c=a:=by rw[Int.natCast_zero,Int.zero_mul,Int.add_zero]
   have e2:((rf a b c).toNat:J)-((0:M):J)=rf a b c:=by rw[Int.natCast_zero,Int.sub_zero];exact Int.toNat_of_nonneg B.2.2.1
   refine wpAny_pyIter_range (s:={s with heap:=s.heap.push {cls:= .type "range",data:= .fields #[.int a w, .int b u, .int c v]},toks:=I}) (d_ _ O) B.2.1<|.after (aL.ext k hs)<|ry (R.ext k hs O rfl)<|.rng ?_
   rw[e1,e2]
   exact d_ _ O)
 refine eI.opt λis e=> ?_
 have hi:aV (λ(a:J) u=> ∃t,u=po a t) is us:=hv.all e λc a u e h=>jH (G:=λu=> ∃t,u=po a t) h e λt=>⟨t,O⟩
 cases is with
 |nil=>exact eI.err
 |cons a r=>
 obtain ⟨u1,us1',rfl,⟨t1,rfl⟩,U⟩:=hi
 cases r with
 |nil=>obtain rfl:=U;exact m λ_ _ _ q=>call_range_1 q
 |cons b r=>
 obtain ⟨u2,us2',rfl,⟨t2,rfl⟩,h2⟩:=U
 cases r with
 |nil=>obtain rfl:=h2;exact m λ_ _ _ q=>call_range_2 q
 |cons c r=>
 obtain ⟨u3,us3',rfl,⟨t3,rfl⟩,h3⟩:=h2
 cases r with
 |nil=>obtain rfl:=h3;exact m λhc _ _ q=>call_range_3 hc.1 q<|Or.inl<|PyProof.noPylong_small<|Ww hc.2
 |cons j r=>exact eI.err
def zy:Y V→Y af→R cG:=iV λv H=>(df v H).elim .err λ_=> .ok (.enum v) H
theorem Mg:wE W n (.type "enumerate") zy:=λA l g H s vs x S R y=>uO (λx r=>eI W A l g s (co (.type "enumerate") x []) r) y (λ_=>eI.err) λv u i=>
 eI.opt λG e _=>by
  obtain ⟨a,m,U,rfl,C,I⟩:=eE e R i
  refine call_enumerate_1 C λf o B p w=>wpAny_pyIter_enum (s:={s with heap:=f}) o ?_
  have k:s.heap.objs.size≤f.objs.size:=by rw[p];exact hZ _ _
  have c: ∀b∈ [s.heap.objs.size+1,s.heap.objs.size],s.heap.objs.size≤b∧b<f.objs.size:=λb c=>by
   rw[p]
   exact(dP.mp c).elim (λq=>q▸⟨eR _,fF _⟩) λq=>bz.mp q▸⟨bo _,je (fF _)<|eR _⟩
  exact⟨_,H,g,[s.heap.objs.size+1,s.heap.objs.size],O,R.ext w k O rfl,aL.ext w k,⟨λb h=>lU R (c b h).1, .enum (Nat.succ_ne_self _) i o B,λb h=>(c b h).2⟩,λb h=>(c b h).1⟩
end
end
section
def i6(W:Wd)(k:FI)(n:M)(m:Y M)(t:aP)(o:P→aj→d aj):Prop:=
 ∀A l f e h g H s p u c a,bD W k n A l f e h g H s→PR W.tb g.F p u→o p h=z c→(∀i∈m,∀j,e[i]? =z j→j.addr∈a)→
  ∀(b:Unit→au→Prop) (E:T→au→Prop),(∀s',bD W k n A l f e c g H s'→aL a g s g s'→b () s')→ar (av W.prog W.w) A (hO t f u) b E s
noncomputable def bv(i:M)(p:P)(l:aj):d aj:=z<|l.set i<|z<|.p p
def kg(a:Y M)(p:P)(l:aj):d aj:=(p_ p).bind λc=>if c.length=a.length∧c.length≤100 then z<|kX l a<|c.map .p else D
section
variable{W:Wd}{fi:FI}{n:M}
theorem i6.name(h:ta fi x i):i6 W fi n [i] (.Name x p)<|bv i:=λA l m j c g H s q u f a P o e w b E k=>by
 obtain rfl:=aY e
 exact i7.name ⟨x,p,O,h⟩ (w i<|.head _) c s (.p q) u P o b E k
theorem i6.tup(t:sw fi C i):i6 W fi n i (.Tuple C k G)<|kg i:=λA l o j x g H s q u h c P v e w b E k=>bw e λB m e=>iZ e λr e=>by
 obtain rfl:=aY e
 obtain ⟨a,y,I,rfl,p,f⟩:PR W.tb g.F (.tup B) u:=rB m▸v
 exact xG P t ⟨_,P.rep.fz _ _ p,O,y,O⟩ f.toV ((bc _).trans r.1) w k
theorem gh.below(x:gh W b l g s)(e:a∈dC b):a<s.heap.objs.size:=by
 obtain ⟨c,h,rfl⟩:=cY.mp e
 obtain ⟨o,k,f⟩:=(x.room c h).get
 exact cI k
theorem gh.growX(x:gh W c l g s)(G:aL X g s f s')(U: ∀a∈dC c,a∉X):gh W c l f s':=by
 have k: ∀b∈c,∀o,s.heap.get? b.addr=some o→s'.heap.get? b.addr=some o:=λb h o y=>G.only _ o y (x.ap b h).1 λq=>U _ (cY.mpr ⟨b,h,O⟩) q
 refine⟨λj v h=> ?_,λb h=>(x.room b h).keeps<|k b h,x.nd,λb h=> ?_,x.len⟩
 ·obtain ⟨b,u,i,m,p⟩:=x.val j v h
  exact⟨b,u,i,m.keeps<|k b<|dG i,p.mono G.ge⟩
 ·have:=x.below (cY.mpr ⟨b,h,O⟩)
  obtain ⟨r,t,B⟩:=x.ap b h
  refine⟨λq=>(G.frL _ q).elim r λq=>absurd this<|dz.mpr q,?_,B⟩
  ·cases e:f.F b.addr with
   |none=>rfl
   |some o=>exact(G.frF _ o e).elim (λq=>q.symm.trans t) λq=>absurd this<|dz.mpr q
theorem aL.transF(x:aL X g s f k)(y:aL b f k i l)(w: ∀a∈b,s.heap.objs.size≤a):aL X g s i l:=
 ⟨x.ge.trans y.ge,λa o e c j=>y.only a o (x.only a o e c j) (λh=>(x.frL a h).elim c λq=>absurd (cI e)<|dz.mpr q) λq=>absurd (cI e)<|dz.mpr<|w a q,
  λa o e=>(y.frF a o e).elim (x.frF a o) λq=> .inr<|bF x.sz q,λa h=>(y.frL a h).elim (x.frL a) λq=> .inr<|bF x.sz q,bF x.sz y.sz⟩
def lq(C:cG)(o:P→aj→d aj)(q:aj→Y af→R Fl)(k:M):M→aj→Y af→R Fl:=lO (λ_ _ _=> .err) (λ_ a i l H=>(fv H i C).elim .err λr=>r.elim (.ok (.next l) H) λp=>(o p l).elim .err λb=>(q b H).bind<|lE<|a<|i+1) k
def fH(t:ak)(m:aj→Y af→R cG)(o:P→aj→d aj)(q:aj→Y af→R Fl)(f:M):aj→Y af→R Fl:=λl H=>
 (m l H).bind λC H=>if(C.split&& !t)=N then lq C o q f 0 l H else .err
inductive HO(W:Wd)(fi:FI)(n:M)(A:a9)(l:Y bj)(env:bj)(acc:Y bV)(g:Gh)(s:au)(hid:Y ay)(it:T)(src:cG)(f:M→aj→Y af→R Fl)(r:R Fl)(s₁:au):Prop
 |mk (i:M) (loc₁:aj) (g₁:Gh) (H₁:Y af) (P:bD W fi n A l env acc loc₁ g₁ H₁ s₁) (G:aL (dC acc) g s g₁ s₁) (I:ka W g₁ s₁ hid it i src) (e:f i loc₁ H₁=r):HO W fi n A l env acc g s hid it src f r s₁
theorem L8(P:bD W fi n A l w o loc0' g H s)(ht:i6 W fi n is t tm)(hb:SS W fi n b mb)(htt':tt=true→ ∃es k pos0',t= .Tuple es k pos0')
  (ip:iT W g s (.ok C H₂) it s₂)(hr:(if(C.split&& !tt)=false then lq C tm mb fuel' 0 loc0' H₂ else .err)=r)(y:r≠ .err):
  i_ (av W.prog W.w) A (.forLoop t it b [] w) (λr' s'=>match r' with| .ok f=>l9 W o g s r f s'| .error e=>cameBackBy (av W.prog W.w) A w (bX W l (dC o) g s r) e s') s₂:=by
 obtain ⟨src'',H',g₂,hid',e,R₂,G₂,I₂,hfs'⟩:=ip
 cases e
 by_cases hsp':(C.split&& !tt)=false
 ·rw[aw hsp']at hr
  have m: ∀a∈hid',a∉dC o:=λa ha q=>absurd (P.lo.below q)<|dz.mpr<|hfs' a ha
  refine codeAny_forLoop_any (λk s₁=>HO W fi n A l w o g s hid' it C (lq C tm mb k) r s₁) (λk s₁ I=> ?_) fuel' ⟨0,loc0',g₂,H₂,P.grow G₂ R₂,G₂.wide,I₂,hr⟩
  obtain ⟨i,j,g₁,U,P₁,G₁,I₁,c⟩:=I
  cases k with
  |zero=>exact(y c.symm).elim
  |succ k=>
   have c:(fv U i C).elim .err (λx=>x.elim (.ok (.next j) U) λp=>(tm p j).elim .err λB=>(mb B U).bind<|lE<|lq C tm mb k<|i+1)=r:=c
   cases hn:fv U i C with
   |none=>rw[hn]at c;exact(y c.symm).elim
   |some x=>
    rw[hn]at c
    refine xY P₁.rep P₁.sit.hd I₁ hn (t:=t) (λq=>htt'<|by rw[q]at hsp';cases tt with|true=>rfl|false=>cases hsp') (λ_ _ h=>h) (λp hp s₄ g₃ u R₄ Gx hu I₄=> ?_) λhp s₃ R₃ G₃=> ?_
    ·have P₄:bD W fi n A l w o j g₃ U s₄:=P.next (G₁.transF Gx hfs') R₄ (P₁.lo.growX Gx λa ha q=>m a q ha)
     rw[hp]at c
     have c:(tm p j).elim .err (λB=>(mb B U).bind<|lE<|lq C tm mb k<|i+1)=r:=c
     cases htm':tm p j with
     |none=>rw[htm']at c;exact(y c.symm).elim
     |some G=>
      rw[htm']at c
      refine ht A l w o j g₃ U s₄ p u G (dC o) P₄ hu htm' (λ_ _=>rI) _ _ λs₅ P₅ G₅=> ?_
      have c:(mb G U).bind (lE<|lq C tm mb k<|i+1)=r:=c
      have G₁₅':=(G₁.transF Gx hfs').trans G₅
      refine bq (hb A l w o G g₃ U s₅ P₅<|R.bindE<|c▸y) (λf s₆ q=> ?_) λev s₆ q=>xK P<|c▸q.bind.after G₁₅'
      obtain ⟨v,H₆,g₆,e₆,R₆,hv,G₆⟩:=q
      rw[e₆]at c
      cases v with
      |next loc₆'=>
       obtain ⟨rfl,hL⟩:=hv
       exact⟨k,fF k,i+1,loc₆',g₆,H₆,P₅.next G₆ R₆ hL,G₁₅'.trans G₆,I₄.grow (G₅.trans G₆) m,c⟩
      |ret v=>
       obtain ⟨u',rfl,hu''⟩:=hv
       exact⟨_,H₆,g₆,c.symm,R₆,⟨u',O,hu''⟩,G₁₅'.trans G₆⟩
    ·rw[hp]at c
     exact tN ⟨_,U,g₁,c.symm,R₃,⟨O,P₁.lo.growX G₃ λa ha q=>m a q ha⟩,G₁.transF G₃ hfs'⟩
 ·rw[az hsp']at hr;exact(y hr.symm).elim
theorem S1.for(f:M)(u:ak)(I:IE W fi n e m)(ht:i6 W fi n is t y)(G:SS W fi n b w)
  (htt':u=Q→ ∃B k c,t= .Tuple B k c)(U: ∀a x,mN e a x=pure x):S1 W fi n (.For t e b [] c)<|fH u m y w f:=λA l a i o g H s P=>by
 have q: ∀{r:R cG},eI W A l g s (bn e a) r→CS W A l i g s (exec (.For t e b [] c) a) (r.bind λC H=>if(C.split&& !u)=N then lq C y w f 0 o H else .err):=λ{r} h j=>
  wpAny_For (bq (h<|R.bindE j) (λx s₁ h₁=>bq h₁ (λit s₂ v=>by
   obtain ⟨C,H',g',hid',e,ip''⟩:=id v
   subst e
   exact L8 P ht G htt' v O j) λ_ _ p=>p.bind.weaken) λ_ _ p=>p.bind.weaken) (U a)
 exact q<|I A l a i o g H s P
end
end
section
noncomputable def ut(s a:d9):d9:=
 {s with names:=s.names.map λp=>if(p.2== .free&&a.kind== .function&&a.names.lookup p.1==z .cell)=Q then(p.1, .cell)else p}
noncomputable def yk(a:d9)(x:an):aT:=if a.names.lookup x==z .cell then .cell else .free
def fQ(h:FI)(s:d9)(B:Y an)(c:Y<|an×M):FI:=
 ⟨ut s h.scope,B.map (λx=>z (x, .local))++c.map λp=>z (p.1,yk h.scope p.1)⟩
structure iO(fi:FI)(scope:d9)(own:Y an)(caps:Y (an×M)):Prop where
 kind:scope.kind= .function
 nocell: ∀x∈scope.names,x.2≠ .cell
 locd: ∀x∈scope.names,x.2= .local→scope.names.lookup x.1=z .local
 owned: ∀x∈own,scope.names.lookup x=z .local
 nd:own.Nodup
 free: ∀x∈scope.names,x.2= .free→x.1∈caps.map (·.1)
 capd: ∀p∈caps,scope.names.lookup p.1=z .free∧(fi.vars[p.2]? =z (z (p.1, .cell))∨fi.vars[p.2]? =z (z (p.1, .free)))
 cnd:(caps.map (·.2)).Nodup
noncomputable def im(B:Y an)(c:Y<|an×M)(l:aj):aj:=B.map (λ_=>D)++c.map λp=>(l[p.2]?).join
noncomputable def qt(C:ay)(B:Y an)(c:Y<|an×M)(a:Y bV):Y bV:=B.map (bV.dict C)++c.map λp=>(a[p.2]?).getD<|.cell 0
noncomputable def rS(c:Y<|an×ay)(f:Y<|an×ay)(p:an×aT):Y<|an×ay:=if(p.2== .free)=Q then(p.1,(c.lookup p.1).getD 0)::f else f
def io(c:Y<|an×ay)(n:Y<|an×aT)(f:Y<|an×ay):Y<|an×ay:=n.foldl (rS c) f
theorem A2{α β:Type} [BEq α] [LawfulBEq α]{l:Y<|α×β}{x:α}{y:β}(h:l.lookup x=z y):(x,y)∈l:=by
 obtain ⟨a,o,rfl,_⟩:=List.lookup_eq_some_iff.mp h
 exact wO _<|.head _
theorem IN(a: ∀e∈f,e.2=(c.lookup e.1).getD 0)(h:x∈f.map (·.1)∨(x,rc)∈n):(io c n f).lookup x=z ((c.lookup x).getD 0):=by
 induction n generalizing f with
 |nil=>
  have b:x∈f.map (·.1):=h.resolve_right lP
  clear h
  show f.lookup x=_
  induction f with
  |nil=>exact(lP b).elim
  |cons e r i=>
   rw[wQ]
   cases q:x==e.1 with
   |true=>rw[eq_of_beq q];exact aR z<|a e<|.head _
   |false=>exact i (λe h=>a e<|.tail _ h) ((dP.mp b).resolve_left λh=>by rw[h,fD]at q;cases q)
 |cons p r i=>
  show (io c r<|rS c f p).lookup x=_
  unfold rS
  by_cases e:(p.2==rc)=true
  ·rw[aw e]
   refine i (λe g=>(dP.mp g).elim (λq=>q▸O)<|a e)<|h.elim (λh=> .inl<|.tail _ h) λh=>(dP.mp h).elim (λh=> .inl<|h▸ .head _) .inr
  ·rw[az e]
   exact i a<|h.imp_right λh=>(dP.mp h).elim (λh=>absurd (by rw[←h];rfl) e) id
theorem xv(h: ∀p∈s.names,p.2= .free→ ∃c,b.cells.lookup p.1=z c):closureFor s b=pure (io b.cells s.names []):=by
 have k: ∀{n:Y<|an×aT} {f:Y<|an×ay},(∀p∈n,p.2= .free→ ∃c,b.cells.lookup p.1=z c)→
   (forIn n f (λ(x:an×aT) (f:Y (an×ay))=>if(x.2==rc)=Q then(do let a←cellOf b x.1;pure (ForInStep.yield<|(x.1,a)::f):aX<|ForInStep<|Y<|an×ay)else pure<|ForInStep.yield f):aX<|Y<|an×ay)=pure (io b.cells n f):=λ{n f} g=>by
  induction n generalizing f with
  |nil=>rfl
  |cons p r j=>
   rw[List.forIn_cons]
   show _=pure (io b.cells r<|rS b.cells f p)
   unfold rS
   by_cases e:(p.2==rc)=Q
   ·obtain ⟨c,i⟩:=g _ (.head _) (eq_of_beq e)
    rw[aw e,aw e,i,←j λp h=>g p<|.tail _ h]
    show ((cellOf b p.1>>=λa=>pure<|ForInStep.yield<|(p.1,a)::f)>>=_:aX _)=_
    unfold cellOf;rw[i];rfl
   ·rw[az e,az e,←j λp h=>g p<|.tail _ h];rfl
 unfold closureFor
 exact(bind_pure _).trans<|k h
end
section
section
variable{W:Wd}{fi:FI}{n:M}
noncomputable def R.noexc{α:Type}(r:R α):R α:=r.casesOn .ok (λ_=> .err) .err
def ju(C:cG)(o:P→aj→d aj)(t:aj→Y af→R ak)(f:aj→Y af→R V)(k:M):M→aj→Y af→Y P→R (Y P):=lO (λ_ _ _ _=> .err)
 (λ_ e i c H a=>(fv H i C).elim .err λr=>r.elim (.ok a H) λp=>(o p c).elim .err λl=>(t l H).noexc.bind λb H=>bif b then(f l H).noexc.bind λv H=>(pv v).elim .err λq=>if a.length≤1000000 then e (i+1) l H<|a++ [q]else .err else e (i+1) l H a) k
def j7(W:Wd)(fi:FI)(n:M)(i:Y aP)(t:aj→Y af→R ak):Prop:=
 ∀A l e f a g H s,bD W fi n A l e f a g H s→
  Cl W A l [] g s (forIn i Q λc r=>if r=Q then do let y←isTrue c e<|eval c e;pure (uc y)else pure<|uc r) (t a H) (λ_ b u=>u=b)
noncomputable def trueT:aj→Y af→R ak:=λ_ H=> .ok Q H
theorem j7.nil:j7 W fi n [] trueT:=λA l b a c g H s P=>Cl.pure' P.rep O
theorem j7.one(h:ST W fi n c t):j7 W fi n [c] t:=λA l b a f g H s P e=>wpAny_tests_one<|h A l b a f g H s P e
section
variable{prog:dX}{w:cH}{A:a9}{R:Result→au→Prop}{s:au}
theorem Ib(I:M→au→Prop)
  (k: ∀n s,I n s→ar (av prog w) A (pyNext o) (λr q=>match r with
   |none=>R (.ok .next) q
   |some v=>ar (av prog w) A (q_ t o v) (λ_ j=>ar (av prog w) A (hO t b v) (λ_ G=>
     ar (av prog w) A (forIn i true λc r=>if r=true then do let y←isTrue c b<|eval c b;pure (uc y)else pure<|uc r) (λy u=>
      if y=true then ar (av prog w) A (eval g b) (λx H=>
       ar (av prog w) A (co (.builtin "list.append") [f,x]) (λ_ U=> ∃m,m<n∧I m U) (λ_ _=>bR) H) (λ_ _=>bR) u
      else ∃m,m<n∧I m u) (λ_ _=>bR) G) (λ_ _=>bR) j) (λ_ _=>bR) q) (λ_ _=>bR) s)
  (n:M)(h:I n s):
  i_ (av prog w) A (.compLoop (.ListComp g [⟨t,iter,i,0⟩] e p) 0 o f b) R s:=by
 refine codeAny_loop O I (λn s hI=> ?_) n h
 show ar _ A ((compTurn (.ListComp g [⟨t,iter,i,0⟩] e p) 0 o f b).onRaise (λx=>do noteFrame x b;theTreesLotGoes x)) _ _ s
 refine wpAny_noted ?_
 rw[compTurn_list]
 refine am<|fc<|am<|bq (k n s hI) (λr q B=> ?_) λ_ _ a=>a.elim
 cases r with
 |none=>exact aA B
 |some v=>
  refine am<|bq B (λ_ j l=> ?_) λ_ _ a=>a.elim
  refine am<|bq l (λ_ G h₂=>am<|bq h₂ (λy u C=> ?_) λ_ _ a=>a.elim) λ_ _ a=>a.elim
  cases y with
  |false=>exact aA ⟨O,C⟩
  |true=>
   exact am<|am<|bq C (λx H h₄=>am<|bq h₄ (λ_ U h₅=>aA<|aA ⟨O,h₅⟩) λ_ _ a=>a.elim) λ_ _ a=>a.elim
end
end
end
section
section
variable{α β γ:Type}{xs:Y α}{ys:Y β}{f:α→γ}{h:β→γ}{i:M}
theorem zD(e:xs[i]? =z x):(xs.map f++ys.map h)[i]? =z (f x):=by
 rw[t5 (by rw[bc];exact(dH.mp e).1),eK,e];rfl
theorem FU(e:ys[i]? =z p):(xs.map f++ys.map h)[xs.length+i]? =z (h p):=by
 rw[wZ (by rw[bc];exact hZ _ _),eK,bc,pA,e];rfl
theorem BQ{a:γ}{G:Prop}(e:(xs.map f++ys.map h)[i]? =z a)(k: ∀x,xs[i]? =z x→f x=a→G)(l: ∀j p,i=xs.length+j→ys[j]? =z p→h p=a→G):G:=by
 by_cases q:i<xs.length
 ·have b:=de q
  exact k _ b<|aY<|(zD b).symm.trans e
 ·have q:=py q
  rw[wZ (by rw[bc];exact q),eK,bc]at e
  obtain ⟨p,c,g⟩:=fE.mp e
  exact l _ p (Nat.add_sub_of_le q).symm c g
end
section
variable{W:Wd}{fi:FI}{n:M}{own:Y an}{caps:Y (an×M)}{scope:d9}{env:bj}{acc:Y bV}{l:Y bj}{C:ay}
theorem HQ{s:d9}{a:Y<|an×aT}{x:an}(h:a.lookup x=z .free)(I:s.kind= .function):
  (a.map λp=>if(p.2==rc&&s.kind== .function&&s.names.lookup p.1==z .cell)=true then(p.1,tQ)else p).lookup x=z (yk s x):=by
 induction a with
 |nil=>cases h
 |cons p r i=>
  rw[wQ]at h
  have e:(if(p.2==rc&&s.kind== .function&&s.names.lookup p.1==z .cell)=true then(p.1,tQ)else p).1=p.1:=by split<;>rfl
  rw[ee,wQ,e]
  cases b:x==p.1 with
  |true=>
   rw[b]at h
   have k:p.2= .free:=aY h
   rw[eq_of_beq b,k,I]
   show z (if(s.names.lookup p.1==z tQ)=true then(p.1,tQ)else p).2=z (if(s.names.lookup p.1==z tQ)=true then .cell else .free)
   split
   ·rfl
   ·rw[k]
  |false=>rw[b]at h;exact i h
theorem Bf(h:env.scope=fi.scope):relabel scope env=ut scope fi.scope:=by
 unfold relabel ut jP
 rw[h]
theorem jw.cellAt(E:jw fi env acc l){i:M}{x:an}{k:aT}(h:fi.vars[i]? =z (z (x,k)))(I:k≠ .local): ∃c,env.cells.lookup x=z c∧acc[i]? =z (.cell c):=((E.var i x k h).2.resolve_left λq=>I q.1).2
theorem pS(y:iO fi scope own caps)(E:jw fi env acc l){p:an×M}(a:p∈caps): ∃c,env.cells.lookup p.1=z c∧acc[p.2]? =z (.cell c)∧scope.names.lookup p.1=z .free:=by
 obtain ⟨b,e⟩:=y.capd p a
 obtain ⟨c,q,f⟩:=e.elim (λh=>E.cellAt h<|by decide) λh=>E.cellAt h (by decide)
 exact⟨c,q,f,b⟩
theorem Jm(o:iO fi scope own caps)(E:jw fi env acc l):jw (fQ fi scope own caps) (compEnvC scope (io env.cells scope.names []) C env) (qt C own caps acc) l:=by
 refine⟨Bf E.scope,o.kind,E.glob,E.bi,E.top,λi x k t=>BQ t (λy m e=> ?_) λj p s a e=> ?_⟩
 ·injection e with e;injection e with b g;subst b g
  refine⟨?_, .inl ⟨O,zD m⟩⟩
  show (ut scope fi.scope).names.lookup y=_
  rw[←Bf E.scope]
  exact lookup_relabel_local<|o.owned y<|dG m
 ·injection e with e;injection e with b g;subst b g s
  obtain ⟨c,q,r,f⟩:=pS o E<|dG a
  refine⟨HQ f E.kind, .inr ⟨?_,c,?_,?_⟩⟩
  ·unfold yk;split
   ·exact .inl O
   ·exact .inr O
  ·show (io env.cells scope.names []).lookup p.1=z c
   rw[IN (λ_ h=>(lP h).elim)<|.inr<|A2 f,q];rfl
  ·exact(FU a).trans<|by rw[r];rfl
theorem xL(y:iO fi scope own caps)(E:jw fi env acc l){b:bV}(h:b∈qt C own caps acc){G:Prop}(k: ∀x∈own,b= .dict C x→G)(i: ∀p∈caps,∀c,acc[p.2]? =z (.cell c)→b= .cell c→G):G:=by
 refine(gw.mp h).elim (λh=> ?_) λh=> ?_
 ·obtain ⟨x,g,e⟩:=cY.mp h
  exact k x g e.symm
 ·obtain ⟨p,f,e⟩:=cY.mp h
  obtain ⟨c,j,a,_⟩:=pS y E f
  exact i p f c a<|e.symm.trans<|by rw[a];rfl
theorem Jl(y:iO fi scope own caps)(E:jw fi env acc l)(L:gh W acc B g s)
  (hn:s.heap.Ns C m)(H:il W g C):gh W (qt C own caps acc) (im own caps B) g s:=by
 refine⟨λi v hv=>BQ hv (λ_ _ e=>nomatch e) λj p U A e=> ?_,λr k=>xL y E k (λx _ e=>e▸⟨m,hn⟩) λp _ c o e=>e▸L.room _ (dG o),kG.mpr ⟨List.Pairwise.map (S:=λa b=>a≠b) _ (λa b h q=>h<|by injection q) y.nd,?_,λa k b w q=> ?_⟩,λr k=>xL y E k (λx _ e=>e▸H) λp _ c o e=>e▸L.ap _ (dG o),?_⟩
 ·obtain ⟨r,u,o,f,G⟩:=L.val _ _ (AW.mp e)
  exact⟨r,u,U▸(FU A).trans (by rw[o];rfl),f,G⟩
 ·refine rm.mpr (List.Pairwise.imp_of_mem (λ{a b} k w t q=> ?_)<|rm.mp y.cnd)
  obtain ⟨c,_,f,_⟩:=pS y E k
  obtain ⟨c',_,I,_⟩:=pS y E w
  rw[f,I]at q
  exact t<|(List.getElem?_inj (dH.mp f).1 L.nd).mp<|f.trans<|(aR z q).trans I.symm
 ·obtain ⟨x,hx,rfl⟩:=cY.mp k
  obtain ⟨p,A,rfl⟩:=cY.mp w
  obtain ⟨c,_,f,_⟩:=pS y E A
  rw[f]at q
  cases q
 ·unfold qt im
  rw[bE,bE,bc,bc,bc,bc]
end
end
section
section
variable{W:Wd}{fi:FI}{n:M}
section
variable{α β γ δ:Type}{A:a9}{l:Y bj}{X:Y ay}{g:Gh}{s:au}
theorem uu(h:Cl W A l X g s t w o)(m:w.noexc.bind k=r)(j:r≠ .err)
  (q: ∀v H i u s',k v H=r→aN W i H s'→o i v u→aL X g s i s'→f u s'):ar (av W.prog W.w) A t f E s:=by
 cases w with
 |err=>exact absurd m.symm j
 |exc k=>exact absurd m.symm j
 |ok v H=>exact bq (h λq=>nomatch q) (λu s' p=>by
  obtain ⟨G,C,i,e,a,b,c⟩:=p
  injection e with x y;subst x y
  exact q v H i u s' m a b c) λe s' p=>p.casesOn λk B _=>nomatch B
theorem l7{o:d γ}{f:γ→R β}{r:R β}{G:Prop}(c:o.elim .err f=r)(h:r≠ .err)(k: ∀a,o=some a→f a=r→G):G:=by
 cases o with
 |none=>exact absurd c.symm h
 |some a=>exact k a O c
theorem AC{c:Prop} [n9 c]{w r:R β}{G:Prop}(h:(if c then w else .err)=r)(a:r≠ .err)(k:c→w=r→G):G:=by
 by_cases q:c
 ·rw[aw q]at h;exact k q h
 ·rw[az q]at h;exact absurd h.symm a
theorem il.next(x:il W g a)(G:aL X g s e s')(i:a<s.heap.objs.size):il W e a:=
 lH.next (h:=s.heap) (b:= [a]) (λb c=>bz.mp c▸x) G (λb c=>bz.mp c▸i) s'.heap a (.head _)
structure gN(W:Wd)(g:Gh)(s:au)(a:ay)(o:Obj):Prop where
 ap:il W g a
 get:s.heap.get? a=z o
theorem gN.grow(x:gN W g s a o)(G:aL X g s b s')(U:a∉X):gN W b s' a o:=⟨x.ap.next G<|cI x.get,G.only a o x.get x.ap.1 U⟩
theorem aN.touch(R:aN W g H s)(x:gN W g s a o)(f:hU a s.heap h):aN W g H {s with heap:=h,toks:=t}∧aL [a] g s g {s with heap:=h,toks:=t}:=
 R.hide (λb c=>bz.mp c▸x.ap) (λb o c e=>f.extBut b o (λq=>c<|q▸ .head _) e) (aM f.1.symm)
end
structure zH(W:Wd)(fic:FI)(n:M)(A:a9)(l:Y bj)(cenv:bj)(acc:Y bV)(loc:aj)(g:Gh)(s:au)(g₂:Gh)(H₂:Y af)(hid:Y ay)(it:T)(src:cG)(D:ay)(o₀:Obj)(C:ay)(s₄:au):Prop where
 P:bD W fic n A l cenv acc loc g₂ H₂ s₄
 G:aL [] g s g₂ s₄
 I:ka W g₂ s₄ hid it 0 src
 K:gN W g₂ s₄ D o₀
 S:dK W n A l g s
 hfs: ∀a∈hid,s.heap.objs.size≤a∧a≠C∧a≠D
 hD:s.heap.objs.size≤D
 hC:s.heap.objs.size≤C
 hDC:D≠C
 hacc: ∀a∈dC acc,a=C∨a<s.heap.objs.size
 hx: ∃x, .dict C x∈acc
section
variable{fic:FI}{A:a9}{l:Y bj}{env cenv:bj}{acc acc':Y bV}{loc loc':aj}{g g₂:Gh}{H H₂:Y af}{s s₂ s₄:au}{hid:Y ay}{it:T}{src:cG}{own:Y an}{caps:Y (an×M)}{scope:d9}{aw' C:ay}{o₀:Obj}
theorem Dg(h:i<own.length)(a:(qt C own caps acc)[i]? =z b):b.addr∈ [C]:=aY ((zD<|de h).symm.trans a)▸ .head _
theorem Br{cx:aP}(ho:o₀.isFreed=N)(I:iO fi scope own caps)(B:own≠ [])(P:bD W fi n A l env acc loc g H s)(R₂:aN W g₂ H₂ s₂)(G₂:aL [] g s g₂ s₂)(I₂:ka W g₂ s₂ hid it 0 src)(hfs': ∀a∈hid,s.heap.objs.size≤a){RR:ay→Result→au→Prop}{E:T→au→Prop}
  (k: ∀C s₄,zH W (fQ fi scope own caps) n A l (compEnvC scope (io env.cells scope.names []) C env) (qt C own caps acc) (im own caps loc) g s g₂ H₂ hid it src s₂.heap.objs.size o₀ C s₄→i_ (av W.prog W.w) A (.compStart cx 0 it (.ref s₂.heap.objs.size)<|compEnvC scope (io env.cells scope.names []) C env) (RR C) s₄):
  ar (av W.prog W.w) A (newFunctionEnv scope env.globals (io env.cells scope.names []) [] env.qual D .none<|z env) (λcenv s₄=>i_ (av W.prog W.w) A (.compStart cx 0 it (.ref s₂.heap.objs.size) {cenv with scope:=relabel scope env}) (RR cenv.locals) s₄) E {s₂ with heap:=s₂.heap.push o₀}:=by
 refine wpAny_newFunctionEnv I.nocell (λy hy=>(lP hy).elim) (λm f h=> ?_) I.kind
 have r:(s₂.heap.push o₀).objs.size=s₂.heap.objs.size+1:=fM _ _
 generalize u:(s₂.heap.push o₀).objs.size=C at r
 have f:m.Ns C λx=>([]:Y<|an×T).reverse.lookup x:=u▸f
 have h:hU C ((s₂.heap.push o₀).push {cls:= .type<|if(z env).isSome then "dict" else "frame",data:= .dict #[]}) m:=u▸h
 have v:s₂.heap.objs.size≠C:=by rw[r];exact iz<|fF _
 have U: ∀b o,s₂.heap.get? b=z o→m.get? b=z o:=λb o e=>h.extBut b o (by rw[r];exact iz<|wJ<|cI e)<|cf _<|cf _ e
 have i:m.get? s₂.heap.objs.size=z o₀:=h.extBut _ _ v<|cf _<|d_ _ ho
 have G:s₂.heap.objs.size≤m.objs.size:=fq<|cI i
 have G₄:aL [] g₂ s₂ g₂ {s₂ with heap:=m,toks:=s₂.toks}:=aL.ext U G
 have R₄:aN W g₂ H₂ {s₂ with heap:=m,toks:=s₂.toks}:=R₂.ext U G O rfl
 have P₄:=P.grow (G₂.trans G₄) R₄
 exact k C {s₂ with heap:=m,toks:=s₂.toks} ⟨⟨Jm I P.ev,P₄.sit,R₄,Jl I P.ev P₄.lo f<|lU R₂<|by rw[r];exact eR _⟩,G₂.trans G₄,I₂.grow G₄ (λ_ _ q=>nomatch q),⟨lU R₂<|bo _,i⟩,P.sit,
  λa w=>⟨hfs' a w,by rw[r];exact iz<|wJ<|I₂.lt a w,iz<|I₂.lt a w⟩,G₂.sz,by rw[r];exact Nat.le_succ_of_le G₂.sz,v,λa w=>by
   obtain ⟨ac,hac0',rfl⟩:=cY.mp w
   exact xL I P.ev hac0' (λx _ e=> .inl<|e▸O) λp _ c h1 e=> .inr<|P.lo.below<|cY.mpr ⟨ac,e▸dG h1,O⟩,by
   obtain ⟨x,hx⟩:=List.exists_mem_of_ne_nil own B
   exact⟨x,List.mem_append_left _<|cY.mpr ⟨x,hx,O⟩⟩⟩
inductive CI(W:Wd)(fic:FI)(n:M)(A:a9)(l:Y bj)(cenv:bj)(acc:Y bV)(g:Gh)(s:au)(hid:Y ay)(it:T)(src:cG)(aw':ay)(f:M→aj→Y af→Y P→R (Y P))(r:R (Y P))(s₁:au):Prop
 |mk (i:M) (loc₁:aj) (g₁:Gh) (H₁:Y af) (ps:Y P) (xs:aQ T) (m:M) (P:bD W fic n A l cenv acc loc₁ g₁ H₁ s₁) (G:aL [] g s g₁ s₁) (I:ka W g₁ s₁ hid it i src) (K:gN W g₁ s₁ aw' (ci xs m)) (hp:be W.tb g₁.F ps xs.toList) (e:f i loc₁ H₁ ps=r):CI W fic n A l cenv acc g s hid it src aw' f r s₁
theorem JZ
  (ht:i6 W fic n is t tm)(hb:j7 W fic n ifs' tb)(he:SE W fic n elt' el)(htt':src.split=true→ ∃es k pos0',t= .Tuple es k pos0')(his': ∀i∈is,∀ac,acc'[i]? =z ac→ac.addr∈ [C])
  (b:zH W fic n A l cenv acc' loc' g s g₂ H₂ hid it src aw' (ci #[] 0) C s₄)(hr:ju src tm tb el fuel' 0 loc' H₂ []=r)(o:r≠ .err)
  (hRR': ∀g' H' s' B,r= .ok B H'→aN W g' H' s'→aL [] g s g' s'→il W g' C→(∃m,s'.heap.Ns C m)→PR W.tb g'.F (.list B) (.ref aw')→RR (.ok .next) s'):
  i_ (av W.prog W.w) A (.compLoop (.ListComp elt' [⟨t,iter,ifs',0⟩] scope pos0') 0 it (.ref aw') cenv) RR s₄:=by
 obtain ⟨bP,bG,bI,bK,bS,e,hD,hC,hDC',hacc',x,hx⟩:=b
 have j: ∀{a},s.heap.objs.size≤a→a≠C→a∉dC acc':=λh1 h2 q=>(hacc' _ q).elim h2<|dz.mpr h1
 have G:aw'∉hid:=λq=>(e aw' q).2.2 O
 refine Ib (λk s₁=>CI W fic n A l cenv acc' g s hid it src aw' (ju src tm tb el k) r s₁) (λk s₁ I=> ?_) fuel' ⟨0,_,g₂,H₂,[],#[],0,bP,bG,bI,bK,O,hr⟩
 obtain ⟨i,U,g₁,H₁,B,xs,m,P₁,G₁,I₁,K₁,hp₁',c⟩:=I
 cases k with
 |zero=>exact(o c.symm).elim
 |succ k=>
  have c:(fv H₁ i src).elim .err (λy=>y.elim (.ok B H₁) λp=>(tm p U).elim .err λloc'=>(tb loc' H₁).noexc.bind λb H=>bif b then(el loc' H).noexc.bind λv H=>(pv v).elim .err λq=>if B.length≤1000000 then ju src tm tb el k (i+1) loc' H<|B++ [q]else .err else ju src tm tb el k (i+1) loc' H B)=r:=c
  refine l7 c o λy hn c=>xY P₁.rep P₁.sit.hd I₁ hn (t:=t) htt' (λ_ _ h=>h) (λp hp s₅ g₃ u R₅ Gx hu I₅=> ?_) λhp s₃ R₃ G₃=> ?_
  ·rw[hp]at c
   refine l7 c o λloc₆' htm' c=> ?_
   have G₁₅':aL [] g s g₃ s₅:=G₁.transF Gx λa f=>(e a f).1
   refine ht A l _ _ U g₃ H₁ s₅ p u loc₆' [C] ⟨P₁.ev,bS.grow0 G₁₅',R₅,P₁.lo.growX Gx λa f q=>j (e a q).1 (e a q).2.1 f⟩ hu htm' his' _ _ λs₆ P₆ G₆=> ?_
   have G₁₆':aL [] g s g₃ s₆:=G₁₅'.transF G₆ λa f=>bz.mp f▸hC
   refine uu (hb A l _ _ loc₆' g₃ H₁ s₆ P₆) c o λb₇ H₇ g₇ b' s₇ c R₇ hb'' G₇=> ?_
   obtain rfl:b'=b₇:=hb''
   have P₇:=P₆.grow G₇ R₇
   have I₇:=(I₅.grow G₆ λa f q=>(e a f).2.1<|bz.mp q).grow G₇ λ_ _ q=>nomatch q
   have K₇:=((K₁.grow Gx G).grow G₆ λq=>hDC'<|bz.mp q).grow G₇ λq=>nomatch q
   have hp₇':=be.mono (Gx.ge.trans<|G₆.ge.trans G₇.ge).F hp₁'
   cases b' with
   |false=>exact⟨k,fF k,i+1,loc₆',g₇,H₇,B,xs,m,P₇,G₁₆'.trans G₇,I₇,K₇,hp₇',c⟩
   |true=>
    refine uu (he A l _ _ loc₆' g₇ H₇ s₇ P₇) c o λv H₈ g₈ w s₈ c R₈ hw G₈=>l7 c o λq hq c=>AC c o λhlen0' c=> ?_
    have K₈:=K₇.grow G₈ λq=>nomatch q
    refine append_at K₈.get (λh' hsm' hg=> ?_) (by rw[hp₇'.size,gS];exact oF hlen0')
    obtain ⟨r1,r2⟩:=R₈.touch (t:=s₈.toks) K₈ hsm'
    have G₁₈':aL [] g s g₈ {s₈ with heap:=h'}:=((G₁₆'.trans G₇).trans G₈).transF r2 λa f=>bz.mp f▸hD
    refine⟨k,fF k,i+1,loc₆',g₈,H₈,B++ [q],xs.push w,m+1,⟨P₇.ev,bS.grow0 G₁₈',r1,(P₇.lo.grow G₈).growX r2 λa f q=>j hD hDC'<|bz.mp q▸f⟩,G₁₈',(I₇.grow G₈ λ_ _ q=>nomatch q).grow r2 λa f q=>(e a f).2.2<|bz.mp q,⟨K₈.ap,hg⟩,?_,c⟩
    rw[xh]
    exact pL (be.mono G₈.ge.F hp₇') ⟨w,[],O,qb hq hw,O⟩
  ·rw[hp]at c
   have K₃:=K₁.grow G₃ G
   obtain ⟨R₉,ge⟩:=R₃.freeze K₃.ap K₃.get
   have L₃:=P₁.lo.growX G₃ λa f q=>j (e a q).1 (e a q).2.1 f
   have q:=L₃.ap _ hx
   exact hRR' _ H₁ s₃ B c.symm R₉ ((G₁.transF G₃ λa f=>(e a f).1).freeze ge hD) ⟨q.1,(fzg_ne hDC'.symm).trans q.2.1,q.2.2⟩ (L₃.room _ hx) ⟨aw',m,xs,O,pV _ _ _,be.mono ge.F hp₁'⟩
end
theorem J0{A:a9}{l:Y bj}{j:bj}{acc0':Y bV}{I:aj}{g:Gh}{H H₂:Y af}{s s₂:au}{it:T}{v:cG}{B:Y an}{h:Y<|an×M}{c:d9}{is:Y M}
  {o t iter:aP}{q:Y aP}{p:Pos}{tm:P→aj→d aj}{tb:aj→Y af→R ak}{el:aj→Y af→R V}{y:M}{r:R<|Y P}{U:T→ay→Result→au→Prop}{E:T→au→Prop}
  (ok:iO fi c B h)(ht:i6 W (fQ fi c B h) n is t tm)(hb:j7 W (fQ fi c B h) n q tb)(he:SE W (fQ fi c B h) n o el)(his': ∀i∈is,i<B.length)(G:B≠ [])(htt':v.split=Q→ ∃es k p,t= .Tuple es k p)
  (P:bD W fi n A l j acc0' I g H s)(ip:iT W g s (.ok v H₂) it s₂)(hr:ju v tm tb el y 0 (im B h I) H₂ []=r)(hne':r≠ .err)
  (hRR': ∀f C w x s' ps,r= .ok ps x→aN W w x s'→aL [] g s w s'→s.heap.objs.size≤C→il W w C→(∃m,s'.heap.Ns C m)→PR W.tb w.F (.list ps) (.ref f)→U (.ref f) C (.ok .next) s'):
  ar (av W.prog W.w) A (newList []) (λa s₃=>ar (av W.prog W.w) A (newFunctionEnv c j.globals (io j.cells c.names []) [] j.qual D .none<|z j) (λu s₄=>
   i_ (av W.prog W.w) A (.compStart (.ListComp o [⟨t,iter,q,0⟩] c p) 0 it a {u with scope:=relabel c j}) (U a u.locals) s₄) E s₃) E s₂:=by
 obtain ⟨src'',x,g₂,hid',e,R₂,G₂,I₂,hfs'⟩:=ip
 injection e with e1 e2;subst e1 e2
 refine iw<|Br O ok G P R₂ G₂ I₂ hfs' λC s₄ b=> ?_
 have loop:=JZ (RR:=U (.ref s₂.heap.objs.size) C) (scope:=c) (elt':=o) (iter:=iter) (ifs':=q) (pos0':=p) ht hb he htt' (λi hi ac=>Dg<|his' i hi) b hr hne' λw x s' ps e R' G' hA hN hp=>hRR' _ C w x s' ps e R' G' b.hC hA hN hp
 exact codeAny_compStart_list loop<|A4 b.I.at_ loop
end
end
section
def bW(B:Y an)(c:Y<|an×M)(a:ak)(m:aj→Y af→R cG)(o:P→aj→d aj)(t:aj→Y af→R ak)(e:aj→Y af→R V)(f:M):aj→Y af→R V:=λl H=>
 (m l H).bind λC H=>if(C.split&& !a)=N then(ju C o t e f 0 (im B c l) H []).bind λp H=> .ok (.p<|.list p) H else .err
section
variable{W:Wd}{fi:FI}{n:M}{own:Y an}{caps:Y (an×M)}{scope:d9}{is:Y M}{elt t iter:aP}{ifs:Y aP}{pos:Pos}{m:aj→Y af→R cG}{tm:P→aj→d aj}{tb:aj→Y af→R ak}{el:aj→Y af→R V}(fuel:M)(tt:ak)
theorem Ck(G:iO fi scope own caps)(hi:IE W fi n iter m)(ht:i6 W (fQ fi scope own caps) n is t tm)(hb:j7 W (fQ fi scope own caps) n ifs tb)(he:SE W (fQ fi scope own caps) n elt el)(his': ∀i∈is,i<own.length)(B:own≠ [])(htt':tt=true→ ∃es k pos,t= .Tuple es k pos)(hs: ∀f x,mN iter f x=pure x)
  (P:bD W fi n A l f acc0' u g H s)(j:bW own caps tt m tm tb el fuel u H=r)(o:r≠ .err)
  (hE: ∀e s',bX W l [] g s r e s'→E e s')
  (hQ: ∀a C w U s' y,r= .ok (.p<|.list y) U→aN W w U s'→aL [] g s w s'→s.heap.objs.size≤C→il W w C→(∃m,s'.heap.Ns C m)→PR W.tb w.F (.list y) (.ref a)→compPost (av W.prog W.w) A E use b (.ref a) C (.ok .next) s'):
  ar (av W.prog W.w) A (comprehension (.ListComp elt [⟨t,iter,ifs,0⟩] scope pos) scope f I (newList []) false (bn iter f) use) b E s:=by
 have key': ∀{r₀:R cG},eI W A l g s (bn iter f) r₀→(r₀.bind λv H=>if(v.split&& !tt)=false then(ju v tm tb el fuel 0 (im own caps u) H []).bind λy H=> .ok (.p<|.list y) H else .err)=r→
   ar (av W.prog W.w) A (comprehension (.ListComp elt [⟨t,iter,ifs,0⟩] scope pos) scope f I (newList []) false (bn iter f) use) b E s:=λ{r₀} h j=>by
  refine wpAny_comprehension_free (cl:=io f.cells scope.names []) O (hs f) (xv λp hp hf=> ?_) G.kind G.locd<|bq (h<|R.bindE<|j▸o) (λx s₁ h₁=>bq h₁ (λit s₂ ip=> ?_) λ_ _ p=>hE _ _<|j▸p.bind) λ_ _ p=>hE _ _<|j▸p.bind
  ·obtain ⟨q,hq,e⟩:=cY.mp (G.free p hp hf)
   obtain ⟨c,h1,_⟩:=pS G P.ev hq
   exact⟨c,e▸h1⟩
  ·obtain ⟨v,H₂,g₂,hid',e,ip''⟩:=id ip
   subst e
   refine AC j o λhsp' j=>J0 (y:=fuel) G ht hb he his' B (λq=>htt'<|by rw[q]at hsp';cases tt with|true=>rfl|false=>cases hsp') P ip O (R.bindE<|j▸o) λa C w U s' y ew R' G' hC hA hN hp=>hQ a C w U s' y (by rw[←j,ew];rfl) R' G' hC hA hN hp
 exact key' (hi A l f acc0' u g H s P) j
theorem yb(R:aN W g H s)(h:il W g C)(f:hU C s.heap a):aN W g H {s with heap:=a}∧aL [C] g s g {s with heap:=a}:=
 R.hide (t:=s.toks) (λb c=>bz.mp c▸h) (λb o c e=>f.extBut b o (λq=>c<|q▸ .head _) e) (aM f.1.symm)
theorem SE.comp(ok:iO fi scope own caps)(hi:IE W fi n iter m)(ht:i6 W (fQ fi scope own caps) n is t tm)(hb:j7 W (fQ fi scope own caps) n ifs tb)(he:SE W (fQ fi scope own caps) n elt el)(his': ∀i∈is,i<own.length)(B:own≠ [])
  (htt':tt=Q→ ∃v k pos,t= .Tuple v k pos)(hs: ∀c x,mN iter c x=pure x):SE W fi n (.ListComp elt [⟨t,iter,ifs,0⟩] scope pos)<|bW own caps tt m tm tb el fuel:=λA l c r loc g H s P j=>by
 rw[eval_ListComp]
 refine Ck fuel tt ok hi ht hb he his' B htt' hs P O j (λe s' h=>h) λb C w p s' ps u q U G y f hp=> ?_
 obtain ⟨m',f⟩:=f
 refine⟨m',f,λh' o=> ?_⟩
 obtain ⟨r1,r2⟩:=yb q y o
 exact⟨_,p,w,u,r1,hp,U.transF r2 λa I=>bz.mp I▸G⟩
theorem S1.assignC(hv:fi.vars[i]? =z (z (x, .local)))(ok:iO fi scope own caps)(hi:IE W fi n iter m)(ht:i6 W (fQ fi scope own caps) n is t tm)(hb:j7 W (fQ fi scope own caps) n ifs tb)(he:SE W (fQ fi scope own caps) n elt el)
  (hl:(p.line==pos.line)=Q)(hn:(!(scope.names.any λ(n,k)=>n==x&&(k== .local||k== .cell)))=Q)(his': ∀i∈is,i<own.length)(B:own≠ [])
  (htt':tt=Q→ ∃G k pos,t= .Tuple G k pos)(hs: ∀b x,mN iter b x=pure x):S1 W fi n (.Assign [.Name x p] (.ListComp elt [⟨t,iter,ifs,0⟩] scope pos) w)<|aB i<|bW own caps tt m tm tb el fuel:=λA l b h f g H s P=>by
 have hsw':swapsWith (.ListComp elt [⟨t,iter,ifs,0⟩] scope pos) (z<|.Name x p) w.line b=pure Q:=by
  have e1:b.blockKind= .function:=by unfold Env.blockKind;rw[P.ev.scope,P.ev.kind];rfl
  have hk:b.kindOf x=z .local:=by unfold jP;rw[P.ev.scope];exact(P.ev.var i x .local hv).1
  show (pure (b.blockKind== .function&&b.kindOf x==z .local&&p.line==pos.line&& !(scope.names.any λ(n,k)=>n==x&&(k== .local||k== .cell))):aX ak)=pure Q
  rw[e1,hk,hl,hn];rfl
 rw[exec_Assign_Name_used _ _ _ _ hsw']
 have key': ∀{r:R V},bW own caps tt m tm tb el fuel f H=r→CS W A l h g s (do dF w;evalThenUse (.ListComp elt [⟨t,iter,ifs,0⟩] scope pos) b (hO (.Name x p) b);pure Flow.next) (r.bind λv H=> .ok (.next<|f.set i<|z v) H):=λ{r} hr hne'=>by
  refine am<|fc<|am ?_
  show ar _ A (do let _←comprehension (.ListComp elt [⟨t,iter,ifs,0⟩] scope pos) scope b _ (newList []) N (bn iter b)<|z<|hO (.Name x p) b) _ _ s
  refine am (bq (Ck fuel tt (use:=z<|hO (.Name x p) b) (b:=λ_ s'=>l9 W h g s (r.bind λv H=> .ok (Fl.next<|f.set i<|z v) H) .next s') (E:=bX W l (dC h) g s<|r.bind λv H=> .ok (Fl.next<|f.set i<|z v) H)
   ok hi ht hb he his' B htt' hs P hr (R.bindE hne') (λe s' p=>p.bind.weaken) λc C g' H' s' ps er R' G' hC hA I hp=> ?_) (λ_ s' hq=>aA<|aA hq) λ_ _ e=>e)
  obtain ⟨m',I⟩:=I
  subst er
  have y:C∉dC h:=λq=>absurd (P.lo.below q)<|dz.mpr hC
  refine i7.name (a:=dC h) ⟨x,p,O,_,hv,by decide⟩ rI f s' (.p<|.list ps) (.ref c) (P.grow G' R') hp _ _ λs₂ P₂ G₂=>⟨m',?_,λh' hs'0'=> ?_⟩
  ·obtain ⟨o,G,ep,ho,q⟩:=I
   exact⟨o,G,ep,G₂.only C o ho hA.1 y,q⟩
  ·obtain ⟨r1,r2⟩:=yb P₂.rep hA hs'0'
   exact⟨.next<|f.set i<|z<|.p<|.list ps,H',g',O,r1,⟨O,P₂.lo.growX r2 λa U q=>y<|bz.mp q▸U⟩,(G'.wide.trans G₂).transF r2 λa U=>bz.mp U▸hC⟩
 exact key' O
end
end
section
section
open Sem (wp)
open AutoSeq1 (wpAny_loadPart')
theorem xn(m:ay)(B:c="list"∨c="tuple")
  (y:s.heap.get? m=z o)(i:o.cls= .type c)(l:o.data= .seq G n)
  (g: ∀h,(∀b f,s.heap.get? b=z f→h.get? b=z f)→s.heap.objs.size≤h.objs.size→a G.toList {s with heap:=h})(p:G.size≤d7):
  ar (av e w) A (collect<|.ref m) a E s:=
 pI (bq (E:=E) (wpAny_collect_seq (Q:=λv s'=>s.heap.objs.size≤s'.heap.objs.size→a v s') m B y i l (λh k r=>g h k r) p) (λ_ _ q=>q) λ_ _ q _=>q)
set_option maxRecDepth 100000 in
theorem HP(l:ay)(o:Obj)(G:aQ T)(n:M)(i:o.cls= .type "list")(x:o.data= .seq G n)(p:G.size≤d7):
  Meets (hV.«tuple.__new__» ⟨[.type "tuple", .ref l],[]⟩)
   (λ_ R s=>s.heap.get? l=z o∧ ∀a:bB,(∀b q,s.heap.get? b=z q→a.get? b=z q)→s.heap.objs.size≤a.objs.size→R (.ok<|.ret<|.ref a.objs.size) {s with heap:=a.push {cls:= .type "tuple",data:= .seq G}}):=
 .of_wp λr w A R s h=>by
  obtain ⟨C,g,k,U,os⟩:=s;obtain ⟨B,h⟩:=h
  have m:=sub_tuple_self
  have c:=init_tuple_lookup
  have y:=madeHere_tuple
  have u:Shared.TypeIs ⟨C,g,k,U,os⟩ (.ref l) "list":=⟨o,B,i⟩
  wp_walk using wpAny_loadPart' B,pd u,xn (p:=p) l (.inl O) B i x
  intro a I H
  show ar _ _ (Builtin.Tuple.tupleExact G.toList.toArray>>=λv=>ret v) _ _ _
  unfold Builtin.Tuple.tupleExact
  refine am (iw ?_ (by show G.toList.toArray.size≤d7;simpa using p))
  refine aA ⟨_,O,?_⟩
  have e:G.toList.toArray=G:=by simp
  rw[e]
  exact h a I H
theorem HZ(r:s.heap.IsList l G)
  (h: ∀c:bB,(∀b g,s.heap.get? b=z g→c.get? b=z g)→s.heap.objs.size≤c.objs.size→a (.ref c.objs.size) {s with heap:=c.push {cls:= .type "tuple",data:= .seq G}})
  (p:G.size≤d7):
  ar (av i w) A (call (.type "tuple") [.ref l]) a E s:=by
 obtain ⟨o,y,m,n,q⟩:=r
 exact callType_new F.called_tuple (by decide) (F.typeCall_tuple_1 _) (F.newCall_tuple_1 _) (λe=>F.args_object_init_2 e _) F.entry_tuple_new
  (HP l o G n m q p) ⟨y,λc I t=>⟨⟨_,d_ _ O,O⟩,h c I t⟩⟩
end
section
variable{W:Wd}{n:M}
theorem Cl.kept(R:aN W g H s)
  (h: ∀(a:T→au→Prop) E,(∀(c:bB) (f:M) (u:T),(∀b o,s.heap.get? b=z o→c.get? b=z o)→VR W.tb g v u→a u {s with heap:=c,toks:=f})→ar (av W.prog W.w) A t a E s):
  Cl W A l X g s t (.ok v H) (VR W.tb):=λ_=>
 pI (bq (E:=bX W l X g s<|.ok v H) (h (λu s'=>s.heap.objs.size≤s'.heap.objs.size→jB W X g s (.ok v H) (VR W.tb) u s') _ λc f u k m e=>⟨v,H,g,O,R.ext k e O rfl,m,aL.ext k e⟩) (λ_ _ q=>q) λ_ _ q _=>q)
theorem Cl.made(R:aN W g H s)
  (h: ∀(c:T→au→Prop) E,(∀(f:bB) (i:M) (a:ay) (o:Obj),(∀b o,s.heap.get? b=z o→f.get? b=z o)→s.heap.objs.size≤a→f.get? a=z o→(∀m:Gh,Ge g m→m.F a=z o→PR W.tb m.F p (.ref a))→c (.ref a) {s with heap:=f,toks:=i})→ar (av W.prog W.w) A t c E s):
  Cl W A l X g s t (.ok (.p p) H) (VR W.tb):=λ_=>
 pI (bq (E:=bX W l X g s<|Mine.R.ok (V.p p) H) (h (λu s'=>s.heap.objs.size≤s'.heap.objs.size→jB W X g s (Mine.R.ok (V.p p) H) (VR W.tb) u s') _ λf i a o k v y x w=>by
  obtain ⟨B,r⟩:=(R.ext (s':={s with heap:=f,toks:=i}) k w O rfl).freeze (lU R v) y
  exact⟨.p p,H,_,O,B,x _ r<|pV _ _ _,(aL.ext (s':={s with heap:=f,toks:=i}) k w).freeze r v⟩) (λ_ _ q=>q) λ_ _ q _=>q)
def Xk(v:V)(H:Y af):d M:=(g_ v).elim ((i5 v).elim ((mI v).elim ((df v H).bind λc=>z c.length) λc=>z c.length) λf=>z f.length) λf=>z f.length
def ce:Y V→Y af→R V:=iV λv H=>(Xk v H).elim .err λ(k:M)=>if k≤1000000 then .ok (.p<|.int (k:J)) H else .err
theorem Oh:FW W n (.builtin "len") ce:=FW.a1 λA l g H s x u S R c=>Cl.opt λk p=>Cl.gd λI=>Cl.val R λb E q=>by
 have q: ∀t i,b (.int k t) {s with toks:=i}:=λt i=>q _ i ⟨_,O⟩
 refine jA p (λo e h=> ?_) λ_ h=>jA h (λo e h=> ?_) λ_ h=>jA h (λr e h=> ?_) λ_ h=>bw h λr e h=> ?_
 ·obtain rfl:=aY h
  exact iY (G:=λu=>ar (av W.prog W.w) A (co _ [u]) b E s) c e λt=>PySem.P.len_str (by rw[iG];exact Wv I) (by rw[iG];exact q _ _)
 ·obtain rfl:=aY h
  exact g8 (G:=λu=>ar (av W.prog W.w) A (co _ [u]) b E s) c e λ_ t=>len_bytes (by rw[lS];exact zJ I) (by rw[lS];exact q _ _)
 ·obtain rfl:=aY h
  exact oU (G:=λu=>ar (av W.prog W.w) A (co _ [u]) b E s) c e λa m v f B=>PyProof.Rows.len_tuple (rE<|R.fz _ _ f) (F2 B.size I) (by rw[B.size];exact q _ _)
 ·obtain rfl:=aY h
  obtain ⟨a,m,v,rfl,f,B⟩:=eE e R c
  exact PySem.Calls.call_len_list (gV f) (F2 B.size I)<|by rw[B.size];exact q _ _
def sI:Y V→Y af→R V:=iV λv H=>(dE v).elim .err λi=> .ok (.p<|.int i) H
theorem Op:FW W n (.type "int") sI:=FW.a1 λA l g H s x u S R h=>Cl.I (t:=λu=>co _ [u]) h λi t=>Cl.val R λb E k=>call_int_int<|k (.int i t) s.toks ⟨_,O⟩
def e7:Y V→Y af→R V:=iV λv H=>(dE v).elim .err λi=>if 0≤i∧i≤1114111 then .ok (.p<|.str [i.toNat]) H else .err
theorem OQ:FW W n (.builtin "chr") e7:=FW.a1 λA l g H s x u S R a=>Cl.I (t:=λu=>co _ [u]) a λi t=>Cl.gd λh=>Cl.val R λb E k=>chr_of_range h.1 h.2<|k _ _ ⟨_,O⟩
noncomputable def Xi(f:Y M):d M:=if f.length=1 then f.head? else D
def oH:Y V→Y af→R V:=iV λv H=>(g_ v).elim .err λf=>(Xi f).elim .err λ(c:M)=> .ok (.p<|.int (c:J)) H
theorem N6:FW W n (.builtin "ord") oH:=FW.a1 λA l g H s x u S R a=>Cl.opt λf e=>Cl.opt λc i=>iZ i λh i=>by
 obtain ⟨r,rfl⟩: ∃r,f=c::r:=List.head?_eq_some_iff.mp i
 obtain rfl:r= []:=t9<|Nat.succ.inj h
 exact iY (G:=λu=>Cl W A l [] g s (co _ [u]) _ _) a e λt=>Cl.val R λb E k=>ord_of_one (by rw[iG];rfl)<|k _ _ ⟨_,O⟩
def nJ:Y V→Y af→R V:=iV λv H=>(dE v).elim .err λi=>if(baseText "0x" 16 i).length≤1000 then .ok (.p<|.str (baseText "0x" 16 i).cps.toList) H else .err
theorem Ot:FW W n (.builtin "hex") nJ:=FW.a1 λA l g H s x u S R a=>Cl.I (t:=λu=>co _ [u]) a λi t=>Cl.gd λh=>Cl.val R λb E k=>PySem.P.hex_of_int (k _ _ ⟨s.toks,O⟩)<|Wu h dB
def sH:Y V→Y af→R V:=mq λx y H=>two dE x y (λa b=> .ok (.p<|.int<|if b>a then b else a) H) .err
theorem Od:FW W n (.builtin "max") sH:=FW.a2 λA l g H s x y u v S R h f=>Cl.II (t:=λu v=>co _ [u,v]) h f (λa b i j=>Cl.kept R λe E k=>max_two_ints S.hd λm o I=>by
 by_cases c:b>a
 ·rw[aw c]at k⊢;exact k _ _ _ I ⟨j,O⟩
 ·rw[az c]at k⊢;exact k _ _ _ I ⟨i,O⟩) Cl.err
def lW:Y V→Y af→R V:=iV λv H=>((mI v).or<|df v H).elim .err λc=>if c.length≤1000000 then .ok (.p<|.list c) H else .err
theorem Kt:FW W n (.type "list") lW:=FW.a1 λA l g H s x u S R i=>Cl.opt λp e=>Cl.gd λhl=>by
 have f: ∀{a:ay} {b:i9} {o:Obj} {h:aQ T} {m:M},b="list"∨b="tuple"→s.heap.get? a=z o→o.cls= .type b→o.data= .seq h m→be W.tb g.F p h.toList→Cl W A l [] g s (co (.type "list") [.ref a]) (.ok (.p<|.list p) H) (VR W.tb):=λw y C I B=>
  Cl.made R λc E k=>call_list_seq _ w y C I (λt j U y=>k t s.toks _ _ U (bo _) y λg' r v=>⟨_,j,_,O,v,be.mono r.F B⟩)<|zI B.size hl dB
 refine fA e (λe=> ?_) λe=> ?_
 ·exact oU (G:=λu=>Cl W A l [] g s (co _ [u]) _ _) i e λa m h q B=>f (.inr O) (R.fz _ _ q) O rfl B
 ·obtain ⟨a,m,h,rfl,q,B⟩:=eE e R i
  exact f (.inl O) q O rfl B
def oB:Y V→Y af→R V:=iV λv H=>(df v H).elim .err λc=>if c.length≤1000000 then .ok (.p<|.tup c) H else .err
theorem Li:FW W n (.type "tuple") oB:=FW.a1 λA l g H s x u S R r=>Cl.opt λw e=>Cl.gd λp=>by
 obtain ⟨a,m,f,rfl,t,B⟩:=eE e R r
 exact Cl.made R λc E k=>HZ (gV t) (λh I q=>k (h.push<|fS f 0) s.toks h.objs.size (fS f 0) (λb o e=>cf _<|I b o e) q (d_ _ O) λv i j=>⟨_,0,f,O,j,be.mono i.F B⟩)<|zI B.size p dB
def uY(c:Y P):d<|Y M:=(nv c).bind λa=>if ∀i∈a,0≤i∧i<256 then z<|a.map λi=>i.toNat else D
theorem KD(h:aV (λa u=> ∃t,u=po a t) b c):IntsAre c b:=by
 induction b generalizing c with
 |nil=>obtain rfl:=h;exact .nil
 |cons i b f=>obtain ⟨u,g,rfl,⟨t,rfl⟩,e⟩:=h;exact .cons i t<|f e
def ot:Y V→Y af→R V:=iV λv H=>(df v H).elim .err λc=>(uY c).elim .err λa=>if c.length≤1000000 then .ok (.p<|.bytes a) H else .err
theorem J3:FW W n (.type "bytes") ot:=FW.a1 λA l g H s x u S R r=>Cl.opt λU e=>Cl.opt λG c=>Cl.gd λp=>bw c λC h c=>iZ c λf c=>by
 obtain rfl:=aY c
 obtain ⟨a,m,y,rfl,v,B⟩:=eE e R r
 exact Cl.kept R λb E k=>call_bytes_ints (vs:=y.toList) (by rw[Array.toArray_toList];exact gV v) (KD<|pR h B) f (zI (nc B) p dB) S.hd λj t w I=>k j w _ I ⟨λn q=>by
  obtain ⟨i,o,rfl⟩:=cY.mp q
  exact Wt (f i o).2,t,by unfold byteArr;rw[eu];rfl⟩
end
end
section
open PySem.MeetsSeq PySem.SeqAt
section
variable{W:Wd}{fi:FI}{n:M}
def zR(a k v:V)(H:Y af):R V:=(nu a H).elim .err λe=>(pv k).elim .err λr=>(C4 r e).elim .err λ_=> .ok ((uz r e).getD v) H
def vW(vs:Y V)(H:Y af):R V:=vs.casesOn .err λa r=>r.casesOn .err λk r=>r.casesOn (zR a k (.p .none) H) λv r=>r.casesOn (zR a k v H) λ_ _=> .err
theorem C6:(∀i,lu k=z i→ml k=D)∧ ∀i,ml k=z i→lu k=D:=by
 cases k<;>first|exact⟨λ_ _=>rfl,λ_ h=>nomatch h⟩|exact⟨λ_ h=>(nomatch h),λ_ _=>rfl⟩
theorem BC{a:Type} [dI a]{b:P→d a}{k:P}{j:a}{e:Y<|P×V}(h:b k=z j)(c:oz b e=Q):jY b k e=getD b j e:=by unfold jY;rw[h];exact aw c
theorem Ba{a:Type} [dI a]{b:P→d a}{k:P}{e:Y<|P×V}(h:b k=D):jY b k e=D:=by unfold jY;rw[h];rfl
theorem Ec(Hs:j_ W){A:a9}{l:Y bj}{g:Gh}{H:Y af}{s:au}{p k v:V}{u1 u2 u3:T}{t:aX T}(R:aN W g H s)(h1:VR W.tb g p u1)(h2:VR W.tb g k u2)(h3:VR W.tb g v u3)
  (ht: ∀{K:Type} [dI K] {x:KeyKind W.prog W.w K} {u:K} {a:ay} {f:K→d T} {c:T→au→Prop} {E},u1= .ref a→x.is u u2=Q→(a==eJ)=N→s.heap.MapOf x a f→(∀U,c ((f u).getD u3) {s with toks:=U})→ar (av W.prog W.w) A t c E s):
  Cl W A l [] g s t (zR p k v H) (VR W.tb):=Cl.opt λw I=>Cl.opt λB hk=>Cl.opt λb hb=>Cl.val R λc E q=>by
 obtain ⟨a,m,ds,e1,ha,hv,hn,hsm'⟩:=rA I R h1
 have u: ∀{i K:Type} [dI i] [dI K] {x:KeyKind W.prog W.w K} {r:P→d i} {C:i→K},gO W x r C→sq r B w=some b→(∀j,r B=some j→oz r w=Q→uz B w=getD r j w)→ar (av W.prog W.w) A t c E s:=λo h he=>bw h λj y h=>iZ h λG h=>by
  obtain ⟨kvs0',d1,d2⟩:=uL o ha hv hn G
  obtain ⟨g1,g2⟩:=KV.get o (k:=j) d2
  refine ht e1 (o.rel g.F B j u2 y<|qb hk h2) hsm' d1.mapOf λU=>q _ U ?_
  rw[he j y G]
  cases e:getD _ j w with
  |none=>rw[g2 e];exact h3
  |some v'=>obtain ⟨w',hw,hr⟩:=g1 v' e;rw[hw];exact hr
 exact fA hb (λh=>u (qO Hs) h λj y G=>by
  show (jY lu B w).or (jY ml B w)=_
  rw[BC y G,Ba<|C6.1 j y,Option.or_none]) λh=>u (tf Hs) h λj y G=>by
  show (jY lu B w).or (jY ml B w)=_
  rw[Ba<|C6.2 j y,BC y G,Option.none_or]
theorem Ox(f:j_ W):FW W n (.builtin "dict.get") vW:=λA l g H s vs x S R o=>by
 cases vs with
 |nil=>exact Cl.err
 |cons a r=>
 cases r with
 |nil=>exact Cl.err
 |cons k r=>
 obtain ⟨t,us1',rfl,i,w,p,rfl,j,h⟩:=o
 cases r with
 |nil=>
  obtain rfl:=h
  exact Ec f R i j O λe c hsm' b q=>e▸call_meetsIn F.slot_dict_get b.typeIs F.entry_dict_get (F.args_dict_get_2 _ _) (meets_dict_get _ _ c hsm') ⟨_,b,q _⟩
 |cons v r=>
 cases r with
 |cons _ _=>exact Cl.err
 |nil=>
  obtain ⟨u,us3',rfl,m,rfl⟩:=h
  exact Ec f R i j m λe c hsm' b q=>e▸call_meetsIn F.slot_dict_get b.typeIs F.entry_dict_get (F.args_dict_get_3 _ _ _) (meets_dict_get_default _ _ c hsm' u) ⟨_,b,q _⟩
def yw:Y V→Y af→R V:=mq λx y H=>two g_ x y (λx y=>if x.length≤1000000 then .ok (.p<|.str (PySem.stripped (⟨y.toArray⟩:an).cps.contains Q Q ⟨x.toArray⟩).cps.toList) H else .err) .err
def Bg:Y V→Y af→R V:=mq λx y H=>two g_ x y (λx y=>if x.length≤1000000∧y≠ []then .ok (.p<|.tup [.str (Txt.partition ⟨x.toArray⟩ ⟨y.toArray⟩).1.cps.toList, .str (Txt.partition ⟨x.toArray⟩ ⟨y.toArray⟩).2.1.cps.toList, .str (Txt.partition ⟨x.toArray⟩ ⟨y.toArray⟩).2.2.cps.toList]) H else .err) .err
theorem J9:FW W n (.builtin "str.strip") yw:=FW.a2 λA l g H s x y u v S R i j=>Cl.SS (t:=λu v=>co _ [u,v]) i j (λx y a m=>Cl.gd λc=>by
 refine Cl.val R λb E k=>call_gives F.slot_str_strip (typeIs_str _ _ _) F.entry_str_strip (F.args_str_strip_2 _ _) (gives_str_strip_chars _ _ _ _) ?_
 generalize (⟨y.toArray⟩:an).cps.contains=f at k⊢
 by_cases h:stripSame f Q Q ⟨x.toArray⟩=Q
 ·rw[aw h]
  show b (.str ⟨x.toArray⟩ a) s
  have e:PySem.stripped f Q Q ⟨x.toArray⟩=⟨x.toArray⟩:=by
   unfold stripSame at h
   simp only[b_,dM]at h
   unfold PySem.stripped
   rw[h.2,h.1]
   unfold Builtin.Str.strSub Str.length
   simp
  rw[e]at k
  exact k _ s.toks ⟨a,O⟩
 ·rw[az h]
  exact⟨bF (le_strSub ⟨x.toArray⟩ _ _)<|F1 c dB<|iG x,k _ _ ⟨s.toks,O⟩⟩) Cl.err
theorem Ip:FW W n (.builtin "str.partition") Bg:=FW.a2 λA l g H s x y u v S R q w=>Cl.SS (t:=λu v=>co _ [u,v]) q w (λx y B C=>Cl.gd λf=>by
 have p:((⟨y.toArray⟩:an).length==0)=N:=by
  rw[iG]
  cases y with
  |nil=>exact absurd rfl f.2
  |cons a r=>rfl
 refine Cl.made R λc E k=>nY F.slot_str_partition (typeIs_str _ _ _) F.entry_str_partition (F.args_str_partition_2 _ _) (meets_str_partition _ _ B C p<|F1 f.1 dB<|iG x) ?_
 unfold Txt.partition at k
 cases e:Builtin.Str.occurrences ⟨x.toArray⟩ ⟨y.toArray⟩ 0 (⟨x.toArray⟩:an).length 1 with
 |nil=>
  rw[e]at k
  exact k _ _ s.heap.objs.size _ (λb o e=>cf _ e) (bo _) (d_ _ O) λj m h=>⟨_,0,_,O,h,_,_,O,⟨_,O⟩,_,_,O,⟨_,O⟩,_,_,O,⟨_,O⟩,O⟩
 |cons i r=>
  rw[e]at k
  exact k _ _ s.heap.objs.size _ (λb o e=>cf _ e) (bo _) (d_ _ O) λj m h=>⟨_,0,_,O,h,_,_,O,⟨_,O⟩,_,_,O,⟨_,O⟩,_,_,O,⟨_,O⟩,O⟩) Cl.err
def leStrS(x y:V)(H:Y af):R V:=two g_ x y (λa b=> .ok (.p<|.bool<|!decide (b<a)) H) .err
theorem Kv:du W n (bN .LtE) leStrS:=λA l g H s x y u v S R h e=>Cl.SS h e (λa b i j=>Cl.val R λc E k=>P.le_str<|by have:=k (.bool _) s.toks O;simpa using this) Cl.err
def gJ(a:aj→Y af→R V):aj→Y af→R V:=λl H=>(a l H).bind λv H=>(dE v).elim .err λi=> .ok (.p<|.int<|-i) H
theorem SE.neg(h:SE W fi n e a):SE W fi n (.UnaryOp .USub e p)<|gJ a:=λA l f c loc g H s P=>by
 rw[arm_eval_UnaryOp]
 exact Cl.bind (h A l f c loc g H s P) λv o q u s' _ j m G=>Cl.stand<|Cl.holding<|Cl.I (t:=λu=>unaryOp _ u) m λi t=>Cl.val j λb E k=>PyProof.Rows.neg_int<|k _ _ ⟨_,O⟩
def Ei(a b c:aj→Y af→R V)(o f:V→V→Y af→R V):aj→Y af→R V:=λl H=>
 (a l H).bind λx H=>(b l H).bind λy H=>(o x y H).bind λr H=>(j4 r H).bind λt H=>bif t then(c l H).bind λe H=>f y e H else .ok r H
theorem SE.chain2(h1:SE W fi n x a)(h2:SE W fi n y b)(h3:SE W fi n f c)(h4:du W n (bN I) p1)(h5:du W n (bN o) p2)
  (hm:behindInMarks o f=N):SE W fi n (.Compare x [I,o] [y,f] p)<|Ei a b c p1 p2:=λA l h i loc g H s P=>by
 have e:eval (.Compare x [I,o] [y,f] p) h=(do
   let u←eval x h
   compareChain p u [I,o] [eval y h,markedBehindIn o f<|eval f h]):=O
 rw[e,tP hm]
 refine Cl.bind (h1 A l h i loc g H s P) λv H' g' u s' _ hR hv G=> ?_
 have P':=P.grow G hR
 show Cl W A l [] g' s' (ek [u] (eval y h)>>=λr=>dF p>>=λ_=>ek [u,r] (bN I u r)>>=λc=>release [u,r] [c]>>=λ_=>ek [c,r] (truthy c)>>=λt=>if t=Q then compareChain p r [o] [eval f h]else pure c) _ _
 refine Cl.bind (Cl.holding<|h2 A l h i loc g' H' s' P') λv2 H2 g2 C s2 _ j m G2=> ?_
 have P2:=P'.grow G2 j
 refine Cl.stand<|Cl.bind (Cl.holding<|h4 A l g2 H2 s2 v v2 u C P2.sit j (hv.mono G2.ge) m) λv3 H3 g3 u3 s3 _ k B G3=> ?_
 refine Cl.release ?_
 refine Cl.bind (Cl.holding<|nh k B) λt H4 g4 t' s4 _ q ht U=> ?_
 obtain rfl:t'=t:=ht
 cases t'
 ·exact Cl.pure' q<|B.mono U.ge
 ·have P4:=(P2.grow G3 k).grow U q
  show Cl W A l [] g4 s4 (ek [C] (eval f h)>>=λr=>dF p>>=λ_=>operate [C,r]<|bN o C r) _ _
  refine Cl.bind (Cl.holding<|h3 A l h i loc g4 H4 s4 P4) λv5 H5 g5 u5 s5 _ w hv5' G5=> ?_
  exact Cl.stand<|Cl.operate<|h5 A l g5 H5 s5 v2 v5 C u5 (P4.grow G5 w).sit w (((m.mono G3.ge).mono U.ge).mono G5.ge) hv5'
def Xj(v:V):d<|Y P:=(pv v).bind zp
def rD(x y:V)(H:Y af):R V:=(Xj x).elim .err λc=>(dE y).elim .err λk=>if 0≤k∧k≤1000∧c.length≤1000∧c≠ []then .ok (.p<|.list (cX k.toNat c).flatten) H else .err
theorem MC(h:be t F c b)(k:M):be t F (cX k c).flatten (cX k b).flatten:=by
 induction k with
 |zero=>rfl
 |succ k i=>rw[List.replicate_succ,List.replicate_succ,t6,t6];exact pL h i
theorem I9:du W n (iy .Mult) rD:=λA l g H s x y u v S R C G=>Cl.opt λI e=>Cl.I G λk t=>Cl.gd λi=>by
 obtain ⟨p,rfl,e⟩:=jI e
 obtain ⟨a,m,f,rfl,B,o⟩:PR W.tb g.F (.list I) u:=xN e▸C
 have hlen0':=o.size
 have j:=R.fz _ _ B
 have h:f.size*k.toNat≤1000*1000:=Nat.mul_le_mul (Ws i.2.2.1 hlen0')<|Wr i.2.1
 have r:f.isEmpty=N:=Bool.eq_false_iff.mpr<|xA i.2.2.2 hlen0'
 refine Cl.new (ci (List.foldl (λx1 x2=>x1++x2) #[]<|cX (if f.isEmpty=Q then 0 else k.toNat) f) 0) O R (λb E q=> ?_) λF w e=>⟨_,0,_,O,e,?_⟩
 ·exact wpAny_binaryOp_repeat_ref (T:="list") (U:="int") (by decide) ⟨_,j,O⟩ (λs'=>typeIs_int s' k t) noFill_list_mul F.fills_int_mul F.slot_int_rmul repeat_list F.slot_int_index.lookup
   (nY F.slot_int_rmul (typeIs_int s k t) F.entry_int_rmul (F.args_int_rmul_2 _ _) (int___rmul___int_list k t a f m)
    ⟨j,O,⟨_,j,O⟩,nY F.slot_list_mul ⟨_,j,O⟩ F.entry_list_mul (F.args_list_mul_2 _ _)
     (AutoListH.list___mul___list_int_3 a f m k t (by simp[Builtin.List.listFitsIndex];exact Wq i.1 i.2.1) (Wp h)<|by simp[Builtin.List.listTooLong,d7];exact Wo h)
     ⟨j,q _⟩⟩)
 ·rw[r,az jl,listMul_foldl]
  simpa using be.mono w (MC o k.toNat)
end
end
section
section
variable{W:Wd}{fi:FI}{n:M}
inductive Ty where
 |none|bool|int|str|tup
 |inst (C:M)
noncomputable def s_(t:Tb)(a:Ty):T:=a.casesOn (.type "NoneType") (.type "bool") (.type "int") (.type "str") (.type "tuple") λC=> .ref<|t.cls C
noncomputable def Y0(p:P):d Ty:=p.casesOn (z .none) (λ_=>z .bool) (λ_=>z .int) (λ_=>z .str) (λ_=>D) (λ_=>z .tup) (λ_=>D) (λ_=>D) λ_ _=>D
def Gl(x:V)(H:Y af):d Ty:=((pv x).bind Y0).or<|(f6 x H).bind λq=>z<|.inst q.1
structure FV(W:Wd)(C:M):Prop where
 g:plainGet W.K (W.tb.cls C) "__class__"=Q
 d:hasDictIn W.K (W.tb.cls C)=Q
 f:d8 W.K (.ref (W.tb.cls C)) "__class__"=z (z (.builtin "object.__class__"))
 s:specialIn W.K (.builtin "object.__class__") "__get__"=z (z (.builtin "getset_descriptor.__get__"))
 t:takesIn W.K (.builtin "object.__class__")=z Q
 m:mroIn W.K (W.tb.cls C) (.type "object")=z Q
def sy(W:Wd)(a:Ty):Prop:=a.casesOn True True True True True λC=>FV W C
theorem L0(h:dD W)(R:aN W g H s)(j:VR W.tb g x u)(B:Gl x H=z o)(y:sy W o)(i:gU W.K (s_ W.tb o) c=z b)
  (q: ∀G,f (.bool b) {s with toks:=G}):ar (av W.prog W.w) A (co (.builtin "isinstance") [u,c]) f E s:=by
 have X:W.K.In s.heap:=h.kin.keeps R.st
 refine fA B (λB=> ?_) λB=>bw B λp C B=> ?_
 ·obtain ⟨p,rfl,B⟩:=jI B
  cases p with
  |none=>obtain rfl:=aY B;obtain rfl:u= .none:=j;exact kia_one kitx_none X trivial i (λe=>nomatch e) q
  |bool _=>obtain rfl:=aY B;obtain rfl:u= .bool _:=j;exact kia_one kitx_bool X trivial i (λe=>nomatch e) q
  |int _=>obtain rfl:=aY B;obtain ⟨t,rfl⟩:=j;exact kia_one kitx_int X trivial i (λe=>nomatch e) q
  |str _=>obtain rfl:=aY B;obtain ⟨t,rfl⟩:=j;exact kia_one kitx_str X trivial i (λe=>nomatch e) q
  |tup _=>
   obtain rfl:=aY B
   obtain ⟨a,m,xs,rfl,w,_⟩:=j
   exact kia_one kitx_tuple X ⟨_,R.fz _ _ w,O⟩ i (λe=>nomatch e) q
  |_=>exact nomatch B
 ·obtain rfl:=aY B
  obtain ⟨a,k,n,I,rfl,r,v,U⟩:=xB C R j
  exact kia_one (kitx_own y.g y.d y.f y.s y.t y.m) X (uI r v) i (λe=>nomatch e) q
def iU(a:Ty→d ak)(m:aj→Y af→R V):aj→Y af→R V:=λl H=>(m l H).bind λv H=>(Gl v H).elim .err λt=>(a t).elim .err λb=> .ok (.p<|.bool b) H
theorem SE.isinst(i:dD W)(hgi':GN W y<|.builtin "isinstance")(hxi':fi.scope.names.lookup y=z .globalImplicit)(hgc':GN W x c)(hxc':fi.scope.names.lookup x=z .globalImplicit)
  (h:SE W fi n e m)(ha: ∀t b,C t=z b→sy W t∧gU W.K (s_ W.tb t) c=z b)
  (U:(y==("__debug__":an))=N)(I:(x==("__debug__":an))=N)(hs:rL e):SE W fi n (.Call (.Name y pi) [e, .Name x w] [] p)<|iU C m:=λA l j B loc g H s P=>by
 show Cl W A l [] g s (bn (.Name y pi) j>>=λf=>ja p f [] (gT p<|gv [e, .Name x w] j) []) _ _
 have key': ∀{r:R V},Cl W A l [] g s (bn e j) r (VR W.tb)→Cl W A l [] g s (spliced<|argsOf [e, .Name x w] j) r (λg v us=> ∃u,us= [u,c]∧VR W.tb g v u):=λ{r} h=>by
  have e1:r=r.bind λv H=> .ok v H:=by cases r<;>rfl
  rw[e1]
  show Cl W A l [] g s (bn e j>>=λv=>(pure [v]:aX<|Y T)>>=λk=>(ek k<|spliced<|argsOf [.Name x w] j)>>=λr=>pure<|k++r) _ _
  refine Cl.bind h λv H' g' u s' _ o hu G=>Cl.skip (λa E q=>aA q)<|Cl.skip (u:= [c]) (λa E q=>b0 ?_)<|Cl.pure' o ⟨u,O,hu⟩
  exact am<|li i hgc' (P.grow G o) hxc' I<|am<|aA<|am<|b0<|aA<|aA q
 have ns:gT p (gv [e, .Name x w] j)=argsOf [e, .Name x w] j:=by rw[hs];rfl
 rw[ns]
 refine Cl.skip (u:= .builtin "isinstance") (λa E q=>li i hgi' P hxi' U q)<|CW mW (key'<|h A l j B loc g H s P) λv H' g' us s' o hv G=> ?_
 obtain ⟨u,rfl,hv'0'⟩:=hv
 exact Cl.opt λt hty'=>Cl.opt λb hb=>Cl.val o λa E q=>L0 i o hv'0' hty' (ha t b hb).1 (ha t b hb).2 λtk=>q _ tk O
end
end
section
abbrev z5(t:Tb)(g:Gh):Y (V×V)→Y (T×T)→Prop:=aV λp q=>VR t g p.1 q.1∧VR t g p.2 q.2
def mJ(W:Wd)(h:FI)(n:M)(k:Y<|d aP)(vs:Y aP)(m:aj→Y af→R (Y<|V×V)):Prop:=
 ∀A l b c a g H s p,bD W h n A l b c a g H s→Cl W A l [] g s (evalPairs<|pairTrees k vs b p) (m a H) (z5 W.tb)
noncomputable def nilP:aj→Y af→R (Y<|V×V):=λ_ H=> .ok [] H
def cQ(a b:aj→Y af→R V)(c:aj→Y af→R (Y<|V×V)):aj→Y af→R (Y<|V×V):=λl H=>(a l H).bind λk H=>(b l H).bind λv H=>(c l H).bind λr H=> .ok ((k,v)::r) H
section
variable{W:Wd}{fi:FI}{n:M}
theorem mJ.nil:mJ W fi n [] [] nilP:=λA l b a c g H s p P _=>pairTrees_nil_walk ⟨[],H,g,O,P.rep,O, .refl _ _ _⟩
theorem mJ.cons(h1:SE W fi n k a)(h2:SE W fi n v b)(h3:mJ W fi n C vs c):mJ W fi n (z k::C) (v::vs)<|cQ a b c:=λA l f i m g H s p P=>by
 have e:evalPairs (pairTrees (z k::C) (v::vs) f p)=(bn k f>>=λI=>ek [I] (bn v f>>=λx=>dF p>>=λ_=>pure x)>>=λvv=>ek [I,vv] (evalPairs<|pairTrees C vs f p)>>=λr=>pure<|(I,vv)::r):=by
  first|rfl|(show evalPairs (_::_)=_;unfold evalPairs;rfl)
 rw[e]
 refine Cl.bind (h1 A l f i m g H s P) λk' H1 o u1 U _ t w G1=> ?_
 have P1:=P.grow G1 t
 have B: ∀{r:R V},Cl W A l [] o U (bn v f) r (VR W.tb)→Cl W A l [] o U (bn v f>>=λx=>dF p>>=λ_=>pure x) r (VR W.tb):=λ{r} h=>by
  have e1:r=r.bind λv H=> .ok v H:=by cases r<;>rfl
  rw[e1]
  exact Cl.bind h λv' H2 g2 u2 s2 _ j q G=>Cl.stand<|Cl.pure' j q
 refine Cl.bind (Cl.holding<|B<|h2 A l f i m o H1 U P1) λv' H2 g2 u2 s2 _ j q G=>Cl.bind (Cl.holding<|h3 A l f i m g2 H2 s2 p<|P1.grow G j) λr H3 g3 us s3 _ u y G3=> ?_
 exact Cl.pure' u ⟨(u1,u2),us,rfl,⟨(w.mono G.ge).mono G3.ge,q.mono G3.ge⟩,y⟩
def GL(c:Y<|V×V):d<|Y<|P×V:=dJ (λp=>(pv p.1).bind λk=>z (k,p.2)) c
def uF{α:Type} [dI α](l:Y α):ak:=eo Q (λa r i=> !(r.contains a)&&i) l
theorem Bj{α:Type} [dI α]{l:Y α}(h:uF l=Q):l.Nodup:=by
 induction l with
 |nil=>exact jg
 |cons a r i=>
  obtain ⟨b,e⟩:=bJ.mp (h:(!(r.contains a)&&uF r)=Q)
  exact pC.mpr ⟨λq=>(by rw[fg.mpr q]at b;exact nomatch b),i e⟩
def D8{a:Type}(b:P→d a)(c:Y<|P×V):d<|Y a:=dJ (λe=>b e.1) c
def yK{a:Type} [dI a](b:P→d a)(e:Y<|P×V):d<|Y<|P×V:=(D8 b e).bind λk=>if uF k=Q then z e else D
def pO(c:Y<|V×V):d<|Y<|P×V:=(GL c).bind λe=>(yK lu e).or<|yK ml e
theorem Kn{a K:Type} [dI a] [dI K]{x:KeyKind W.prog W.w K}{h:P→d a}{f:a→K}(b:gO W x h f){g:Gh}{t:Y<|V×V}{m:Y<|P×V}{s:Y a}{u:Y<|T×T}(i:GL t=z m)(l:D8 h m=z s)(v:z5 W.tb g t u):
  ∃c,Carries x u c∧KV W h f g m c∧c.map (·.1)=s.map f:=by
 induction t generalizing m s u with
 |nil=>
  obtain rfl:=aY i
  obtain rfl:=aY l
  obtain rfl:=v
  exact⟨[],trivial,O,O⟩
 |cons p r U=>
  obtain ⟨q,us'',rfl,⟨C,G⟩,H⟩:=v
  refine bw i λe o i=>bw i λB y i=>bw o λk I o=> ?_
  obtain rfl:=aY i
  obtain rfl:=aY o
  refine bw l λj w l=>bw l λks'' A l=> ?_
  obtain rfl:=aY l
  obtain ⟨c,q1,q2,q3⟩:=U y A H
  exact⟨(f j,q.2)::c,⟨b.rel g.F k j q.1 w<|qb I C,O,q1⟩,⟨(f j,q.2),c,O,⟨⟨j,w,O⟩,G⟩,q2⟩,aR (_:: ·) q3⟩
theorem BK(Hs:j_ W){B:Y<|d aP}{vs:Y aP}{v:Pos}{m:aj→Y af→R (Y<|V×V)}(h:mJ W fi n B vs m)(C:B.all (·.isSome)=Q)(hl:B.length=vs.length)(h0:B≠ [])(hlen0':B.length≤15)
  {A:a9}{l:Y bj}{u:bj}{acc0':Y bV}{loc0':aj}{g:Gh}{H:Y af}{s:au}(P:bD W fi n A l u acc0' loc0' g H s){k:Y (Mine.P×V)→Y af→R V}{r:R V}(hr:((m loc0' H).bind λps H=>(pO ps).elim .err λw=>k w H)=r)(hne':r≠ .err){j:T→au→Prop}
  (hQ: ∀w H' g' s' f ds c,k w H'=r→aN W g' H' s'→aL [] g s g' s'→s.heap.objs.size≤f→gN W g' s' f (cj ds c)→fT W.tb g' w ds.toList→(w.map (·.1)).Nodup→(f==eJ)=N→j (.ref f) s'):ar (av W.prog W.w) A (bn (.Dict B vs v) u) j (bX W l [] g s r) s:=by
 have hsm':(s.heap.objs.size==eJ)=N:=by
  obtain ⟨o,ho⟩:=Option.ne_none_iff_exists'.mp W.sm
  exact cL.mpr<|jQ<|cI<|P.rep.st _ _ ho
 have k1: ∀b o,s.heap.get? b=z o→(s.heap.push<|cj #[] 0).get? b=z o:=λb o e=>cf _ e
 have sz1':s.heap.objs.size≤(s.heap.push<|cj #[] 0).objs.size:=by rw[fM];exact eR _
 have G1:aL [] g s g {s with heap:=s.heap.push<|cj #[] 0}:=aL.ext k1 sz1'
 have K1:gN W g {s with heap:=s.heap.push<|cj #[] 0} s.heap.objs.size<|cj #[] 0:=⟨lU P.rep<|bo _,d_ _ O⟩
 have key': ∀{r₀:R<|Y<|V×V},Cl W A l [] g {s with heap:=s.heap.push<|cj #[] 0} (evalPairs<|pairTrees B vs u v) r₀ (z5 W.tb)→(r₀.bind λps H=>(pO ps).elim .err λw=>k w H)=r→ar (av W.prog W.w) A (bn (.Dict B vs v) u) j (bX W l [] g s r) s:=λ{r₀} h hr=>by
  cases r₀ with
  |err=>exact absurd hr.symm hne'
  |exc k=>exact wpAny_Dict_walk (knd:=strKind W.prog W.w) C hl h0 hlen0' (bq (h λe=>nomatch e) (λus s' p=>p.casesOn λ_ _ _ e _ _ _=>nomatch e) λe s' p=>hr▸(bX.bind p).after G1)
  |ok ps H1=>
   refine l7 hr hne' λw y hr=>bw y λes'' e1 y=> ?_
   have one': ∀{i K:Type} [dI i] [dI K] {x:KeyKind W.prog W.w K} {U:Mine.P→d i} {emb':i→K},gO W x U emb'→yK U es''=z w→ar (av W.prog W.w) A (bn (.Dict B vs v) u) j (bX W l [] g s r) s:=λ{i K _ _ x U emb'} t y=>bw y λkk e2 y=>iZ y λhnd' y=>by
    obtain rfl:=aY y
    refine wpAny_Dict_walk (knd:=x) C hl h0 hlen0' (bq (h λe=>nomatch e) (λus s' p=> ?_) λe s' p=>p.casesOn λq er hx=>nomatch er)
    obtain ⟨ps'',H',g',e,R',hp,G⟩:=p
    injection e with e3 e4;subst e3 e4
    obtain ⟨kvs0',c1,c2,c3⟩:=Kn t e1 e2 hp
    have K:=K1.grow G λq=>nomatch q
    refine⟨kvs0',c1,⟨_,#[],0,K.get,⟨O,O,O⟩,O,λ_ hx=>(Array.not_mem_empty _ hx).elim, .nil,jg⟩,λh' hd hsb'=> ?_⟩
    rw[merged_nil_of_nodup _<|c3▸List.Pairwise.map (S:=λa b=>a≠b) _ (λa b hab' q=>hab'<|t.emb a b q) (Bj hnd')]at hd
    obtain ⟨c,ds,q1,q2,q3⟩:=xE t hd c2
    obtain ⟨r1,r2⟩:=R'.touch (t:=s'.toks+us.length) K hsb'
    exact hQ _ H1 g' _ _ ds c hr r1 ((G1.trans G).transF r2 λa ha=>bz.mp ha▸bo _) (bo _) ⟨K.ap,q1⟩ q2 q3 hsm'
   exact fA y (one'<|qO Hs)<|one'<|tf Hs
 exact key' (h A l u acc0' loc0' g H _ v<|P.ext k1 sz1' O rfl) hr
end
end
section
def dictM(m:aj→Y af→R (Y<|V×V)):aj→Y af→R V:=λl H=>(m l H).bind λc H=>(pO c).elim .err λe=> .ok (.lbl H.length)<|H++ [.dict e]
def zE(a:Y<|P×V):d<|Y<|P×P:=dJ (λe=>(pv e.2).bind λv=>z (e.1,v)) a
def dictF(m:aj→Y af→R (Y<|V×V)):aj→Y af→R V:=λl H=>(m l H).bind λc H=>(pO c).elim .err λe=>(zE e).elim .err λq=> .ok (.p<|.dict q) H
theorem K2{W:Wd}{g:Gh}{c:Y<|P×V}{j:Y<|P×P}{k:Y fe}(h:zE c=z j)(i:fT W.tb g c k):ky W.tb g.F j k∧j.map (·.1)=c.map (·.1):=
 ⟨uP.mpr<|i.all h λe q u f G=>bw f λv i f=>aY f▸⟨G.1,G.2.1,qb i G.2.2⟩,xW (λa b e=>bw e λv _ e=>aY e▸O) h⟩
section
variable{W:Wd}{fi:FI}{n:M}
theorem SE.dictM(v:j_ W)(h:mJ W fi n i vs m)(C:i.all (·.isSome)=Q)(I:i.length=vs.length)(B:i≠ [])(hlen0':i.length≤15):
  SE W fi n (.Dict i vs pos0') (Mine.dictM m):=λA l y w loc g H s P r=>by
 refine BK (k:=λj H=> .ok (.lbl H.length)<|H++ [af.dict j]) v h C I B hlen0' P O r λj t f s' b x c e u U G K hv hn hsm'=> ?_
 have r1:=u.label (p:=(b,D)) (c:= .dict j) (λa o=>bz.mp o▸⟨K.ap,cI K.get⟩) (kF _ _) ⟨c,x,K.get,fT.mono (g:=f) (g':=⟨f.F,f.as++ [(b,D)]⟩) ⟨λ_ _ e=>e,[(b,D)],O⟩ hv,hn⟩
 exact⟨.lbl t.length,t++ [af.dict j],⟨f.F,f.as++ [(b,D)]⟩,e.symm,r1,⟨(b,D),rH u.len,O⟩,⟨U.ge.trans ⟨λ_ _ e=>e,[(b,D)],O⟩,U.only,U.frF,λa o=>(CK (g:=f) (p:=(b,D)) o).elim (U.frL a) λq=> .inr<|bz.mp q▸G,U.sz⟩⟩
theorem SE.dictF(r:j_ W){b:Y<|d aP}{vs:Y aP}{p:Pos}{m:aj→Y af→R (Y<|V×V)}(h:mJ W fi n b vs m)(C:b.all (·.isSome)=Q)(hl:b.length=vs.length)(G:b≠ [])(hlen0':b.length≤15):
  SE W fi n (.Dict b vs p) (Mine.dictF m):=λA l B v loc g H s P f=>by
 refine BK (k:=λi H=>(zE i).elim .err λq=> .ok (.p<|.dict q) H) r h C hl G hlen0' P O f λi o g' s' a y c e t U I K hv hn hsm'=>l7 e f λq u e=> ?_
 obtain ⟨w,x⟩:=K2 u hv
 obtain ⟨r1,j⟩:=t.freeze K.ap K.get
 exact⟨.p<|.dict q,o,_,e.symm,r1,⟨a,c,y,O,pV _ _ _,ky.mono j.F w,x▸hn,hsm'⟩,U.freeze j I⟩
noncomputable def dictE:aj→Y af→R V:=λ_ H=> .ok (.lbl H.length)<|H++ [.dict []]
theorem SE.dictE:SE W fi n (.Dict [] [] p) Mine.dictE:=λA l b a loc g H s P _=>by
 rw[eval_Dict_empty]
 obtain ⟨B,C⟩:=P.rep.addOne (c:= .dict []) (o:=cj #[] 0) O ⟨0,#[],d_ _ O,O,jg⟩
 exact am<|fc<|iw ⟨.lbl H.length,_,_,O,B,⟨(s.heap.objs.size,D),rH P.rep.len,O⟩,C _⟩
end
end
section
section
variable{prog:dX}{w:cH}{K:Type} [dI K]{knd:KeyKind prog w K}{A:a9}{E:T→au→Prop}{s:au}
theorem IL(h:knd.is k r=Q)(hm:s.heap.DictOf knd c i)(g:k∉i.map (·.1))
  (x: ∀l,l.DictOf knd c (i++ [(k,v)])→hU c s.heap l→f () {s with heap:=l})(q:i.length≤d7):ar (av prog w) A (dictPut c (knd.hash k) r v) f E s:=by
 obtain ⟨o,j,u,y,H,G,I,p,hn⟩:=hm
 have m:j.size≤d7:=Wn q p.length eU
 have U:(j.findIdx? λe=>knd.is k e.key)=D:=by
  have e:(j.findIdx? λe=>knd.is k e.key)=j.toList.findIdx? λe=>knd.is k e.key:=by cases j;simp
  rw[e,p.findIdx k,List.findIdx?_eq_none_iff]
  exact λkv n=>bu λe=>g<|cY.mpr ⟨kv,n,e⟩
 unfold dictPut
 refine am<|wpAny_dictFind_of h y G I ?_
 rw[U]
 refine wpAny_updateDictKeys (hz:=m) y G<|x _ ⟨_,_,u+1,mQ _ y<|Obj.isFreed_of_dict<|Obj.data_mapDictKeys G _,H.mapDictKeys _,Obj.data_mapDictKeys G _,I.push h _,?_,?_⟩<|jc ..
 ·rw[xh];exact p.append h (knd.hash k) v
 ·rw[fN,kG]
  exact⟨hn,kF _ _,λa B b C e=>g<|(e.trans (bz.mp C):a=k)▸B⟩
inductive MI(knd:KeyKind prog w K)(s:au)(d o:ay)(oo:Obj)(kvs more:Y (K×T))(n:M)(rest:Y M)(s':au):Prop
 |mk (h':bB) (i:M) (e:s'={s with heap:=h'}) (hr:rest=List.range' i (n-i)) (hi:i≤n) (hd:h'.DictOf knd d (kvs++more.take i)) (ho:h'.get? o=z oo) (hs:hU d s.heap h'):MI knd s d o oo kvs more n rest s'
theorem H8(hdo0':a≠o)(hoS':(o==eJ)=N)(hne':g≠ [])(hnd':((g++m).map (·.1)).Nodup)
  (hd:s.heap.DictOf knd a g)(ho:s.heap.DictOf knd o m)(hQ: ∀h',h'.DictOf knd a (g++m)→hU a s.heap h'→c () {s with heap:=h'})(hsz':g.length+m.length≤d7):
  ar (av prog w) A (mergeMapping a (.ref o) N) c E s:=by
 have hT:=ho.typeIs
 obtain ⟨od,esd',epd',hod',hcd',hdd',hkd',hpd',_⟩:=id hd
 obtain ⟨oo,f,epo',G,hco',j,hko',hpo',hno'⟩:=ho
 have hemp': ¬esd'.isEmpty=Q:=λq=>by
  have h0:=hpd'.length
  rw[Array.isEmpty_iff.mp q]at h0
  exact hne'<|List.length_eq_zero_iff.mp h0.symm
 have hlen0':m.length=f.size:=hpo'.length.symm.trans eU
 unfold mergeMapping
 refine am<|wpAny_isInstance hT isSubtype_dict_dict ?_
 refine gq O ?_
 refine am<|wpAny_specialOf hT F.slot_dict_iter.lookup<|am<|aA ?_
 dsimp only
 refine e_ (by rw[hoS'];exact jl) ?_
 refine am<|tO hod' hdd' ?_
 refine e_ hemp' ?_
 refine am<|tO G j<|am<|wpAny_dictEpoch G j ?_
 rw[List.range_eq_range']
 refine am<|wpAny_forIn_list _ (λB _ s'=>MI knd s a o oo g m f.size B s') _ (λx B b s' I=> ?_) (λb s' I=> ?_) (List.range' 0 f.size) PUnit.unit ⟨s.heap,0,O,O,dc _,(ft g).symm▸hd,G,Heap.SameBut.refl _ _⟩
 ·obtain ⟨h',i,rfl,H,hi,v,n,U⟩:=I
  cases h:f.size-i with
  |zero=>rw[h]at H;exact nomatch H
  |succ k=>
   rw[h,List.range'_succ]at H
   injection H with h1 h2;subst h1
   have l:x<f.size:=Nat.lt_of_sub_eq_succ h
   have hkv':m[x]? =z m[x]:=de<|hlen0'▸l
   obtain ⟨t,hval'⟩:=hpo'.get? (e:=f[x]) (by rw[mV,oa l]) hkv'
   obtain ⟨k',C,y⟩:=hko' f[x]<|Array.getElem_mem l
   obtain rfl:=knd.inj _ _ _ C t
   have r:m.take (x+1)=m.take x++ [m[x]]:=List.take_succ_eq_append_getElem<|hlen0'▸l
   have hmx':(g++m.take x).length≤d7:=by rw[bE];exact bF (Nat.add_le_add_left (List.length_take_le' _ _) _) hsz'
   refine am<|tO n j ?_
   rw[oa l]
   dsimp only
   rw[y,hval']
   refine am<|b0<|IL (q:=hmx') t v (λq=> ?_) λh''' hd''' u=> ?_
   ·rw[←wN (x+1) m,r,←cz,←cz,fN,fN,kG,kG]at hnd'
    exact hnd'.1.2.2 _ q _ (.head _) O
   ·have p:h'''.get? o=z oo:=(u.2 o hdo0'.symm).trans n
    refine am<|wpAny_dictEpoch p j ?_
    refine e_ (by simp) ?_
    exact aA ⟨h''',x+1,O,by rw[Nat.sub_succ,h];exact h2,l,by rw[r,←cz];exact hd''',p,U.trans u⟩
 ·obtain ⟨h',i,rfl,H,hi,v,n,U⟩:=I
  cases h:f.size-i with
  |succ k=>rw[h,List.range'_succ]at H;exact nomatch H
  |zero=>
   refine aA (hQ h' ?_ U)
   rwa [pB<|hlen0'▸Nat.le_of_sub_eq_zero h]at v
end
end
section
section
variable{prog:dX}{w:cH}{A:a9}{E:T→au→Prop}{s:au}
def GQ(prog:dX)(w:cH)(A:a9)(t:aX T)(a:Y M):Prop:=
 ∀(s:au) (b:T→au→Prop) (E:T→au→Prop),(∀f e,b (.str (cJ a) e) {s with toks:=f})→ar (av prog w) A t b E s
abbrev mr(prog:dX)(w:cH)(A:a9):Y (aX T×aX T)→Y (Y M×Y M)→Prop:=aV λp e=>GQ prog w A p.1 e.1∧GQ prog w A p.2 e.2
abbrev j9:Y (an×T)→Y (Y M×Y M)→Prop:=aV λy e=>y.1=cJ e.1∧ ∃t,y.2= .str (cJ e.2) t
theorem j9.keys(h:j9 a b):a.map (·.1)=(b.map (·.1)).map cJ:=by
 induction a generalizing b with
 |nil=>cases h;rfl
 |cons y a i=>
  obtain ⟨e,b,rfl,⟨c,_⟩,f⟩:=h
  rw[ee,i f,c];rfl
theorem KN(h:cJ a=cJ b):a=b:=by unfold cJ at h;injection h with h;simpa using h
theorem Ij{a:Y<|an×T}{k:an}{v:T}(h:k∉a.map (·.1)):stored a k v=a++ [(k,v)]:=by
 unfold stored
 refine az λq=> ?_
 obtain ⟨y,n,c⟩:=List.any_eq_true.mp q
 exact h<|cY.mpr ⟨y,n,fB c⟩
theorem Bz{k:Y<|Y M}(h:k.Nodup):(k.map cJ).Nodup:=List.Pairwise.map (S:=λa b=>a≠b) _ (λ_ _ p q=>p<|KN q) h
theorem Lp(h:mr prog w A f c)(k: ∀vs a g,Carries (jN prog w) vs a→j9 a c→b vs {s with toks:=g}):ar (av prog w) A (evalPairs f) b E s:=by
 induction f generalizing c s b with
 |nil=>cases h;exact evalPairs_nil<|k [] [] s.toks trivial rfl
 |cons p f q=>
  obtain ⟨e,c,rfl,⟨j,l⟩,n⟩:=h
  exact evalPairs_cons<|j s _ _ λg r=>l _ _ _ λu m=>q n λvs a t o I=>
   k ((.str (cJ e.1) r, .str (cJ e.2) m)::vs) ((cJ e.1, .str (cJ e.2) m)::a) t ⟨fD _,O,o⟩ ⟨e,c,O,⟨O,m,O⟩,I⟩
inductive GR(prog:dX)(w:cH)(A:a9)(s:au)(es:Y (Y M×Y M))(rest:Y (aX T×aX T))(s':au):Prop
 |mk (er ed:Y (Y M×Y M)) (h':bB) (tk:M) (kvs:Y (an×T)) (he:es=ed++er) (hp:mr prog w A rest er) (e:s'={s with heap:=h',toks:=tk}) (hd:h'.DictOf (jN prog w) s.heap.objs.size kvs) (hk:j9 kvs ed) (hs:hU s.heap.objs.size (s.heap.push (cj #[] 0)) h'):GR prog w A s es rest s'
theorem Bd{U:Y<|aX T×aX T}{i:Y<|Y M×Y M}(hp:mr prog w A U i)(hn:(i.map (·.1)).Nodup)(hl:i.length≤100){a:ay→au→Prop}
  (hQ: ∀h t c,h.DictOf (jN prog w) s.heap.objs.size c→j9 c i→(∀b o,s.heap.get? b=z o→h.get? b=z o)→s.heap.objs.size<h.objs.size→a s.heap.objs.size {s with heap:=h,toks:=t}):
  ar (av prog w) A (subDict U) a E s:=by
 have r:(s.heap.push<|cj #[] 0).DictOf (jN prog w) s.heap.objs.size []:=⟨_,#[],0,d_ _ O,⟨O,O,O⟩,O,λ_ hx=>(Array.not_mem_empty _ hx).elim, .nil,jg⟩
 have g:=Bz hn
 have sz1':s.heap.objs.size<(s.heap.push<|cj #[] 0).objs.size:=by rw[fM];exact fF _
 have fin: ∀{h t c},h.DictOf (jN prog w) s.heap.objs.size c→j9 c i→hU s.heap.objs.size (s.heap.push<|cj #[] 0) h→a s.heap.objs.size {s with heap:=h,toks:=t}:=λG f m=>
  hQ _ _ _ G f (λb o e=>m.extBut b o (iz<|cI e)<|cf _ e) (by rw[m.1];exact sz1')
 unfold subDict
 refine am<|wpAny_alloc<|am<|b0 ?_
 by_cases n:U.length≤15
 ·refine gq n ?_
  refine am<|Lp hp λvs c t hc f=>b0 ?_
  have y:([]:Y<|an×T).length+c.length≤d7:=by rw[lR,lN,f.length.symm];exact F7 hl O dB
  refine am<|wpAny_storeAll (knd:=jN prog w) vs c [] _ _ hc r y λh v hs'0'=>aA<|aA ?_
  rw[merged_nil_of_nodup _<|by rw[f.keys];exact g]at v
  exact fin v f hs'0'
 ·refine e_ n ?_
  refine am<|pe<|am<|wpAny_forIn_list _ (λB _ s'=>GR prog w A s i B s') _ (λp B b s' I=> ?_) (λb s' I=> ?_) U PUnit.unit ⟨i,[],_,s.toks,[],O,hp,O,r,O, .refl _ _⟩
  ·obtain ⟨H,ed,h,t,c,l,j,rfl,G,f,m⟩:=I
   obtain ⟨e,H,rfl,⟨h1,h2⟩,h3⟩:=j
   refine am<|h1 _ _ _ λtk1' t1=>am<|b0<|h2 _ _ _ λtk2' t2=>am<|b0 ?_
   have hlen0':c.length≤d7:=Wm hl f.length.symm (by rw[l,bE];exact hZ _ _) dB
   have hfr':cJ e.1∉c.map (·.1):=λq=>by
    rw[f.keys]at q
    rw[l,fN,fN,kG]at g
    exact g.2.2 _ q _ (.head _) O
   refine wpAny_dictSet_pairs (hsz:=hlen0') (k:=cJ e.1) (fD _) G λh''' hd''' x=> ?_
   rw[Ij hfr']at hd'''
   exact aA ⟨H,ed++ [e],h''',_,c++ [(cJ e.1, .str (cJ e.2) t2)],by rw[l,cz];rfl,h3,O,hd''',f.append ⟨e,[],O,⟨O,t2,O⟩,O⟩,m.trans x⟩
  ·obtain ⟨H,ed,h,t,c,l,j,rfl,G,f,m⟩:=I
   obtain rfl:H= []:=j
   rw[ft]at l
   subst l
   exact aA<|aA<|fin G f m
end
end
section
noncomputable def ow(run:Y<|aX T×aX T)(m:d ay):aX<|d ay:=do
 if run.isEmpty then return m
 match m with
 |none=>return some (←subDict run)
 |some k=>
  let sub←holding [.ref k] (subDict run)
  (holding [.ref k, .ref sub]<|mergeMapping k (.ref sub) N).onRaise λx=>do let _←holding [.ref k,x]<|runValue<|.builtin "proto.let_go" {}
  return some k
def oJ(c:Y<|aX T×aX T):d ay→Y (aX T×aX T)→aX (d ay×Y (aX T×aX T)):=
 eo (λa run=>pure (a,run)) (λp _ i a run=>if((run++ [p]).length==17)=Q then ow (run++ [p]) a>>=λm=>i m []else i a<|run++ [p]) c
theorem Jh(f:(d (aX T)×aX T)→(d ay×Y (aX T×aX T))→aX (ForInStep<|d ay×Y (aX T×aX T)))
  (k: ∀(p:aX T×aX T) (a:d ay) (run:Y<|aX T×aX T),f (z p.1,p.2) (a,run)=if(run++ [p]).length==17 then ow (run++ [p]) a>>=λm=>pure<|.yield (m,[])else pure<|.yield (a,run++ [p]))
  (G:Y<|aX T×aX T)(a:d ay)(run:Y<|aX T×aX T):forIn (G.map λp=>(z p.1,p.2)) (a,run) f=oJ G a run:=by
 induction G generalizing a run with
 |nil=>rfl
 |cons p B i=>
  rw[ee,List.forIn_cons,k]
  show _=if((run++ [p]).length==17)=Q then ow (run++ [p]) a>>=λm=>oJ B m []else oJ B a<|run++ [p]
  by_cases h:((run++ [p]).length==17)=Q
  ·rw[aw h,aw h,bind_assoc]
   exact aR _ (funext λm=>(pure_bind _ _).trans<|i m [])
  ·rw[az h,az h,pure_bind]
   exact i a _
theorem HY(c:Y<|aX T×aX T):dictDisplay (c.map λp=>(some p.1,p.2))=(oJ c none []>>=λst=>ow st.2 st.1>>=λm=>match m with
  |some k=>pure<|.ref k
  |none=>newDict):=by
 unfold dictDisplay
 dsimp only
 rw[Jh _ (λp a run=>by rfl) c none []]
 rfl
section
variable{prog:dX}{w:cH}{A:a9}{E:T→au→Prop}{s:au}
structure vX(prog:dX)(w:cH)(base:bB)(main:d ay)(h:bB)(done:Y (Y M×Y M)):Prop where
 old: ∀b o,base.get? b=z o→h.get? b=z o
 sz:base.objs.size≤h.objs.size
 got:main.elim (done= []) λD=>done≠ []∧base.objs.size≤D∧D<h.objs.size∧ ∃kvs,h.DictOf (jN prog w) D kvs∧j9 kvs done
theorem Oa{α β:Type}{b:α→β→Prop}{a:Y α}(h:aV b a []):a= []:=t9 h.length.symm
theorem Ci{g:bB}{f:d ay}{run:Y<|aX T×aX T}{h done:Y<|Y M×Y M}(hsm':eJ<g.objs.size)(B:mr prog w A run h)(hg:vX prog w g f s.heap done)(hn:((done++h).map (·.1)).Nodup)(hl:(done++h).length≤100){c:d ay→au→Prop}
  (hQ: ∀m j x,vX prog w g m j (done++h)→c m {s with heap:=j,toks:=x}):ar (av prog w) A (ow run f) c E s:=by
 obtain ⟨H,g2,U⟩:=hg
 have r:(h.map (·.1)).Nodup:=by rw[fN,kG]at hn;exact hn.2.1
 have n:h.length≤100:=by rw[bE]at hl;exact Wl hl
 unfold ow
 cases run with
 |nil=>
  obtain rfl:h= []:=B
  refine gq (show ([]:Y<|aX T×aX T).isEmpty=Q from rfl) ?_
  exact aA<|hQ f s.heap s.toks<|(ft done).symm▸⟨H,g2,U⟩
 |cons p run=>
  have l:h≠ []:=λq=>by subst q;exact nomatch Oa B
  refine e_ (show ¬(p::run).isEmpty=Q from jl) ?_
  cases f with
  |none=>
   obtain rfl:done= []:=U
   exact am<|Bd B r n λj x k hd I y t=>aA<|hQ _ j x ⟨λb o e=>y b o<|H b o e,bF g2<|fq t,l,g2,t,k,hd,I⟩
  |some a=>
   obtain ⟨d1,d2,d3,k,d4,G⟩:=U
   refine am<|b0<|Bd B r n λj x i hd I y t=>am<|wpAny_onRaise<|b0 ?_
   have hD'':j.DictOf (jN prog w) a k:=by
    obtain ⟨o,es,ep,q1,q2⟩:=d4
    exact⟨o,es,ep,y a o q1,q2⟩
   have hss':(s.heap.objs.size==eJ)=N:=cL.mpr<|jQ<|je hsm' g2
   have C:j9 (k++i)<|done++h:=G.append I
   have v:k.length+i.length≤d7:=Wk (bE▸hl) G.length.symm I.length.symm dB
   refine H8 (knd:=jN prog w) (hsz':=v) (iz d3) hss' (λq=>by subst q;exact d1 G) (by rw[C.keys];exact Bz hn) hD'' hd λh''' hm u=>aA<|hQ _ h''' x ⟨λb o e=> ?_,?_,λq=>d1 (List.append_eq_nil_iff.mp q).1,d2,?_,_,hm,C⟩
   ·exact u.extBut b o (λq=>absurd (cI e)<|dz.mpr<|q▸d2)<|y b o<|H b o e
   ·rw[u.1];exact bF g2<|fq t
   ·rw[u.1];exact Nat.lt_trans d3 t
theorem L6{f:bB}(hsm':eJ<f.objs.size){l:Y<|aX T×aX T}{k:Y<|Y M×Y M}{a:d ay}{run:Y<|aX T×aX T}{i done all:Y<|Y M×Y M}{s:au}{b:d ay×Y (aX T×aX T)→au→Prop}
  (hp:mr prog w A l k)(hr:mr prog w A run i)(B:vX prog w f a s.heap done)(he:done++i++k=all)(hn:(all.map (·.1)).Nodup)(hl:all.length≤100)
  (y: ∀m h n g v tk,vX prog w f m v g→mr prog w A h n→g++n=all→b (m,h) {s with heap:=v,toks:=tk}):ar (av prog w) A (oJ l a run) b E s:=by
 induction l generalizing k a run i done s with
 |nil=>
  obtain rfl:k= []:=hp
  exact aA<|y a run i done s.heap s.toks B hr<|(ft _).symm.trans he
 |cons p l ih=>
  obtain ⟨e,k,rfl,h1,h3⟩:=hp
  have o:mr prog w A (run++ [p])<|i++ [e]:=hr.append ⟨e,[],O,h1,O⟩
  have t:done++(i++ [e])++k=all:=by rw[←he,cz,cz,cz];rfl
  show ar _ A (if((run++ [p]).length==17)=Q then ow (run++ [p]) a>>=λm=>oJ l m []else oJ l a<|run++ [p]) _ _ _
  by_cases q:((run++ [p]).length==17)=Q
  ·refine gq q ?_
   refine am (Ci hsm' o B ?_ ?_ λm v tk C=>ih h3 (i:= []) O C (by rw[ft];exact t) λG r j c x u H I U=>y G r j c x u H I U)
   ·rw[←t,fN,kG]at hn;exact hn.1
   ·rw[←t,bE]at hl;exact Wj hl
  ·refine e_ q ?_
   exact ih h3 o B t λG r j c x u H I U=>y G r j c x u H I U
end
inductive mK:Y (d aP)→Y aP→Y (Y M×Y M)→Prop
 |nil:mK [] [] []
 |cons {a b u p u2 p2 ks vs es}:mK ks vs es→mK (z (.Constant (.str (cJ a)) u p)::ks) (.Constant (.str (cJ b)) u2 p2::vs) ((a,b)::es)
theorem mK.say{p:dX}{w:cH}{A:a9}{e:bj}{a:Pos}{k:Y<|d aP}{vs:Y aP}{c:Y<|Y M×Y M}(h:mK k vs c):mr p w A (pairTrees k vs e a) c:=by
 induction h with
 |nil=>exact O
 |cons _ i=>exact⟨_,_,O,⟨λs b E q=>qX<|q _ _,λs b E q=>am<|qX<|am<|fc<|aA<|q _ _⟩,i⟩
theorem mK.shape{k:Y<|d aP}{vs:Y aP}{e:Y<|Y M×Y M}(h:mK k vs e):k.all (·.isSome)=Q∧k.length=vs.length:=by
 induction h with
 |nil=>exact⟨O,O⟩
 |cons _ i=>exact⟨i.1,aR (· +1) i.2⟩
theorem aV.comap{α β γ:Type}{b:β→γ→Prop}{f:α→β}{c:Y α}{e:Y γ}(h:aV b (c.map f) e):aV (λa u=>b (f a) u) c e:=by
 induction c generalizing e with
 |nil=>exact h
 |cons a c k=>obtain ⟨u,g,rfl,i,j⟩:=h;exact⟨u,g,O,i,k j⟩
noncomputable def sB(a:Y<|Y M×Y M):Y<|P×P:=a.map λe=>(.str e.1, .str e.2)
theorem j9.kv{W:Wd}{g:Gh}{a:Y<|an×T}{b:Y<|Y M×Y M}(h:j9 a b):KV W lu cJ g ((sB b).map λe=>(e.1,V.p e.2)) a:=by
 induction a generalizing b with
 |nil=>cases h;rfl
 |cons kv a j=>
  obtain ⟨e,b,rfl,⟨c,f⟩,i⟩:=h
  exact⟨kv,a,O,⟨⟨e.1,O,c⟩,f⟩,j i⟩
section
variable{W:Wd}{fi:FI}{n:M}
theorem SE.dictLong(I:j_ W){t:Y<|d aP}{vs:Y aP}{p:Pos}{j:Y<|Y M×Y M}(h:mK t vs j)(x:(j.map (·.1)).Nodup)(v:j.length≤100)(r:j≠ []):
  SE W fi n (.Dict t vs p) (λ_ H=> .ok (.p<|.dict<|sB j) H):=λA l k U loc g H s P=>by
 obtain ⟨h1,h2⟩:=h.shape
 rw[arm_eval_Dict,zip_pairTrees t vs k p h1 h2,HY]
 have hsm':eJ<s.heap.objs.size:=by
  obtain ⟨o,ho⟩:=Option.ne_none_iff_exists'.mp W.sm
  exact cI<|P.rep.st _ _ ho
 refine Cl.stand<|Cl.made P.rep λb E q=>am<|L6 (f:=s.heap) (i:= []) (done:= []) hsm' h.say O ⟨λ_ _ e=>e,bo _,O⟩ O x v λm run er done h' tk hg hr he=> ?_
 subst he
 refine am<|Ci (g:=s.heap) hsm' hr hg x v λm' w u C=> ?_
 obtain ⟨q1,q2,G⟩:=C
 cases m' with
 |none=>exact absurd G r
 |some a=>
  obtain ⟨_,B,d2,kvs0',d3,d4⟩:=G
  obtain ⟨c,ds,o1,o2,y⟩:=xE (qO I) d3<|j9.kv (W:=W) (g:=g) d4
  refine aA<|q w u a _ q1 B o1 λg' ge hF=>⟨a,c,ds,O,hF,ky.mono ge.F<|uP.mpr<|aV.comap (f:=λe:Mine.P×Mine.P=>(e.1,V.p e.2)) o2,?_,cL.mpr<|jQ<|je hsm' B⟩
  rw[eu]at y;exact y
end
end
section
open PySem.W.FB
theorem A1:Slot "bytes" "find" "bytes.find":=
 .of (owner:="bytes") (n:="find") (by rw[typeLookup_type,builtinLookup_eq_fast];kernel_rfl) (by decide+kernel) (by decide+kernel) (by decide+kernel)
  (by first|exact .inl (by decide+kernel)|exact .inr (by decide+kernel)) (by rw[isSubtype_type];kernel_rfl)
theorem HX:entryFor table "bytes.find"=z hV.«bytes.find»:=entryFor_of_tree<|by kernel_rfl
theorem HU(a b c:T):argsOk "bytes.find" ⟨[a,b,c],[]⟩:=by
 unfold argsOk;rw[signature?_of (id:="bytes.find") (n:= ['d','n','i','f']) (o:= ['s','e','t','y','b']) (by kernel_rfl) owner_bytes];kernel_rfl
theorem AZ:Slot "bytes" "join" "bytes.join":=
 .of (owner:="bytes") (n:="join") (by rw[typeLookup_type,builtinLookup_eq_fast];kernel_rfl) (by decide+kernel) (by decide+kernel) (by decide+kernel)
  (by first|exact .inl (by decide+kernel)|exact .inr (by decide+kernel)) (by rw[isSubtype_type];kernel_rfl)
theorem HW:entryFor table "bytes.join"=z hV.«bytes.join»:=entryFor_of_tree<|by kernel_rfl
theorem HT(a b:T):argsOk "bytes.join" ⟨[a,b],[]⟩:=by
 unfold argsOk;rw[signature?_of (id:="bytes.join") (n:= ['n','i','o','j']) (o:= ['s','e','t','y','b']) (by kernel_rfl) owner_bytes];kernel_rfl
noncomputable def qg(b c:aQ da)(i:J):J:=
 match (if(lM b.size (some i) none).2-(lM b.size (some i) none).1<c.size then none else some ((lM b.size (some i) none).1.toNat,(lM b.size (some i) none).2.toNat)).bind λ(lo,a)=>tT b c lo a with
 |some j=>j
 |none=> -1
theorem Jp:Meets (hV.«bytes.find» ⟨[.bytes b t, .bytes c u, .int i v],[]⟩) λA R s=>R (.ok<|.ret<|.int (qg b c i) s.toks) {s with toks:=s.toks+1}:=by
 refine .of_wp λp w A R s h=> ?_
 show ar _ _ (Builtin.Bytes.searchArgs .bytes "find" ⟨[.bytes b t, .bytes c u, .int i v],[]⟩>>=_) _ _ s
 unfold Builtin.Bytes.searchArgs
 refine am ?_
 refine am<|wpAny_of_eq (a:=(Value.bytes b t,[Value.bytes c u,po i v])) O ?_
 show ar _ _ (AT (some<|.int i v)>>=_) _ _ s
 have k: ∀(e:d J→au→Prop) E s,e (some i) s→ar (av p w) A.in1 (AT<|some<|.int i v) e E s:=by
  intro e E s q
  unfold AT
  refine am<|wpAny_specialOf (typeIs_int s i v) F.slot_int_index.lookup ?_
  show ar _ _ (do return some (←asIndex<|.int i v)) _ _ s
  exact am<|wpAny_of_eq (a:=i) O<|aA q
 refine am<|k _ _ _ ?_
 refine am<|aA ?_
 show ar _ _ (Builtin.Bytes.buffer? _ (.bytes c u)>>=_) _ _ s
 rw[KBy.buffer_eq]
 refine am<|aA ?_
 refine am<|aA ?_
 refine am<|aA ?_
 refine aA ?_
 show ar _ _ (match (if(lM b.size (some i) none).2-(lM b.size (some i) none).1<c.size then none else some ((lM b.size (some i) none).1.toNat,(lM b.size (some i) none).2.toNat)).bind λ(lo,l)=>tT b c lo l with
  |some j=>retInt j
  |none=>(do rule s!"{Builtin.Bytes.Kind.bytes.name}.{"find"}.not-found";retInt (-1))) _ _ s
 unfold qg at h
 split
 ·rename_i j f
  rw[f]at h
  exact am<|wpAny_mkInt<|aA ⟨_,O,h⟩
 ·rename_i f
  rw[f]at h
  exact am<|pe<|am<|wpAny_mkInt<|aA ⟨_,O,h⟩
noncomputable def ck(b:Y M):aQ da:=⟨b.map dw⟩
def GO{β:Type}(f:V→V→V→Y af→R β)(vs:Y V)(H:Y af):R β:=vs.casesOn .err λx r=>mq (f x) r H
theorem FW.a3(h: ∀A l g H s x y a u v w,dK W n A l g s→aN W g H s→VR W.tb g x u→VR W.tb g y v→VR W.tb g a w→Cl W A l [] g s (co f [u,v,w] []) (m x y a H) (VR W.tb)):FW W n f<|GO m:=λA l g H s vs b S R k=>by
 cases vs with
 |nil=>exact Cl.err
 |cons x r=>
 cases r with
 |nil=>exact Cl.err
 |cons y r=>
 obtain ⟨u,o,rfl,c,v,p,rfl,e,i⟩:=k
 exact uO (λb r=>Cl W A l [] g s (co f (u::v::b) []) r<|VR W.tb) i (λ_=>Cl.err) λa w j=>h A l g H s x y a u v w S R c e j
def zw:Y V→Y af→R V:=GO λx y a H=>(i5 x).elim .err λb=>(i5 y).elim .err λc=>(dE a).elim .err λi=> .ok (.p<|.int<|qg (ck b) (ck c) i) H
theorem Ma:FW W n (.builtin "bytes.find") zw:=FW.a3 λA l g H s x y e u v w S R m o p=>Cl.opt λb h=>Cl.opt λc j=>Cl.I (t:=λw=>co _ [u,v,w]) p λi f=>
 g8 (G:=λu=>Cl W A l [] g s (co _ [u,v, .int i f]) _ _) m h λ_ q=>g8 (G:=λv=>Cl W A l [] g s (co _ [_,v, .int i f]) _ _) o j λ_ r=>
  Cl.val R λa E k=>nY A1 (mO _ _ _) HX (HU _ _ _) Jp<|k _ _ ⟨_,O⟩
end
section
open Builtin
section
variable{prog:dX}{w:cH}{A:a9}{E:T→au→Prop}{s:au}
theorem Iv{b:aQ da}{t:Tok}{id:i9}:Bytes.takeBuffer? id (.bytes b t) 0=pure (z (b,D)):=by
 delta Bytes.takeBuffer?
 rw[KBy.special_eq KBy.look_buffer]
 show (Bytes.slotIsOwn _ _>>=_)=_
 rw[KBy.own_buffer]
 show (Bytes.buffer? id (.bytes b t) (0==Bytes.fullReadOnly)>>=_)=_
 rw[show (0==Bytes.fullReadOnly)=N from rfl,KBy.buffer_eq]
 rfl
abbrev Di:Y T→Y (aQ da)→Prop:=aV λv b=> ∃t,v= .bytes b t
theorem I_(q:b () s):ar (av prog w) A (letGo vs keep') b E s:=by
 induction vs with
 |nil=>exact aA q
 |cons _ vs i=>
  unfold letGo
  exact am<|b0<|wpAny_point i
theorem Ia(h: ∀p∈t,p.2=D)(q:b () s):ar (av prog w) A (Bytes.joinLetGo t keep') b E s:=by
 induction t with
 |nil=>unfold Bytes.joinLetGo;exact aA q
 |cons p B i=>
  unfold Bytes.joinLetGo
  have e:=h p<|.head _
  obtain ⟨x,o⟩:=p
  obtain rfl:o=D:=e
  exact am<|I_<|i λp a=>h p<|.tail _ a
end
end
section
open Builtin
theorem Jc(c:Y<|aQ da)(k:M)(a:aQ da):(c.zipIdx k).foldl (λo (p,i)=>(if i>0 then o++(#[]:aQ da)else o)++p) a=c.foldl (· ++ ·) a:=by
 induction c generalizing k a with
 |nil=>rfl
 |cons b c f=>
  have e:((if k>0 then a++(#[]:aQ da)else a)++b)=a++b:=by rw[Array.append_empty,ite_self]
  rw[List.zipIdx_cons,n5,n5,←f (k+1)<|a++b,←e]
theorem Jy(e:Y<|aQ da)(n:M):e.foldl (λn b=>n+b.size) n=n+(e.map (·.size)).sum:=by
 induction e generalizing n with
 |nil=>rfl
 |cons b e i=>rw[n5,i,ee,List.sum_cons,rk]
theorem Ji(e:Y<|aQ da)(a:aQ da):(e.foldl (· ++ ·) a).size=a.size+(e.map (·.size)).sum:=by
 induction e generalizing a with
 |nil=>rfl
 |cons b e i=>rw[n5,i,Array.size_append,ee,List.sum_cons,rk]
theorem Jx{g:dX}{w:cH}{A:a9}{E:T→au→Prop}{s:au}{j:Y<|aQ da}{f:M→(aQ (aQ da)×Y (T×d T))→aX (ForInStep<|aQ (aQ da)×Y (T×d T))}{a:aQ (aQ da)×Y (T×d T)→au→Prop}
  (r: ∀(i:M) (b:aQ da),j[i]? =z b→ ∀(c:aQ<|aQ da) (t:Y<|T×d T),(t.any λx=>x.1.onHeap)=N→ ∃u,∀{a:ForInStep (aQ (aQ da)×Y (T×d T))→au→Prop},a (.yield (c.push b,t++ [(.bytes b u,D)])) s→ar (av g w) A (f i (c,t)) a E s)
  (n: ∀t:Y (T×d T),(∀p∈t,p.2=D)→a (j.toArray,t) s):ar (av g w) A (forIn (List.range' 0 j.length) (#[],[]) f) a E s:=by
 have m: ∀{done B:Y<|aQ da} {t:Y<|T×d T},done++B=j→(∀p∈t,p.2=D∧p.1.onHeap=N)→ar (av g w) A (forIn (List.range' done.length B.length) (done.toArray,t) f) a E s:=λ{done B} t e l=>by
  induction B generalizing done t with
  |nil=>
   obtain rfl:done=j:=(ft done).symm.trans e
   exact aA<|n t λp k=>(l p k).1
  |cons b B y=>
   have o:j[done.length]? =z b:=by rw[←e,wZ<|bo _,Nat.sub_self];rfl
   obtain ⟨u,v⟩:=r done.length b o done.toArray t (List.any_eq_false.mpr λp k=>by rw[(l p k).2];exact jl)
   rw[fX,List.range'_succ,List.forIn_cons]
   refine am<|v ?_
   have:=y (done:=done++ [b]) (t:=t++ [(.bytes b u,D)]) (by rw[cz];exact e) λp k=>(gw.mp k).elim (l p) λq=>bz.mp q▸⟨O,O⟩
   rw[bE]at this
   rw[List.push_toArray]
   exact this
 exact m (done:= []) O λ_ h=>(lP h).elim
theorem IY{p:dX}{w:cH}{A:a9}{E:T→au→Prop}{s:au}{b:aQ da}{u:Tok}{id:i9}{a:d (aQ da×d T)→au→Prop}(q:a (z (b,D)) s):ar (av p w) A (Bytes.takeBufferQuiet? id (.bytes b u) 0) a E s:=by
 unfold Bytes.takeBufferQuiet?
 rw[Iv]
 exact am<|wpAny_attempt<|aA<|aA q
theorem Ko{α:Type}{c:Model}{A:a9}{s:au}{e:α→au→Prop}{E:T→au→Prop}{a:T→aX α}{b:aX α}(f:aQ T):(∀x,f= #[x]→ar c A (a x) e E s)→ar c A b e E s→ar c A (match f with| #[x]=>a x|_=>b) e E s:=
 match f with
 |⟨[]⟩=>λ_ h=>h
 |⟨[x]⟩=>λh _=>h x O
 |⟨_::_::_⟩=>λ_ h=>h
theorem Jo{t:Tok}{l:ay}:Meets (hV.«bytes.join» ⟨[.bytes #[] t, .ref l],[]⟩) (λA R s=> ∃G n c,s.heap.get? l=z (ci G n)∧Di G.toList c∧(c.map (·.size)).sum≤1000000∧ ∀tk t',R (.ok (.ret (.bytes (c.foldl (· ++ ·) #[]) t'))) {s with toks:=tk}):=by
 refine .of_wp λB w A R s I=> ?_
 obtain ⟨G,n,c,y,o,p,h⟩:=I
 show ar _ _ (Bytes.joinM .bytes ⟨[.bytes #[] t, .ref l],[]⟩) _ _ s
 unfold Bytes.joinM
 refine am<|wpAny_of_eq (a:=(Value.bytes #[] t,eP l)) O ?_
 dsimp only
 refine gq (by rfl) ?_
 refine am ?_
 unfold Bytes.joinItems
 refine am<|pd (T:="list") ⟨_,y,O⟩ ?_
 refine gq (by rfl) ?_
 refine aA ?_
 refine am<|tJ y O ?_
 dsimp only
 refine gq (by rfl) ?_
 refine Ko G (λx e=> ?_) ?_
 ·subst e
  obtain ⟨b,H,rfl,⟨u,rfl⟩,rfl⟩:=o
  refine am<|pd (mO _ _ _) ?_
  refine gq (by rfl) ?_
  refine am<|pe<|aA ⟨_,O,?_⟩
  have:=h s.toks u
  exact(by simpa using this:R (Except.ok<|Flow.ret<|Value.bytes b u) s)
 refine am ?_
 have g:c.length=G.size:=o.length.trans eU
 rw[Std.Legacy.Range.forIn_eq_forIn_range']
 have hr:Std.Legacy.Range.size [:G.size]=G.size:=by simp[Std.Legacy.Range.size]
 rw[hr,←g]
 refine Jx (λi b v r j k=> ?_) λj ht=> ?_
 ·have m:i<G.size:=g▸(dH.mp v).1
  obtain ⟨b',q0,⟨u,q3⟩⟩:=o.at<|mV.trans<|oa m
  obtain rfl:=aY<|v.symm.trans q0
  have hx:G.getD i .none= .bytes b u:=by
   rw[ud,oa m,q3];rfl
  refine⟨u,λq=>am<|tJ y O ?_⟩
  dsimp only
  rw[az (by rw[k];exact jl),hx]
  refine am<|b0<|IY<|am<|tJ y O ?_
  dsimp only
  refine e_ (by rw[g];simp) ?_
  exact aA q
 ·dsimp only
  refine am<|wpAny_of_eq (a:=(#[]:aQ da)) O ?_
  have hs:(c.toArray.foldl (λx1 x2=>x1+x2.size)<|(#[]:aQ da).size*(c.toArray.size-1))=(c.map (·.size)).sum:=by
   rw[List.foldl_toArray]
   simp[Jy]
  refine e_ (by rw[hs,KBy.tooLong_not<|oF p];exact jl) ?_
  have U:Bytes.joined #[] c.toArray.toList=c.foldl (· ++ ·) #[]:=Jc c 0 #[]
  rw[U]
  exact am<|wpAny_mkBytes (am<|b0<|wpAny_point<|am<|Ia ht<|aA ⟨_,O,h _ _⟩)<|by rw[Ji];simp;exact Wi p dB
def uN(c:Y P):d<|Y<|Y M:=dJ vH c
theorem Jq(h:uN f=z e)(g:be v F f i):Di i (e.map ck)∧ ∀n∈e.flatten,n<256:=by
 induction f generalizing e i with
 |nil=>cases g;cases h;exact⟨O,λ_ h=>(lP h).elim⟩
 |cons p f s=>
  obtain ⟨u,w,rfl,m,o⟩:=g
  refine bw h λb j h=>bw h λl k h=> ?_
  obtain rfl:=aY h
  obtain ⟨q,t,rfl⟩:PR v F (.bytes b) u:=xV j▸m
  obtain ⟨a,c⟩:=s k o
  exact⟨⟨ck b,_,O,⟨t,O⟩,a⟩,λn r=>(gw.mp r).elim (q n)<|c n⟩
theorem IT(c:Y<|Y M)(a:Y M):(c.map ck).foldl (· ++ ·) (ck a)=ck (a++c.flatten):=by
 induction c generalizing a with
 |nil=>rw[List.flatten_nil,ft];rfl
 |cons b c i=>
  have e:ck a++ck b=ck (a++b):=BN a b
  rw[ee,n5,e,i,t6,cz]
theorem IS(e:Y<|Y M):((e.map ck).map (·.size)).sum=e.flatten.length:=by
 induction e with
 |nil=>rfl
 |cons b e i=>
  rw[ee,ee,List.sum_cons,i,t6,bE]
  exact aR (· +_)<|lS b
def yE:Y V→Y af→R V:=mq λx y H=>(i5 x).elim .err λi=>if i= []then(df y H).elim .err λc=>(uN c).elim .err λe=>if e.flatten.length≤1000000 then .ok (.p<|.bytes e.flatten) H else .err else .err
theorem Kz:FW W n (.builtin "bytes.join") yE:=FW.a2 λA l g H s x y u v S R w B=>Cl.opt λi o=>Cl.gd λq=>Cl.opt λps p=>Cl.opt λe h=>Cl.gd λr=>by
 subst q
 refine g8 (G:=λu=>Cl W A l [] g s (co _ [u,v] []) _ _) w o λ_ t=> ?_
 obtain ⟨a,m,xs,rfl,C,I⟩:=eE p R B
 obtain ⟨f,j⟩:=Jq h I
 exact Cl.val R λb E k=>nY AZ (mO _ _ _) HW (HT _ _) Jo ⟨xs,m,e.map ck,C,f,by rw[IS];exact r,λU c=>k _ U ⟨j,c,aR (Value.bytes · c)<|IT e []⟩⟩
end
section
structure GP(W:Wd)(C:ay)(name:an)(f:ay):Prop where
 g:specialIn W.K (.ref C) "__getattribute__"=z (z (.builtin "type.__getattribute__"))
 r: ∃mc p obj rest,readsIn W.K C mc=Q∧findCls W.K (.ref C) mc name=z (.get (.builtin "staticmethod.__get__") (.ref p) obj (.ref C))∧recIn W.K p "staticmethod"=z (.ref f::rest)
 h:handedIn (.ref f)=Q
section
variable{W:Wd}{fi:FI}{n:M}
theorem SE.smeth(a:dD W)(hg:GN W x<|.ref C)(hx:fi.scope.names.lookup x=z .globalImplicit)(r:GP W C name f)(hk:gE W<|.ref f)
  (hm:FW W n (.ref f) m)(B:dW W fi n w as)(hd:(x==("__debug__":an))=N)(hl:w.length<30)(hp:(i.endLine==j.line)=Q):
  SE W fi n (.Call (.Attribute (.Name x p) name i) w [] j) (ao m as):=λA l b h loc g H s P=>by
 obtain ⟨pl,e⟩:=xD (o:= .Name x p) (b:=b) (name:=name) (by intro _ _ _;rfl) B.ns hl hp
 rw[e]
 refine Cl.skip (u:= .ref C) (λc E q=>li a hg P hx hd q)<|Cl.stand λk=> ?_
 have X:W.K.In s.heap:=a.kin.keeps P.rep.st
 obtain ⟨mc,pp,obj',U,r1,r2,r3⟩:=r.r
 have v:bD W fi n A l b h loc g H {s with toks:=s.toks+1}:=P.grow (aL.toks _)<|P.rep.toks _
 refine am<|b0<|method_cls X r.g<|cls_bind X r1 r2<|pg<|sm_get (s:={s with toks:=s.toks+1}) X r3<|handed_on r.h ?_
 exact(CW (i:=j) (first:= []) hk (B.cl A l b h loc g H _ v) λvs H' g' us s' y hv G=>hm A l g' H' s' vs us (v.grow G y).sit y hv).later (aL.toks _) k
end
end
section
section
variable{prog:dX}{w:cH}{A:a9}{E:T→au→Prop}{h:bB}{g:aQ GenState}{ax':Drawn}{t:M}{os:jb}
variable{nm q:an}{C az':ay}{bs bm:Y T}{hdct:ak}{sn:Y an}{sub:Y T}{ab:ak}{col:d ak}{dd:d ay}{k0 k1 k2 k3 k5:d T}{Bn newId inN:i9}{bmN:Y T}
theorem Jn(e:ExcBaseFacts Bn newId inN bmN)(f:bm.contains (.type Bn)=Q)(H:h.get? C=z (excClassObj nm q C az' bs bm hdct sn sub ab col dd k0 k1 k2 k3 k5 newId))
  (k:b () ⟨h,g,ax',t,os⟩):ar a A (checkBuiltinCall newId ⟨.ref C::B,[]⟩) b E ⟨h,g,ax',t,os⟩:=by
 have c:(eP C::bm).contains (.type Bn)=Q:=by rw[n6,f,Bool.or_true]
 have i:=e.noStar
 delta checkBuiltinCall
 rw[e.newKind,e.newSplit,e.newRow]
 dsimp only
 repeat (first|refine pf H ?_|(refine wG H ?_;rw[c])|refine wpAny_staticBase_exc H ?_|refine wpAny_madeBy_exc H ?_|refine e_ (by first|exact jl|(rw[bne_self_eq_false];exact jl)) ?_|wp_step)
 exact k
theorem KJ{R:Result→au→Prop}(e:ExcBaseFacts Bn newId inN bmN)(f:bm.contains (.type Bn)=Q)(n:bm.contains (.type "AttributeError")=N)(o:bm.contains (.type "NameError")=N){B:Y T}(H:h.get? C=z (excClassObj nm q C az' bs bm hdct sn sub ab col dd k0 k1 k2 k3 k5 newId))
  (r:R (.ok<|.ret<|.ref<|h.objs.size+1) ⟨(h.push {cls:= .type "tuple",data:= .seq B.toArray}).push
   {cls:= .ref C,data:= .fields #[.ref h.objs.size, .none, .none, .none, .bool N, .none]},g,ax',t,os⟩)(m:B.length≤d7):
  i_ (av prog w) A (.builtin newId ⟨.ref C::B,[]⟩) R ⟨h,g,ax',t,os⟩:=by
 have l:=e.ends
 have j:(eP C::bm).contains (.type Bn)=Q:=by rw[n6,f,Bool.or_true]
 have i:(eP C::bm).contains (.type "AttributeError")=N:=by rw[n6,n];rfl
 have k:(eP C::bm).contains (.type "NameError")=N:=by rw[n6,o];rfl
 refine codeAny_builtinAt e.entry ?_
 unfold hV.«BaseException.__new__»
 refine PySem.wpAt_bind ?_
 show PySem.wpAt _ _ _ (stack>>=_) _ _ _
 refine PySem.wpAt_bind (PySem.wpAt_stack λp b=>PySem.wpAt_of_wpAny ?_)
 wp_walk
 refine PySem.wpAt_of_wpAny ?_
 rw[e.owner]
 repeat (first|with_reducible refine wpAny_madeHere_exc e.canon H ?_|with_reducible refine pf H ?_|(with_reducible refine wG H ?_;first|rewrite [j]|rewrite [i]|rewrite [k])|wp_step)
 show R _ _
 rw[fM]
 exact r
theorem IW(s:ExcBaseFacts Bn newId inN bmN)(n:bm.contains (.type Bn)=Q)(U:bm.contains (.type "AttributeError")=N)(hN:bm.contains (.type "NameError")=N)
  (H:h.get? C=z (excClassObj nm q C az' bs bm hdct sn sub ab col dd k0 k1 k2 k3 k5 newId))(hL: ∀l,(∀b o,h.get? b=z o→l.get? b=z o)→ ∀c:Model,Looks c l (typeLookup (.ref C) "__init__")<|z<|.ref I)
  (y:h.get? I=z oI)(G:oI.cls= .type "function")
  (hq: ∀l e,Heap.MadeExcOf h l e (.ref C) B→e=h.objs.size+1→l.objs.size=h.objs.size+2→
   ar (av prog w) A (co (.ref I)<|.ref e::B) (λr s'=>r= .none∧f (.done<|.ret<|.ref e) s') E ⟨l,g,ax',t,os⟩)(m:B.length≤d7):
  ar (av prog w) A (hV.«type.__call__» ⟨.ref C::B,[]⟩) f E ⟨h,g,ax',t,os⟩:=by
 repeat (first|with_reducible refine pf H ?_|with_reducible refine wpAny_madeBy_exc H ?_|wp_step)
 refine codeAny_call_builtin_code (Code.quiet_builtin _ s.quiet)<|Jn s n H ?_
 refine KJ s n U hN H ?_ m
 show ar _ _ _ _ _ _
 have u:=cf {cls:= .ref C,data:= .fields #[.ref h.objs.size, .none, .none, .none, .bool N, .none]}
  (cf {cls:= .type "tuple",data:= .seq B.toArray} H)
 have p:=cf {cls:= .ref C,data:= .fields #[.ref h.objs.size, .none, .none, .none, .bool N, .none]}
  (cf {cls:= .type "tuple",data:= .seq B.toArray} y)
 have k:((h.push {cls:= .type "tuple",data:= .seq B.toArray}).push
   {cls:= .ref C,data:= .fields #[.ref h.objs.size, .none, .none, .none, .bool N, .none]}).get? (h.objs.size+1)=z
   {cls:= .ref C,data:= .fields #[.ref h.objs.size, .none, .none, .none, .bool N, .none]}:=by heap_get
 have v:(eP C::bm).contains (.ref C)=Q:=by simp
 unfold isInstance
 repeat (first|with_reducible refine pf k ?_|(with_reducible refine wG u ?_;rw[v])|wp_step)
 show ar _ _ (typeLookup (.ref C) _) _ _ _
 refine(hL _ (λb o e=>cf _<|cf _ e) _).at ?_
 refine b0<|am ?_
 unfold bindSpecial
 refine am<|pd (T:="function") ⟨_,p,G⟩ ?_
 refine gq (by decide) ?_
 refine aA (am<|bq (hq _ (h.objs.size+1) ⟨λb o hb=>cf _<|cf _ hb,Heap.get?_none_of_le<|eR _,h.objs.size,k,Heap.get?_none_of_le<|bo _,?_⟩ O<|by rw[fM,fM]) (λr s' hr=> ?_) λ_ _ x=>x)
 ·exact cf _<|Heap.get?_push_at O rfl
 ·obtain ⟨rfl,hQ⟩:=hr
  wp_walk
  exact hQ
end
end
section
structure z6(W:Wd):Prop where
 dict:hasDictIn W.K (W.tb.cls 0)=Q
 ga:d8 W.K (.ref (W.tb.cls 0)) "__getattribute__"=z (z (.builtin "BaseException.__getattribute__"))
 gat:d8 W.K (.ref (W.tb.cls 0)) "__getattr__"=z D
 sa:d8 W.K (.ref (W.tb.cls 0)) "__setattr__"=z (z (.builtin "object.__setattr__"))
 mro: ∃cd A B,clsIn W.K (W.tb.cls 0)=z cd∧cd.mro= [.ref A, .ref B, .type "Exception", .type "BaseException", .type "object"]
 told:d8 W.K (.ref (W.tb.cls 0)) (W.tb.at_ 0)=z D
section
open Builtin Builtin.ObjectAttr
variable{prog:dX}{w:cH}{A:a9}{E:T→au→Prop}{s:au}{K:Frag}{x C:ay}{ox:Obj}{od:d Obj}{name:an}{cd:ClassData}{A0 B0:ay}
theorem LA{t:Tok}{v:T}{R:Result→au→Prop}(X:K.In s.heap)(I:InstAt s.heap x ox C od)(c:clsIn K C=z cd)(y:cd.mro= [.ref A0, .ref B0, .type "Exception", .type "BaseException", .type "object"])(B:d8 K (.ref C) name=z D)
  (h: ∀b,ar (av prog w) A.in1 (storeInOwnDict (.ref x) (.ref C) (.str name t) name v b)
   (λfin s'=>match fin with| .done f=>R (.ok f) s'| .again g=>g.quiet=Q∧i_ (av prog w) A g R s') (λe s'=>R (.error e) s') s):
  i_ (av prog w) A (.call (.builtin "object.__setattr__") ⟨[.ref x, .str name t,v],[]⟩) R s:=by
 have a:=PySem.F.store_object
 have sub:Looks (av prog w) s.heap (isInstance (.ref x)<|.type "object") Q:=I.type.andThen (looks_mroIn X<|by unfold mroIn;rw[c,Option.bind_some,y];rfl)
 refine codeAny_call_builtin a.slot.plain a.entry<|@check_slot (av prog w) _ _ s "object.__setattr__" "object" "__setattr__" (.ref x) [.str name t,v] [] _ a.kind a.split sub (a.args (.ref x) (.str name t) v) ?_
 have i:Looks (av prog w) s.heap (mroOf<|.ref C) cd.mro:=(looks_clsIn X c).andThen .now
 rw[osa_eq,refuse_eq]
 refine am<|am<|I.type.here<|am<|i.here ?_
 rw[y,refuseLoop_ref,refuseLoop_ref,PySem.F.store_Exception.passes]
 refine aA<|am<|I.type.here<|am<|(looks_findIn X B).here<|am<|Looks.now.here ?_
 exact h _
theorem Me(X:K.In s.heap)(I:InstAt s.heap x ox C od)(i:d8 K (.ref C) "__getattribute__"=z (z<|.builtin "BaseException.__getattribute__"))(f:d8 K (.ref C) "__getattr__"=z D)
  (u:clsIn K C=z cd)(H:cd.mro= [.ref A0, .ref B0, .type "Exception", .type "BaseException", .type "object"])(y:findObj K C od name=z (.value v))(B:handedIn v=Q)(h:b v {s with toks:=s.toks+1}):ar (av prog w) A (getAttr (.ref x) name e) b E s:=by
 obtain ⟨U,g,k,t,os⟩:=s
 have n:=I.type (M:=av prog w)
 have p:=looks_findIn (M:=av prog w) X i
 have q:=looks_findIn (M:=av prog w) X f
 have r:=looks_find (M:=av prog w) X I y
 have sub:Looks (av prog w) U (isInstance (.ref x)<|.type "BaseException") Q:=I.type.andThen (looks_mroIn X<|by unfold mroIn;rw[u,Option.bind_some,H];rfl)
 have m:=PySem.F.attr_Exception
 have G:builtinKind "BaseException.__getattribute__"=z .slot:=by decide+kernel
 have c:splitId "BaseException.__getattribute__"=z ("BaseException","__getattribute__"):=by decide+kernel
 unfold getAttr getAttrBy
 refine am<|qX<|b0<|am<|n.at<|am<|p.at ?_
 have l:(Value.builtin "BaseException.__getattribute__"==Value.builtin "object.__getattribute__")=N:=by decide+kernel
 dsimp only
 rw[l,n_,az<|by decide]
 unfold getAttrByItsOwn
 refine am<|q.at ?_
 refine am<|wpAny_attempt<|b0 ?_
 show ar _ A (callGetattribute (.ref x) (.str name t) (.builtin "BaseException.__getattribute__") e) _ _ _
 have j:(e&&onTheHeap (Value.builtin "BaseException.__getattribute__"))=N:=by cases e<;>rfl
 unfold callGetattribute
 rw[j,az<|by decide]
 unfold boundAndCalled
 rw[m.ga.bind]
 refine am<|aA<|pg ?_
 refine codeAny_call_builtin m.ga.plain F.entry_bexc_ga<|@check_slot (av prog w) _ _ _ "BaseException.__getattribute__" "BaseException" "__getattribute__" (.ref x) [.str name t] [] _ G c sub (F.args_bexc_ga (.ref x)<|.str name t) ?_
 refine am<|aA<|am<|aA<|am<|n.at<|am<|r.at ?_
 refine aA ?_
 show ar _ _ (handedOut v) _ _ _
 rw[handedOut_of B];exact aA h
end
noncomputable abbrev lF(W:Wd)(c:ay)(k:d ay):Obj:={cls:= .ref<|W.tb.cls 0,dict:=k,data:= .fields #[.ref c, .none, .none, .none, .bool N, .none]}
section
variable{W:Wd}(aK':dD W)(KC:z6 W)
include aK' KC
theorem KH(st:W.base.StaysIn s.heap)(x:W.base.get? e=D)
  (m:s.heap.get? e=z (lF W c D))
  (q: ∀l tk B,j8 W k e B l→l.get? e=z (lF W c<|z B)→(∀b o,b≠e→s.heap.get? b=z o→l.get? b=z o)→a () {s with heap:=l,toks:=tk}):ar (av W.prog W.w) A (qZ (.ref e) (W.tb.at_ 0)<|.int k t) a E s:=by
 have X:W.K.In s.heap:=aK'.kin.keeps st
 have I:InstAt s.heap e (lF W c D) (W.tb.cls 0) D:=⟨m,O,O,trivial⟩
 obtain ⟨cd0',A0,B0,r,y⟩:=KC.mro
 refine set_plain X I KC.sa<|LA (s:={s with toks:=s.toks+1}) X I r y KC.told λb=> ?_
 obtain ⟨cd,hc,u⟩:=any_some KC.dict
 refine am<|aA<|am<|am<|wpAny_loadPart m<|am<|looks_clsIn X hc _ _ _ _ (λ_ _ e=>e) ?_
 rw[u]
 have C:s.heap.objs.size≠e:=jQ<|cI m
 have i:=cf (h:=s.heap) (cj #[] 0) m
 refine am<|wpAny_alloc<|am<|wpAny_update i ?_
 refine aA ?_
 refine am<|aA<|am ?_
 unfold nsSet
 have f:((s.heap.push<|cj #[] 0).update e λo=>{o with dict:=z s.heap.objs.size}).get? s.heap.objs.size=z (cj #[] 0):=(jO _ _<|Ne.symm C).trans<|d_ _ O
 refine am<|am<|wpAny_askSetting<|aA<|am<|qX<|am<|wpAny_loadPart f ?_
 have cc:aRefKeyMayBeTheName (W.tb.at_ 0) #[]=N:=by rw[aRefKeyMayBeTheName_at];simp
 dsimp only
 rw[cc]
 refine wpAny_updatePart f ?_
 obtain ⟨p,g⟩: ∃p,Obj.putName (W.tb.at_ 0) (lK W.w.params (W.tb.at_ 0)) (.str (W.tb.at_ 0) (s.toks+1)) (.int k t) (cj #[] 0)=cj (putL (W.tb.at_ 0) (lK W.w.params (W.tb.at_ 0)) (.str (W.tb.at_ 0) (s.toks+1)) (.int k t) []).toArray p:=
  ⟨_,putName_dict (W.tb.at_ 0) _ _ _ [] 0⟩
 generalize U:((s.heap.push<|cj #[] 0).update e λo=>{o with dict:=z s.heap.objs.size})=H at f⊢
 have hg:(H.update s.heap.objs.size<|Obj.putName (W.tb.at_ 0) (lK W.w.params<|W.tb.at_ 0) (.str (W.tb.at_ 0)<|s.toks+1)<|.int k t).get? s.heap.objs.size=z (cj (putL (W.tb.at_ 0) (lK W.w.params<|W.tb.at_ 0) (.str (W.tb.at_ 0)<|s.toks+1) (.int k t) []).toArray p):=by
  rw[mQ _ f (by rw[g];rfl),g]
 refine am (wpAny_lookBehind hg (pastItsLine_dict<|by rw[iA,gS];have:=A6 (name:=W.tb.at_ 0) (n:=lK W.w.params<|W.tb.at_ 0) (k:= .str (W.tb.at_ 0)<|s.toks+1) (v:= .int k t) [];simp at this;exact Wh this) ?_)
 have G:(H.update s.heap.objs.size<|Obj.putName (W.tb.at_ 0) (lK W.w.params<|W.tb.at_ 0) (.str (W.tb.at_ 0)<|s.toks+1)<|.int k t).get? e=z (lF W c<|z s.heap.objs.size):=by
  rw[jO _ _ C,←U]
  exact mQ (λo:Obj=>{o with dict:=z s.heap.objs.size}) i O
 refine aA<|q _ _ s.heap.objs.size ?_ G λb o hb ho=> ?_
 ·exact⟨lF W c<|z s.heap.objs.size,#[.ref c, .none, .none, .none, .bool N, .none],_,p,_,s.toks+1,t,G,O,O,O,hg,O,⟨_,by rw[wM];rfl,O,O⟩,x, .no O⟩
 ·have n:s.heap.objs.size≠b:=jQ (cI ho)
  rw[jO _ _ n,←U]
  exact(jO _ _<|Ne.symm hb).trans<|cf _ ho
end
end
section
section
variable{W:Wd}(aL':dD W)(KC:z6 W)
include aL' KC
theorem JR(K:kw W f [.Assign [.Attribute (.Name i p1) (W.tb.at_ 0) p2] (.Name j p3) p4] g [i,j] 2)
  (hk:g.kind= .function)(U:g.names.lookup i=z .local)(l2:g.names.lookup j=z .local)(I:i≠j)(v:(i==("__debug__":an))=N)(B:(j==("__debug__":an))=N)
  (hA:A.depth<recursionLimit)(st:W.base.StaysIn s.heap)(H:W.base.get? e=D)
  (he:s.heap.get? e=z (lF W c D))
  (q: ∀l tk w,j8 W k e w l→l.get? e=z (lF W c<|z w)→(∀b o,b≠e→s.heap.get? b=z o→l.get? b=z o)→a .none {s with heap:=l,toks:=tk}):
  ar (av W.prog W.w) A (co (.ref f) [.ref e, .int k t]) a E s:=by
 obtain ⟨fd,o,k1,k2,k3,k4,k5,k6,k7,k8,k9,k10',k11'⟩:=K
 subst k4
 refine pg<|codeAny_call_function hA (st f o k1) k2 k9 k10' k3 (k8.keeps st) ?_
 refine k11' s [.ref e, .int k t] st O _ _ _ _ ?_
 rw[k7]
 refine wpAny_newFunctionEnv_cells hk (λx I=>(dP.mp I).elim (λq=>q▸ .inl U) λq=>bz.mp q▸ .inl l2) λh n s₀ x=> ?_
 have e1:h.scope=fd.scope:=by rw[n];rfl
 have hkd': ∀y,h.kindOf y=fd.scope.names.lookup y:=λy=>by unfold jP;rw[e1]
 obtain ⟨hh,tk0',hs₀'⟩:=x.toInCall.same
 have hf:h.scope.kind= .function:=by rw[e1];exact hk
 have m:(([i,j].zip<|[.ref e, .int k t]++cX ([i,j].length-2) dN).map (·.1)).Nodup:=by simp[I]
 have v1:=xU (k:=h.kindOf) _ (λ_=>D) 0 i (.ref e) m (by rfl) (by rw[hkd'];exact U)
 have v2:=xU (k:=h.kindOf) _ (λ_=>D) 1 j (.int k t) m (by rfl) (by rw[hkd'];exact l2)
 refine⟨(aL'.lim.keeps st).keeps x.toInCall.keep,codeAny_func<|nX ?_⟩
 have st0':W.base.StaysIn s₀.heap:=λb o m=>x.toInCall.keep b o<|st b o m
 have C:=x.toInCall.keep _ _ he
 have u:=x.toInCall.ns
 rw[plainObj_exec_Assign_Attribute _ _ _ _ _<|swaps_none O]
 refine am (fc<|am<|wpAny_Name (tK hf (by rw[hkd'];exact l2) u v2 ?_) B)
 refine am ?_
 show ar _ _ (do
  let ov←holding [.int k t] (eval (.Name i p1) h)
  dF p2.atName
  holding [.int k t,ov] (qZ ov (W.tb.at_ 0)<|.int k t)
  release [.int k t,ov] []) _ _ _
 refine am (b0<|wpAny_Name (tK hf (by rw[hkd'];exact U) u v1 ?_) v)
 refine am<|fc<|am<|b0<|KH aL' KC st0' H C λl tk w hr G r Γ p hΓ=> ?_
 rw[rb]
 refine aA<|tN ?_
 have:=q l tk w hr G λb o m ho=>r b o m<|x.toInCall.keep b o ho
 rw[hs₀']
 exact this
end
end
section
structure sx(W:Wd):Prop where
 cls: ∃nm q N bs bm hdct sn sub ab col dd k0 k1 k2 k3 k5 newId Bn inN bmN,W.base.get? (W.tb.cls 0)=z (excClassObj nm q (W.tb.cls 0) N bs bm hdct sn sub ab col dd k0 k1 k2 k3 k5 newId)∧ExcBaseFacts Bn newId inN bmN∧
  bm.contains (.type Bn)=Q∧bm.contains (.type "AttributeError")=false∧bm.contains (.type "NameError")=false∧bm.contains (.type "BaseException")=Q
 ok:z6 W
 init: ∃f x1 x2 p1 p2 p3 p4 scope,d8 W.K (.ref (W.tb.cls 0)) "__init__"=z (z (.ref f))∧typeIn W.K (.ref f)=z (.type "function")∧kw W f [.Assign [.Attribute (.Name x1 p1) (W.tb.at_ 0) p2] (.Name x2 p3) p4] scope [x1,x2] 2∧
  scope.kind= .function∧scope.names.lookup x1=z .local∧scope.names.lookup x2=z .local∧x1≠x2∧(x1==("__debug__":an))=false∧(x2==("__debug__":an))=false
section
variable{W:Wd}(am':dD W)(B:sx W)
include am' B
theorem KY(hA:A.depth+1<recursionLimit)(st:W.base.StaysIn s.heap)
  (q: ∀l tk e w c,j8 W k e w l→l.get? e=some (lF W c<|some w)→(∀b o,s.heap.get? b=some o→l.get? b=some o)→a (.ref e) {s with heap:=l,toks:=tk}):
  ar (av W.prog W.w) A (co (.ref<|W.tb.cls 0) [.int k t]) a E s:=by
 obtain ⟨nm,qn,j,bs,bm,hdct',sn,sub,ab,col',dd,k0,k1,k2,k3,k5,newId',Bn,inN',bmN',y,Fn,x,u,C,v⟩:=B.cls
 obtain ⟨f,x1,x2,p1,p2,p3,p4,scope',i1,i2,K,hk,l1,l2,hx,I,U⟩:=B.init
 have H:=st _ _ y
 have f1:=tc_lookup
 have f2:=tc_bind<|.ref<|W.tb.cls 0
 obtain ⟨hp,g,h,tk,os⟩:=s
 have hT:(⟨hp,g,h,tk,os⟩:au).TypeIs (.ref<|W.tb.cls 0) "type":=⟨_,H,O⟩
 obtain ⟨m,hfI',hfc'⟩: ∃m,hp.get? f=some m∧m.cls= .type "function":=by
  obtain ⟨o,ho,hc⟩:=fE.mp i2
  exact⟨o,(am'.kin.keeps st) _ _ ho,hc⟩
 refine pg<|codeAny_of_tree ?_
 show ar _ _ (callAny (.ref<|W.tb.cls 0) _) _ _ _
 repeat (any_goals (first|assumption|with_reducible refine pf H ?_|wp_step))
 refine⟨O,?_⟩
 refine codeAny_call_builtin_at (Code.quiet_builtin _<|by decide+kernel) entry_typeCall (wpAny_check_type_call_sub H<|IW (I:=f) (oI:=m) (m:=by show 1≤d7;have:=dB;exact Vi this) Fn x u C H (λl keep' i=>looks_findIn (am'.kin.keeps λb o e=>keep' b o<|st b o e) i1) hfI' hfc' λl e hm he hs=> ?_)
 obtain ⟨c,G,_,_⟩:=hm.there
 have hne':W.base.get? e=none:=by
  cases n:W.base.get? e with
  |none=>rfl
  |some o=>exact absurd (cI<|st e o n) (by rw[he];exact dz.mpr<|eR _)
 refine JR am' B.ok K hk l1 l2 hx I U ?_ (λb o e=>hm.keeps b o<|st b o e) hne' G λp tk'' w hr hee' r=> ?_
 ·exact hA
 ·refine⟨O,q p tk'' e w c hr hee' λb o n=>r b o (λq=> ?_)<|hm.keeps b o n⟩
  subst q
  exact absurd (cI n)<|by rw[he];exact dz.mpr<|eR _
omit am' in
theorem I6(p:A.handled=D)
  (h:ar (av W.prog W.w) A x (λv f=> ∃e t w,v= .ref e∧W.base.StaysIn f.heap∧f.heap.get? e=z (lF W t<|z w)∧E (.ref e) f) E s):
  ar (av W.prog W.w) A (raiseStmt l (z x) D) b E s:=by
 obtain ⟨nm,qn,a,U,i,hdct',sn,sub,I,col',dd,k0,k1,k2,k3,k5,newId',r,inN',bmN',y,G,m,u,C,c⟩:=B.cls
 have j:(eP (W.tb.cls 0)::i).contains (.type "BaseException")=Q:=by rw[n6,c,Bool.or_true]
 unfold raiseStmt
 refine am<|bq h (λv f q=> ?_) λ_ _ x=>x
 obtain ⟨e,t,w,rfl,st,o,n⟩:=q
 have H:=st _ _ y
 obtain ⟨hp,g,k,tk,os⟩:=f
 repeat (first|with_reducible refine pf o ?_|with_reducible refine pf H ?_|(with_reducible refine wG H ?_;rw[j])|wp_step)
 exact wpAny_raiseNew_none p n
def rQ(v:V):R Fl:=(dE v).elim .err λk=> .exc k
def yx(m:aj→Y af→R V):aj→Y af→R Fl:=λl H=>(m l H).bind λv _=>rQ v
theorem S1.raise(hg:GN W x<|.ref<|W.tb.cls 0)(hxl':fi.scope.names.lookup x=z .globalImplicit)(hk:gE W<|.ref<|W.tb.cls 0)(h:SE W fi n e m)
  (hd:(x==("__debug__":an))=N)(hs:rL e):S1 W fi n (.Raise (z<|.Call (.Name x np) [e] [] f) D pos0')<|yx m:=λA l i w loc0' g H s P=>by
 rw[arm_exec_Raise]
 have ns:gT f (gv [e] i)=argsOf [e] i:=by rw[hs];rfl
 have key': ∀{r:R V},Cl W A l [] g s (bn e i) r (VR W.tb)→(r.bind λv _=>rQ v)≠ .err→ar (av W.prog W.w) A (ja f (.ref<|W.tb.cls 0) [] (gT f<|gv [e] i) [])
   (λv s₁=> ∃e t U,v= .ref e∧W.base.StaysIn s₁.heap∧s₁.heap.get? e=z (lF W t<|z U)∧bX W l (dC w) g s (r.bind λv _=>rQ v) (.ref e) s₁) (bX W l (dC w) g s<|r.bind λv _=>rQ v) s:=λ{r} h j=>by
  rw[ns]
  refine mP (P:=λh=>W.base.StaysIn h) ((jk _).trans ui) hk<|uf ?_
  refine am<|bq (h<|R.bindE j) (λu s' p=>am<|aA<|am<|b0<|aA<|aA ?_) λ_ _ p=>p.bind.weaken
  obtain ⟨v,H1,g',e,y,hu,G⟩:=p
  subst e
  refine⟨y.st,l7 (O:(dE v).elim .err (λk=> .exc k)=rQ v) j λk hv er=>jH (G:=λu=>ar (av W.prog W.w) A (co (.ref<|W.tb.cls 0) [u] []) _ _ s') hu hv λt=> ?_⟩
  have P':=P.grow G y
  exact KY am' B (Vh P'.sit.dp) y.st λh' tk e U c I hee' a=>⟨e,c,U,O,λb o C=>a b o<|y.st b o C,hee',k,er.symm,⟨⟨e,U,O,I⟩,λb o C=>a b o<|y.st b o C,P'.sit.ff.of_keeps λb o C _=>⟨_,a b o C,O⟩,y.gens,y.os,λb o C h1 h2 hn=>⟨o.slots,a b o<|G.only b o C h1 λq=>nomatch q⟩⟩⟩
 exact λj=>am<|fc<|I6 B P.sit.hd<|am<|bq (wpAny_Call_ofName<|li am' hg P hxl' hd<|key' (h A l i w loc0' g H s P) j) (λv s₃ h₃=>am<|fc<|aA h₃) λ_ _ x=>x
end
end
section
section
variable{W:Wd}(au':dD W)(B:sx W)
include au'
theorem u9(m:jw f e a l)(st:W.base.StaysIn s.heap)(h:GN W x u)(i:f.scope.names.lookup x=z .globalImplicit)
  (G:(x==("__debug__":an))=N)(q:b u s):ar (av W.prog W.w) A (bn (.Name x p) e) b E s:=by
 have k:e.scope.kind= .function:=by rw[m.scope];exact m.kind
 refine Name_function_global k (by unfold jP;rw[m.scope];exact i) ?_ G
 rcases h with h|⟨c,g⟩
 ·exact loadGlobal_global (by rw[m.glob];exact au'.g.keeps st) h q
 ·exact loadGlobal_builtin (by rw[m.glob];exact au'.g.keeps st) c (by rw[m.bi];exact au'.b.keeps st) g q
include B
theorem BU(hf:c.scope.kind= .function)(hl:c.kindOf f=z .local)(hd:(f==("__debug__":an))=N)(st:W.base.StaysIn s.heap)(hN:s.heap.Ns c.locals mm)(he:mm f=z (.ref a))(rec:j8 W k a dx s.heap)
  (q: ∀g t,b (.int k t) {s with toks:=g}):ar (av W.prog W.w) A (bn (.Attribute (.Name f p) (W.tb.at_ 0) p2) c) b E s:=by
 rw[AY<|by intro _ _ _;rfl]
 refine am<|wpAny_Name (tK hf hl hN he ?_) hd
 refine am<|fc ?_
 obtain ⟨oe,vs,o,n,ds,t,g,i,m,u,v,w,x,⟨e,C,G,H⟩,j,l⟩:=rec
 have X:W.K.In s.heap:=au'.kin.keeps st
 have I:InstAt s.heap a oe (W.tb.cls 0)<|z o:=⟨i,m,by unfold notCls;rw[v],by rw[u];exact w⟩
 have U:lookIn (W.tb.at_ 0) o=z (z<|.int k g):=by
  unfold lookIn
  rw[x]
  dsimp only
  rw[C,t7,show e.key.isStr (W.tb.at_ 0)=Q by rw[G];exact fD _]
  dsimp only
  rw[H]
 obtain ⟨cd0',A0,B0,r,y⟩:=B.ok.mro
 refine am<|b0<|Me X I B.ok.ga B.ok.gat r y (findObj_own B.ok.dict B.ok.told O U) O ?_
 exact am<|tM<|aA<|q _ _
theorem IB
  (H:jw fi b acc0' l)(l1:fi.scope.names.lookup n=z .local)(l2:fi.scope.names.lookup x=z .local)(d1:(n==("__debug__":an))=N)(d2:(x==("__debug__":an))=N)
  (gi:GN W xi<|.builtin "isinstance")(ki:fi.scope.names.lookup xi=z .globalImplicit)(di:(xi==("__debug__":an))=N)
  (gt:GN W U<|.type "int")(kt:fi.scope.names.lookup U=z .globalImplicit)(dt:(U==("__debug__":an))=N)
  (gl:GN W C<|.builtin "len")(kl:fi.scope.names.lookup C=z .globalImplicit)(dl:(C==("__debug__":an))=N)
  (hit0':gU W.K (.type "int") (.type "int")=z Q)(st:W.base.StaysIn s.heap)(hN:s.heap.Ns b.locals mm)(he:mm n=z (.ref a))(ho:mm x=z (.bytes bs tb))(rec:j8 W k a dx s.heap)
  (h0:0≤k)(h1:k≤bs.size)(h2:bs.size≤1000000)(q: ∀y,i (.ret<|.bool Q) {s with toks:=y}):
  ar (av W.prog W.w) A (exec (.Return (z<|.BoolOp .And [.Call (.Name xi q1) [.Attribute (.Name n q2) (W.tb.at_ 0) q3, .Name U q4] [] q5,
   .Compare (.Constant (.int 0) kk q6) [.LtE, .LtE] [.Attribute (.Name n q7) (W.tb.at_ 0) q8, .Call (.Name C I) [.Name x j] [] m] o] q13') q14') b) i E s:=by
 have hf:b.scope.kind= .function:=by rw[H.scope];exact H.kind
 have hl1':b.kindOf n=z .local:=by unfold jP;rw[H.scope];exact l1
 have hl2':b.kindOf x=z .local:=by unfold jP;rw[H.scope];exact l2
 rw[exec_Return_some]
 refine am<|fc<|am ?_
 show ar _ A (bn (.Call (.Name xi q1) [.Attribute (.Name n q2) (W.tb.at_ 0) q3, .Name U q4] [] q5) b>>=λv=>dF q13'>>=λ_=>ek [v] (truthy v)>>=λt=>match BoolOp.And,t with
  | .And,N| .Or,Q=>pure v
  |_,_=>bn (.Compare (.Constant (.int 0) kk q6) [.LtE, .LtE] [.Attribute (.Name n q7) (W.tb.at_ 0) q8, .Call (.Name C I) [.Name x j] [] m] o) b) _ _ _
 refine am ?_
 show ar _ A (bn (.Name xi q1) b>>=λf=>ja q5 f [] (gT q5<|gv [.Attribute (.Name n q2) (W.tb.at_ 0) q3, .Name U q4] b) []) _ _ _
 refine am<|u9 au' H st gi ki di ?_
 refine mP (P:=λh=>W.base.StaysIn h) O mW<|tR ?_
 show ar _ A (bn (.Attribute (.Name n q2) (W.tb.at_ 0) q3) b>>=λv=>(pure [v]:aX<|Y T)>>=λg=>(ek g<|bn (.Name U q4) b>>=λv=>(pure [v]:aX<|Y T)>>=λg=>(ek g<|pure [])>>=λr=>pure<|g++r)>>=λr=>pure<|g++r) _ _ _
 refine am<|BU au' B hf hl1' d1 st hN he rec λy t=>am<|aA<|am<|b0<|am<|u9 au' H (s:={s with toks:=y}) st gt kt dt ?_
 refine am<|aA<|am<|b0<|aA<|aA<|aA ⟨st,?_⟩
 refine kia_one kitx_int (au'.kin.keeps st) trivial hit0' (by intro e;cases e) λy=> ?_
 refine am<|fc<|am<|b0<|tH ?_
 show ar _ A (bn (.Constant (.int 0) kk q6) b>>=λu=>compareChain o u [.LtE, .LtE] [bn (.Attribute (.Name n q7) (W.tb.at_ 0) q8) b,markedBehindIn .LtE (.Call (.Name C I) [.Name x j] [] m)<|bn (.Call (.Name C I) [.Name x j] [] m) b]) _ _ _
 rw[tP O]
 refine am<|wpAny_mkInt ?_
 show ar _ A (ek [.int 0 y] (bn (.Attribute (.Name n q7) (W.tb.at_ 0) q8) b)>>=λG=>dF o>>=λ_=>ek [.int 0 y,G] (bN .LtE (.int 0 y) G)>>=λc=>release [.int 0 y,G] [c]>>=λ_=>ek [c,G] (truthy c)>>=λt=>if t=Q then compareChain o G [.LtE] [bn (.Call (.Name C I) [.Name x j] [] m) b]else pure c) _ _ _
 refine am<|b0<|BU au' B hf hl1' d1 (s:={s with toks:=y+1}) st hN he rec λtk2' t2=> ?_
 refine am<|fc<|am<|b0<|AV ?_
 refine am λΓ p hΓ=> ?_
 rw[rb]
 refine am<|b0<|tH ?_
 refine gq (bx h0) ?_
 show ar _ A (ek [.int k t2] (bn (.Call (.Name C I) [.Name x j] [] m) b)>>=λG=>dF o>>=λ_=>operate [.int k t2,G]<|bN .LtE (.int k t2) G) _ _ _
 refine am<|b0 ?_
 show ar _ A (bn (.Name C I) b>>=λf=>ja m f [] (gT m<|gv [.Name x j] b) []) _ _ _
 refine am<|u9 au' H (s:={s with toks:=tk2'}) st gl kl dl ?_
 refine mP (P:=λh=>W.base.StaysIn h) O mW<|tR ?_
 show ar _ A (bn (.Name x j) b>>=λv=>(pure [v]:aX<|Y T)>>=λg=>(ek g<|pure [])>>=λr=>pure<|g++r) _ _ _
 refine am<|wpAny_Name (tK hf hl2' hN ho ?_) d2
 refine am<|aA<|am<|b0<|aA<|aA ⟨st,?_⟩
 refine len_bytes (by have:=dB;exact zJ h2)<|am<|fc λΓ p hΓ=> ?_
 rw[Sem.wp_operate]
 refine AV ?_ Γ p hΓ
 refine aA ?_
 rw[bx h1]
 exact q _
end
end
section
set_option backward.match.sparseCases false
structure sP(W:Wd)(s:au):Prop where
 st:W.base.StaysIn s.heap
 gens:s.gens= #[]
 os:s.os=W.os
def FF(W:Wd)(n:M)(f:T)(r:Y V→Y af→ak):Prop:=
 ∀A l g H s vs b,dK W n A l g s→aN W g H s→eC W.tb g vs b→r vs H=Q→ar (av W.prog W.w) A (co f b []) (λu s'=>u= .bool Q∧sP W s') (λ_ _=>bR) s
theorem B6{h b:bB}{a:ay}{m:an→d T}(x:h.Ns a m)(k: ∀o,h.get? a=z o→(∀vs,o.data≠ .fields vs)→ ∃c,b.get? a=z {o with slots:=c}):b.Ns a m:=by
 obtain ⟨o,g,f,y,G,r⟩:=x
 obtain ⟨c,e⟩:=k o y λvs q=>by rw[G]at q;cases q
 exact⟨_,g,f,e,G,r⟩
theorem JE(hn:h.Ns L m)(hx:m x=z u)(r:W.tb.at_ 0≠x)(rec:j8 W k a w h)(i:hU L h H):j8 W k a w H:=by
 obtain ⟨oe,vs,od,n,C,t,tk,c,I,U,f,g,p,⟨e,A,B,h9⟩,j,l⟩:=rec
 obtain ⟨o,es,ep,y,G,hk,hf⟩:=hn
 have n1:a≠L:=λq=>by rw[q,y]at c;cases c;rw[G]at f;cases f
 have n2:w≠L:=λq=>by
  rw[q,y]at g;cases g
  rw[G]at p;cases p
  have:=hf x
  rw[hx]at this
  unfold nsFind findBy at this
  rw[←Array.find?_toList,A,t7]at this
  dsimp only at this
  rw[show e.key.isStr x=N by rw[B];exact cL.mpr r]at this
  cases this
 refine⟨oe,vs,od,n,C,t,tk,(i.2 a n1).trans c,I,U,f,(i.2 w n2).trans g,p,⟨e,A,B,h9⟩,j,?_⟩
 cases l with
 |no q=>exact .no q
 |«at» b oT ts q1 q2 q3 s v q6=>exact .at b oT ts q1 q2 q3 ((i.2 b λq=>by rw[q,y]at s;cases s;rw[G]at v;cases v).trans s) v q6
noncomputable def GG{α:Type}(r:R α):d J:=r.casesOn (λ_ _=>D) z D
noncomputable def kL(m:Y V→Y af→R V)(vs:Y V)(H:Y af):ak:=vs.casesOn N λx r=>r.casesOn N λa r=>r.casesOn ((i5 x).elim N λb=>(GG<|m [.p<|.bytes b,a] H).elim N λk=>decide (0≤k∧k≤b.length∧b.length≤1000000)) λ_ _=>N
theorem yL{α:Type}{o:d α}{f:α→ak}(h:o.elim N f=Q): ∃a,o=some a∧f a=Q:=by
 cases o with
 |none=>cases h
 |some a=>exact⟨a,O,h⟩
theorem Io{m:Y V→Y af→R V}{b:Y M}{a:V}{k:J}(h:m [.p<|.bytes b,a] H= .exc k)(q:0≤k∧k≤b.length∧b.length≤1000000):kL m [.p<|.bytes b,a] H=Q:=by
 show (GG _).elim N _=Q
 rw[h]
 exact bx q
theorem I4(c:kL m vs H=Q): ∃b a k,vs= [.p<|.bytes b,a]∧m [.p<|.bytes b,a] H= .exc k∧0≤k∧k≤b.length∧b.length≤1000000:=by
 cases vs with
 |nil=>cases c
 |cons x r=>cases r with
  |nil=>cases c
  |cons a r=>cases r with
   |cons _ _=>cases c
   |nil=>
    obtain ⟨b,e,f⟩:=yL c
    obtain ⟨k,I,i⟩:=yL f
    obtain ⟨p,rfl,g⟩:=jI e
    obtain rfl:=xV g
    refine⟨b,a,k,O,?_,fB i⟩
    cases h:m [.p<|.bytes b,a] H with
    |exc j=>rw[h]at I;cases I;rfl
    |_=>rw[h]at I;cases I
section
variable{W:Wd}(aA':dD W)(B:sx W)
include aA' B
theorem OV{fi:FI}{A:a9}{e:bj}{acc0':Y bV}{l:Y bj}{c:au}{u xb xo:an}{a dx:ay}{k:J}{r6 r7:Pos}{ret:dy}{m0:an→d T}{v0:T}(U:jw fi e acc0'<|e::l)(hfr':A.frames=z (e::l))
  (F:eH W (e::l) k a dx c.heap)(gb:GN W xb<|.ref<|W.tb.cls 0)(kb:fi.scope.names.lookup xb=z .globalImplicit)(db:(xb==("__debug__":an))=N)(le:fi.scope.names.lookup u=z .local)
  (hns':c.heap.Ns e.locals m0)(r:W.base.get? e.locals=D)(hm0':m0 xo=z v0)(hxa':W.tb.at_ 0≠xo){b:Flow→au→Prop}{E E1 E2:T→au→Prop}
  (C: ∀A' h t m,W.base.StaysIn h→h.Ns e.locals m→m u=z (.ref a)→(∀x,x≠u→m x=m0 x)→j8 W k a dx h→ ∀{b:Flow→au→Prop} {E:T→au→Prop},(∀tk,b (.ret<|.bool Q) {c with heap:=h,toks:=tk})→ar (av W.prog W.w) A' (exec ret e) b E {c with heap:=h,toks:=t})
  (q: ∀h t,W.base.StaysIn h→b (.ret<|.bool Q) {c with heap:=h,toks:=t}):
  ar (av W.prog W.w) A (noteFrame (.ref a) e) (λ_ s₂=>ar (av W.prog W.w) A (setFlight (.ref a) D) (λ_ s₃=>ar (av W.prog W.w) A (handleBy (.ref a) e [.ExceptHandler (z<|.Name xb r6) (z u) [ret] r7]) b E s₃) E1 s₂) E2 c:=by
 have hf:e.scope.kind= .function:=by rw[U.scope];exact U.kind
 have w:e.kindOf u=z .local:=by unfold jP;rw[U.scope];exact le
 have y:(e.scope.kind== .class||(e.scope.kind== .module&&e.locals !=e.globals))=N:=by rw[hf];rfl
 refine xm hfr' F λh₂ F₂ n₂ _=> ?_
 refine ue (s:={c with heap:=h₂}) F₂ λh₃ I n₃ _=> ?_
 refine wpAny_handleBy_cons (codeAny_handlers_test<|u9 aA' (s:={c with heap:=h₃}) U I.st gb kb db ?_) (by intro q;cases q)
 obtain ⟨nm,qn,g,bs,bm,hdct',sn,sub,ab,col',dd,k0,k1,k2,k3,k5,newId',Bn,inN',bmN',hC0',Fn,hBn',hAt',hNm',v⟩:=B.cls
 obtain ⟨oe,vs'',od,n',ds'',t',tk'',e1,e2,_⟩:=I.re
 refine wpAny_excMatches_sub_self (I.st _ _ hC0') e1 e2 v ?_
 refine codeAny_handlers_suite_as ?_
 refine ue (s:={c with heap:=h₃}) I λh₄ F₄ n₄ _=> ?_
 have n14':=(n₂.trans n₃).trans n₄
 have i:h₄.Ns e.locals m0:=B6 hns' λo ho hn=>n14' _ o ho hn
 refine wpAny_storeName_local (s:={c with heap:=h₄}) w i (λh₅ n G=> ?_) y
 have H:W.base.StaysIn h₅:=λb' o p=>(G.2 b' λq=>by rw[q,r]at p;cases p).trans<|F₄.st b' o p
 refine nX<|C _ h₅ (c.toks+1) _ H n (aw O) (λx hx=>az hx) (JE i hm0' hxa' F₄.re G) λtk=> ?_
 refine wpAny_nameGoes (s:={c with heap:=h₅,toks:=tk}) w n y λh₆ m6 hns6' hs6'=> ?_
 exact q _ _ λb' o p=>(hs6'.2 b' λq=>by rw[q,r]at p;cases p).trans<|H b' o p
theorem Ls{n:M}{f fs:ay}{c:d9}{m:Y V→Y af→R V}{rest':Y dy}{w x r xi xt xl xs xb:an}{q1 q2 q3 q4 q5 q6 q7 q8 q9 q10' q11' q12' q13' q14' r1 r2 r3 r4 r5 r6 r7 r8:Pos}{kk:M}
  (K:kw W f (.Try [.Expr (.Call (.Name xs r1) [.Name x r2, .Name r r3] [] r4) r5] [.ExceptHandler (z<|.Name xb r6) (z w) [.Return (z<|.BoolOp .And [.Call (.Name xi q1) [.Attribute (.Name w q2) (W.tb.at_ 0) q3, .Name xt q4] [] q5,
   .Compare (.Constant (.int 0) kk q6) [.LtE, .LtE] [.Attribute (.Name w q7) (W.tb.at_ 0) q8, .Call (.Name xl q9) [.Name x q10'] [] q11'] q12'] q13') q14'] r7] [] [] r8::rest') c [x,r] 2)
  (j:qu c [(x, .local),(r, .local),(w, .local)] [x,r])(hm:FW W n (.ref fs) m)(hks':gE W<|.ref fs)
  (gs:GN W xs<|.ref fs)(ks:c.names.lookup xs=z .globalImplicit)(ds:(xs==("__debug__":an))=N)
  (gb:GN W xb<|.ref<|W.tb.cls 0)(kb:c.names.lookup xb=z .globalImplicit)(db:(xb==("__debug__":an))=N)
  (d1:(w==("__debug__":an))=N)(d2:(x==("__debug__":an))=N)(d3:(r==("__debug__":an))=N)(hxa':W.tb.at_ 0≠x)
  (gi:GN W xi<|.builtin "isinstance")(ki:c.names.lookup xi=z .globalImplicit)(di:(xi==("__debug__":an))=N)
  (gt:GN W xt<|.type "int")(kt:c.names.lookup xt=z .globalImplicit)(dt:(xt==("__debug__":an))=N)
  (gl:GN W xl<|.builtin "len")(kl:c.names.lookup xl=z .globalImplicit)(dl:(xl==("__debug__":an))=N)
  (hit0':gU W.K (.type "int") (.type "int")=z Q)(dc2':(x==("__classdict__":an))=N)(dc3':(r==("__classdict__":an))=N):FF W (n+1) (.ref f)<|kL m:=λA l g H s vs us S R hv hr=>by
 obtain ⟨b,p,k,rfl,hk,h0,h1,h2⟩:=I4 hr
 refine pg<|zz aA' K j (bo 2) S R hv O λi s₀ G hkeep' hsz' hX=> ?_
 obtain ⟨u1,_,rfl,hu1',u2,_,rfl,hu2',hu3'⟩:=hv
 cases hu3'
 have l1:c.names.lookup w=z .local:=(j.look (w, .local)<|by simp).1
 have l2:c.names.lookup x=z .local:=(j.look (x, .local)<|by simp).1
 have hne':w≠x:=λq=>by have:=j.nd;simp[q]at this
 have hf:i.scope.kind= .function:=by rw[G.ev.scope];exact j.kind
 have hi:interactive i=N:=by unfold interactive;rw[hf];rfl
 obtain ⟨U,tb,hns0',hm0'⟩: ∃U tb,s₀.heap.Ns i.locals U∧U x=z (.bytes ⟨b.map dw⟩ tb):=by
  obtain ⟨ac,u,a1,a2,_,tb,rfl⟩:=G.lo.val 0 (.p<|.bytes b) O
  cases a1
  obtain ⟨U,b1,b2⟩:=a2
  exact⟨U,tb,b1,b2⟩
 refine nX<|wpAny_Try_except<|nX ?_
 rw[exec_Expr i _ r5 hi<|swaps_none O]
 have hE:SE W ⟨c,[(x,NameKind.local),(r,NameKind.local),(w,NameKind.local)].map z⟩ n (.Call (.Name xs r1) [.Name x r2, .Name r r3] [] r4)<|ao m<|ae (aa 0)<|ae (aa 1) nilA:=
  SE.call aA' gs ks hks' hm (dW.cons (SE.loc (k:= .local) O d2 dc2') (dW.cons (SE.loc (k:= .local) O d3 dc3') dW.nil<|by intro _ _;rfl)<|by intro _ _;rfl) ds
 have hw:ao m (ae (aa 0)<|ae (aa 1) nilA) (([V.p<|.bytes b,p]++cX ([x,r].length-2) (V.p Mine.P.none)).map z++cX ([(x,NameKind.local),(r,NameKind.local),(w,NameKind.local)].length-(2+([x,r].length-2))) D) H= .exc k:=hk
 refine am (fc<|am<|bq (hE _ _ _ _ _ _ _ _ G<|by rw[hw];simp) (λu s' ⟨v,H',g',e,_,_,_⟩=>by rw[hw]at e;cases e) λev s₁ ⟨k',er,I⟩=> ?_)
 rw[hw]at er;cases er
 obtain ⟨a,dx,rfl,F⟩:=I.fly
 have hfr':(A.deeper i).frames=z (i::l):=by show A.frames.map (i:: ·)=_;rw[S.fr];rfl
 have hL:i.locals∈dC (lm i [(x,NameKind.local),(r,NameKind.local),(w,NameKind.local)]):= .head _
 obtain ⟨ap1',ap2',C⟩:=G.lo.ap (.dict i.locals x)<|.head _
 have C:W.base.get? i.locals=D:=C
 have hns1':s₁.heap.Ns i.locals U:=B6 hns0' λo ho hn=>I.keep _ o ho ap1' (λq=>nomatch q) hn
 exact OV aA' B G.ev hfr' F gb kb db l1 hns1' C hm0' hxa' (λA' h t m st hN he I rec y E q=>IB aA' B (fi:=⟨c,_⟩) (s:={s₁ with heap:=h,toks:=t}) G.ev l1 l2 d1 d2 gi ki di gt kt dt gl kl dl hit0' st hN he ((I _<|Ne.symm hne').trans hm0') rec h0 (by rw[lS];exact_mod_cast h1) (by rw[lS];exact h2) q) λh t st=>⟨O,st,I.gens,I.os⟩
end
end
section
noncomputable def ev{α:Type}(l:M→M→ak):KasT α→α
 | .ret a=>a
 | .ask i j k=>ev l<|k<|l i j
def sp{α:Type}(P:M→Prop)(l:M→M→ak):KasT α→(α→Prop)→Prop
 | .ret a,b=>b a
 | .ask i j k,b=>P i∧P j∧sp P l (k<|l i j) b
theorem pP{α β:Type}{P:M→Prop}{l:M→M→ak}{f:α→KasT β}{b:β→Prop}: ∀{t:KasT α},sp P l t (λa=>sp P l (f a) b)→sp P l (t.bind f) b
 | .ret _,h=>h
 | .ask _ _ _,h=>⟨h.1,h.2.1,pP h.2.2⟩
theorem kP{α:Type}{P:M→Prop}{l:M→M→ak}{b Q':α→Prop}(k: ∀a,b a→Q' a): ∀{t:KasT α},sp P l t b→sp P l t Q'
 | .ret _,h=>k _ h
 | .ask _ _ _,h=>⟨h.1,h.2.1,kP k h.2.2⟩
theorem FD{α:Type}{P:M→Prop}{l:M→M→ak}{b:α→Prop}: ∀{t:KasT α},sp P l t b→b (ev l t)
 | .ret _,h=>h
 | .ask _ _ k,h=>FD (t:=k _) h.2.2
theorem FC{α:Type}{P:M→Prop}{l:M→M→ak}{c:M→M→(ak→au→Prop)→au→Prop}{s:au}(f: ∀i j (C:ak→au→Prop),P i→P j→C (l i j) s→c i j C s){b:α→Prop}{G:α→au→Prop}: ∀{t:KasT α},sp P l t b→G (ev l t) s→t.kasWp c G s
 | .ret _,_,g=>g
 | .ask i j k,h,g=>f i j _ h.1 h.2.1<|FC f h.2.2 g
noncomputable abbrev gt(p:aQ M)(k:M):M:=p.getD k 0
theorem jq(b:j≤p.size)(k:M):gt (kas_rev p i j) k=if i≤k∧k<j then gt p<|i+j-1-k else gt p k:=by
 unfold kas_rev gt
 simp only[ud]
 rw[getElem?_mirror_all b k]
 split<;>rfl
theorem BD(I:k<p.size)(G:a≤k)(i:M):gt (bubble p k a) i=if i=k-a then gt p k else if k-a<i∧i≤k then gt p<|i-1 else gt p i:=by
 unfold gt
 simp only[ud]
 rw[getElem?_bubble I a G i]
 split
 ·rfl
 ·split<;>rfl
theorem ur(p:aQ M)(i j:M):(kas_rev p i j).Perm p:=mirror_perm _ _ _ _
section
variable{lt:M→M→ak}(asym: ∀i j,lt i j=Q→lt j i=N)(tr: ∀i j k,lt j i=N→lt k j=N→lt k i=N){n:M}
def Pm(n:M)(p:aQ M):Prop:=p.toList.Perm<|dO n
theorem Pm.size(h:Pm n p):p.size=n:=by have:=h.length_eq;simpa using this
theorem Pm.below(h:Pm n p)(a:0<n)(k:M):gt p k<n:=by
 unfold gt
 rw[ud]
 cases e:p[k]? with
 |none=>exact a
 |some x=>
  have:x∈p.toList:=by rw[←mV]at e;exact dG e
  exact jh.mp<|h.mem_iff.mp this
theorem Pm.perm(h:Pm n p)(k:q.Perm p):Pm n q:=(Array.perm_iff_toList_perm.mp k).trans h
def lI(lt:M→M→ak)(p:aQ M)(m:M):Prop:= ∀i j,i≤j→j<m→lt (gt p j) (gt p i)=N
def nW(lt:M→M→ak)(p:aQ M)(m:M):Prop:= ∀i j,i≤j→j<m→lt (gt p i) (gt p j)=N
include asym in
theorem nU(i:M):lt i i=false:=by cases h:lt i i with|false=>rfl|true=>rw[asym i i h]at h;cases h
include asym tr
theorem KZ(h:lI lt p m)(e:1≤m)(g:lt (gt p m) (gt p<|m-1)=N):lI lt p<|m+1:=λi j c f=>by
 by_cases a:j<m
 ·exact h i j c a
 ·obtain rfl:j=m:=by exact Fs f a
  by_cases b:i=j
  ·subst b;exact nU asym _
  ·exact tr _ _ _ (h i (j-1) (by exact Fq c b)<|by exact Fp e) g
theorem Em{p:aQ M}(i:Pm n p)(g:0<n)(f:M): ∀(m:M),1≤m→lI lt p m→sp (· <n) lt (kas_asc p f m) λr=>m≤r∧r≤m+f∧lI lt p r∧(r<m+f→lt (gt p r) (gt p<|r-1)=true):=by
 induction f with
 |zero=>exact λm _ h=>⟨bo _,bo _,h,λq=>absurd q<|rj _⟩
 |succ f l=>
  intro m j h
  unfold kas_asc
  refine⟨i.below g _,i.below g _,?_⟩
  cases c:lt (gt p m)<|gt p<|m-1 with
  |true=>
   show sp _ _ (if true=true then _ else _) _
   rw[aw O]
   exact⟨bo _,by exact Vg,h,λ_=>c⟩
  |false=>
   show sp _ _ (if false=true then _ else _) _
   rw[az<|by decide]
   exact kP (λr ⟨a,b,k,e⟩=>⟨by exact sR a,by exact vh b,k,λq=>e<|by exact Vf q⟩)<|l (m+1) (by exact sb)<|KZ asym tr h j c
theorem rF(h:nW lt p m)(e:1≤m)(g:lt (gt p<|m-1) (gt p m)=N):nW lt p<|m+1:=λi j c f=>by
 by_cases a:j<m
 ·exact h i j c a
 ·obtain rfl:j=m:=by exact Fs f a
  by_cases b:i=j
  ·subst b;exact nU asym _
  ·exact tr _ _ _ g<|h i (j-1) (by exact Fq c b)<|by exact Fp e
def sO(lt:M→M→ak)(p:aQ M)(m q:M):Prop:= ∀i j,m-(q+1)≤i→i<m→m-(q+1)≤j→j<m→lt (gt p i) (gt p j)=N
omit asym tr in
theorem C3(e:m≤p.size)(h:nW lt p m)(o:sO lt p m q):nW lt (kas_rev p (m-(q+1)) m) m∧sO lt (kas_rev p (m-(q+1)) m) m q:=by
 refine⟨λi j c b=> ?_,λi j g k l f=> ?_⟩
 ·rw[jq e,jq e]
  by_cases a:m-(q+1)≤i
  ·rw[aw ⟨a,by exact zf c b⟩,aw ⟨by exact Ve c a,b⟩]
   exact o _ _ (by exact Vd c b) (by exact Vc b a) (by exact ze b) (by exact Vb c b a)
  ·rw[az<|by exact Va a]
   split
   ·exact h _ _ (by exact U_ b a) (by omega)
   ·exact h _ _ c b
 ·rw[jq e,jq e,aw ⟨g,k⟩,aw ⟨l,f⟩]
  exact o _ _ (by exact ze k) (by exact U9 g f) (by exact ze f)<|by exact U8 l f
theorem Mj(x:0<n)(f:M): ∀(p:aQ M) (m q:M),Pm n p→1≤m→m+f≤n→q+1≤m→nW lt p m→sO lt p m q→
  sp (· <n) lt (kas_desc f p m q) λr=>Pm n r.1∧m≤r.2.1∧r.2.1≤m+f∧r.2.2+1≤r.2.1∧nW lt r.1 r.2.1∧sO lt r.1 r.2.1 r.2.2:=by
 induction f with
 |zero=>exact λp m q h s _ t G g=>⟨h,bo _,bo _,t,G,g⟩
 |succ f B=>
  intro p m q h s u t G g
  unfold kas_desc
  refine⟨h.below x _,h.below x _,?_⟩
  have one': ∀H:aQ M,sO lt H (m+1) 0:=λH i j a b c k=>(by exact zq119 a b c k:i=j)▸nU asym _
  cases c:lt (gt p m)<|gt p<|m-1 with
  |true=>
   show sp _ _ (if true=true then _ else _) _
   rw[aw O]
   have C:=asym _ _ c
   split
   ·obtain ⟨I,U⟩:=C3 (by rw[h.size];exact zd u) G g
    have hp'':=h.perm<|ur p (m-(q+1)) m
    refine kP (λr ⟨a,b,c,k⟩=>⟨a,by exact sR b,by exact vh c,k⟩) (B _ (m+1) 0 hp'' (by exact sb) (by exact zc u) (by exact zb) (rF asym tr I s ?_)<|one' _)
    rw[jq (by rw[h.size];exact zd u),jq (by rw[h.size];exact zd u),aw ⟨by exact r_,by exact Fo t⟩,az<|by exact U7]
    exact tr _ _ _ C (g _ _ (by exact U6) (by exact U5 t) (by exact r_)<|by exact Fo t)
   ·exact kP (λr ⟨a,b,c,k⟩=>⟨a,by exact sR b,by exact vh c,k⟩) (B _ (m+1) 0 h (by exact sb) (by exact zc u) (by exact zb) (rF asym tr G s C)<|one' _)
  |false=>
   show sp _ _ (if false=true then _ else _) _
   rw[az<|by decide]
   refine⟨h.below x _,h.below x _,?_⟩
   cases e:lt (gt p<|m-1)<|gt p m with
   |true=>
    show sp _ _ (if true=true then _ else _) _
    rw[aw O]
    exact⟨h,bo _,hZ _ _,t,G,g⟩
   |false=>
    show sp _ _ (if false=true then _ else _) _
    rw[az<|by decide]
    refine kP (λr ⟨a,b,c,k⟩=>⟨a,by exact sR b,by exact vh c,k⟩) (B p (m+1) (q+1) h (by exact sb) (by exact zc u) (by exact U4 t) (rF asym tr G s e) λi j s y A v=> ?_)
    by_cases w:i=m
    ·subst w
     by_cases l:j=i
     ·subst l;exact nU asym _
     ·exact tr _ _ _ (g j (i-1) (by exact r9 A) (by exact r0 v l) (by exact r_) (by exact za v l) |> λo=>g _ _ (by exact r_) (by exact za v l) (by exact r9 A)<|by exact r0 v l) c
    ·by_cases l:j=m
     ·subst l
      exact tr _ _ _ e (g _ _ (by exact r9 s) (by exact r0 y w) (by exact r_)<|by exact za y w)
     ·exact g _ _ (by exact r9 s) (by exact r0 y w) (by exact r9 A)<|by exact r0 v l
def yn(lt:M→M→ak)(n:M)(r:M×aQ M):Prop:=Pm n r.2∧1≤r.1∧r.1≤n∧lI lt r.2 r.1
theorem BW(l:0<n){p:aQ M}{m:M}(g:Pm n p)(k:1≤m)(f:m≤n)(G:nW lt p m):sp (· <n) lt (kas_tail3 m n p)<|yn lt n:=by
 unfold kas_tail3
 have hp'':=g.perm<|ur p 0 m
 have o:lI lt (kas_rev p 0 m) m:=λi j h e=>by
  rw[jq (by rw[g.size];exact f),jq (by rw[g.size];exact f),aw ⟨by exact pY,e⟩,aw ⟨by exact pY,by exact zf h e⟩]
  exact G _ _ (by exact U3 h) (by exact Fm e)
 exact pP<|kP (λr ⟨a,b,c,_⟩=>⟨hp'',bF k a,(by exact zq135 f b:r≤n),c⟩)<|Em asym tr hp'' l (n-m) m k o
theorem Bb(g:0<n){p:aQ M}{m:M}(l:Pm n p)(o:1≤m)(h:m<n)(G:nW lt p<|m+1):sp (· <n) lt (kas_descPart m n p)<|yn lt n:=by
 unfold kas_descPart
 refine pP (kP ?_ (Mj asym tr g (n-(m+1)) p (m+1) 0 l (by exact sb) (by exact U2 h) (by exact zb) G λi j a b c k=>(by exact zq119 a b c k:i=j)▸nU asym _))
 rintro ⟨u,q,q'⟩ ⟨a,b,c,k,e,f⟩
 dsimp only at a b c k e f⊢
 split
 ·obtain ⟨B,C⟩:=C3 (by rw[a.size];exact y_ h c) e f
  exact BW asym tr g (a.perm<|ur _ _ _) (by exact Fk k) (by exact y_ h c) B
 ·exact BW asym tr g a (by exact Fk k) (by exact y_ h c) e
theorem KS(g:0<n){p:aQ M}(f:Pm n p):sp (· <n) lt (kas_count n p)<|yn lt n:=by
 unfold kas_count
 refine pP (kP (λm ⟨a,b,c,k⟩=> ?_)<|Em asym tr f g (n-1) 1 (bo _) λi j a b=>(by exact zq139 a b:i=j)▸nU asym _)
 split
 ·exact⟨f,a,by show m≤n;exact U1 g b,c⟩
 ·rename_i w
  have h:m<n:=by
   have:m≠n:=λq=>w (by rw[q];exact fD _)
   exact U0 g b this
  have s:=asym _ _ (k<|by exact UZ h)
  split
  ·rename_i u
   refine⟨f.below g _,f.below g _,?_⟩
   cases e:lt (gt p 0)<|gt p<|m-1 with
   |true=>
    show sp _ _ (if true=true then _ else _) _
    rw[aw O]
    exact⟨f,a,by show m≤n;exact Fj h,c⟩
   |false=>
    show sp _ _ (if false=true then _ else _) _
    rw[az<|by decide]
    have l: ∀i j,i<m→j<m→lt (gt p i) (gt p j)=false:=λi j v r=>by
     by_cases o:j≤i
     ·exact c j i o v
     ·exact tr _ _ _ (tr _ _ _ (c j (m-1) (by exact UY r)<|by exact UX r) e) (c 0 i (by exact pY) v)
    have t:m≤p.size:=by rw[f.size];exact Fj h
    refine Bb asym tr g (f.perm<|ur _ _ _) a h<|rF asym tr (λi j o r=> ?_) a ?_
    ·rw[jq t,jq t,aw ⟨by exact pY,by exact zf o r⟩,aw ⟨by exact pY,r⟩]
     exact l _ _ (by exact Fm r) (by exact UW r)
    ·rw[jq t,jq t,aw ⟨by exact UV,by exact Fi u⟩,az<|by exact UU]
     exact tr _ _ _ s (l _ _ (by exact UT u)<|by exact Fi u)
  ·obtain rfl:m=1:=by exact US a (by assumption)
   exact Bb asym tr g f (bo _) h<|rF asym tr (λi j x y=>(by exact zq139 x y:i=j)▸nU asym _) (bo _) s
theorem Kl(s:0<n)(u:Pm n p)(t:lI lt p k)(f:M): ∀(l r:M),r-l≤f→l≤r→r≤k→(∀x,x<l→lt (gt p k) (gt p x)=false)→(∀x,r≤x→x<k→lt (gt p k) (gt p x)=true)→
  sp (· <n) lt (kas_place p k f l r) λm=>m≤k∧(∀x,x<m→lt (gt p k) (gt p x)=false)∧ ∀x,m≤x→x<k→lt (gt p k) (gt p x)=true:=by
 induction f with
 |zero=>
  intro l r b i a c g
  obtain rfl:l=r:=by exact UR b i
  exact⟨a,c,g⟩
 |succ f v=>
  intro l r b i a c g
  unfold kas_place
  split
  ·obtain rfl:l=r:=by exact UQ i (by assumption)
   exact⟨a,c,g⟩
  ·rename_i h
   refine⟨u.below s _,u.below s _,?_⟩
   cases e:lt (gt p k)<|gt p<|(l+r)/2 with
   |true=>
    show sp _ _ (if true=true then _ else _) _
    rw[aw O]
    refine v l _ (by exact UP b) (by exact UO h) (by exact UN a h) c λx j o=> ?_
    cases q:lt (gt p k)<|gt p x with
    |true=>rfl
    |false=>have:=tr _ _ _ (t _ x j o) q;rw[e]at this;cases this
   |false=>
    show sp _ _ (if false=true then _ else _) _
    rw[az<|by decide]
    exact v _ r (by exact UM b) (by exact UL h) a (λx j=>tr _ _ _ (t x _ (by exact UK j)<|by exact UJ a h) e) g
theorem O2(u:0<n)(f:M): ∀(p:aQ M) (k:M),Pm n p→k+f=n→lI lt p k→sp (· <n) lt (kas_bin f p k) λr=>Pm n r∧lI lt r n:=by
 induction f with
 |zero=>
  intro p k s I o
  obtain rfl:k=n:=I
  exact⟨s,o⟩
 |succ f y=>
  intro p k s I o
  unfold kas_bin
  refine pP (kP (λl ⟨a,b,c⟩=> ?_)<|Kl asym tr u s o k 0 k (by exact UI) (by exact pY) (bo _) (λx v=>absurd v<|Nat.not_lt_zero _) λx A B=>by omega)
  refine y _ (k+1) (s.perm<|bubble_perm _ _ _) (by exact UH I) λi j h q=> ?_
  have t:k<p.size:=by rw[s.size];exact UG I
  rw[BD t (by exact Fh),BD t (by exact Fh),show k-(k-l)=l by exact UF a]
  by_cases w:i=l
  ·rw[aw w]
   by_cases m:j=l
   ·rw[aw m];exact nU asym _
   ·rw[az m,aw ⟨by exact UE h w m,by exact Fg q⟩]
    exact asym _ _ (c _ (by exact UD h w m)<|by exact UC h q w m)
  ·rw[az w]
   by_cases e:l<i∧i≤k
   ·rw[aw e,az (by exact Ga h e.1),aw ⟨by exact UB h e.1,by exact Fg q⟩]
    exact o _ _ (by exact UA h) (by exact Uz q e.1 e.2)
   ·rw[az e]
    by_cases m:j=l
    ·rw[aw m];exact b i (by exact Uy h w m)
    ·rw[az m]
     by_cases g:l<j∧j≤k
     ·rw[aw g];exact o _ _ (by exact Ux h e g.1 g.2) (by exact Uw g.1 g.2)
     ·rw[az g];exact o _ _ (by exact z7 h)<|by exact Uv a q m g
theorem Cz(e:0<n):sp (· <n) lt (kas_sort n) λr=>Pm n r∧lI lt r n:=by
 unfold kas_sort
 refine pP (kP (λr ⟨a,b,c,k⟩=> ?_)<|KS asym tr e (p:=List.toArray<|dO n)<|by unfold Pm;simp)
 split
 ·rename_i h
  rw[show max r.1 1=r.1 by exact Uu b]
  exact O2 asym tr e _ _ _ a (by exact Ut h) k
 ·obtain rfl:r.1=n:=by exact vg c (by assumption)
  exact⟨a,k⟩
end
def sord(l:M→M→ak)(n:M):Y M:=if n<2 then dO n else(ev l<|kas_sort n).toList
theorem rG{l:M→M→ak}(a: ∀i j,l i j=Q→l j i=N)(C: ∀i j k,l j i=N→l k j=N→l k i=N)(n:M):(sord l n).Perm (dO n)∧(sord l n).Pairwise λi j=>l j i=N:=by
 unfold sord
 split
 ·rename_i h
  refine⟨List.Perm.refl _,?_⟩
  match n,h with
  |0,_=>exact List.Pairwise.nil
  |1,_=>exact kF _ _
 ·rename_i h
  obtain ⟨b,f⟩:=FD (Cz a C (n:=n)<|by exact Ff h)
  refine⟨b,List.pairwise_iff_getElem.mpr λi j g e c=> ?_⟩
  have m:=b.size
  have:=f i j (fq c) (by simpa [m]using e)
  unfold gt at this
  simp only[ud]at this
  rw[oa (by simpa using e),oa<|by simpa using g]at this
  simpa using this
end
section
section
variable{prog:dX}{w:cH}{A:a9}{E:T→au→Prop}{s:au}
def gm(l:M→M→ak)(vs:Y T):Y T:=(sord l vs.length).map λi=>vs.getD i .none
def FZ(prog:dX)(w:cH)(A:a9)(vs:Y T)(l:M→M→ak)(s:au):Prop:=
 ∃κ,(∀(b:SortKind→au→Prop) E,b κ s→ar (av prog w) A (keyKind' vs.toArray) b E s)∧ ∀i j (C:ak→au→Prop),i<vs.length→j<vs.length→C (l i j) s→kas_ask prog w A κ vs i j C s
def sQ(prog:dX)(w:cH)(A:a9)(a:ay)(vs:Y T)(l:M→M→ak)(s:au):Prop:=
 2≤vs.length→ ∀h:bB,(∀b o,b≠a→s.heap.get? b=z o→h.get? b=z o)→FZ prog w A vs l {s with heap:=h}
theorem B1(a: ∀i j,l i j=Q→l j i=N)(C: ∀i j k,l j i=N→l k j=N→l k i=N)(n:M):(sord l n).length=n:=by
 have:=(rG a C n).1.length_eq;simpa using this
theorem Jb(h:vs.length<2):gm l vs=vs:=by
 unfold gm sord
 rw[aw h]
 cases vs with
 |nil=>rfl
 |cons v r=>cases r with
  |nil=>rfl
  |cons _ _=>exact absurd h<|dz.mpr<|Nat.le_add_left 2 _
theorem K6{a b:aQ T}(h:b.size=a.size):(a.zip b).map (·.2)=b:=Array.map_snd_zip<|aM h
theorem BZ{γ:Type}{l:M→M→ak}(c: ∀i j,l i j=Q→l j i=N)(U: ∀i j k,l j i=N→l k j=N→l k i=N){g u:Y T}(f:g.length=u.length)(m:u.length<64)(I:2≤u.length→FZ prog w A g l s){k:PUnit×SortSt→aX γ}{a:SortKind→aX γ}{b:γ→au→Prop}
  (t:a=λκ=>(if u.toArray.size<2 then pure ()else sortRuns').run (SortSt.mk' κ (g.toArray.zip u.toArray) #[] 7 D)>>=k)
  (n: ∀st,(arrOf st).map (·.2)=(gm l u).toArray→failedOf st=D→ar (av prog w) A (k ((),st)) b E s):
  ar (av prog w) A (if u.toArray.size<2 then pure general'>>=a else keyKind' g.toArray>>=a) b E s:=by
 subst t
 by_cases e:u.toArray.size<2
 ·rw[aw e]
  refine am<|aA<|am ?_
  rw[aw e,StateT.run_pure]
  refine aA<|n (SortSt.mk' general' (g.toArray.zip u.toArray) #[] 7 D) ?_ O
  rw[iA]at e
  rw[Jb e]
  exact K6 (by rw[iA,iA,f])
 ·rw[az e]
  have h:=e
  rw[iA]at h
  obtain ⟨κ,y,B⟩:=I<|Fe h
  refine am<|y _ _<|am ?_
  rw[az e]
  refine kat_run (vs:=u) (Q:=λst s'=>ar (av prog w) A (k ((),st)) b E s') (G:=λp s'=>p=ev l (kas_sort u.length)∧s'=s) f (Fe h) m (λp' H s' _ o q r=> ?_)<|FC (λi j C v x=>B i j C (wb f v)<|wb f x) (Cz c U<|Ff h) ⟨O,O⟩
  obtain ⟨rfl,rfl⟩:=r
  refine n _ ((kat_snds f o).trans ?_) q
  unfold gm sord
  rw[az h]
theorem VS{l:M→M→ak}(f: ∀i j,l i j=Q→l j i=N)(C: ∀i j k,l j i=N→l k j=N→l k i=N){a:ay}{n:M}{vs:Y T}{P:PySem.Fin→au→Prop}
  (y:s.heap.get? a=z (dY "list" vs.toArray n))(m:vs.length<64)(I:sQ prog w A a vs l s)
  (v: ∀r c,(∀b o,b≠a→s.heap.get? b=z o→r.get? b=z o)→r.get? a=z (dY "list" (gm l vs).toArray c)→P (.done<|.ret .none) {s with heap:=r}):
  ar (av prog w) A (hV.«list.sort» ⟨[.ref a],[]⟩) P E s:=by
 have U:=jc s.heap a<|eQ λ_=>(#[]:aQ T)
 obtain ⟨t,p⟩: ∃t,(s.heap.update a (eQ λ_=>(#[]:aQ T))).get? a=z (dY "list" #[] t):=⟨_,tU y λ_=> #[]⟩
 rw[list_sort_plain]
 refine am (listItems_at y O<|am<|rg y O (am<|seqEpoch_at p O<|am<|wpAny_newTuple (am<|wpAny_newList (b0 ?_)<|dc _)<|by show vs.length≤_;rw[gS];exact y9 m) (by rw[iA,gS];exact y9 m)<|dc _)
 have keep': ∀b o,b≠a→s.heap.get? b=z o→(((s.heap.update a<|eQ λ_=>(#[]:aQ T)).push<|dY "tuple" vs.toArray 0).push<|dY "list" #[] 0).get? b=z o:=λb o q e=>cf _<|cf _<|(U.2 b q).trans e
 have h:=cf (dY "list" #[] 0)<|cf (dY "tuple" vs.toArray 0) p
 show ar (av prog w) A _ P E {s with heap:=((s.heap.update a<|eQ λ_=>(#[]:aQ T)).push<|dY "tuple" vs.toArray 0).push<|dY "list" #[] 0}
 generalize ((s.heap.update a<|eQ λ_=>(#[]:aQ T)).push<|dY "tuple" vs.toArray 0).push (dY "list" #[] 0)=H at keep' h
 refine BZ f C O m (λu=>I u H keep') O λst hst' B=> ?_
 dsimp only
 rw[hst',B]
 have hll':(gm l vs).length=vs.length:=by unfold gm;rw[bc,B1 f C]
 refine am (seqEpoch_at h O<|am<|rg h O ?_ (dc _) (by rw[iA,hll',gS];exact Us m))
 rw[bne_self_eq_false]
 have G:=jc H a<|eQ λ_=>(gm l vs).toArray
 obtain ⟨x,hc20'⟩: ∃x,(H.update a (eQ λ_=>(gm l vs).toArray)).get? a=z (dY "list" (gm l vs).toArray x):=⟨_,tU h λ_=>(gm l vs).toArray⟩
 exact aA<|v _ x (λb o q e=>(G.2 b q).trans<|keep' b o q e) hc20'
theorem JB{u:M→M→ak}(y: ∀i j,u i j=Q→u j i=N)(tr: ∀i j k,u j i=N→u k j=N→u k i=N){x:T}{C:Y T→Prop}{g:T→au→Prop}(n: ∀vs,C vs→vs.length<64)
  (hc: ∀(R:Y T→au→Prop) E,(∀(h:bB) v vs,C vs→(∀b o,s.heap.get? b=some o→h.get? b=some o)→s.heap.objs.size≤h.objs.size→R vs {s with heap:=h,toks:=v})→ar (av prog w) A.in1 (collect x) R E s)
  (hk: ∀(h:bB) v a vs,C vs→(∀b o,s.heap.get? b=some o→h.get? b=some o)→s.heap.get? a=none→sQ prog w A.in1.in1 a vs u {s with heap:=h,toks:=v})
  (U: ∀(h:bB) v f c vs,C vs→(∀b o,s.heap.get? b=some o→h.get? b=some o)→s.heap.objs.size≤f→h.get? f=some (ci (gm u vs).toArray c)→g (.ref f) {s with heap:=h,toks:=v}):
  ar (av prog w) A (co (.builtin "sorted") [x]) g E s:=by
 refine Calls.call_function_entry kind_sorted plain_sorted entry_sorted (args_sorted1 _) ?_
 unfold hV.«sorted»
 refine am (m:=checkCount "sorted" 1 1 _)<|aA ?_
 refine am<|hc _ _ λh v vs r hk1' H=> ?_
 have n:=n vs r
 refine am (wpAny_newList ?_ (by rw[gS];exact y9 n))
 have B:(h.push<|dY "list" vs.toArray 0).get? h.objs.size=some (dY "list" vs.toArray 0):=d_ _ O
 have keep': ∀b o,s.heap.get? b=some o→(h.push<|dY "list" vs.toArray 0).get? b=some o:=λb o e=>cf _<|hk1' b o e
 have p:s.heap.get? h.objs.size=none:=by
  cases e:s.heap.get? h.objs.size with
  |none=>rfl
  |some o=>exact absurd (cI<|hk1' _ _ e)<|rj _
 refine am<|b0<|wpAny_call_entry slot_list_sort ⟨_,B,O⟩ entry_list_sort (VS (s:={s with heap:=h.push<|dY "list" vs.toArray 0,toks:=v}) y tr B n (hk _ _ _ vs r keep' p) λI c hk2' G=>⟨_,O,?_⟩)<|args_list_sort _
 exact aA ⟨_,O,U _ _ _ c vs r (λb o e=>hk2' b o (λq=>by rw[q,p]at e;cases e)<|keep' b o e) H G⟩
end
end
section
open PySem.MeetsSeq PySem.SeqAt
noncomputable def eL:Y J→Y J→ak
 | [],[]=>N
 | [],_::_=>Q
 |_::_,[]=>N
 |a::x,b::y=>if a=b then eL x y else decide (a<b)
theorem uv: ∀x y:Y J,eL x y=Q→eL y x=N
 | [],[],h=>by cases h
 | [],_::_,_=>rfl
 |_::_,[],h=>by cases h
 |a::x,b::y,h=>by
  unfold eL at h⊢
  by_cases e:a=b
  ·rw[aw e]at h;rw[aw e.symm];exact uv x y h
  ·rw[az e]at h;rw[az<|Ne.symm e]
   have:=fB h
   exact bu<|by exact Fd this
theorem uZ: ∀x y e:Y J,eL y x=N→eL e y=N→eL e x=N
 |_,[],[],h,_=>h
 | [],_,[],_,_=>rfl
 | [],[],_::_,_,h=>rfl
 | [],_::_,_::_,_,_=>rfl
 |_::_,[],_::_,h,_=>by cases h
 |_::_,_::_,[],_,h=>by cases h
 |a::x,b::y,c::e,i,j=>by
  unfold eL at i j⊢
  by_cases f:b=a<;>by_cases g:c=b
  ·rw[aw f]at i;rw[aw g]at j;rw[aw<|g.trans f];exact uZ x y e i j
  ·rw[az g]at j
   have:=mL j
   rw[az<|by exact Ur f g];exact bu (by exact Uq f this)
  ·rw[az f]at i
   have:=mL i
   rw[az<|by exact Up f g];exact bu (by exact Uo g this)
  ·rw[az f]at i;rw[az g]at j
   have:=mL i
   have:=mL j
   rw[az<|by exact Un g (by assumption) this];exact bu<|by exact Fc (by assumption) this
theorem xO(a b:J)(x y:Y J):eL (a::x) (b::y)=if a=b then eL x y else decide (a<b):=O
inductive LI(x y:Y J)(rest:Y (T×T)):Prop
 |mk (x' y':Y J) (us vs:Y T) (hz:rest=us.zip vs) (h1:aV eM x' us) (h2:aV eM y' vs) (h3:x'.length+y.length=y'.length+x.length) (h4:eL x' y'=eL x y):LI x y rest
theorem LI.turn(I:LI x y<|(u,v)::B): ∃i j t m,u= .int i t∧v= .int j m∧(i=j∧LI x y B∨ ¬i=j∧eL x y=decide (i<j)):=by
 obtain ⟨H,U,G,vs,c,r,s,w,f⟩:=I
 cases H with
 |nil=>rw[show G= []from r,List.zip_nil_left]at c;cases c
 |cons i o=>
  cases U with
  |nil=>rw[show vs= []from s,List.zip_nil_right]at c;cases c
  |cons j p=>
   obtain ⟨u',l,A,q,a⟩:=r
   obtain ⟨v',n,C,g2,b⟩:=s
   obtain ⟨t,q⟩:=q
   obtain ⟨m,g2⟩:=g2
   rw[A,C,List.zip_cons_cons]at c
   obtain ⟨h,g⟩:=List.cons.inj c
   obtain ⟨h,k⟩:=eD h
   rw[xO]at f
   refine⟨i,j,t,m,h.trans q,k.trans g2,?_⟩
   by_cases e:i=j
   ·rw[aw e]at f
    exact .inl ⟨e,o,p,l,n,g,a,b,by rw[fX,fX]at w;exact Um w,f⟩
   ·rw[az e]at f
    exact .inr ⟨e,f.symm⟩
theorem LI.fin(I:LI x y []):decide (x.length<y.length)=eL x y:=by
 obtain ⟨H,U,l,vs,c,h,e,a,f⟩:=I
 rw[←f]
 cases H with
 |nil=>
  cases U with
  |nil=>exact bu (by simp at a;exact Ul a)
  |cons j p=>exact bx (by simp at a;exact Uk a)
 |cons i o=>
  cases U with
  |nil=>exact bu (by simp at a;exact Uj a)
  |cons j p=>
   obtain ⟨k,u,b,_⟩:=h
   obtain ⟨m,v,g,_⟩:=e
   rw[b,g]at c
   cases c
theorem BS:Meets (hV.«tuple.__lt__» ⟨[.ref l, .ref b],[]⟩)
  (λA R s=>s.heap.get? l=z (fS U n)∧s.heap.get? b=z (fS ys m)∧aV eM x U.toList∧aV eM y ys.toList∧R (.ok<|.ret<|.bool<|eL x y) s):=
 .of_wp λf w A R s h=>by
  obtain ⟨hl,hb,hx,hy,h⟩:=h
  have f2:=AutoSeq1.sub_tuple_tuple
  have lx:U.size=x.length:=eU.symm.trans hx.length
  have ly:ys.size=y.length:=eU.symm.trans hy.length
  have I:LI x y<|U.toList.zip ys.toList:=⟨x,y,_,_,O,hx,hy,by exact Ui,O⟩
  generalize e:eL x y=r at h
  wp_walk using AutoSeq1.wpAny_loadPart' hl,AutoSeq1.wpAny_loadPart' hb,wpAny_forIn_list _ (λB c s'=>c.1=D∧s'=s∧LI x y B) _
  case turn=>
   intro p B c s' o
   obtain ⟨u,v⟩:=p
   obtain ⟨hc,C,g⟩:=o
   obtain ⟨i,j,G,H,hu,hv,g⟩:=g.turn
   rw[C,hu,hv]
   refine am<|(uy ⟨G,O⟩ ⟨H,O⟩) f w _ _ ?_
   rcases g with⟨q,g⟩|⟨q,g⟩
   ·rw[dM.mpr q]
    wp_walk
    exact⟨O,O,g⟩
   ·rw[cL.mpr q]
    refine gq (by rfl) ?_
    dsimp only
    refine am (pe (am ?_))
    have:=AU (prog:=f) (w:=w) (A:=A.in1) (E:=λe s'=>R (Except.error e) s') (s:=s) (a:=i) (b:=j) (t:=G) (u:=H) (Q:=λv s'=>v= .bool r∧s'=s) ⟨by rw[←g,e],O⟩
    refine bq (show ar (av f w) A.in1 (richCompare .Lt (.int i G)<|.int j H) _ _ _ from this) (λv s' hr=> ?_) λ_ _ x=>x
    obtain ⟨h1,h2⟩:=hr
    rw[h1,h2]
    exact am<|aA<|aA<|aA ⟨_,O,h⟩
  case fin=>
   intro c s' o
   obtain ⟨c1,c2⟩:=c
   obtain ⟨hc,C,g⟩:=o
   rw[C,show c1=D from hc]
   refine aA ⟨_,O,?_⟩
   rw[lx,ly]
   show R (.ok<|.ret<|.bool (decide (x.length<y.length))) _
   rw[g.fin,e]
   exact h
  exact⟨O,O,I⟩
end
section
open PySem.MeetsSeq PySem.SeqAt
abbrev sv(h:bB)(t:Y J)(u:T):Prop:= ∃a n x,u= .ref a∧h.get? a=z (fS x n)∧aV eM t x.toList
section
variable{prog:dX}{w:cH}{A:a9}{E:T→au→Prop}{s:au}
theorem IP(h:s.heap.get? a=z (fS i n))(e:s.heap.get? b=z (fS k m))(f:aV eM x i.toList)(g:aV eM y k.toList)(q:c (.bool<|eL x y) s):
  ar (av prog w) A (co (.builtin "tuple.__lt__") [.ref a, .ref b]) c E s:=
 nY F.slot_tuple_lt ⟨_,h,O⟩ F.entry_tuple_lt (F.args_tuple_lt_2 _ _) BS ⟨h,e,f,g,q⟩
theorem JG(i:A.units<cLine)(j:sv s.heap x u)(k:sv s.heap y v)(q:c (eL x y) s):ar (av prog w) A (oneLt' o u v) c E s:=by
 obtain ⟨a,n,p,rfl,h,f⟩:=j
 obtain ⟨b,m,r,rfl,e,g⟩:=k
 rw[oneLt'_eq]
 cases o with
 |true=>
  refine gq O ?_
  refine am<|wpAny_cRoomFor i ?_
  refine am<|wpAny_callSpecialIfBound?_slot (s:=s) ⟨_,h,O⟩ F.slot_tuple_lt<|IP h e f g ?_
  exact tH q
 |false=>
  refine e_ jl ?_
  refine am (richCompare_meets_room (op:= .Lt) ⟨_,h,O⟩ ⟨_,e,O⟩ F.slot_tuple_lt F.entry_tuple_lt (F.args_tuple_lt_2 _ _) BS ⟨h,e,f,g,(λx=>nomatch x),?_⟩ i)
  exact tH q
theorem By(q:b (decide (i<j)) s):ar (av prog w) A (oneLt' o (.int i t)<|.int j u) b E s:=by
 cases o with
 |true=>exact kat_lt_int q
 |false=>exact kat_one _ _<|AU q
theorem Ky: ∀{y:Y J} {f vs:Y T} (i:M),aV eM x f→aV eM y vs→a (eL x y) s→KatLex prog w A b (decide (x.length<y.length)) a (f.zip vs) i s:=by
 induction x with
 |nil=>
  intro y f vs i h _ q
  rw[show f= []from h,List.zip_nil_left]
  cases y with
  |nil=>exact kat_nil q
  |cons k y=>exact kat_nil q
 |cons c x n=>
  intro y f vs i h j q
  cases y with
  |nil=>rw[show vs= []from j,List.zip_nil_right];exact kat_nil q
  |cons k y=>
   obtain ⟨u,C,l,g,m⟩:=h
   obtain ⟨v,G,p,r,t⟩:=j
   obtain ⟨o,g⟩:=g
   obtain ⟨B,r⟩:=r
   rw[l,p,g,r,List.zip_cons_cons]
   rw[xO]at q
   refine kat_cons<|(uy ⟨o,O⟩ ⟨B,O⟩) prog w _ _ ?_
   by_cases e:c=k
   ·rw[aw e]at q
    rw[dM.mpr e]
    rw[show decide ((c::x).length<(k::y).length)=decide (x.length<y.length)from decide_eq_decide.mpr Nat.succ_lt_succ_iff]
    exact kat_yes<|n (i+1) m t q
   ·rw[az e]at q
    rw[cL.mpr e]
    exact kat_no<|By q
def Wf(t:Y J)(o:d T):Prop:=t.casesOn (o=D) λi _=> ∃a,o=z (.int i a)
def rW(B:Y<|Y J)(f:Y<|d T):Prop:=aV Wf B f
theorem xC: ∀{vs:Y T} {b:Y (d T)→au→Prop},aV (sv s.heap) B vs→(∀f,rW B f→b f s)→ar (av prog w) A (vs.mapM firstOfTuple') b E s:=by
 induction B with
 |nil=>intro vs b h q;rw[show vs= []from h,List.mapM_nil];exact aA<|q [] O
 |cons t B y=>
  intro vs b h q
  obtain ⟨u,G,l,p,o⟩:=h
  obtain ⟨a,n,U,m,g,j⟩:=p
  rw[l,m,List.mapM_cons]
  refine am ?_
  rw[kas_first_eq]
  refine am<|pd (T:="tuple") ⟨_,g,O⟩ ?_
  refine e_ (by first|decide|simp) ?_
  refine am<|listItems_at g O<|aA ?_
  refine am<|y o λf I=>aA<|q _ ⟨_,_,O,?_,I⟩
  rw[←mV]
  cases t with
  |nil=>rw[show U.toList= []from j];rfl
  |cons i r=>
   obtain ⟨v,H,e,x,_⟩:=j
   obtain ⟨C,k⟩:=x
   rw[e,k];exact⟨C,O⟩
theorem B5(g: ∀v∈vs,s.TypeIs v a)(c:vs≠ [])(q:b (z<|.type a) s):ar (av prog w) A (oneTypeOnly' vs.toArray) b E s:=by
 rw[oneTypeOnly'_eq,wP,map_eq_pure_bind]
 refine am<|am<|kas_mapM (r:=ra a) _ (λv e Q' k=>pd (g v e) k)<|aA ?_
 obtain ⟨v,r,rfl⟩: ∃v r,vs=v::r:=by cases vs with|nil=>exact absurd rfl c|cons v r=>exact⟨v,r,O⟩
 have h:((List.map (λ_=>ra a)<|v::r).toArray.all λx=>x==ra a)=Q:=by
  simp only[t_,List.all_map,jj]
  intro _ _
  simp
 have f:(List.map (λ_=>ra a)<|v::r).toArray[0]? =z (ra a):=by simp
 rw[f]
 simp only[h,if_true]
 exact aA q
theorem rW.all: ∀{f:Y<|d T},rW B f→f.all (·.isSome)=B.all (!·.isEmpty):=by
 induction B with
 |nil=>intro f h;rw[show f= []from h];rfl
 |cons t B g=>
  intro f h
  obtain ⟨o,a,c,b,e⟩:=h
  rw[c,List.all_cons,List.all_cons,g e]
  cases t with
  |nil=>rw[show o=D from b];rfl
  |cons i r=>
   obtain ⟨j,b⟩:=b
   rw[b];rfl
theorem rW.ints: ∀{f:Y<|d T},rW B f→(∀v∈f.filterMap id,s.TypeIs v "int")∧(B.all (!·.isEmpty)=Q→B≠ []→f.filterMap id≠ []):=by
 induction B with
 |nil=>intro f h;rw[show f= []from h];exact⟨λv c=>(nomatch c),λ_ q=>absurd rfl q⟩
 |cons t B a=>
  intro f h
  obtain ⟨o,g,j,b,k⟩:=h
  have a:=(a k).1
  rw[j]
  cases t with
  |nil=>rw[show o=D from b];exact⟨a,λq=>nomatch q⟩
  |cons i r=>
   obtain ⟨l,b⟩:=b
   rw[b]
   exact⟨λv c=>(dP.mp c).elim (λe=>e▸typeIs_int s i l)<|a v,λ_ _ q=>nomatch q⟩
theorem Ig(u v:T):keyLt' general' u v=oneLt' N u v:=O
theorem JM(h:aV (sv s.heap) B vs)(f:B≠ []): ∃κ:SortKind,(κ=tuples' Q∨ ∃o,∀u v,keyLt' κ u v=oneLt' o u v)∧ ∀(b:SortKind→au→Prop) E,b κ s→ar (av prog w) A (keyKind' vs.toArray) b E s:=by
 have g:vs≠ []:=λq=>by subst q;have:=h.length;exact f<|t9 this.symm
 have l: ∀v∈vs,s.TypeIs v "tuple":=λv x=>by
  obtain ⟨c,a,n,U,rfl,p,_⟩:=h.mem v x
  exact⟨_,p,O⟩
 by_cases C:B.all (!·.isEmpty)=Q
 ·refine⟨tuples' Q, .inl O,λb E q=> ?_⟩
  rw[kat_kind_eq,wP,map_eq_pure_bind]
  refine am<|am<|xC h λj I=>aA ?_
  refine gq (by rw[t_,I.all];exact C) ?_
  refine am<|pe ?_
  obtain ⟨y,G⟩:=I.ints (s:=s)
  rw[show (j.toArray.filterMap id)=(j.filterMap id).toArray by simp]
  exact am<|B5 y (G C f)<|aA q
 ·have e:B.all (!·.isEmpty)=N:=by simpa using C
  cases B with
  |nil=>exact absurd rfl f
  |cons t B=>
   cases t with
   |cons i r=>
    refine⟨general', .inr ⟨N,Ig⟩,λb E q=> ?_⟩
    rw[kat_kind_eq,wP,map_eq_pure_bind]
    refine am<|am<|xC h λj I=>aA ?_
    refine e_ (by rw[t_,I.all,e];decide) ?_
    obtain ⟨o,k,rfl,⟨H,rfl⟩,_⟩:=I
    refine gq (by simp) ?_
    exact aA q
   |nil=>
    refine⟨oneType', .inr ⟨Q,keyLt'_oneType⟩,λb E q=> ?_⟩
    rw[kat_kind_eq,wP,map_eq_pure_bind]
    refine am<|am<|xC h λj I=>aA ?_
    refine e_ (by rw[t_,I.all,e];decide) ?_
    obtain ⟨o,k,rfl,m,_⟩:=I
    obtain rfl:o=D:=m
    refine e_ (by simp) ?_
    exact am<|B5 l g<|aA q
theorem aV.getD{γ:Type}{P:γ→T→Prop}{f:Y γ}{b:Y T}(h:aV P f b){i:M}(a:i<b.length)(k:γ):P (f.getD i k)<|b.getD i .none:=by
 have c:i<f.length:=by rw[←h.length];exact a
 have:=h.get i a c
 rw[gx,gx,de a,de c]
 exact this
def ou(B:Y<|Y J)(i j:M):ak:=eL (B.getD i [])<|B.getD j []
noncomputable def jp(n:Y J)(i j:M):ak:=decide (n.getD i 0<n.getD j 0)
theorem J6{a:ay}{B:Y<|Y J}{vs:Y T}(U:A.units<cLine)(h: ∀e:bB,(∀b o,b≠a→s.heap.get? b=z o→e.get? b=z o)→aV (sv e) B vs):sQ prog w A a vs (ou B) s:=λy e I=>by
 have f:=h e I
 have l:B≠ []:=λq=>by subst q;have:=f.length;simp only[lR]at this;exact Uh y this
 obtain ⟨κ,m,k2⟩:=JM (prog:=prog) (w:=w) (A:=A) (s:={s with heap:=e}) f l
 refine⟨κ,k2,λi j C g k H=> ?_⟩
 have r:=f.getD g []
 have t:=f.getD k []
 unfold kas_ask
 rcases m with rfl|⟨o,m⟩
 ·obtain ⟨a1,n1,xs,u,v,n⟩:=r
  obtain ⟨a2,n2,ys,x,G,p⟩:=t
  rw[u,x]
  refine kat_lt (s:={s with heap:=e}) v O G O ?_
  have l1:xs.size=(B.getD i []).length:=by rw[←eU];exact n.length
  have l2:ys.size=(B.getD j []).length:=by rw[←eU];exact p.length
  rw[l1,l2]
  exact Ky 0 n p H
 ·rw[m]
  exact JG (s:={s with heap:=e}) U r t H
theorem BP{a:ay}{n:Y J}{vs:Y T}(h:aV eM n vs):sQ prog w A a vs (jp n) s:=λf p _=>by
 obtain ⟨v1,v,r,rfl⟩: ∃v1 v r,vs=v1::v::r:=by
  match vs,f with
  |v1::v::r,_=>exact⟨v1,v,r,O⟩
 refine⟨oneType',λb E q=> ?_,λi j C k l H=> ?_⟩
 ·have c: ∀{n:Y J} {vs:Y T},aV eM n vs→IntsAre vs n:=by
   intro n
   induction n with
   |nil=>intro vs h;cases h;exact .nil
   |cons i r m=>rintro vs ⟨u,o,rfl,⟨t,rfl⟩,h⟩;exact .cons i t (m h)
  rw[keyKind_ints<|c h]
  exact aA q
 ·obtain ⟨x,e⟩:=h.getD k 0
  obtain ⟨y,g⟩:=h.getD l 0
  unfold kas_ask
  rw[e,g,keyLt'_oneType]
  exact By H
theorem pH(n:Y J)(i j:M)(h:jp n i j=Q):jp n j i=N:=by
 have:=fB h
 exact bu<|by exact Fd this
theorem pN(n:Y J)(i j k:M)(b:jp n j i=N)(e:jp n k j=N):jp n k i=N:=by
 have:=mL b
 have:=mL e
 exact bu<|by exact Fc (by assumption) this
end
end
section
def sN(h:bB)(k:ay)(e:aQ fe)(f:M):Prop:=h.get? k=z (cj e f)
section
variable{prog:dX}{w:cH}{A:a9}{E:T→au→Prop}{s:au}{ay' it:ay}{es:aQ fe}{ep i:M}
theorem Ki(G:(ay'==eJ)=N)(h:sN s.heap ay' es ep)
  (g:b (.ref s.heap.objs.size) {s with heap:=s.heap.push {cls:= .type "dict_keyiterator",data:= .fields #[.ref ay', .int 0 0, .int es.size 0, .int ep 0]}}):ar (av prog w) A (pyIter<|.ref ay') b E s:=by
 have B:s.TypeIs (.ref ay') "dict":=⟨_,h,O⟩
 refine wpAny_pyIter_slot B F.slot_dict_iter<|wpAny_call_entry F.slot_dict_iter B F.entry_dict_iter ?_ (F.args_dict_iter_1 _)
 unfold hV.«dict.__iter__»
 refine am ?_
 unfold Builtin.Dict.dictSlotNone
 refine am<|wpAny_notOrdered_dict B ?_
 show ar _ _ (pure<|eP ay') _ _ s
 refine aA ?_
 show ar _ _ (Builtin.Dict.showsAll ay'>>=_) _ _ s
 unfold Builtin.Dict.showsAll
 rw[az<|by rw[G];exact jl]
 refine am<|aA ?_
 refine am<|tO h O<|am<|wpAny_dictEpoch h O ?_
 refine am (iw<|aA ⟨_,O,"dict_keyiterator",_,⟨_,d_ _ O,O⟩,AR.lookup,?_⟩)
 simpa [rawInt]using g
theorem B4(t:A.handled=none)(h:s.heap.IsKeyIter it ay' i es.size ep)(n:sN s.heap ay' es ep)
  (p: ∀e k,es[i]? =some e→k.IsKeyIter it ay' (i+1) es.size ep→hU it s.heap k→c (some e.key) {s with heap:=k})
  (q:es[i]? =none→ ∀k,Heap.ExtBut it s.heap k→c none {s with heap:=k}):ar (av prog w) A (pyNext<|.ref it) c E s:=by
 obtain ⟨o,y,r,G⟩:=id h
 unfold pyNext
 refine am (wpAny_attempt<|wpAny_callSpecial?_slot (name:=n0 "__next__") h.typeIs AR
  (wpAny_call_entry AR h.typeIs F.entry_dict_keyiterator_next ?_ (F.args_dict_keyiterator_next_1 _)))
 refine am<|aA ?_
 refine am ?_
 refine am ?_
 first|refine am (AQ h.typeIs (aA ?_))|refine am (wpAny_typeNameOf_keyiter h.typeIs (aA ?_))
 refine am (wpAny_fieldsOf y G ?_)
 have B:Builtin.Dict_items.ownsTuple "dict_keyiterator"=N:=by decide
 rw[B]
 show ar _ _ (if(eP ay'==dN)=Q then _ else _) _ _ s
 refine e_ (show ¬((eP ay'==dN)=Q)from jl) ?_
 refine am<|aA ?_
 refine am<|tO n rfl ?_
 refine e_ (by simp) ?_
 refine am<|aA ?_
 refine am<|wpAny_dictEpoch n rfl ?_
 refine e_ (by simp) ?_
 refine aA ?_
 dsimp only
 rw[az (zq213: ¬((i:J)<0)),xg]
 cases l:es[i]? with
 |some e=>
  refine am ?_
  first|refine am (AQ h.typeIs (aA ?_))|refine am (wpAny_typeNameOf_keyiter h.typeIs (aA ?_))
  refine am (wpAny_isOneOf_keyiter h.typeIs ?_)
  show ar _ _ (setField (.ref it) 1 (rawInt ((i:J)+1))>>=_) _ _ s
  refine am (tI y G (by simp) ?_)
  have g:(s.heap.update it (lL (·.setIfInBounds 1 (rawInt ((i:J)+1))))).IsKeyIter it ay' (i+1) es.size ep:=
   ⟨_,mQ _ y<|wH<|wI G _,(Obj.cls_mapFields ..).trans r,by rw[wI G];simp[rawInt]⟩
  refine am<|b0 ?_
  refine am (wpAny_isOneOf_keyiter (s:={s with heap:=s.heap.update it (lL (·.setIfInBounds 1 (rawInt<|(i:J)+1)))}) g.typeIs ?_)
  show ar _ _ (pure e.key) _ _ _
  exact aA<|aA ⟨_,rfl,aA<|p e _ l g<|jc ..⟩
 |none=>
  refine am ?_
  first|refine am (AQ h.typeIs (aA ?_))|refine am (wpAny_typeNameOf_keyiter h.typeIs (aA ?_))
  show ar _ _ (setField (.ref it) 0 .none>>=_) _ _ s
  refine am (tI y G (by simp) ?_)
  show ar _ _ (newExc (.type "StopIteration") []>>=_) _ _ _
  refine am ?_
  delta newExc newTuple
  refine am (iw ?_ (by size_fits))
  refine am (m:=firstArgMember _ _) (wpAny_of_eq (a:=dN) (by first|rfl|(simp only[firstArgMember];rfl)) ?_)
  refine iw ?_ (by size_fits)
  delta raiseNew
  refine am (wpAny_handled ?_)
  rw[show A.in1.handled=none from t]
  refine am (aA (wpAny_throw ?_))
  refine am (wpAny_isInstance (T:="StopIteration") (b:=Q) ⟨_,d_ _ rfl,rfl⟩ isSubtype_stop ?_)
  exact aA (q l _ (((jc ..).extBut.push _).push _))
theorem Lv(lo:(ay'==eJ)=N):KdlSrc prog w "dict" ay' ay' es.size (λi v=> ∃e,es[i]? =z e∧v=e.key) (λh=>sN h ay' es ep) where
 type:=λ_ c=>⟨_,c,O⟩
 there:=λ_ c=>⟨cI c,cI c⟩
 keep:=λ_ _ c I=>I ay' (.inl O) _ c
 notList:=by decide
 notTuple:=by decide
 hint:=λ_ _ _ _ c t=>kdl_hint_dict ⟨_,c,O⟩ t
 iter:=λA s x c=>⟨_,λi h=>h.IsKeyIter s.heap.objs.size ay' i es.size ep∧sN h ay' es ep,(λ_ _ t=>Ki lo c t),
  {sub:=λb f=>by simp at f;simp[f]
   frame:=λ_ _ _ st I=>⟨st.1.at λo e=>I _ (by simp) o e,I ay' (by simp) _ st.2⟩
   item:=λi s' a E G st j=>B4 x st.1 st.2 (λe p g k l=>j e.key p s'.toks ⟨e,g,O⟩ ⟨k,(l.2 ay'<|iz<|cI c).trans st.2⟩ λb o f e=>l.extBut b o (λh=>f<|by simp[h]) e)
    λg=>by rw[xk]at g;exact absurd G (dz.mpr g)
   done:=λs' a E st j=>B4 x st.1 st.2 (λe p g=>by simp at g) λ_ p r=>j p s'.toks λb o f e=>r b o (λh=>f<|by simp[h]) e
   self:=λ_ _ _ _ st j=>wpAny_pyIter_keyiter st.1 j},⟨⟨_,d_ _ O,O,O⟩,cf _ c⟩⟩
theorem A5{R:Y T→au→Prop}(lo:(ay'==eJ)=N)(n:A.handled=none)(g:sN s.heap ay' es ep)(k:es.size≤d7)
  (h: ∀c t,(∀b o,s.heap.get? b=some o→c.get? b=some o)→s.heap.objs.size≤c.objs.size→R (es.toList.map (·.key)) {s with heap:=c,toks:=t}):ar (av prog w) A (collect<|.ref ay') R E s:=
 pI (bq (E:=E) (kdu_collect (R:=λvs s'=>s.heap.objs.size≤s'.heap.objs.size→R vs s') (Lv lo) n g k λc t a I hacc' l=>by
  have e:a.toList=es.toList.map (·.key):=List.ext_getElem? λi=>by
   rw[eK,mV,mV]
   cases q:a[i]? with
   |none=>rw[xk.mpr<|bF (aM hacc'.1.symm)<|xk.mp q];rfl
   |some v=>exact(hacc'.2 i v q).elim λe y=>by rw[y.1,y.2];rfl
  rw[e];exact h c t I l) (λ_ _ x=>x) λ_ _ x _=>x)
end
end
section
def lg(l:M→M→ak)(c:Y P):Y P:=(sord l c.length).map λi=>c.getD i .none
theorem CN(b: ∀i j,a i j=Q→a j i=N)(C: ∀i j k,a j i=N→a k j=N→a k i=N)(h:be t F c m):be t F (lg a c)<|gm a m:=by
 unfold gm
 rw[nc h]
 have f: ∀i∈sord a c.length,i<c.length:=λi e=>jh.mp<|(rG b C _).1.mem_iff.mp e
 unfold lg
 generalize sord a c.length=l at f
 induction l with
 |nil=>rfl
 |cons i r p=>
  have e:=de<|f i<|.head _
  obtain ⟨u,o,g⟩:=rK h e
  refine⟨m.getD i .none,_,O,?_,p λj n=>f j<|.tail _ n⟩
  show PR t F (c.getD i .none) _
  rw[gx,gx,o,e]
  exact g
def ni(c:Y P):d<|Y P:=if c.length<64 then(nv c).elim ((gX c).bind λB=>z<|lg (ou B) c) λn=>z<|lg (jp n) c else D
def VE(v:V)(H:Y af):d<|Y P:=(df v H).elim ((nu v H).bind λe=>z (e.map (·.1))) z
def ol:Y V→Y af→R V:=iV λv H=>(VE v H).elim .err λc=>(ni c).elim .err λq=> .ok (.p<|.list q) H
theorem fT.keys(h:fT t g a b):be t g.F (a.map (·.1)) (b.map (·.key)):=by
 induction a generalizing b with
 |nil=>cases h;rfl
 |cons e r i=>
  obtain ⟨k,ds'',rfl,c,f⟩:=h
  exact⟨_,_,O,c.1,i f⟩
section
variable{W:Wd}{n:M}
theorem xq(hu:A.units+10<cLine)(R:aN W g H s)(h:ni ps=z qs)
  (hc:ps.length<64→ ∀(R:Y T→au→Prop) E,(∀(m:bB) p r,be W.tb g.F ps r→(∀b o,s.heap.get? b=z o→m.get? b=z o)→s.heap.objs.size≤m.objs.size→R r {s with heap:=m,toks:=p})→ar (av W.prog W.w) A.in1 (collect x) R E s)
  (q: ∀(m:bB) p f o,(∀b o,s.heap.get? b=z o→m.get? b=z o)→s.heap.objs.size≤f→m.get? f=z o→(∀g':Gh,Ge g g'→g'.F f=z o→PR W.tb g'.F (.list qs) (.ref f))→l (.ref f) {s with heap:=m,toks:=p}):
  ar (av W.prog W.w) A (co (.builtin "sorted") [x]) l E s:=iZ h λU h=>by
 have fin: ∀{B:M→M→ak},(∀i j,B i j=Q→B j i=N)→(∀i j k,B j i=N→B k j=N→B k i=N)→qs=lg B ps→(∀(m:bB) p a r,be W.tb g.F ps r→(∀b o,s.heap.get? b=z o→m.get? b=z o)→s.heap.get? a=D→sQ W.prog W.w A.in1.in1 a r B {s with heap:=m,toks:=p})→ar (av W.prog W.w) A (co (.builtin "sorted") [x]) l E s:=
  λv tr e I=>JB v tr (λr G=>by rw[nc G];exact U) (hc U) I λm p f c r G I hD ho=>q m p f _ I hD ho λg' ge hF=>⟨f,c,_,O,hF,by rw[wM,e];exact be.mono ge.F<|CN v tr G⟩
 refine jA h (λns hns' e=>fin (pH ns) (pN ns) (aY e).symm λm p a r G I hn=>BP<|pR hns' G) λ_ h=>bw h λts hts' e=> ?_
 refine fin (B:=ou ts) (λi j=>uv _ _) (λi j k=>uZ _ _ _) (aY e).symm λm p a r G I hn=>J6 (Ug hu) λh''' hk''=>(uE hts' G).imp λt u y=> ?_
 obtain ⟨a',n',xs,h1,h2,h3⟩:=y
 have:=R.fz _ _ h2
 exact⟨a',n',xs,h1,hk'' _ _ (λq=>by rw[q,hn]at this;cases this)<|I _ _ this,h3⟩
theorem JA:FW W n (.builtin "sorted") ol:=FW.a1 λA l g H s x u S R r=>Cl.opt λps j=>Cl.opt λqs f=>Cl.made R λb E k=>jA j (λps'' h e=>by
  obtain rfl:=aY e
  obtain ⟨a,m,U,rfl,q,B⟩:=eE h R r
  exact xq (y8 S.un) R f (λc v t i=>xn a (.inl O) q O rfl (λw I o=>i w s.toks U.toList B I o) (nw B.size c dB)) k) λ_ h=>bw h λes y e=>by
  obtain rfl:=aY e
  obtain ⟨a,m,ds,rfl,q,B,q4,C⟩:=rA y R r
  have p:=nc B.keys
  rw[bc,eU]at p
  exact xq (y8 S.un) R f (λc v t i=>A5 C S.hd q (nw p c dB) λw G I o=>i w G _ B.keys I o) k
end
end
section
def vU(m:Y V→Y af→R V)(p:P):d J:=(m [.p p] []).casesOn (λv H=>H.casesOn (dE v) λ_ _=>D) (λ_=>D) D
def vq(m:Y V→Y af→R V)(c:Y P):d<|Y J:=dJ (vU m) c
theorem LU(h:vU m p=z k):m [.p p] []= .ok (.p<|.int k) []:=by
 unfold vU at h
 generalize m [.p p] []=r at h
 cases r with
 |err=>exact nomatch h
 |exc k=>exact nomatch h
 |ok v H=>
  cases H with
  |cons c r=>exact nomatch h
  |nil=>
   obtain ⟨q,rfl,e⟩:=jI h
   rw[jV e]
theorem A7(H:Y af):gA [] H []=H:=by
 have e: ∀m k (H:Y af),lY [] m [] k H=H:=λm k H=>by
  induction H generalizing k with
  |nil=>rfl
  |cons c H i=>exact aR (c:: ·)<|i<|k+1
 exact(ft _).trans<|e _ _ H
theorem J2(h:m [.p p] []= .ok (.p<|.int k) []):aU m [.p p] H= .ok (.p<|.int k) H:=by
 have b:reach H 4 (addNew []<|[V.p p].flatMap lblsV)= []:=O
 unfold aU
 rw[b]
 have e:vD m [.p p] H []=(m [.p p] []).bind (λv a=>R.ok (j0 [] H.length v)<|gA [] H a):=O
 rw[e,h]
 exact aR (R.ok _)<|A7 H
section
variable{prog:dX}{w:cH}{A:a9}{E:T→au→Prop}{s:au}
theorem LP{a k:ay}{n:aQ T}{r j:M}{st:SortSt}{vs:Y T}(t:s.heap.get? k=z (ci n r))(u:s.heap.get? a=z (ci #[] j))(i:a≠k)(y:vs.length≤d7)(I:n.size≤d7)(hst':(arrOf st).map (·.2)=vs.toArray)(x:failedOf st=D){f:PySem.Fin→au→Prop}
  (q: ∀h c,(∀b o,b∉ [a,k]→s.heap.get? b=z o→h.get? b=z o)→s.heap.objs.size≤h.objs.size→h.get? a=z (ci vs.toArray c)→f (.done<|.ret .none) {s with heap:=h}):ar (av prog w) A (ksk_tail a N j (.ref k) st) f E s:=by
 have U:=jc s.heap k<|eQ λ_=>(#[]:aQ T)
 have g:=(U.2 a i).trans u
 have p:=jc (s.heap.update k<|eQ λ_=>(#[]:aQ T)) a<|eQ λ_=>vs.toArray
 have v:=tU g λ_=>vs.toArray
 unfold ksk_tail
 dsimp only
 rw[hst',x]
 refine am<|rg t O (am<|wpAny_letGo<|am<|seqEpoch_at g O<|am<|rg g O ?_ (dc _) (bF y<|eR _)) I<|dc _
 rw[bne_self_eq_false]
 exact aA<|q _ _ (λb o l e=>(p.2 b λq=>l<|q▸ .head _).trans<|(U.2 b λq=>l<|q▸ .tail _ (.head _)).trans e) (aM (p.1.trans U.1).symm) v
theorem Kw(r:s.heap.get? j=z (ci n y))(t:s.heap.get? a=z (ci #[] p))(i:a≠j)(x:aV eM k n.toList)(g:n.toList.length=u.length)(m:u.length<64)
  (q: ∀h c,(∀b o,b∉ [a,j]→s.heap.get? b=z o→h.get? b=z o)→s.heap.objs.size≤h.objs.size→h.get? a=z (ci (gm (jp k) u).toArray c)→f (.done<|.ret .none) {s with heap:=h}):ar (av prog w) A (ksk_end a N u.toArray p (.ref j) n) f E s:=by
 unfold ksk_end
 refine e_ jl ?_
 exact BZ (g:=n.toList) (pH k) (pN k) g m (λI=>BP (a:=a) x (by rw[g];exact I) s.heap λ_ _ _ e=>e) O λst hst' v=>
  LP r t i (by unfold gm;rw[bc,B1 (pH k)<|pN k];exact nw O m dB) (nw (eU.symm.trans g) m dB) hst' v q
end
section
variable{W:Wd}{n:M}
inductive KI(W:Wd)(n:M)(A:a9)(l:Y bj)(H:Y af)(g:Gh)(s:au)(a kS:ay)(e1:M)(ks:Y J)(i:M)(s':au):Prop
 |mk (g':Gh) (kA:aQ T) (e:M) (R:aN W g' H s') (G:aL [a] g s g' s') (S:dK W n A l g' s') (K:gN W g' s' kS (ci kA e)) (L:gN W g' s' a (ci #[] e1)) (hi:aV eM (ks.take i) kA.toList):KI W n A l H g s a kS e1 ks i s'
theorem aL.trans2(x:aL [a] g s i l)(y:aL [a,k] i l j m)(h:s.heap.objs.size≤k):aL [a] g s j m:=
 ⟨x.ge.trans y.ge,λb o e c f=>y.only b o (x.only b o e c f) (λq=>(x.frL b q).elim c<|Nat.not_le_of_lt<|cI e) λq=>(dP.mp q).elim (λq=>f<|q▸ .head _) λq=>Nat.not_le_of_lt (cI e)<|bz.mp q▸h,
  λb o e=>(y.frF b o e).elim (x.frF b o) λq=> .inr<|bF x.sz q,λb q=>(y.frL b q).elim (x.frL b) λq=> .inr<|bF x.sz q,bF x.sz y.sz⟩
theorem Kx{f:ay}{m:Y V→Y af→R V}(hm:FW W n (.ref f) m){A:a9}{l:Y bj}{g:Gh}{H:Y af}{s s':au}{a j:ay}{e1:M}{y:Y J}{i:M}{p:P}{k:J}{u:T}(hpu':PR W.tb g.F p u)(hk:y[i]? =z k)(hm'':m [.p p] []= .ok (.p<|.int k) [])(hne':a≠j)(hkS':s.heap.objs.size≤j)(h64':y.length<64)
  (I:KI W n A l H g s a j e1 y i s'){B:T→aX (ForInStep PUnit)}{E:T→au→Prop}:
  ar (av W.prog W.w) A ((co (.ref f) [u]).attempt>>=λr=>match r with| .ok k=>(do Builtin.List.listUpdate (.ref j) (·.push k);pure (uc ⟨⟩))| .error e=>B e) (λr c=>r= .yield ⟨⟩∧KI W n A l H g s a j e1 y (i+1) c) E s':=by
 obtain ⟨g',kA,e,R',G',S',K,L,hi⟩:=I
 have hc:=hm.sel A l g' H s' [.p p] [u] S' R' ⟨u,[],O,PR.mono G'.ge.F hpu',O⟩
 rw[J2 hm'']at hc
 refine am (wpAny_attempt<|bq (hc λq=>nomatch q) (λv c p=> ?_) λ_ _ p=>p.casesOn λ_ er _=>nomatch er)
 obtain ⟨v',H''',g''',e',U,hv,G⟩:=p
 injection e' with e2 e3;subst e2 e3
 obtain ⟨t,rfl⟩:=hv
 have x:=K.grow G λq=>nomatch q
 have L2:=L.grow G λq=>nomatch q
 have w:=hi.length
 rw[eU,mT]at w
 have w:kA.size≤d7:=bF (w▸Nat.min_le_right _ _)<|nw O h64' dB
 have sk:=jc c.heap j (eQ (·.push (.int k t)))
 have hc20':=tU x.get (·.push (.int k t))
 refine am<|rg x.get O ?_ w (bF (aM<|Array.size_push ..)<|Nat.succ_le_succ w)
 obtain ⟨R4,C⟩:=U.touch (t:=c.toks) x sk
 refine aA ⟨O,g''',kA.push<|.int k t,_,R4,(G'.trans<|G.weaken λ_ h=>nomatch h).transF C λb hb=>bz.mp hb▸hkS',(S'.grow0 G).grow C (λb hb o hbo'=>by obtain rfl:=bz.mp hb;exact⟨_,hc20',λvs q=>nomatch q⟩),⟨x.ap,hc20'⟩,L2.grow C λq=>hne'<|bz.mp q,?_⟩
 rw[List.take_add_one,hk,xh]
 exact hi.append ⟨po k t,[],O,⟨t,O⟩,O⟩
theorem VV{f:ay}{m:Y V→Y af→R V}(hm:FW W n (.ref f) m){A:a9}{l:Y bj}{g:Gh}{H:Y af}{s:au}{a:ay}{e0:M}{ps:Y P}{ks:Y J}{j:Y T}(S:dK W n A l g s)(R:aN W g H s)(L:gN W g s a<|ci j.toArray e0)
  (hp:be W.tb g.F ps j)(hk:vq m ps=z ks)(v:ps.length<64){h:PySem.Fin→au→Prop}{E:T→au→Prop}
  (q: ∀s' y c,aN W y H s'→aL [a] g s y s'→gN W y s' a (ci (gm (jp ks) j).toArray c)→h (.done<|.ret .none) s'):ar (av W.prog W.w) A (ksk_tree a (.ref f) N) h E s:=by
 have r:=nc hp
 obtain ⟨B,hkg'⟩:=ym hk
 have hz:j.length≤d7:=nw r v dB
 have s1:=jc s.heap a<|eQ λ_=>(#[]:aQ T)
 have G:=tU L.get λ_=>(#[]:aQ T)
 unfold ksk_tree
 refine am<|listItems_at L.get O<|am<|rg L.get O (am<|seqEpoch_at G O<|am<|wpAny_newTuple (am<|wpAny_newList (b0 ?_)<|dc _) hz) (bF (aM<|iA ..) hz)<|dc _
 have w:=cI L.get
 have U:((s.heap.update a<|eQ λ_=>(#[]:aQ T)).push<|dY "tuple" j.toArray 0).objs.size=s.heap.objs.size+1:=(size_push' _ _).trans (aR (· +1) s1.1)
 have hkS':(((s.heap.update a<|eQ λ_=>(#[]:aQ T)).push<|dY "tuple" j.toArray 0).push<|ci #[] 0).get? ((s.heap.update a<|eQ λ_=>(#[]:aQ T)).push<|dY "tuple" j.toArray 0).objs.size=z (ci #[] 0):=d_ _ O
 have x:=cf (ci #[] 0)<|cf (dY "tuple" j.toArray 0) G
 have keep': ∀b o,b∉ [a]→s.heap.get? b=z o→(((s.heap.update a<|eQ λ_=>(#[]:aQ T)).push<|dY "tuple" j.toArray 0).push<|ci #[] 0).get? b=z o:=λb o t e=>cf _<|cf _<|(s1.2 b λq=>t<|q▸ .head _).trans e
 show ar _ A (ksk_rest a (.ref f) N j.toArray _<|.ref ((s.heap.update a<|eQ λ_=>(#[]:aQ T)).push<|dY "tuple" j.toArray 0).objs.size) h E {s with heap:=((s.heap.update a<|eQ λ_=>(#[]:aQ T)).push<|dY "tuple" j.toArray 0).push<|ci #[] 0}
 generalize ((s.heap.update a<|eQ λ_=>(#[]:aQ T)).push<|dY "tuple" j.toArray 0).push (ci #[] 0)=H3 at hkS' x keep'⊢
 generalize ((s.heap.update a<|eQ λ_=>(#[]:aQ T)).push<|dY "tuple" j.toArray 0).objs.size=kS at hkS' U⊢
 have hks':s.heap.objs.size≤kS:=U▸eR _
 have C:a≠kS:=iz<|je w hks'
 obtain ⟨R3,G3⟩:=R.hide (t:=s.toks) (λb t=>bz.mp t▸L.ap) keep'<|bF hks'<|fq<|cI hkS'
 unfold ksk_rest
 refine am<|pe ?_
 rw[List.forIn_toArray]
 refine am (ksk_fold (KI W n A l H g s a kS _ ks) j 0 _ ⟨g,#[],0,R3,G3,S.grow G3 (λb t o hbo'=>by obtain rfl:=bz.mp t;exact⟨_,x,λvs q=>nomatch q⟩),⟨lU R hks',hkS'⟩,⟨L.ap,x⟩,O⟩ (λi u s' hui' I=> ?_) λs' I=> ?_)
 ·rw[lN]at I⊢
  have w:=(dH.mp hui').1
  obtain ⟨p,hpi'⟩: ∃p,ps[i]? =z p:=⟨_,de<|r▸w⟩
  obtain ⟨k,hki',hmk'⟩:=hkg' i p hpi'
  obtain ⟨u',hu'',hpu'⟩:=rK hp hpi'
  obtain rfl:=aY<|hui'.symm.trans hu''
  exact Kx hm hpu' hki' (LU hmk') C hks' (B▸v) I
 ·rw[lN]at I
  obtain ⟨y,kA,e,R',G',S',K',L',hi⟩:=I
  rw[pB<|aM<|B.trans r.symm]at hi
  refine am<|listItems_at K'.get O<|Kw K'.get L'.get C hi (hi.length.trans<|B.trans r.symm) (r▸v) λh' c k hs ho=> ?_
  obtain ⟨R4,G4⟩:=R'.hide (t:=s'.toks) (λb t=>(dP.mp t).elim (λq=>q▸L'.ap) λt=>bz.mp t▸K'.ap) k hs
  exact q _ y c R4 (G'.trans2 G4 hks') ⟨L'.ap,ho⟩
end
end
section
def kW(m:Y V→Y af→R V)(v:V)(H:Y af):R V:=(df v H).elim .err λc=>(vq m c).elim .err λk=>if c.length<64 then .ok (.p<|.list<|lg (jp k) c) H else .err
section
variable{W:Wd}{fi:FI}{n:M}
theorem I1(hm:FW W n (.ref f) m)(S:dK W (n+1) A l g s)(R:aN W g H s)(hv:VR W.tb g v u):
  Cl W A l [] g s (co (.builtin "sorted") [u] [(n0 "key", .ref f)]) (kW m v H) (VR W.tb):=Cl.opt λps I=>Cl.opt λr hks'=>Cl.gd λj _=>by
 obtain ⟨b,c0,x,rfl,q2,t⟩:=eE I R hv
 have y:x.size≤d7:=nw t.size j dB
 refine call_function_entry_kw kind_sorted plain_sorted entry_sorted (ksk_s1 _ _) ?_
 unfold hV.«sorted»
 refine am (m:=checkCount "sorted" 1 1 _)<|aA<|am<|xn b (.inl O) q2 O rfl (λp hk1' h=>am<|wpAny_newList ?_ (bF (aM eU) y)) y
 have B:(p.push<|dY "list" x.toList.toArray 0).get? p.objs.size=z (ci x.toList.toArray 0):=d_ _ O
 have keep': ∀b o,s.heap.get? b=z o→(p.push<|dY "list" x.toList.toArray 0).get? b=z o:=λb o e=>cf _<|hk1' b o e
 have q:=lU R h
 have k:=bF h<|fq<|cI B
 have G:aL [] g s g {s with heap:=p.push<|dY "list" x.toList.toArray 0}:=aL.ext keep' k
 have a:=S.grow0 G
 refine am<|b0<|wpAny_call_entry_kw slot_list_sort ⟨_,B,O⟩ entry_list_sort ?_ (ksk_l1 _ _)
 refine VV (A:=A.in1.in1) hm ⟨a.hd,a.fr,Uf a.dp,Ue a.un,a.ff,a.fl⟩ (R.ext keep' k O rfl) ⟨q,B⟩ t hks' j λs' g' c C U K=>⟨_,O,aA ⟨_,O,?_⟩⟩
 obtain ⟨R2,i⟩:=C.freeze K.ap K.get
 exact⟨.p<|.list<|lg (jp r) ps,H,_,O,R2,⟨_,c,_,O,pV _ _ _,be.mono (U.ge.trans i).F<|CN (pH r) (pN r) t⟩,(G.transF U λb hb=>bz.mp hb▸h).freeze i h⟩
theorem SE.sortedK(a:dD W)(hg:GN W o<|.builtin "sorted")(hx:fi.scope.names.lookup o=z .globalImplicit)(B:GN W x<|.ref f)(C:fi.scope.names.lookup x=z .globalImplicit)
  (hm:FW W n (.ref f) m)(ha:SE W fi (n+1) arg ma)(hd:(o==("__debug__":an))=N)(y:(x==("__debug__":an))=N)(hs:rL arg):
  SE W fi (n+1) (.Call (.Name o p1) [arg] [⟨z<|n0 "key", .Name x p2,p3⟩] c) (aD (kW m) ma):=λA l b t loc g H s P=>by
 have I: ∀{r:R V},Cl W A l [] g s (bn arg b) r (VR W.tb)→Cl W A l [] g s (ja c (.builtin "sorted") [] (gT c<|argsOf [arg] b)<|backToKw c<|keywordEach [⟨z<|n0 "key", .Name x p2,p3⟩] b) (r.bind<|kW m) (VR W.tb):=λh k=>by
  refine mP (P:=λh=>W.base.StaysIn h) (by rfl) mW (evalArgs_kw (by rfl) ?_)
  show ar _ A (bn arg b>>=λv=>(pure [v]:aX<|Y T)>>=λj=>(ek j<|pure [])>>=λr=>pure<|j++r) _ _ _
  refine am<|bq (h<|R.bindE k) (λu s' p=> ?_) λ_ _=>bX.bind
  obtain ⟨v,H',g',e,w,hv,G⟩:=p
  subst e
  have U:=P.grow G w
  exact am<|aA<|am<|b0<|aA<|aA<|kwAll_cons<|li a B U C y<|kwAll_nil ⟨w.st,(I1 hm U.sit w hv).later G k⟩
 show Cl W A l [] g s (bn (.Name o p1) b>>=λf=>ja c f [] (gT c<|gv [arg] b)<|backToKw c<|keywordEach [⟨z<|n0 "key", .Name x p2,p3⟩] b) _ _
 rw[hs]
 exact Cl.skip (u:= .builtin "sorted") (λi E q=>li a hg P hx hd q)<|I<|ha A l b t loc g H s P
end
end
section
noncomputable abbrev bL(t:Y J):P:= .tup<|t.map .int
noncomputable def iW{K:Type} [dI K](a:Y K)(t:K):Y K:=if t∈a then a else a++ [t]
def iQ(B:Y<|Y J):Y<|Y J:=B.foldl iW []
theorem Jv(B:Y<|Y J)(t:Y J):iQ (B++ [t])=iW (iQ B) t:=List.foldl_append
section
variable{K:Type} [dI K]{xs:Y (K×ay×T)}{k:K}{a:ay}{v:T}
theorem BO:(atKey xs k).isSome=Q↔k∈xs.map (·.1):=by
 induction xs with
 |nil=>exact⟨λh=>(nomatch h),λh=>nomatch h⟩
 |cons x r i=>
  rw[ee,dP,←i]
  unfold atKey
  rw[t7]
  by_cases q:x.1=k
  ·rw[bx q];exact⟨λ_=> .inl q.symm,λ_=>rfl⟩
  ·rw[bu q];exact⟨.inr,λh=>h.resolve_left λe=>q e.symm⟩
theorem Ik:(storedH xs k a v).map (·.1)=iW (xs.map (·.1)) k:=by
 unfold storedH iW
 by_cases h:(atKey xs k).isSome=Q
 ·rw[aw h,aw<|BO.mp h,keys_map_putAt]
 ·rw[az h,az λq=>h<|BO.mpr q,fN];rfl
theorem Iw{c:K→ay→Prop}(h: ∀x∈xs,c x.1 x.2.1)(I:c k a):(∀x∈storedH xs k a v,c x.1 x.2.1)∧(storedH xs k a v).length≤xs.length+1:=by
 unfold storedH
 by_cases q:(atKey xs k).isSome=Q
 ·rw[aw q]
  refine⟨λx b=> ?_,Nat.le_succ_of_le<|aM<|bc _⟩
  obtain ⟨y,f,rfl⟩:=cY.mp b
  unfold putAt
  by_cases e:y.1=k
  ·rw[aw e];exact h y f
  ·rw[az e];exact h y f
 ·rw[az q]
  exact⟨λx b=>(gw.mp b).elim (h x) λb=>bz.mp b▸I,aM bE⟩
end
section
variable{W:Wd}{F:Fz}
noncomputable abbrev qK(W:Wd):=tupleKind<|intKind W.prog W.w
theorem ik.mono(h:ik F t u)(f: ∀a o,F a=z o→r a=z o):ik r t u:=by
 obtain ⟨a,n,x,e,b,c⟩:=h
 exact⟨a,n,x,e,f _ _ b,c⟩
theorem NP(h:ik F t u):PR W.tb F (bL t) u:=by
 obtain ⟨a,n,x,e,b,f⟩:=h
 exact⟨a,n,x,e,b,rJ.mpr<|f.map λc u q=>q⟩
theorem Cv(l: ∀a o,F a=z o→h.get? a=z o)(m:ik F t<|.ref a):IsTupleKey (intKind W.prog W.w) h t a:=by
 obtain ⟨b,n,x,e,j,k⟩:=m
 injection e with e;subst e
 have g: ∀{t:Y J} {c:Y T},aV eM t c→ItemsAre (intKind W.prog W.w) t c:=λ{t}=>by
  induction t with
  |nil=>intro c h;cases h;exact .nil
  |cons i r p=>intro c h;obtain ⟨u,q,rfl,⟨s,rfl⟩,f⟩:=h;exact .cons (fD i)<|p f
 exact⟨_,x,n,l _ _ j,O,O,g k⟩
theorem JX{h:bB}{a:ay}{x:Y<|Y J×ay×T}(G:h.DictOfH (qK W) a x): ∃e f,h.get? a=z (cj e f)∧e.toList=x.map (entryOfKey<|qK W)∧(x.map (·.1)).Nodup:=by
 obtain ⟨⟨c,k,t,s⟩,e,f,y,⟨p,q,B⟩,j,b,_,g⟩:=G
 simp only at p q B j
 subst p q B j
 exact⟨e,f,y,b,g⟩
theorem LQ{x:Y<|Y J×ay×T}(h: ∀y∈x,ik F y.1<|.ref y.2.1):be W.tb F ((x.map (·.1)).map bL) ((x.map<|entryOfKey<|qK W).map (·.key)):=by
 induction x with
 |nil=>rfl
 |cons y r i=>exact⟨_,_,O,NP<|h y<|.head _,i λa c=>h a<|.tail _ c⟩
end
section
variable{W:Wd}{fi:FI}{n:M}
inductive DI(W:Wd)(fic:FI)(n:M)(A:a9)(l:Y bj)(cenv:bj)(acc:Y bV)(g:Gh)(s:au)(hid:Y ay)(it:T)(v:V)(H:Y af)(ts:Y (Y J))(D:ay)(k:M)(s₁:au):Prop
 |mk (i:M) (loc₁:aj) (g₁:Gh) (es:aQ fe) (ep:M) (xs:Y (Y J×ay×T)) (P:bD W fic n A l cenv acc loc₁ g₁ H s₁) (G:aL [] g s g₁ s₁) (I:ka W g₁ s₁ hid it i (.list v)) (K:gN W g₁ s₁ D (cj es ep)) (he:es.toList=xs.map (entryOfKey (qK W))) (hp: ∀y∈xs,ik g₁.F y.1 (.ref y.2.1)) (nd:(xs.map (·.1)).Nodup)
  (hn:xs.map (·.1)=iQ (ts.take i)) (hl:xs.length≤i) (hk:k+i=ts.length+1):DI W fic n A l cenv acc g s hid it v H ts D k s₁
theorem Jk{p:dX}{w:cH}{A:a9}{R:Result→au→Prop}{s:au}{g q t iter:aP}{e:d9}{f:Pos}{i:T}{a:ay}{b:bj}(I:M→au→Prop)
  (k: ∀n s,I n s→ar (av p w) A (pyNext i) (λr o=>match r with
   |none=>R (.ok .next) o
   |some v=>ar (av p w) A (q_ t i v) (λ_ j=>ar (av p w) A (hO t b v) (λ_ B=>ar (av p w) A (bn g b) (λy H=>ar (av p w) A (bn q b) (λG U=>
       ar (av p w) A (dictSet a y G) (λ_ C=> ∃m,m<n∧I m C) (λ_ _=>bR) U) (λ_ _=>bR) H) (λ_ _=>bR) B) (λ_ _=>bR) j) (λ_ _=>bR) o) (λ_ _=>bR) s)
  (n:M)(h:I n s):i_ (av p w) A (.compLoop (.DictComp g q [⟨t,iter,[],0⟩] e f) 0 i (.ref a) b) R s:=by
 refine codeAny_loop O I (λn s hI=> ?_) n h
 show ar _ A ((compTurn (.DictComp g q [⟨t,iter,[],0⟩] e f) 0 i (.ref a) b).onRaise (λx=>do noteFrame x b;theTreesLotGoes x)) _ _ s
 refine wpAny_noted ?_
 rw[compTurn_dict]
 refine am<|fc<|am<|bq (k n s hI) (λr o u=> ?_) λ_ _ c=>c.elim
 cases r with
 |none=>exact aA u
 |some v=>exact am<|bq u (λ_ j l=>am<|bq l (λ_ B h₂=>am<|aA<|am<|am<|bq h₂ (λy H h₄=>am<|b0<|bq h₄ (λG U h₅=>am<|fc<|b0<|bq h₅ (λ_ C h₆=>aA ⟨O,h₆⟩) λ_ _ c=>c.elim) λ_ _ c=>c.elim) λ_ _ c=>c.elim) λ_ _ c=>c.elim) λ_ _ c=>c.elim
theorem JW
  (b:zH W fic' n A l j w loc0' g s g₂ H hid' it (.list v) c (cj #[] 0) C s₄)(hv:fic'.vars[0]? =z (z (x, .local)))(his': ∀ac,w[0]? =z ac→ac.addr∈ [C])(hd:(x==("__debug__":an))=N)(hc:(x==("__classdict__":an))=N)
  (hps':df v H=z ps)(hts':gX ps=z G)(hle':G.length≤1000)(hlen0':0<w.length)
  (hRR': ∀g' s' es ep,aN W g' H s'→aL [] g s g' s'→il W g' C→(∃m,s'.heap.Ns C m)→gN W g' s' c (cj es ep)→be W.tb g'.F ((iQ G).map bL) (es.toList.map (·.key))→RR (.ok .next) s'):
  i_ (av W.prog W.w) A (.compLoop (.DictComp (.Name x p1) (.Constant (.bool Q) kk p2) [⟨.Name x p3,iter,[],0⟩] scope' pos0') 0 it (.ref c) j) RR s₄:=by
 obtain ⟨bP,bG,bI,bK,bS,f,hD,hC,hDC',hacc',y,hx⟩:=b
 have B: ∀{a},s.heap.objs.size≤a→a≠C→a∉dC w:=λh1 h2 q=>(hacc' _ q).elim h2<|dz.mpr h1
 have dhid':c∉hid':=λq=>(f c q).2.2 O
 obtain ⟨hl,hat'⟩:=ym hts'
 refine Jk (λk s₁=>DI W fic' n A l j w g s hid' it v H G c k s₁) (λk s₁ I=> ?_) (G.length+1) ⟨0,_,g₂,#[],0,[],bP,bG,bI,bK,O,λ_ h=>(nomatch h),jg,O,bo _,O⟩
 obtain ⟨i,loc₁',g₁,es,ep,xs,P₁,G₁,I₁,K₁,he,hp₁',nd,hn,hxl',hk⟩:=I
 have hnx':fv H i (.list v)=z ps[i]? :=by show (df v H).bind _=_;rw[hps'];rfl
 refine xY (t:= .Name x p3) P₁.rep P₁.sit.hd I₁ hnx' (λh=>nomatch h) (λ_ _ h=>h) (λp hp s₅ g₃ u R₅ Gx hu I₅=> ?_) λhp s₃ R₃ G₃=> ?_
 ·obtain ⟨t,ht,hpt'⟩:=hat' i p hp
  have hlt':=(dH.mp ht).1
  have G₁₅':aL [] g s g₃ s₅:=G₁.transF Gx λa o=>(f a o).1
  refine i6.name ⟨_,hv,by decide⟩ A l j w loc₁' g₃ H s₅ p u _ [C] ⟨P₁.ev,bS.grow0 G₁₅',R₅,P₁.lo.growX Gx λa o q=>B (f a q).1 (f a q).2.1 o⟩ hu O (λi hi ac e=>his' ac<|bz.mp hi▸e) _ _ λs₆ P₆ G₆=> ?_
  have G₁₆':aL [] g s g₃ s₆:=G₁₅'.transF G₆ λa o=>bz.mp o▸hC
  have I₆:=I₅.grow G₆ λa o q=>(f a o).2.1<|bz.mp q
  have K₆:=(K₁.grow Gx dhid').grow G₆ λq=>hDC'<|bz.mp q
  have hp₆': ∀y∈xs,ik g₃.F y.1<|.ref y.2.1:=λy hy=>(hp₁' y hy).mono (Gx.ge.trans G₆.ge).F
  have e1:aa 0 (loc₁'.set 0<|z<|.p p) H= .ok (.p p) H:=by
   unfold aa
   rw[wV<|je hlen0'<|aM P₁.lo.len];rfl
  refine uu (SE.loc hv hd hc A l j w _ g₃ H s₆ P₆) (aR (λr=>r.noexc.bind R.ok) e1) (λq=>nomatch q) λv' H' g₇ u' s₇ e R₇ hu'' G₇=> ?_
  injection e with e2 e3;subst e2;have e3:=e3.symm;subst e3
  refine uu (k:=R.ok) (r:= .ok (.p<|.bool Q) H) (SE.cBool A l j w _ g₇ H s₇<|P₆.grow G₇ R₇) O (λq=>nomatch q) λv' H' g₈ u₈ s₈ e R₈ hu₈' G₈=> ?_
  injection e with e2 e3;subst e2;have e3:=e3.symm;subst e3
  obtain rfl:u₈= .bool Q:=hu₈'
  have U:=G₇.trans G₈
  have K₈:=K₆.grow U λq=>nomatch q
  have ht8':=(yv hpt' hu'').mono G₈.ge.F
  have hp₈': ∀y∈xs,ik g₈.F y.1<|.ref y.2.1:=λy hy=>(hp₆' y hy).mono U.ge.F
  obtain ⟨a,na,xa,rfl,q1,q2⟩:=id ht8'
  refine wpAny_dictSet_heap (s:=s₈) (by show A.units<cLine;exact Ud P₁.sit.un) (Cv R₈.fz ht8') ⟨_,es,ep,K₈.get,⟨O,O,O⟩,O,he,λy hy=>Cv R₈.fz<|hp₈' y hy,nd⟩ (λh₉ hd₉' hs₉'=> ?_)<|bF hxl'<|bF (fq hlt')<|bF hle'<|bF (hY O) dB
  obtain ⟨es'',ep'',ho,he'',nd''⟩:=JX hd₉'
  obtain ⟨r1,r2⟩:=R₈.touch (t:=s₈.toks+(qK W).draws t) K₈ hs₉'
  have G₁₉':aL [] g s g₈ {s₈ with heap:=h₉,toks:=s₈.toks+(qK W).draws t}:=(G₁₆'.trans U).transF r2 λa o=>bz.mp o▸hD
  obtain ⟨z1,z2⟩:=Iw (c:=λt a=>ik g₈.F t<|.ref a) (v:= .bool Q) hp₈' ht8'
  have hk'':G.length-i+(i+1)=G.length+1:=by rw[←rk,bk<|fq hlt']
  refine⟨G.length-i,Nat.lt_of_add_lt_add_right (by rw[bk<|fq hlt',hk];exact fF _:G.length-i+i<k+i),i+1,_,g₈,es'',ep'',_,⟨P₁.ev,bS.grow0 G₁₉',r1,((P₆.grow G₇ R₇).lo.grow G₈).growX r2 λa o q=>B hD hDC'<|bz.mp q▸o⟩,G₁₉',(I₆.grow U λ_ _ q=>nomatch q).grow r2 λa o q=>(f a o).2.2<|bz.mp q,⟨K₈.ap,ho⟩,he'',z1,nd'',?_,bF z2<|Nat.succ_le_succ hxl',hk''⟩
  rw[Ik,hn,List.take_add_one,ht]
  show iW (iQ<|G.take i) t=iQ (G.take i++ [t])
  exact(Jv _ _).symm
 ·have K₃:=K₁.grow G₃ dhid'
  have L₃:=P₁.lo.growX G₃ λa o q=>B (f a q).1 (f a q).2.1 o
  refine hRR' g₁ s₃ es ep R₃ (G₁.transF G₃ λa o=>(f a o).1) (L₃.ap _ hx) (L₃.room _ hx) K₃ ?_
  rw[he,←pB<|bF (aM hl)<|n3.mp hp,←hn]
  exact LQ hp₁'
def sortU(v:V)(H:Y af):R V:=(df v H).elim .err λc=>(gX c).elim .err λB=>if B.length≤1000 then(ni<|(iQ B).map bL).elim .err λq=> .ok (.p<|.list q) H else .err
theorem I0(h:df v H=z c):lf v H=z (.list v):=by
 cases v with
 |lbl k=>show (df (V.lbl k) H).bind _=_;rw[h];rfl
 |p y=>rw[xN h];rfl
theorem Kd(R:aN W g H s)(p:A.units+10<cLine)(i:A.handled=D)(K:gN W g s a<|cj e x)(I:be W.tb g.F ((iQ B).map bL) (e.toList.map (·.key)))(j:ni ((iQ B).map bL)=z r):
  Cl W A l [] g s (co (.builtin "sorted") [.ref a]) (.ok (.p<|.list r) H) (VR W.tb):=Cl.made R λb E k=>by
 have c:=nc I
 rw[bc,eU]at c
 have hsm':(a==eJ)=N:=cL.mpr λq=>W.sm<|q▸K.ap.2.2
 exact xq p R j (λm v u f=>A5 hsm' i K.get (nw c m dB) λw t h o=>f w t _ I h o) k
theorem Ke{v:V}{H:Y af}{G:Prop}(h:sortU v H≠ .err)(k: ∀c B q,df v H=z c→gX c=z B→B.length≤1000→ni ((iQ B).map bL)=z q→sortU v H= .ok (.p<|.list q) H→G):G:=by
 unfold sortU at h k
 refine l7 O h λc a b=> ?_
 rw[←b]at h
 refine l7 O h λB e g=> ?_
 rw[←g]at h
 refine AC O h λf j=> ?_
 rw[←j]at h
 refine l7 O h λq i l=> ?_
 exact k c B q a e f i<|b.symm.trans<|g.symm.trans<|j.symm.trans l.symm
theorem KP(y:iO fi a [x] [])(i: ∀b x,mN iter b x=pure x)(h:ar (av W.prog W.w) A (bn iter b) (λ_ _=>bR) E s):
  ar (av W.prog W.w) A (bn (.DictComp (.Name x m) (.Constant (.bool Q) l o) [⟨.Name x q,iter,[],0⟩] a e) b) c E s:=
 wpAny_comprehension_free (cl:=io b.cells a.names []) O (i b) (xv λp g k=>(lP<|y.free p g k).elim) y.kind y.locd (bq h (λ_ _ f=>f.elim) λ_ _ x=>x)
theorem KO(y:iO fi i [x] [])(hd:(x==("__debug__":an))=N)(hc:(x==("__classdict__":an))=N)(hs: ∀h x,mN iter h x=pure x)
  (P:bD W fi n A l h acc0' loc0' g H s)(h2:eI W A l g s (bn iter h)<|(lf v m).elim .err λB=> .ok B m)(U:df v m=z ps)(w:gX ps=z ts)(t:ts.length≤1000)
  (hQ: ∀j s' c k o,aN W j m s'→aL [] g s j s'→gN W j s' c (cj k o)→be W.tb j.F ((iQ ts).map bL) (k.toList.map (·.key))→f (.ref c) s'):
  ar (av W.prog W.w) A (bn (.DictComp (.Name x p1) (.Constant (.bool Q) kk p2) [⟨.Name x p3,iter,[],0⟩] i G) h) f E s:=by
 rw[I0 U]at h2
 refine wpAny_comprehension_free (cl:=io h.cells i.names []) O (hs h) (xv λp hp hf=>(lP<|y.free p hp hf).elim) y.kind y.locd (bq (h2 λq=>nomatch q) (λ_ s₁ h₁=>bq h₁ (λit s₂ ip=> ?_) λ_ _ p=>p.casesOn λ_ e _=>nomatch e) λ_ _ p=>p.casesOn λ_ e _=>nomatch e)
 obtain ⟨src'',H''',g₂,hid',e',R₂,G₂,I₂,I⟩:=ip
 injection e' with e1 e2;subst e1 e2
 refine iw<|Br O y (List.cons_ne_nil _ _) P R₂ G₂ I₂ I λC s₄ b=> ?_
 refine(λloop=>codeAny_compStart_dict loop<|A4 b.I.at_ loop)<|JW b O (λac e=>Dg (fF 0) e) hd hc U w t (fF 0) λj s' k o R' G' hA r K hk=> ?_
 obtain ⟨m',r⟩:=r
 refine⟨m',r,λh' u=> ?_⟩
 obtain ⟨r1,r2⟩:=yb R' hA u
 exact hQ _ _ _ k o r1 (G'.transF r2 λa ha=>bz.mp ha▸b.hC) (K.grow r2 λq=>b.hDC<|bz.mp q) hk
theorem SE.sortU(a:dD W)(hg:GN W G<|.builtin "sorted")(hx:fi.scope.names.lookup G=z .globalImplicit)(y:(G==("__debug__":an))=N)
  (ok:iO fi c [x] [])(hi:SE W fi n iter mi)(hd:(x==("__debug__":an))=N)(hc:(x==("__classdict__":an))=N)(hs: ∀b x,mN iter b x=pure x):
  SE W fi n (.Call (.Name G p0) [.DictComp (.Name x p1) (.Constant (.bool Q) kk p2) [⟨.Name x p3,iter,[],0⟩] c m] [] t) (aD Mine.sortU mi):=λA l b j loc g H s P=>by
 have B: ∀{r:R V},Cl W A l [] g s (bn iter b) r (VR W.tb)→eI W A l g s (bn iter b) (r.bind λv H=>(lf v H).elim .err λC=> .ok C H)→Cl W A l [] g s (ja t (.builtin "sorted") [] (gT t<|gv [.DictComp (.Name x p1) (.Constant (.bool Q) kk p2) [⟨.Name x p3,iter,[],0⟩] c m] b) []) (r.bind Mine.sortU) (VR W.tb):=λ{r} h h2 o=>by
  cases r with
  |err=>exact(o O).elim
  |exc k=>exact mP (P:=λh=>W.base.StaysIn h) O mW (tR<|am<|KP ok hs<|bq (h λq=>nomatch q) (λ_ _ p=>p.casesOn λ_ _ _ e=>nomatch e) λ_ _ p=>p.bind)
  |ok v H'=>
   refine Ke o λps ts qs h1 I h3 h4 e=> ?_
   rw[show (R.ok v H').bind Mine.sortU= .ok (.p<|.list qs) H' from e]
   refine mP (P:=λh=>W.base.StaysIn h) O mW<|tR<|am<|KO ok hd hc hs P h2 h1 I h3 λg' s' f es ep w U K hk=> ?_
   have P':=P.grow U w
   exact am (aA<|am<|b0<|aA<|aA ⟨w.st,(Kd w (y8 P'.sit.un) P'.sit.hd K hk h4).later U λq=>nomatch q⟩)
 exact Cl.skip (u:= .builtin "sorted") (λi E q=>li a hg P hx y q)<|B (hi A l b j loc g H s P)<|IE.of hi A l b j loc g H s P
end
end
section
def DS(W:Wd)(h:FI)(n:M)(e:Y dy)(m:aj→Y af→ak):Prop:=
 ∀A l b c a g H s,bD W h n A l b c a g H s→m a H=Q→ar (av W.prog W.w) A (execs e b) (λf s'=>f= .ret (.bool Q)∧sP W s') (λ_ _=>bR) s
noncomputable def R.tt{α:Type}(r:R α)(f:α→Y af→ak):ak:=r.casesOn f (λ_=>N) N
theorem R.ttE{α:Type}{r:R α}{f:α→Y af→ak}(h:r.tt f=Q):r≠ .err:=λe=>by rw[e]at h;cases h
def yf(v:V):ak:=(wD v).elim N id
def GH(b:aj→Y af→ak)(f:Fl)(H:Y af):ak:=f.casesOn (λl=>b l H) yf
def cg(a:aj→Y af→R Fl)(b:aj→Y af→ak):aj→Y af→ak:=λl H=>(a l H).tt<|GH b
noncomputable def nilD:aj→Y af→ak:=λ_ _=>N
section
variable{W:Wd}{fi:FI}{n:M}
theorem JP(h:yf v=Q)(f:VR W.tb g v u):u= .bool Q:=by
 unfold yf at h
 cases e:wD v with
 |none=>rw[e]at h;cases h
 |some b=>
  rw[e]at h
  obtain ⟨p,rfl,e⟩:=jI e
  have f:PR W.tb g.F p u:=f
  rw[xF e]at f
  exact f.trans<|aR _ h
theorem DS.nil:DS W fi n [] nilD:=λA l b a c g H s P h=>nomatch h
theorem DS.cons{st:dy}{j:Y dy}{a:aj→Y af→R Fl}{b:aj→Y af→ak}(G:S1 W fi n st a)(I:DS W fi n j b):DS W fi n (st::j)<|cg a b:=λA l c i w g H s P=>by
 have t: ∀{r:R Fl},CS W A l i g s (exec st c) r→r.tt (GH b)=Q→ar (av W.prog W.w) A (execs (st::j) c) (λf s'=>f= .ret (.bool Q)∧sP W s') (λ_ _=>bR) s:=λ{r} h m=>by
  refine nX (bq (h<|R.ttE m) (λf s' p=> ?_) λe s' p=>p.casesOn λk B _=>by rw[B]at m;cases m)
  obtain ⟨v,y,C,e,q,x,U⟩:=p
  subst e
  cases v with
  |next o=>
   obtain ⟨rfl,hL⟩:=x
   exact I A l c i o C y s' (P.next U q hL) m
  |ret v=>
   obtain ⟨u,rfl,hu⟩:=x
   exact⟨aR _<|JP m hu,q.st,q.gens,q.os⟩
 exact t<|G A l c i w g H s P
def i4(t:aj→Y af→R ak)(a:aj→Y af→R (Y V))(r:Y V→Y af→ak)(b:aj→Y af→ak):aj→Y af→ak:=λl H=>(t l H).tt λx H=>bif x then(a l H).tt r else b l H
theorem DS.ifRet(i:dD W)(hc:ST W fi n c t)(hg:GN W x f)(hx:fi.scope.names.lookup x=z .globalImplicit)
  (hk:gE W f)(hm:FF W n f rr)(ha:dW W fi n G as)(hb:DS W fi n I b)(hd:(x==("__debug__":an))=false):DS W fi n (.If c [.Return (z<|.Call (.Name x p) G [] w) p2] [] p3::I)<|i4 t as rr b:=λA l a o j g H s P=>by
 have call: ∀{C:Gh} {H':Y af} {s':au} {r:R<|Y V},bD W fi n A l a o j C H' s'→Cl W A l [] C s' (spliced<|argsOf G a) r (eC W.tb)→r.tt rr=true→
   ar (av W.prog W.w) A (bn (.Call (.Name x p) G [] w) a) (λu s'=>u= .bool true∧sP W s') (λ_ _=>bR) s':=λ{C H' s' r} B h m=>by
  show ar _ A (bn (.Name x p) a>>=λf=>ja w f [] (gT w<|gv G a) []) _ _ s'
  rw[ha.ns]
  refine am (li i hg B hx hd<|mP (P:=λh=>W.base.StaysIn h) ((jk _).trans ui) hk<|uf<|bq (h<|R.ttE m) (λus s2 q=> ?_) λe s' p=>p.casesOn λk U _=>by rw[U]at m;cases m)
  obtain ⟨v,H4,g2,e,y,hv2',G2⟩:=q
  subst e
  exact⟨y.st,hm A l g2 H4 s2 v us (B.grow G2 y).sit y hv2' m⟩
 have key': ∀{r:R ak},Cl W A l [] g s (isTrue c a<|bn c a) r (λ_ b u=>u=b)→r.tt (λx H=>bif x then(as j H).tt rr else b j H)=true→ar (av W.prog W.w) A (execs (.If c [.Return (z<|.Call (.Name x p) G [] w) p2] [] p3::I) a) (λf s'=>f= .ret (.bool true)∧sP W s') (λ_ _=>bR) s:=λ{r} h m=>by
  refine nX ?_
  rw[exec_If]
  refine am (fc<|am<|bq (h<|R.ttE m) (λu s' q=> ?_) λe s' p=>p.casesOn λk U _=>by rw[U]at m;cases m)
  obtain ⟨v,H2,C,e,hR,hv,hG⟩:=q
  subst e
  obtain rfl:u=v:=hv
  have B:=P.grow hG hR
  cases u with
  |false=>exact tN (env:=a)<|hb A l a o j C H2 s' B m
  |true=>
   refine nX ?_
   rw[exec_Return_some]
   exact am<|fc<|am<|bq (call B (ha.cl A l a o j C H2 s' B) m) (λu s3 q=>aA ⟨aR _ q.1,q.2⟩) λ_ _ x=>x
 exact key'<|hc A l a o j g H s P
def ny(k m:M)(H:Y af):V→d P:=lO pv (λ_ i v=>v.casesOn (λj=>if k≤j then H[j]?.bind (zv i)else D) z) m
def zP(k:M)(o:d V):ak:=o.elim Q λv=>(lblsV v).all (· <k)
def qo(i k:M)(b:aj→Y af→ak):aj→Y af→ak:=λl H=>l[i]?.join.elim N λv=>(ny k 6 H v).elim N λx=>(H.take k).all (lc k)&&((l.set i<|z<|.p x).all (zP k)&&b (l.set i<|z<|.p x) (H.take k))
theorem NU(R:aN W g H s)(b: ∀a o,g.F a=z o→i a=z o)(G: ∀(j:M) (p:c_),k≤j→g.as[j]? =z p→ ∀a∈p.1::p.2.toList,i a=s.heap.get? a)(m:M)(v:V)(x:P)(u:T)(h:ny k m H v=z x)(f:VR W.tb g v u):PR W.tb i x u:=by
 induction m generalizing v x u with
 |zero=>exact zk b v x u h f
 |succ m t=>
  cases v with
  |p y=>exact zk b (.p y) x u h f
  |lbl j=>
   obtain ⟨p,e,rfl⟩:=f
   exact iZ h λq h=>bw h λc l r=>Ed (R.cell j c p l e) r b t (G j p q e)<|R.nb p.1<|lV e<|.head _
theorem Jg(G:bD W fi n A l t acc0' B g H s)(hi:B[i]? =z (z v))(hx:ny k 6 H v=z x)
  (hb:(H.take k).all (lc k)=Q)(hl:(B.set i<|z<|.p x).all (zP k)=Q): ∃g2,bD W fi n A l t acc0' (B.set i<|z<|.p x) g2 (H.take k) s:=by
 have R:=G.rep
 obtain ⟨m,U,c⟩: ∃m:Fz,(∀a,a∈bU (g.as.drop k)→m a=s.heap.get? a)∧ ∀a,a∉bU (g.as.drop k)→m a=g.F a:=⟨λa=>if a∈bU (g.as.drop k)then s.heap.get? a else g.F a,λa h=>aw h,λa h=>az h⟩
 have hdl': ∀(j:M) (p:c_),k≤j→g.as[j]? =z p→ ∀a∈p.1::p.2.toList,a∈bU (g.as.drop k):=λj p b y a I=>lV (k:=j-k) (by rw[wX,F_ b];exact y) I
 have f: ∀a∈bU (g.as.drop k),a∈bU g.as:=λa h=>by rw[←wN k g.as,labs_append];exact wO _ h
 have hF: ∀a o,g.F a=z o→m a=z o:=λa o e=>(c a λq=>by rw[R.nf a<|f a q]at e;cases e).trans e
 have hlo': ∀a,a∉bU g.as→g.F a=D→a∉bU (g.as.take k)∧m a=D:=λa h1 h2=>⟨λq=>h1<|um q,(c a λq=>h1<|f a q).trans h2⟩
 have r:=FA R hb m hF λa o e=>by
  by_cases q:a∈bU (g.as.drop k)
  ·obtain ⟨p,y,I⟩:=tX.mp q
   obtain ⟨j,b⟩:=wW y
   rw[wX]at b
   exact .inr ⟨(U a q).symm.trans e,k+j,p,hZ _ _,b,I⟩
  ·exact .inl<|(c a q).symm.trans e
 refine⟨⟨m,g.as.take k⟩,G.ev,⟨G.sit.hd,G.sit.fr,G.sit.dp,G.sit.un,G.sit.ff,λt he L hL=>(G.sit.fl t he L hL).elim<|hlo' L⟩,r,λj w b=> ?_,G.lo.room,G.lo.nd,λC hac0'=>(G.lo.ap C hac0').elim λq1 q=>(hlo' _ q1 q.1).elim λz1 z2=>⟨z1,z2,q.2⟩,by rw[List.length_set];exact G.lo.len⟩
 by_cases hji':j=i
 ·subst hji'
  rw[wV (dH.mp hi).1]at b
  cases b
  obtain ⟨C,u,a1,a2,a3⟩:=G.lo.val j v hi
  exact⟨C,u,a1,a2,NU R hF (λj p b y a I=>U a<|hdl' j p b y a I) 6 v x u hx a3⟩
 ·have hw:=jj.mp hl (z w) (dG b)
  rw[List.getElem?_set_ne λq=>hji' q.symm]at b
  obtain ⟨C,u,a1,a2,a3⟩:=G.lo.val j w b
  exact⟨C,u,a1,a2,a3.below (k:=k) (g2:=⟨m,g.as.take k⟩) hF (λj p b y=>(t4 b).trans y) hw⟩
theorem DS.freeze(h:DS W fi n o b):DS W fi n o<|qo i k b:=λA l j c m g H s G a=>by
 unfold qo at a
 cases e:m[i]?.join with
 |none=>rw[e]at a;cases a
 |some v=>
  rw[e]at a
  have a:(ny k 6 H v).elim N _=Q:=a
  cases f:ny k 6 H v with
  |none=>rw[f]at a;cases a
  |some x=>
   rw[f]at a
   obtain ⟨q,a⟩:=bJ.mp (a:((H.take k).all (lc k)&&_)=Q)
   obtain ⟨r,t⟩:=bJ.mp a
   obtain ⟨g2,p⟩:=Jg G (AW.mp e) f q r
   exact h A l j c _ g2 _ s p t
end
end
section
set_option backward.match.sparseCases false
def ti(i:M):P:=(yh[i]?.map (·.2)).getD .none
def tj(i:M):T:=(HF[i]?.map (·.2)).getD .none
noncomputable def qq:Ty→d ak
 | .bool=>z Q
 | .inst _=>D
 |_=>z N
noncomputable def oK:Ty→d ak
 | .inst C=>if C=4 then z Q else if C=1 then z N else D
 |_=>D
noncomputable def eh(h:FI)(x y:an):ak:=x==y&&h.scope.names.lookup x==z .globalImplicit&& !(x==("__debug__":an))
def oZ(i a:M):ak:=f8 i&&(a==(fO i).length||(i==10&&a==1))
noncomputable def Hb(C k:M):ak:=([(1,10),(2,23),(3,30),(4,53),(5,58),(6,73)]:Y<|M×M).contains (C,k)
noncomputable def wr(C k:M):ak:=([(1,12),(1,13),(1,15),(1,16),(1,17),(1,18),(2,24),(2,25),(2,26),(3,31),(3,32),(3,33),(5,59),(5,60),(5,61),(5,62),(5,63),(5,64),(6,74),(6,75),(6,76),(6,77)]:Y<|M×M).contains (C,k)
structure Pg(W:Wd)(fa:M→ay):Prop where
 T:dD W
 CL:oM W
 Hs:j_ W
 B:sx W
 at_: ∀i,W.tb.at_ i=atN i
 gc: ∀i:M,i<17→ ∃u,W.mg (qR i)=z u∧PR W.tb W.F0 (ti i) u
 gb: ∀i:M,i<14→GN W (gu i) (tj i)
 gf: ∀i:M,oG i=Q→GN W (fG (eN i)) (.ref (fa i))
 gk: ∀i:M,i<7→GN W (mG i) (.ref (W.tb.cls i))
 kf: ∀i:M,f8 i=Q→gE W (.ref (fa i))
 fn: ∀i np:M,oZ i np=Q→kw W (fa i) (lj i) (fP i) (fO i) np
 mo: ∀C k:M,Hb C k=Q→GS W C (fa k)
 kc: ∀C:M,C<7→gE W (.ref (W.tb.cls C))
 mt: ∀C k:M,wr C k=Q→FX W C (fG (eN k)) (fa k)
 sm:GP W (W.tb.cls 1) (fG (eN 11)) (fa 11)
 ib: ∀ty b,qq ty=z b→sy W ty∧gU W.K (s_ W.tb ty) (.type "bool")=z b
 ic: ∀ty b,oK ty=z b→sy W ty∧gU W.K (s_ W.tb ty) (.ref (W.tb.cls 4))=z b
 ii:gU W.K (.type "int") (.type "int")=z Q
noncomputable def kM(p:P):aj→Y af→R V:=λ_ H=> .ok (.p p) H
abbrev kI(i:J):=kM<|.int i
abbrev kS(s:Y M):=kM<|.str s
abbrev kB(s:Y M):=kM<|.bytes s
noncomputable def kT(b:ak):aj→Y af→R ak:=λ_ H=> .ok b H
noncomputable def gZ(x:aP):ak:= !(x.ctorIdx==7||(x.ctorIdx==22||x.ctorIdx==26))
structure Hd(x:aP):Prop where
 ns:rL x
 fs: ∀env v,mN x env v=pure v
 sub: ∀o v,subscripted x N o v=operate [o,v] (getItem o v)
 cm: ∀op,behindInMarks op x=N
theorem ij(h:gZ x=Q):Hd x:=by
 cases x<;>first|exact Bool.noConfusion (show N=Q from h)|exact⟨λ_ _=>rfl,λ_ _=>rfl,λ_ _=>rfl,λ_=>rfl⟩
noncomputable def N_(x:aP):ak:=match x with
 | .Call f e _ _=>f.ctorIdx==23&&e.isEmpty
 |_=>N
def oV(x:aP):ak:= !(N_ x)
theorem yl(h:oV x=Q):pX x:=by
 cases x
 case Call f a k p=>
  cases f
  case Name=>cases a with
   |nil=>exact Bool.noConfusion<|show N=Q from h
   |cons e r=>exact λ_ _ _=>rfl
  all_goals exact λ_ _ _=>rfl
 all_goals exact λ_ _ _=>rfl
noncomputable def Ea(x:aP):ak:=x.ctorIdx==25
theorem Vy(h:Ea x=N)(B:Y aP)(k:M)(t:Pos)(b:bj):qY [.Tuple B k t] x b=pure D:=by
 cases x<;>first|exact Bool.noConfusion (show Q=N from h)|rfl
noncomputable def g7(l:Y<|d<|an×aT)(y:an):M:=l.findIdx λo=>o.any λp=>p.1==y
noncomputable def D7(h:FI)(i:M)(x:an):ak:=(h.vars[i]?.join.any λp=>p.1==x)&&(!(x==("__debug__":an))&& !(x==("__classdict__":an)))
noncomputable def pU(h:FI)(i:M)(x:an):ak:=h.vars[i]?.join.any λp=>p.1==x&&p.2 != .free
theorem Cb{f:FI}{i:M}{q:an×aT→ak}(h:f.vars[i]?.join.any q=Q): ∃y k,f.vars[i]? =z (z (y,k))∧q (y,k)=Q:=by
 obtain ⟨⟨y,k⟩,e,h⟩:=(Option.any_eq_true _ _).mp h
 exact⟨y,k,AW.mp e,h⟩
theorem rR{f:FI}{i:M}{x:an}(h:pU f i x=Q):ta f x i:=by
 obtain ⟨y,k,e,h⟩:=Cb h
 obtain ⟨b,a⟩:=bJ.mp h
 obtain rfl:=eq_of_beq b
 exact⟨k,e,bne_iff_ne.mp a⟩
noncomputable def zo(e:aP):d an:=match e with
 | .Name x _=>z x
 |_=>D
def kY(h:FI)(a:Y aP):Y M:=a.map λe=>(zo e).elim 0<|g7 h.vars
def vn(h:FI)(e:aP)(i:M):ak:=(zo e).any<|pU h i
theorem zn(h:vn f e i=Q):yG f e i:=by
 cases e<;>first|exact⟨_,_,O,rR h⟩|cases h
def rM{α β:Type}(f:α→β→ak)(c:Y α):Y β→ak:=eo (λe=>e.isEmpty) (λa _ i e=>e.casesOn N λb e=>f a b&&i e) c
theorem uj{α:Type}{β:Type}{f:α→β→ak}{c:α→β→Prop}(k: ∀a b,f a b=Q→c a b){g:Y α}{e:Y β}(h:rM f g e=Q):aV c g e:=by
 induction g generalizing e with
 |nil=>cases e with
  |nil=>rfl
  |cons b e=>cases h
 |cons a g l=>cases e with
  |nil=>cases h
  |cons b e=>
   obtain ⟨i,j⟩:=bJ.mp h
   exact⟨b,e,O,k _ _ i,l j⟩
section
variable{W:Wd}{fi:FI}{n:M}{fa:M→ay}
theorem iH(h:eh fi x y=Q):x=y∧fi.scope.names.lookup x=z .globalImplicit∧(x==("__debug__":an))=N:=by
 obtain ⟨h,a⟩:=bJ.mp h
 obtain ⟨b,e⟩:=bJ.mp h
 exact⟨eq_of_beq b,eq_of_beq e,eS _▸a⟩
theorem E.l{x:an}{p}(i:M)(h:D7 fi i x=Q):SE W fi n (.Name x p)<|aa i:=by
 obtain ⟨b,h⟩:=bJ.mp h
 obtain ⟨a,f⟩:=bJ.mp h
 obtain ⟨y,k,e,h⟩:=Cb b
 obtain rfl:=eq_of_beq h
 exact .loc e (eS _▸a)<|eS _▸f
theorem FW.mono(h:FW W n f m)(b:n≤p):FW W p f m:=λA l g H s vs u S=>h A l g H s vs u ⟨S.hd,S.fr,Fa b S.dp,E_ b S.un,S.ff,S.fl⟩
noncomputable def GB(v:T):ak:=match v with
 | .builtin _=>Q
 | .type _=>Q
 |_=>N
theorem CQ(h:GB v=Q):gE W v:=by
 cases v<;>first|exact mW|exact IH|cases h
theorem FS: ∀i,i<14→GB (tj i)=Q:=by decide
structure Ex(W:Wd)(fi:FI)(n:M)(x:aP) where
 m:aj→Y af→R V
 ok:SE W fi n x m
 t:aj→Y af→R ak
 tok:ST W fi n x t
 i:aj→Y af→R cG
 iok:IE W fi n x i
 mm:aj→Y af→R V
 mok:SE W fi n x mm
def Ex.of(a:aj→Y af→R V)(y:SE W fi n x a)(h: ∀b w,isTrue x b w=(do let v←w;standAt x.pos;holding [v] (truthy v)):=by exact λ_ _=>rfl):Ex W fi n x:=⟨a,y,aq a, .plain y h,bT a, .of y,a,y⟩
theorem IE.err:IE W fi n x errM:=λ_ _ _ _ _ _ _ _ _=>eI.err
def Ex.err:Ex W fi n x:=⟨errM, .err,errM, .err,errM, .err,errM, .err⟩
structure gR(W:Wd)(fa:M→ay)(n:M) where
 cl:ak
 i:M
 w:Y V→Y af→R V
 ok:FW W n (.ref (bif cl then W.tb.cls i else fa i)) w
structure lv where
 mu:Y M
 er:Y M
 rs:Y M
 di:Y an
structure BI(W:Wd) where
 i:M
 w:Y V→Y af→R V
 ok: ∀n,FW W n (tj i) w
 hi:i<14
def ZW:Y<|BI W:= [⟨0,ce,λ_=>Oh,by decide⟩,⟨1,ot,λ_=>J3,by decide⟩,⟨2,ol,λ_=>JA,by decide⟩,⟨3,sH,λ_=>Od,by decide⟩,⟨5,e7,λ_=>OQ,by decide⟩,⟨6,oH,λ_=>N6,by decide⟩,⟨7,oB,λ_=>Li,by decide⟩,⟨8,sI,λ_=>Op,by decide⟩,⟨9,nJ,λ_=>Ot,by decide⟩,⟨10,lW,λ_=>Kt,by decide⟩]
structure BM(W:Wd) where
 y:ak
 nm:an
 Ty:i9
 id:i9
 isT:V→Y af→ak
 w:Y V→Y af→R V
 hT:qj W Ty isT
 pa:PlainAttrs Ty
 slot:Slot Ty nm id
 hty:typeOf (.builtin id)=pure (.type "method_descriptor")
 ok: ∀n,FW W n (.builtin id) w
def ZV(G:Pg W fa):Y<|BM W:= [⟨N,"append",_,_,_,_,CD,F.plainAttrs_list,F.slot_list_append,O,λ_=>J7⟩,⟨N,"extend",_,_,_,_,CD,F.plainAttrs_list,F.slot_list_extend,O,λ_=>JT⟩,⟨N,"get",_,_,_,_,Lu,F.plainAttrs_dict,F.slot_dict_get,O,λ_=>Ox G.Hs⟩,⟨N,"partition",_,_,_,_,x9,F.plainAttrs_str,F.slot_str_partition,O,λ_=>Ip⟩,
 ⟨N,"strip",_,_,_,_,x9,F.plainAttrs_str,F.slot_str_strip,O,λ_=>J9⟩,⟨N,"find",_,_,_,_,CE,FB.plainAttrs_bytes,A1,O,λ_=>Ma⟩,⟨Q,"join",_,_,_,_,CE,FB.plainAttrs_bytes,AZ,O,λ_=>Kz⟩,⟨N,"join",_,_,_,_,x9,F.plainAttrs_str,F.slot_str_join,O,λ_=>LV⟩]
def Xz(a:Operator):d {o// ∀{W:Wd} {n:M},du W n (iy a) o}:=match a with
 | .Add=>z ⟨addS,Pa⟩
 | .Sub=>z ⟨subS,NQ⟩
 | .Mult=>z ⟨mulS,D1⟩
 | .FloorDiv=>z ⟨fdivS,Md⟩
 | .Mod=>z ⟨modS,Oc⟩
 | .RShift=>z ⟨shrS,NW⟩
 | .BitAnd=>z ⟨bandS,Ms⟩
 |_=>D
def zW(G:Pg W fa)(str:ak)(a:CmpOp):d {o// ∀{n:M},du W n (bN a) o}:=match a with
 | .Eq=>z ⟨eqS,Wb⟩
 | .NotEq=>z ⟨neS,VN⟩
 | .Lt=>z ⟨ltS,VQ⟩
 | .LtE=>z<|bif str then⟨leStrS,Kv⟩else⟨leS,VT⟩
 | .Gt=>z ⟨gtS,V9⟩
 | .GtE=>z ⟨geS,V_⟩
 | .Is=>z ⟨isS,V3⟩
 | .IsNot=>z ⟨isNotS,KA⟩
 | .In=>z ⟨inS,V7 G.Hs⟩
 | .NotIn=>z ⟨notInS,Kp G.Hs⟩
end
end
section
set_option backward.match.sparseCases false
section
variable{W:Wd}{fi:FI}{n:M}{fa:M→ay}
abbrev MA(W:Wd)(fi:FI)(n:M)(e:Y aP):={m//dW W fi n e m}
def cA(rec: ∀x,Ex W fi n x)(a:Y aP):d<|MA W fi n a:=eo (z ⟨nilA, .nil⟩) (λe _ i=>if h:gZ e=Q then i.bind λb=>z ⟨ae (rec e).m b.1, .cons (rec e).ok b.2 (ij h).ns⟩else D) a
def ZR(rec: ∀x,Ex W fi n x)(o:BoolOp)(a:Y aP):{m//jK W fi n o a m}:=match o with
 | .And=>eo ⟨kT Q, .andNil⟩ (λe _ i=>⟨a_ (rec e).t i.1, .and (rec e).tok i.2⟩) a
 | .Or=>eo ⟨kT N, .orNil⟩ (λe _ i=>⟨cy (rec e).t i.1, .or (rec e).tok i.2⟩) a
abbrev ME(W:Wd)(fi:FI)(n:M)(p:Pos)(o:BoolOp)(e:Y aP):=d {m//lG W fi n p o e m}
def ZT(rec: ∀x,Ex W fi n x)(p:Pos)(o:BoolOp)(a:Y aP):ME W fi n p o a:=eo (motive:=ME W fi n p o) D (λe r i=>match r,i with
 | [],_=>z ⟨(rec e).m, .one (rec e).ok⟩
 |e2::r,i=>i.bind λb=>match o,b with
  | .And,b=>z ⟨kr (rec e).m b.1, .and (rec e).ok b.2⟩
  | .Or,b=>z ⟨mA (rec e).m b.1, .or (rec e).ok b.2⟩) a
def ZS(rec: ∀x,Ex W fi n x)(a:Y<|d aP): ∀vs,d {m//mJ W fi n a vs m}:=eo (λvs=>match vs with
 | []=>some ⟨nilP, .nil⟩
 |_=>D) (λk _ i vs=>match k,vs with
 |some k,v::vs=>(i vs).bind λb=>some ⟨cQ (rec k).m (rec v).m b.1, .cons (rec k).ok (rec v).ok b.2⟩
 |_,_=>D) a
def cP(rec: ∀x,Ex W fi n x)(x:d aP):{m//SP W fi n x m}:=match x with
 |none=>⟨partN, .none⟩
 |some e=>⟨ct (rec e).m, .some (rec e).ok⟩
noncomputable def zV(e:aP):d Const:=match e with
 | .Constant c _ _=>z c
 |_=>D
theorem Ml(h:zV e=z c): ∃k p,e= .Constant c k p:=by
 cases e<;>first|exact⟨_,_,aR (PySem.Expr.Constant · _ _) (aY h)⟩|exact nomatch (show D=z c from h)
noncomputable def Gn(c:Const):d<|Y M:=match c with
 | .str s=>z s.cps.toList
 |_=>D
theorem Ll(h:Gn c=z s):c= .str (cJ s):=by
 cases c<;>first|exact aR (λl:Y M=>PySem.Const.str ⟨l.toArray⟩) (aY h)|exact nomatch (show D=z s from h)
def vR(e:aP):d<|Y M:=(zV e).bind Gn
theorem Cx(h:vR e=z s): ∃k p,e= .Constant (.str<|cJ s) k p:=by
 obtain ⟨c,b,a⟩:=pu.mp h
 obtain ⟨k,p,b⟩:=Ml b
 exact⟨k,p,b.trans (aR (PySem.Expr.Constant · k p)<|Ll a)⟩
def zA(c:Y<|d aP):Y aP→d (Y<|Y M×Y M):=eo (λvs=>vs.casesOn (z []) λ_ _=>D) (λk _ i vs=>vs.casesOn D λv vs=>(k.bind vR).bind λa=>(vR v).bind λb=>(i vs).bind λr=>z<|(a,b)::r) c
theorem KR(h:zA e vs=z f):mK e vs f:=by
 induction e generalizing vs f with
 |nil=>cases vs with
  |nil=>cases h;exact .nil
  |cons v vs=>cases h
 |cons k e j=>cases vs with
  |nil=>cases h
  |cons v vs=>
   refine bw h λa c h=>bw h λb g h=>bw h λr i h=>bw c λl I c=> ?_
   cases h
   obtain ⟨m,p,rfl⟩:=Cx c
   obtain ⟨o,q,rfl⟩:=Cx g
   cases I
   exact .cons<|j i
structure HL(W:Wd)(fi:FI)(n:M)(t:aP) where
 tt:ak
 is:Y M
 tm:P→aj→d aj
 ok:i6 W fi n is t tm
 htt:tt=Q→ ∃es k pos,t= .Tuple es k pos
def HJ(t:aP):d<|HL W fi n t:=match t with
 | .Name x p=>if h:pU fi (g7 fi.vars x) x=Q then z ⟨N,[g7 fi.vars x],bv<|g7 fi.vars x, .name<|rR h,λh=>nomatch h⟩else D
 | .Tuple B k p=>if h:rM (vn fi) B (kY fi B)=Q then z ⟨Q,kY fi B,kg<|kY fi B, .tup<|uj (λ_ _=>zn) h,λ_=>⟨_,_,_,O⟩⟩else D
 |_=>D
def vm(t:aP):Y an:=match t with
 | .Name x _=> [x]
 | .Tuple B _ _=>B.filterMap zo
 |_=> []
def yO(fi:FI)(s:d9):Y<|an×M:=(s.names.filter λp=>p.2== .free).map λp=>(p.1,g7 fi.vars p.1)
abbrev vN(fi:FI)(s:d9)(B:Y an)(c:Y<|an×M):Prop:=
 s.kind= .function∧(∀x∈s.names,x.2≠ .cell)∧(∀x∈s.names,x.2= .local→s.names.lookup x.1=z .local)∧(∀x∈B,s.names.lookup x=z .local)∧B.Nodup∧(∀x∈s.names,x.2= .free→x.1∈c.map (·.1))∧
  (∀p∈c,s.names.lookup p.1=z .free∧(fi.vars[p.2]? =z (z (p.1, .cell))∨fi.vars[p.2]? =z (z (p.1, .free))))∧(c.map (·.2)).Nodup∧B≠ []
structure Cm(W:Wd)(fi:FI)(n:M)(elt t iter:aP)(ifs:Y aP)(scope:d9) where
 own:Y an
 caps:Y (an×M)
 ok:vN fi scope own caps
 tg:HL W (fQ fi scope own caps) n t
 his: ∀i∈tg.is,i<own.length
 tb:aj→Y af→R ak
 hb:j7 W (fQ fi scope own caps) n ifs tb
 el:aj→Y af→R V
 he:SE W (fQ fi scope own caps) n elt el
 hs: ∀env x,mN iter env x=pure x
theorem Cm.okk(c:Cm W fi n g t iter i s):iO fi s c.own c.caps:=⟨c.ok.1,c.ok.2.1,c.ok.2.2.1,c.ok.2.2.2.1,c.ok.2.2.2.2.1,c.ok.2.2.2.2.2.1,c.ok.2.2.2.2.2.2.1,c.ok.2.2.2.2.2.2.2.1⟩
theorem Cm.hown(c:Cm W fi n g t iter i s):c.own≠ []:=c.ok.2.2.2.2.2.2.2.2
def OW(rec: ∀x,Ex W fi n x)(i:Y aP):d {m//j7 W fi n i m}:=match i with
 | []=>z ⟨trueT, .nil⟩
 | [c]=>z ⟨(rec c).t, .one (rec c).tok⟩
 |_=>D
def HK(rec: ∀fi x,Ex W fi n x)(g t iter:aP)(a:Y aP)(s:d9):d<|Cm W fi n g t iter a s:=
 if h:vN fi s (vm t)<|yO fi s then(HJ t).bind λc=>if e: ∀i∈c.is,i<(vm t).length then(OW (rec<|fQ fi s (vm t)<|yO fi s) a).bind λb=>if f:gZ iter=Q then z ⟨vm t,yO fi s,h,c,e,b.1,b.2,_,(rec _ g).ok,(ij f).fs⟩else D else D else D
def Cm.w(c:Cm W fi n g t iter i s)(m:aj→Y af→R cG):aj→Y af→R V:=bW c.own c.caps c.tg.tt m c.tg.tm c.tb c.el 1000
theorem Cm.se(c:Cm W fi n g t iter i s)(a:IE W fi n iter m):SE W fi n (.ListComp g [⟨t,iter,i,0⟩] s p)<|c.w m:= .comp 1000 c.tg.tt c.okk a c.tg.ok c.hb c.he c.his c.hown c.tg.htt c.hs
theorem Cm.as(c:Cm W fi n g t iter a s)(h:IE W fi n iter m)(l:fi.vars[i]? =z (z (x, .local)))(f:(p.line==b.line)=Q)(j:(!(s.names.any λ(n,k)=>n==x&&(k== .local||k== .cell)))=Q):
  S1 W fi n (.Assign [.Name x p] (.ListComp g [⟨t,iter,a,0⟩] s b) e) (aB i<|c.w m):= .assignC 1000 c.tg.tt l c.okk h c.tg.ok c.hb c.he f j c.his c.hown c.tg.htt c.hs
def zY(a:Y<|gR W fa n)(y:an):d<|gR W fa n:=a.find? λc=> !c.cl&&fG (eN c.i)==y
def Xy(a:Y<|gR W fa n)(y:an):d<|gR W fa n:=a.find? λc=>c.cl&&mG c.i==y
def nT(k:M):M:=((dO 7).find? λC=>wr C k).getD 0
theorem E.c(G:Pg W fa)(c:gR W fa n)(t:dW W fi (n+1) e a)(h:(!c.cl&&(eh fi x (fG<|eN c.i)&&(oG c.i&&f8 c.i)))=Q):SE W fi (n+1) (.Call (.Name x p) e [] u)<|ao c.w a:=by
 obtain ⟨j,i,w,y⟩:=c
 obtain ⟨b,h⟩:=bJ.mp h
 obtain ⟨f,h⟩:=bJ.mp h
 obtain ⟨r,s⟩:=bJ.mp h
 obtain rfl:j=N:=eS _▸b
 obtain ⟨rfl,o,q⟩:=iH f
 exact .call G.T (G.gf i r) o (G.kf i s) (FW.mono y<|eR _) t q
theorem E.k(G:Pg W fa)(c:gR W fa n)(s:dW W fi (n+1) e a)(h:(c.cl&&(eh fi x (mG c.i)&&decide (c.i<7)))=Q):SE W fi (n+1) (.Call (.Name x p) e [] t)<|ao c.w a:=by
 obtain ⟨j,i,w,y⟩:=c
 obtain ⟨b,h⟩:=bJ.mp h
 obtain ⟨o,f⟩:=bJ.mp h
 obtain rfl:j=Q:=b
 obtain ⟨rfl,q,r⟩:=iH o
 have f:=fB f
 exact .call G.T (G.gk i f) q (G.kc i f) (FW.mono y<|eR _) s r
theorem E.bi(G:Pg W fa)(b:BI W)(j:dW W fi n e a)(h:eh fi x (gu b.i)=Q):SE W fi n (.Call (.Name x p) e [] o)<|ao b.w a:=by
 obtain ⟨rfl,f,i⟩:=iH h
 exact .call G.T (G.gb b.i b.hi) f (CQ<|FS b.i b.hi) (b.ok n) j i
theorem E.it(G:Pg W fa)(i:M)(a:i<14)(q:wE W n (tj i) m)(o:dW W fi n e b)(h:eh fi x (gu i)=Q):IE W fi n (.Call (.Name x p) e [] r)<|gW m b:=by
 obtain ⟨rfl,f,j⟩:=iH h
 exact .call G.T (G.gb i a) f (CQ<|FS i a) q o j
noncomputable def qp(e:Y aP)(a p:Pos):ak:=decide (e.length<30)&&a.endLine==p.line
theorem E.m(G:Pg W fa)(c:gR W fa n)(H:SE W fi (n+1) o I)(B:dW W fi (n+1) e b)(C:oV o=Q)
  (h:((qp e a p&&(!c.cl&&name==fG (eN c.i)))&&(ig (nT c.i) ((kQ<|nT c.i).headD 0)&&(wr (nT c.i) c.i&&f8 c.i)))=Q):SE W fi (n+1) (.Call (.Attribute o name a) e [] p)<|aC (nT c.i) c.w I b:=by
 obtain ⟨j,i,w,U⟩:=c
 obtain ⟨q,h⟩:=bJ.mp h
 obtain ⟨s,h⟩:=bJ.mp h
 obtain ⟨t,u⟩:=bJ.mp h
 obtain ⟨v,x⟩:=bJ.mp q
 obtain ⟨y,A⟩:=bJ.mp v
 obtain ⟨f,r⟩:=bJ.mp x
 obtain rfl:j=N:=eS _▸f
 obtain rfl:=eq_of_beq r
 exact .meth G.T G.CL _ s (G.mt _ i t) (G.kf i u) (FW.mono U<|eR _) H B (yl C) (fB y) A
theorem E.sm(G:Pg W fa){x:an}{name:an}{p a b:Pos}{e:Y aP}{f:aj→Y af→R (Y V)}{m:Y V→Y af→R V}(v:FW W n (.ref<|fa 11) m)(s:dW W fi n e f)
  (h:(qp e a b&&(eh fi x (mG 1)&&name==fG (eN 11)))=Q):SE W fi n (.Call (.Attribute (.Name x p) name a) e [] b)<|ao m f:=by
 obtain ⟨i,h⟩:=bJ.mp h
 obtain ⟨j,o⟩:=bJ.mp h
 obtain ⟨t,u⟩:=bJ.mp i
 obtain rfl:=eq_of_beq o
 obtain ⟨rfl,q,r⟩:=iH j
 exact .smeth G.T (G.gk 1<|by decide) q G.sm (G.kf 11<|by decide) v s r (fB t) u
theorem E.bm(b:BM W)(y:SE W fi n o r)(j:dW W fi n e f)(q:oV o=Q)(h:(qp e a p&&name==b.nm)=Q):SE W fi n (.Call (.Attribute o name a) e [] p)<|cU b.isT b.w r f:=by
 obtain ⟨i,h⟩:=bJ.mp h
 obtain ⟨t,u⟩:=bJ.mp i
 obtain rfl:=eq_of_beq h
 exact .bmeth b.hT b.pa b.slot b.hty (b.ok n) y j (yl q) (fB t) u
theorem E.is(G:Pg W fa){e:aP}{y x:an}{B A p:Pos}{m:aj→Y af→R V}{c:T}{a:Ty→d ak}(w: ∀h:fi.scope.names.lookup x=z .globalImplicit,GN W x c)(u: ∀t b,a t=z b→sy W t∧gU W.K (s_ W.tb t) c=z b)(v:SE W fi n e m)(h:(eh fi y (gu 4)&&(eh fi x x&&gZ e))=Q):SE W fi n (.Call (.Name y B) [e, .Name x A] [] p)<|iU a m:=by
 obtain ⟨q,h⟩:=bJ.mp h
 obtain ⟨r,s⟩:=bJ.mp h
 obtain ⟨rfl,i,j⟩:=iH q
 obtain ⟨_,f,o⟩:=iH r
 exact .isinst G.T (G.gb 4<|by decide) i (w f) f v u j o (ij s).ns
theorem E.at(G:Pg W fa){o:aP}{name:an}{p}{m:aj→Y af→R V}(i:M)(y:SE W fi n o m)(h:(oV o&&atN i==name)=Q):SE W fi n (.Attribute o name p)<|aD (aF i) m:=by
 obtain ⟨b,e⟩:=bJ.mp h
 exact .attr G.T G.CL i ((G.at_ i).trans<|eq_of_beq e) y<|yl b
theorem E.g(G:Pg W fa)(i:M)(h:(eh fi x (qR i)&&decide (i<17))=Q):SE W fi n (.Name x p)<|kM<|ti i:=by
 obtain ⟨b,e⟩:=bJ.mp h
 obtain ⟨rfl,I,a⟩:=iH b
 obtain ⟨u,f,j⟩:=G.gc i<|fB e
 exact .glob G.T I f j a
theorem E.su(G:Pg W fa)(q:SE W fi n iter t)(f:vN fi s [x] [])
  (h:((eh fi v (gu 2)&&gZ iter)&&(!(x==("__debug__":an))&& !(x==("__classdict__":an))))=Q):
  SE W fi n (.Call (.Name v y) [.DictComp (.Name x A) (.Constant (.bool Q) w B) [⟨.Name x C,iter,[],0⟩] s a] [] u) (aD Mine.sortU t):=by
 obtain ⟨b,h⟩:=bJ.mp h
 obtain ⟨e,i⟩:=bJ.mp h
 obtain ⟨p,r⟩:=bJ.mp b
 obtain ⟨rfl,j,o⟩:=iH p
 exact .sortU G.T (G.gb 2<|by decide) j o ⟨f.1,f.2.1,f.2.2.1,f.2.2.2.1,f.2.2.2.2.1,f.2.2.2.2.2.1,f.2.2.2.2.2.2.1,f.2.2.2.2.2.2.2.1⟩ q (eS _▸e) (eS _▸i) (ij r).fs
theorem E.sk(G:Pg W fa)(c:gR W fa n)(A:SE W fi (n+1) arg B)
  (h:((eh fi U (gu 2)&&eh fi I (fG<|eN c.i))&&((oG c.i&& !c.cl)&&(gZ arg&&a==n0 "key")))=Q):
  SE W fi (n+1) (.Call (.Name U p1) [arg] [⟨z a, .Name I p2,p3⟩] H) (aD (kW c.w) B):=by
 obtain ⟨o,i,w,C⟩:=c
 obtain ⟨p,h⟩:=bJ.mp h
 obtain ⟨q,r⟩:=bJ.mp p
 obtain ⟨s,t⟩:=bJ.mp h
 obtain ⟨u,v⟩:=bJ.mp s
 obtain ⟨x,y⟩:=bJ.mp t
 obtain rfl:=eq_of_beq y
 obtain rfl:o=N:=eS _▸v
 obtain ⟨rfl,e,f⟩:=iH q
 obtain ⟨rfl,b,j⟩:=iH r
 exact .sortedK G.T (G.gb 2<|by decide) e (G.gf i u) b C A f j (ij x).ns
end
end
section
set_option backward.match.sparseCases false
section
variable{W:Wd}{fi:FI}{n:M}{fa:M→ay}
def o_(a:an):M:=((dO 17).find? λi=>atN i==a).getD 0
def AF(y:an):M:=yh.findIdx λp=>p.1==y
noncomputable def V4(h:lv)(v:aP):ak:=match v with
 | .Name y _=>h.di.contains y
 | .Attribute _ a _=>a==("maps":an)||a==("words":an)
 |_=>N
noncomputable def Xm(v:aP):ak:=v.ctorIdx==20
noncomputable def On(v:aP):ak:=v.ctorIdx==24
def Xl(v:aP):ak:=(zV v).any λc=>c.ctorIdx==(Const.bytes []).ctorIdx
def GA(v:aP):ak:=(vR v).isSome
noncomputable def eA:P:= .list [.int 97, .int 98, .int 99, .int 100, .int 101, .int 102, .int 103, .int 104]
theorem Dd(b:Y da):(b.map qW).map dw=b∧ ∀n∈b.map qW,n<256:=
 ⟨by rw[eu];exact(rn λa _=>UInt8.ofNat_toNat).trans<|pD b,λn h=>by obtain ⟨a,_,rfl⟩:=cY.mp h;exact a.toNat_lt⟩
def cN(G:Pg W fa)(k:Y<|gR W fa n)(rec: ∀fi x,Ex W fi (n+1) x)(y:an)(p:Pos)(es:Y aP)(j:Pos):Ex W fi (n+1)<|.Call (.Name y p) es [] j:=
 if y=("isinstance":an)then match es with
  | [e, .Name c w]=>if h:(eh fi y (gu 4)&&(eh fi c c&&gZ e))=Q then
    if m:c=gu 11 then .of (iU qq (rec fi e).m) (E.is G (λ_=>m▸G.gb 11 (by decide)) G.ib (rec fi e).ok h)
    else if f:c=mG 4 then .of (iU oK (rec fi e).m) (E.is G (λ_=>f▸G.gk 4 (by decide)) G.ic (rec fi e).ok h)else .err
   else .err
  |_=> .err
 else match es with
 | [.DictComp (.Name x r) (.Constant (.bool Q) q t) [⟨.Name H u,iter,[],0⟩] s l]=>
  if o:H=x then if f:vN fi s [x] []then if h:((eh fi y (gu 2)&&gZ iter)&&(!(x==("__debug__":an))&& !(x==("__classdict__":an))))=Q then .of (aD sortU (rec fi iter).m) (by cases o;exact E.su G (rec fi iter).ok f h)else .err else .err else .err
 |es=>match cA (rec fi) es with
  |none=> .err
  |some a=>match ZW.find? λb=>gu b.i==y with
   |some b=>if h:eh fi y (gu b.i)=Q then .of (ao b.w a.1)<|E.bi G b a.2 h else .err
   |none=>match Xy k y with
    |some c=>if h:(c.cl&&(eh fi y (mG c.i)&&decide (c.i<7)))=Q then .of (ao c.w a.1)<|E.k G c a.2 h else .err
    |none=>match zY k y with
     |some c=>if h:(!c.cl&&(eh fi y (fG<|eN c.i)&&(oG c.i&&f8 c.i)))=Q then .of (ao c.w a.1)<|E.c G c a.2 h else .err
     |none=>if h:eh fi y (gu 12)=Q then{Ex.err with i:=gW iM a.1,iok:=E.it G 12 (by decide) Kj a.2 h}else if h:eh fi y (gu 13)=Q then{Ex.err with i:=gW zy a.1,iok:=E.it G 13 (by decide) Mg a.2 h}else .err
def cM(G:Pg W fa)(k:Y<|gR W fa n)(rec: ∀fi x,Ex W fi (n+1) x)(o:aP)(name:an)(a:Pos)(g:Y aP)(e:Pos):Ex W fi (n+1)<|.Call (.Attribute o name a) g [] e:=
 match cA (rec fi) g with
 |none=> .err
 |some f=>
  let j:Ex W fi (n+1)<|.Call (.Attribute o name a) g [] e:=match (ZV G).find? λb=>b.nm==name&&b.y==(Xl o&&b.nm==("join":an))with
   |some b=>if i:oV o=Q then if h:(qp g a e&&name==b.nm)=Q then .of (cU b.isT b.w (rec fi o).m f.1)<|E.bm b (rec fi o).ok f.2 i h else .err else .err
   |none=> .err
  if(name==("get":an)&&Xm o)=Q then j else match zY k name with
  |some c=>if i:oV o=Q then if h:((qp g a e&&(!c.cl&&name==fG (eN c.i)))&&(ig (nT c.i) ((kQ<|nT c.i).headD 0)&&(wr (nT c.i) c.i&&f8 c.i)))=Q then .of (aC (nT c.i) c.w (rec fi o).m f.1)<|E.m G c (rec fi o).ok f.2 i h else
    match o with
    | .Name x p=>match c with
     |⟨N,11,w,y⟩=>if h:(qp g a e&&(eh fi x (mG 1)&&name==fG (eN 11)))=Q then .of (ao w f.1)<|E.sm G (FW.mono y<|eR _) f.2 h else .err
     |_=> .err
    |_=> .err
   else .err
  |none=>j
def OY(c:Const)(k:M)(p:Pos):Ex W fi n<|.Constant c k p:=match c with
 | .none=> .of (kM .none) .cNone
 | .bool b=> .of (kM<|.bool b) .cBool
 | .int i=> .of (kM<|.int i) .cInt
 | .str s=> .of (kM<|.str s.cps.toList)<|.cStr O
 | .bytes b=> .of (kM<|.bytes<|b.map qW)<|.cBytes (Dd b).1 (Dd b).2
 |_=> .err
def VD(G:Pg W fa)(I:Y<|gR W fa n)(hs:lv)(rec: ∀fi x,Ex W fi (n+1) x)(fi:FI)(x:aP):Ex W fi (n+1) x:=match x with
 | .Constant c k f=>OY c k f
 | .Name y f=>if h:D7 fi (g7 fi.vars y) y=Q then .of (aa<|g7 fi.vars y)<|E.l _ h else if h:(eh fi y (qR<|AF y)&&decide (AF y<17))=Q then .of (kM<|ti<|AF y)<|E.g G _ h else .err
 | .BinOp l op r f=>match op with
  | .Mult=>if On l=Q then .of (ag rD (rec fi l).m (rec fi r).m)<|.bin (rec fi l).ok (rec fi r).ok I9 else .of (ag mulS (rec fi l).m (rec fi r).m)<|.bin (rec fi l).ok (rec fi r).ok D1
  |op=>match Xz op with
   |some o=> .of (ag o.1 (rec fi l).m (rec fi r).m)<|.bin (rec fi l).ok (rec fi r).ok o.2
   |none=> .err
 | .UnaryOp .Not a f=>{Ex.err with m:=nG (rec fi a).m,ok:= .not (rec fi a).ok,t:=sG (rec fi a).t,tok:= .not (rec fi a).tok}
 | .UnaryOp .USub a f=> .of (gJ (rec fi a).m)<|.neg (rec fi a).ok
 | .BoolOp op vs f=>let e:=ZR (rec fi) op vs;match ZT (rec fi) f op vs with
  |some s=>{Ex.err with m:=s.1,ok:= .boolOp s.2,t:=e.1,tok:= .boolOp e.2}
  |none=> .err
 | .IfExp c a b f=>let m:aj→Y af→R V:=ax (rec fi c).t (rec fi a).m (rec fi b).m
  have A:SE W fi (n+1) (.IfExp c a b f) m:= .ite (rec fi c).tok (rec fi a).ok (rec fi b).ok
  ⟨m,A,ax (rec fi c).t (rec fi a).t (rec fi b).t, .ite (rec fi c).tok (rec fi a).tok (rec fi b).tok,bT m, .of A,m,A⟩
 | .Compare a [op] [b] f=>if h:gZ b=Q then match zW G N op with
   |some o=>{Ex.err with m:=ag o.1 (rec fi a).m (rec fi b).m,ok:= .cmp1 (rec fi a).ok (rec fi b).ok o.2<|(ij h).cm _,t:=aq<|ag o.1 (rec fi a).m (rec fi b).m,tok:= .cmp1 (rec fi a).ok (rec fi b).ok o.2<|(ij h).cm _}
   |none=> .err
  else .err
 | .Compare a [o1,o2] [b,c] f=>if h:gZ c=Q then match zW G (GA a) o1,zW G (GA a) o2 with
   |some p,some q=>{Ex.err with m:=Ei (rec fi a).m (rec fi b).m (rec fi c).m p.1 q.1,ok:= .chain2 (rec fi a).ok (rec fi b).ok (rec fi c).ok p.2 q.2<|(ij h).cm _,t:=lX (rec fi a).m (rec fi b).m (rec fi c).m p.1 q.1,tok:= .chain2 (rec fi a).ok (rec fi b).ok (rec fi c).ok p.2 q.2<|(ij h).cm _}
   |_,_=> .err
  else .err
 | .Tuple j k f=>match cA (rec fi) j with
  |some u=> .of (tupF u.1)<|.tupF u.2
  |none=> .err
 | .List j f=>match cA (rec fi) j with
  |some u=>{Ex.of (x:= .List j f) (listF u.1) (.listF u.2)with mm:=listM u.1,mok:= .listM u.2}
  |none=> .err
 | .Dict [] [] f=> .of dictE .dictE
 | .Dict w vs f=>if h:w.length≤15 then if g:(w.all (·.isSome)&&w.length==vs.length&& !w.isEmpty)=Q then match ZS (rec fi) w vs with
    |some p=>{Ex.of (x:= .Dict w vs f) (dictF p.1) (.dictF G.Hs p.2 (by simp only[b_]at g;exact g.1.1) (by simp only[b_,dM]at g;exact g.1.2) (by simp only[b_,eS,List.isEmpty_eq_false_iff]at g;exact g.2) h)with mm:=dictM p.1,mok:= .dictM G.Hs p.2 (by simp only[b_]at g;exact g.1.1) (by simp only[b_,dM]at g;exact g.1.2) (by simp only[b_,eS,List.isEmpty_eq_false_iff]at g;exact g.2) h}
    |none=> .err
   else .err
  else match hc:zA w vs with
   |some j=>if g:uF (j.map (·.1))=Q∧j.length≤100∧j≠ []then .of (kM<|.dict<|sB j)<|.dictLong G.Hs (KR hc) (Bj g.1) g.2.1 g.2.2 else .err
   |none=> .err
 | .Attribute o a f=>if h:(oV o&&atN (o_ a)==a)=Q then .of (aD (aF<|o_ a) (rec fi o).m)<|E.at G _ (rec fi o).ok h else .err
 | .Subscript v (.Slice none none (some (.UnaryOp .USub (.Constant (.int 1) k q) r)) p) f=> .of (aD sD (rec fi v).m)<|.rev (rec fi v).ok<|SE.neg SE.cInt
 | .Subscript v (.Slice lo hi none p) f=> .of (cR (rec fi v).m (cP (rec fi) lo).1 (cP (rec fi) hi).1)<|.slice (rec fi v).ok (cP (rec fi) lo).2 (cP (rec fi) hi).2
 | .Subscript v i f=>if h:gZ i=Q then if V4 hs v=Q then .of (ag k_ (rec fi v).m (rec fi i).m)<|.sub (rec fi v).ok (rec fi i).ok (KQ G.Hs) (ij h).sub else .of (ag aE (rec fi v).m (rec fi i).m)<|.sub (rec fi v).ok (rec fi i).ok LX (ij h).sub else .err
 | .ListComp U [⟨t,iter,ifs',0⟩] B f=>match HK rec U t iter ifs' B with
  |some c=> .of (c.w (rec fi iter).i)<|c.se (rec fi iter).iok
  |none=> .err
 | .Call (.Name y p) j [] f=>cN G I rec y p j f
 | .Call (.Attribute o name H) j [] f=>cM G I rec o name H j f
 | .Call (.Name xs p1) [arg] [⟨some key', .Name xf p2,p3⟩] f=>match zY I xf with
  |some c=>if h:((eh fi xs (gu 2)&&eh fi xf (fG<|eN c.i))&&((oG c.i&& !c.cl)&&(gZ arg&&key'==n0 "key")))=Q then .of (aD (kW c.w) (rec fi arg).m)<|E.sk G c (rec fi arg).ok h else .err
  |none=> .err
 |_=> .err
def cE(G:Pg W fa)(a:Y<|gR W fa n)(h:lv)(k:M): ∀fi x,Ex W fi (n+1) x:=lO (λ_ _=> .err) (λ_ i=>VD G a h i) k
end
end
section
section
variable{W:Wd}{fi:FI}{n:M}{fa:M→ay}
noncomputable def Ao(s:d9)(B vs:Y aP):d<|d<|Y an:=
 if(!(B.length==2||B.length==3)||vs.length !=B.length)=Q then z D else
 if(vs.any λx=>match x with| .Starred .. =>Q|_=>N)=Q then z D else
 let l:=(B.head?.map (·.pos.line)).getD 0
 let a:=B.filterMap λx=>match x with
  | .Name id p=>if(s.names.lookup id==z .local&&p.line==l)=Q then z id else D
  |_=>D
 if(a.length !=B.length||a.eraseDups.length !=a.length)=Q then z D else
 if vs.all (foldedForSure 8)=Q then z D else
 if vs.all (constantsAlone 8)=Q then D else z<|z a
theorem DR(I:fi.scope.kind= .function)(h:Ao fi.scope B vs=z r):zF fi B k t (.Tuple vs j v) r:=λb g=>by
 have i:b.blockKind= .function:=by unfold Env.blockKind;rw[g,I];rfl
 have hkd':b.kindOf=λid=>List.lookup id fi.scope.names:=by rw[←g];rfl
 unfold Ao at h
 unfold qY
 dsimp only at h⊢
 rw[i,hkd',show (ScopeKind.function !=ScopeKind.function)=N from rfl,jk]
 by_cases a:(!(B.length==2||B.length==3)||vs.length !=B.length)=Q
 ·rw[if_pos a]at h⊢;cases h;rfl
 rw[az a]at h⊢
 split at h
 ·rename_i x;cases h;exact if_pos x
 rename_i x
 refine Eq.trans (az x) ?_
 split at h
 ·rename_i c;cases h;exact if_pos c
 rename_i c
 refine Eq.trans (az c) ?_
 by_cases e:vs.all (foldedForSure 8)=Q
 ·rw[if_pos e]at h⊢;cases h;rfl
 rw[az e]at h⊢
 by_cases f:vs.all (constantsAlone 8)=Q
 ·rw[if_pos f]at h;cases h
 rw[az f]at h⊢
 cases h;rfl
set_option backward.match.sparseCases false
abbrev MS(W:Wd)(fi:FI)(n:M)(st:dy):={m//S1 W fi n st m}
abbrev MB(W:Wd)(fi:FI)(n:M)(b:Y dy):={m//SS W fi n b m}
def MS.err{st:dy}:MS W fi n st:=⟨errM, .err⟩
noncomputable def Ex.pk(b:ak)(e:Ex W fi n x):{a//SE W fi n x a}:=bif b then⟨e.mm,e.mok⟩else⟨e.m,e.ok⟩
def ZU(rec: ∀x,Ex W fi n x)(a:Y aP):Y ak→d (MA W fi n a):=eo (λ_=>z ⟨nilA, .nil⟩) (λe _ i f=>if h:gZ e=Q then(i f.tail).bind λb=>z ⟨ae ((rec e).pk<|f.headD N).1 b.1, .cons ((rec e).pk<|f.headD N).2 b.2 (ij h).ns⟩else D) a
noncomputable def Oo(v:aP):ak:=v.ctorIdx==6
theorem Wa{x:an}{i:M}(h:(fi.vars[i]? ==z (z (x, .local)))=Q):fi.vars[i]? =z (z (x, .local)):=eq_of_beq h
def vj(G:Pg W fa)(v:lv)(rec: ∀fi x,Ex W fi (n+1) x)(g: ∀b:Y dy,MB W fi (n+1) b)(I:fi.scope.kind= .function)(st:dy):MS W fi (n+1) st:=match st with
 | .Return none f=>⟨retN, .retNone⟩
 | .Return (some e) f=>let a:=(rec fi e).pk<|Oo e&&v.mu.contains 1000;⟨aK a.1, .ret a.2⟩
 | .Expr e f=>if h:iN e=N then⟨a7 (rec fi e).m, .expr (rec fi e).ok h⟩else .err
 | .If c a b f=>let C:MB W fi (n+1) a:=bif v.er.contains f.line then⟨errM, .err⟩else g a;⟨ax (rec fi c).t C.1 (g b).1, .ite (rec fi c).tok C.2 (g b).2⟩
 | .While c b [] f=>⟨dS (rec fi c).t (g b).1 1000, .while 1000 (rec fi c).tok (g b).2⟩
 | .For t e b [] f=>if h:gZ e=Q then match HJ t with
   |some r=>⟨fH r.tt (rec fi e).i r.tm (g b).1 1000, .for 1000 r.tt (rec fi e).iok r.ok (g b).2 r.htt (ij h).fs⟩
   |none=> .err
  else .err
 | .Assign [.Name x p] (.ListComp w [⟨t,iter,A,0⟩] s f) U=>match HK rec w t iter A s with
  |some c=>if h:(fi.vars[g7 fi.vars x]? ==some (some (x, .local)))=Q then if j:(p.line==f.line)=Q then if l:(!(s.names.any λ(n,k)=>n==x&&(k== .local||k== .cell)))=Q then⟨aB (g7 fi.vars x)<|c.w (rec fi iter).i,c.as (rec fi iter).iok (Wa h) j l⟩else .err else .err else .err
  |none=> .err
 | .Assign [.Name x p] e f=>if h:iN e=N then if j:pU fi (g7 fi.vars x) x=Q then let a:=(rec fi e).pk<|v.mu.contains<|g7 fi.vars x;⟨aB (g7 fi.vars x) a.1,by obtain ⟨k,l,q⟩:=rR j;exact .assign l a.2 q h⟩else .err else .err
 | .Assign [.Attribute o name ap] e f=>if h:iN e=N then if j:(atN (o_ name)==name)=Q then let a:=(rec fi e).pk<|o_ name==14;⟨dm (o_ name) (rec fi o).m a.1, .setAttr G.T G.CL _ ((G.at_ _).trans<|eq_of_beq j) a.2 (rec fi o).ok h⟩else .err else .err
 | .Assign [.Subscript o i sp] e f=>if h:iN e=N then⟨gz (rec fi o).m (rec fi i).m (rec fi e).m, .setItem G.Hs (rec fi e).ok (rec fi o).ok (rec fi i).ok h⟩else .err
 | .Assign [.Tuple B k tp] (.Tuple vs k' vp) f=>match ZU (rec fi) vs ((kY fi B).map λi=>v.mu.contains i)with
  |some u=>match h:Ao fi.scope B vs with
   |some none=>if j:rM (vn fi) B (kY fi B)=Q then⟨kh (kY fi B) u.1, .tup (uj (λ_ _=>zn) j) u.2<|DR I h⟩else .err
   |some (some ns)=>if j:rM (λx i=>pU fi i x) ns (kY fi B)=Q then⟨iK (kY fi B) u.1, .tupSw (uj (λ_ _=>rR) j) u.2<|DR I h⟩else .err
   |none=> .err
  |none=> .err
 | .Assign [.Tuple B k tp] e f=>if h:iN e=N then if m:Ea e=N then if j:rM (vn fi) B (kY fi B)=Q then⟨kO (kY fi B) (rec fi e).m, .unpack (uj (λ_ _=>zn) j) (rec fi e).ok h λy=>Vy m B k tp y⟩else .err else .err else .err
 | .AugAssign (.Name x p) .Add e f=>if h:(pU fi (g7 fi.vars x) x&& !(x==("__classdict__":an)))=Q then⟨aB (g7 fi.vars x)<|ag iS (aa<|g7 fi.vars x) (rec fi e).m,by obtain ⟨m,j⟩:=bJ.mp h;obtain ⟨k,l,q⟩:=rR m;exact .aug l (rec fi e).ok CY q<|eS _▸j⟩else .err
 | .AugAssign (.Attribute o name ap) .Add e f=>if h:(atN (o_ name)==name)=Q then⟨oj (o_ name) iS (rec fi o).m (rec fi e).m, .augAttr G.T G.CL _ ((G.at_ _).trans<|eq_of_beq h) (rec fi o).ok (rec fi e).ok CY⟩else .err
 | .Raise (some (.Call (.Name x np) [e] [] H)) none f=>if h:(eh fi x (mG 0)&&gZ e)=Q then⟨yx (rec fi e).m,by obtain ⟨m,j⟩:=bJ.mp h;obtain ⟨rfl,l,q⟩:=iH m;exact .raise G.T G.B (G.gk 0<|by decide) l (G.kc 0<|by decide) (rec fi e).ok q (ij j).ns⟩else .err
 |_=> .err
def cS(G:Pg W fa)(a:lv)(rec: ∀fi x,Ex W fi (n+1) x)(I:fi.scope.kind= .function)(k:M): ∀b,MB W fi (n+1) b:=lO (λ_=>⟨errM, .err⟩) (λ_ i b=>eo ⟨nilM, .nil⟩ (λst _ r=>bif a.rs.contains st.pos.line then⟨errM, .err⟩else⟨ai (vj G a rec i I st).1 r.1, .cons (vj G a rec i I st).2 r.2⟩) b) k
theorem L(h:Nat.ble a b=Q):a≤b:=hY h
abbrev cB(G:Pg W fa)(i:M)(vs:Y<|an×aT)(I:(fP i).kind= .function)(c:Y<|gR W fa n)(a:lv):MB W ⟨fP i,vs.map z⟩ (n+1)<|lj i:=cS G a (cE G c a 60) I 8<|lj i
theorem bf(G:Pg W fa)(c:Y<|gR W fa n)(b:lv)(h:(oZ i a&&(sr (fP i) vs (fO i)&&(Nat.ble a (fO i).length&&((fO i).length-a==o&&vs.length==p))))=Q)(I:(fP i).kind= .function)(e:(cB G i vs I c b).1=m):FW W (n+2) (.ref<|fa i)<|aS a o p m:=by
 obtain ⟨f,h⟩:=bJ.mp h
 obtain ⟨g,h⟩:=bJ.mp h
 obtain ⟨j,h⟩:=bJ.mp h
 obtain ⟨k,l⟩:=bJ.mp h
 obtain rfl:=eq_of_beq k
 obtain rfl:=eq_of_beq l
 subst e
 exact FN G.T (G.fn i a f) (uJ g) (L j) (cB G i vs I c b).2
theorem oY(G:Pg W fa)(c:Y<|gR W fa n)(f:lv)(h:((oZ i a&&Hb C i)&&(sr (fP i) vs (fO i)&&(Nat.ble a (fO i).length&&((fO i).length-a==o&&vs.length==q))))=Q)(I:(fP i).kind= .function)(e:(cB G i vs I c f).1=m):jM W (n+3) (.ref<|W.tb.cls C)<|ko C<|aS a o q m:=by
 obtain ⟨b,h⟩:=bJ.mp h
 obtain ⟨b,p⟩:=bJ.mp b
 obtain ⟨g,h⟩:=bJ.mp h
 obtain ⟨j,h⟩:=bJ.mp h
 obtain ⟨k,l⟩:=bJ.mp h
 obtain rfl:=eq_of_beq k
 obtain rfl:=eq_of_beq l
 subst e
 exact FW.cls G.T (G.mo C i p)<|HN G.T (G.fn i a b) (uJ g) (L j) (cB G i vs I c f).2
theorem FW.err:FW W n f λ_ _=> .err:=λA l g H s vs b _ _ _ a=>absurd rfl a
theorem fL(h:Nat.ble a b=Q)(c:b≤n):a≤n:=bF (L h) c
theorem i8(h:Nat.ble a b=Q)(c:b≤n):a≤n+2:=Nat.le_add_right_of_le<|fL h c
def Gq(b:Y dy):Y<|Y M×Y M:=match b with
 | [.Return (z (.Dict k vs _)) _]=>(zA k vs).getD []
 |_=> []
theorem FF.mono(h:FF W n f m)(b:n≤p):FF W p f m:=λA l g H s vs u S=>h A l g H s vs u ⟨S.hd,S.fr,Fa b S.dp,E_ b S.un,S.ff,S.fl⟩
noncomputable def zC(b a c:M)(m:aj→Y af→ak):Y V→Y af→ak:=λvs H=>decide (vs.length=b)&&m ((vs++cX a (V.p P.none)).map z++cX (c-(b+a)) D) H
theorem ZZ(b:dD W)(K:kw W f e c a i)(j:qu c k a)(hnp':i≤a.length)
  (h:DS W ⟨c,k.map z⟩ n e m):FF W (n+1) (.ref f)<|zC i (a.length-i) k.length m:=λA l g H s vs y S R u t=>by
 obtain ⟨p,r⟩:=bJ.mp (t:(decide (vs.length=i)&&_)=Q)
 exact pg<|zz b K j hnp' S R u (fB p) λo w G _ _ _=>bq (h _ _ _ _ _ _ _ _ G r) (λv s' q=>by rw[q.1];exact⟨O,q.2⟩) λ_ _ x=>x.elim
def cD(G:Pg W fa)(a:lv)(rec: ∀fi x,Ex W fi (n+1) x)(I:fi.scope.kind= .function)(l:FF W (n+1) (.ref<|fa 101) q)(g:M)(b:Y dy):{m//DS W fi (n+1) b m}:=eo ⟨nilD, .nil⟩ (λst r i=>
 let x:{m//DS W fi (n+1) (st::r) m}:=match st with
  | .If c [.Return (some (.Call (.Name x p) f [] o)) s] [] t=>if h:eh fi x (fG<|eN 101)=Q then match cA (rec fi) f with
    |some e=>⟨i4 (rec fi c).t e.1 q i.1,by obtain ⟨rfl,j,k⟩:=iH h;exact .ifRet G.T (rec fi c).tok (G.gf 101 O) j (G.kf 101 O) l e.2 i.2 k⟩
    |none=>⟨cg errM i.1, .cons .err i.2⟩
   else⟨cg errM i.1, .cons .err i.2⟩
  |st=>⟨cg (vj G a rec (cS G a rec I 8) I st).1 i.1, .cons (vj G a rec (cS G a rec I 8) I st).2 i.2⟩
 bif st.pos.line==g then⟨qo 2 1 x.1, .freeze x.2⟩else x) b
theorem ZJ(G:Pg W fa)(c:Y<|gR W fa n)(a:lv)(g:M)(f:FF W (n+1) (.ref<|fa 101) s)(h:(oZ i b&&(sr (fP i) vs (fO i)&&(Nat.ble b (fO i).length&&((fO i).length-b==q&&vs.length==r))))=Q)(I:(fP i).kind= .function)
  (e:(cD (fi:=⟨fP i,vs.map z⟩) G a (cE G c a 60) I f g<|lj i).1=m):FF W (n+2) (.ref<|fa i)<|zC b q r m:=by
 obtain ⟨j,h⟩:=bJ.mp h
 obtain ⟨k,h⟩:=bJ.mp h
 obtain ⟨l,h⟩:=bJ.mp h
 obtain ⟨o,p⟩:=bJ.mp h
 obtain rfl:=eq_of_beq o
 obtain rfl:=eq_of_beq p
 subst e
 exact ZZ G.T (G.fn i b j) (uJ k) (L l) (cD G a (cE G c a 60) I f g<|lj i).2
end
end
section
noncomputable def v2:Y<|an×aT:= [("code", .local),("found", .local),("rest", .local)]
noncomputable def m2:aj→Y af→R Fl:=ai (aB 1<|listM nilA)<|ai (aB 2<|aa 0)<|ai (dS (cy (aq<|ag gtS (aa 2)<|kI 0)<|cy (aq<|ag ltS (ao ce<|ae (aa 1) nilA)<|kI 4)<|kT N) (ai (a7<|cU f_ fh (aa 1)<|ae (ag aE (kB [48,49,50,51,52,53,54,55,56,57,65,66,67,68,69,70])<|ag bandS (aa 2)<|kI 15) nilA)<|ai (aB 2<|ag shrS (aa 2)<|kI 4) nilM) 1000)<|ai (aK<|ao ot<|ae (aD sD<|aa 1) nilA) nilM
noncomputable def w2:Y V→Y af→R V:=aU<|aZ<|aS 1 0 3<|m2
theorem Vx(G:Pg W f)(b:2≤n):FW W n (.ref<|f 2) w2:=(bf (n:=0) (i:=2) (vs:=v2) G [] ⟨[1],[],[],[]⟩ (by kernel_rfl) O<|by kernel_rfl).fin.sel.mono b
noncomputable def v3:Y<|an×aT:= [("octet", .local)]
noncomputable def m3:aj→Y af→R Fl:=ai (ax (lX (kI 48) (aa 0) (kI 57) leS leS) (ai (aK<|ag subS (aa 0)<|kI 48) nilM) nilM)<|ai (ax (lX (kI 65) (aa 0) (kI 70) leS leS) (ai (aK<|ag subS (aa 0)<|kI 55) nilM) nilM)<|ai (ax (lX (kI 97) (aa 0) (kI 102) leS leS) (ai (aK<|ag subS (aa 0)<|kI 87) nilM) nilM)<|ai (aK<|kM .none) nilM
noncomputable def w3:Y V→Y af→R V:=aU<|aZ<|aS 1 0 1<|m3
theorem Vv(G:Pg W f)(b:2≤n):FW W n (.ref<|f 3) w3:=(bf (n:=0) (i:=3) (vs:=v3) G [] ⟨[],[],[],[]⟩ (by kernel_rfl) O<|by kernel_rfl).fin.sel.mono b
noncomputable def v5:Y<|an×aT:= [("firsts", .local),("number", .local),("low", .local),("high", .local),("middle", .local)]
noncomputable def m5:aj→Y af→R Fl:=ai (aB 2<|kI 0)<|ai (aB 3<|ao ce<|ae (aa 0) nilA)<|ai (dS (aq<|ag ltS (aa 2)<|aa 3) (ai (aB 4<|ag fdivS (ag addS (aa 2)<|aa 3)<|kI 2)<|ai (ax (aq<|ag leS (ag aE (aa 0)<|aa 4)<|aa 1) (ai (aB 2<|ag addS (aa 4)<|kI 1) nilM)<|ai (aB 3<|aa 4) nilM) nilM) 1000)<|ai (aK<|ag subS (aa 2)<|kI 1) nilM
noncomputable def w5:Y V→Y af→R V:=aU<|aZ<|aS 2 0 5<|m5
theorem zg(G:Pg W f)(b:2≤n):FW W n (.ref<|f 5) w5:=(bf (n:=0) (i:=5) (vs:=v5) G [] ⟨[],[],[],[]⟩ (by kernel_rfl) O<|by kernel_rfl).fin.sel.mono b
noncomputable def v6:Y<|an×aT:= [("pair", .local)]
noncomputable def m6:aj→Y af→R Fl:=ai (aK<|ag aE (aa 0)<|kI 0) nilM
noncomputable def w6:Y V→Y af→R V:=aU<|aZ<|aS 1 0 1<|m6
theorem Vr(G:Pg W f)(b:2≤n):FW W n (.ref<|f 6) w6:=(bf (n:=0) (i:=6) (vs:=v6) G [] ⟨[],[],[],[]⟩ (by kernel_rfl) O<|by kernel_rfl).fin.sel.mono b
noncomputable def v7:Y<|an×aT:= [("ranges", .local),("found", .local),("first", .local),("last", .local)]
noncomputable def m7:aj→Y af→R Fl:=ai (aB 1<|listM nilA)<|ai (fH Q (bT<|aD (kW w6)<|bW ["pair"] [] N (bT<|aa 0) (bv 0) (aq<|ag leS (ag aE (aa 0)<|kI 0)<|ag aE (aa 0)<|kI 1) (aa 0) 1000) (kg [2,3]) (ai (ax (a_ (aq<|ag neS (aa 1)<|listF nilA)<|a_ (aq<|ag leS (aa 2)<|ag aE (aa 1)<|gJ<|kI 1)<|kT Q) (ai (gz (aa 1) (gJ<|kI 1)<|ao sH<|ae (ag aE (aa 1)<|gJ<|kI 1)<|ae (ag addS (aa 3)<|kI 1) nilA) nilM)<|ai (a7<|cU f_ uK (aa 1)<|ae (listF<|ae (aa 2)<|ae (ag addS (aa 3)<|kI 1) nilA) nilA) nilM) nilM) 1000)<|ai (aK<|aa 1) nilM
noncomputable def w7:Y V→Y af→R V:=aU<|aZ<|aS 1 0 4<|m7
theorem Vp(G:Pg W f)(b:4≤n):FW W n (.ref<|f 7) w7:=(bf (n:=2) (i:=7) (vs:=v7) G [⟨N,6,w6,Vr G<|L O⟩] ⟨[1],[],[],[]⟩ (by kernel_rfl) O<|by kernel_rfl).fin.sel.mono b
noncomputable def v8:Y<|an×aT:= [("way", .local),("is_near", .local),("is_far", .local)]
noncomputable def m8:aj→Y af→R Fl:=ai (ax (aq<|ag eqS (aa 0)<|kS [117,110,105,111,110]) (ai (aK<|mA (aa 1)<|aa 2) nilM) nilM)<|ai (ax (aq<|ag eqS (aa 0)<|kS [98,111,116,104]) (ai (aK<|kr (aa 1)<|aa 2) nilM) nilM)<|ai (ax (aq<|ag eqS (aa 0)<|kS [119,105,116,104,111,117,116]) (ai (aK<|kr (aa 1)<|nG<|aa 2) nilM) nilM)<|ai (aK<|ag neS (aa 1)<|aa 2) nilM
noncomputable def w8:Y V→Y af→R V:=aU<|aZ<|aS 3 0 3<|m8
theorem Vn(G:Pg W f)(b:2≤n):FW W n (.ref<|f 8) w8:=(bf (n:=0) (i:=8) (vs:=v8) G [] ⟨[],[],[],[]⟩ (by kernel_rfl) O<|by kernel_rfl).fin.sel.mono b
noncomputable def v9:Y<|an×aT:= [("near", .local),("far", .local),("way", .local),("found", .local),("at", .local),("beside", .local),("is_in", .local),("bound", .local),("is_next", .local)]
noncomputable def m9:aj→Y af→R Fl:=ai (kh [3,4,5,6]<|ae (listM nilA)<|ae (kI 0)<|ae (kI 0)<|ae (kM<|.bool N) nilA)<|ai (dS (cy (aq<|ag ltS (aa 4)<|ao ce<|ae (aa 0) nilA)<|cy (aq<|ag ltS (aa 5)<|ao ce<|ae (aa 1) nilA)<|kT N) (ai (ax (cy (aq<|ag geS (aa 5)<|ao ce<|ae (aa 1) nilA)<|cy (a_ (aq<|ag ltS (aa 4)<|ao ce<|ae (aa 0) nilA)<|a_ (aq<|ag leS (ag aE (aa 0)<|aa 4)<|ag aE (aa 1)<|aa 5)<|kT Q)<|kT N) (ai (aB 7<|ag aE (aa 0)<|aa 4) nilM)<|ai (aB 7<|ag aE (aa 1)<|aa 5) nilM)<|ai (ax (a_ (aq<|ag ltS (aa 4)<|ao ce<|ae (aa 0) nilA)<|a_ (aq<|ag eqS (ag aE (aa 0)<|aa 4)<|aa 7)<|kT Q) (ai (aB 4<|ag iS (aa 4)<|kI 1) nilM) nilM)<|ai (ax (a_ (aq<|ag ltS (aa 5)<|ao ce<|ae (aa 1) nilA)<|a_ (aq<|ag eqS (ag aE (aa 1)<|aa 5)<|aa 7)<|kT Q) (ai (aB 5<|ag iS (aa 5)<|kI 1) nilM) nilM)<|ai (aB 8<|ao w8<|ae (aa 2)<|ae (ag eqS (ag modS (aa 4)<|kI 2)<|kI 1)<|ae (ag eqS (ag modS (aa 5)<|kI 2)<|kI 1) nilA)<|ai (ax (aq<|ag neS (aa 8)<|aa 6) (ai (a7<|cU f_ fh (aa 3)<|ae (aa 7) nilA)<|ai (aB 6<|aa 8) nilM) nilM) nilM) 1000)<|ai (aK<|aa 3) nilM
noncomputable def w9:Y V→Y af→R V:=aU<|aZ<|aS 3 0 9<|m9
theorem vi(G:Pg W f)(b:4≤n):FW W n (.ref<|f 9) w9:=(bf (n:=2) (i:=9) (vs:=v9) G [⟨N,8,w8,Vn G<|L O⟩] ⟨[3],[],[],[]⟩ (by kernel_rfl) O<|by kernel_rfl).fin.sel.mono b
noncomputable def G8:Y<|an×aT:= [("self", .local),("bounds", .local)]
noncomputable def HB:aj→Y af→R Fl:=ai (dm 1 (aa 0)<|ax (aq<|ag isS (aa 1)<|kM .none) (listF nilA)<|aa 1) nilM
noncomputable def qP:Y V→Y af→R V:=aU<|aZ<|ko 1<|aS 1 1 2 HB
theorem D9(G:Pg W f)(b:3≤n):FW W n (.ref<|W.tb.cls 1) qP:=(oY (n:=0) (i:=10) (vs:=G8) G [] ⟨[],[],[],[]⟩ (by kernel_rfl) O<|by kernel_rfl).fin.sel.fw.mono b
noncomputable def k1:Y V→Y af→R V:=aU<|aZ<|ko 1<|aS 2 0 2 HB
theorem sj(G:Pg W f)(b:3≤n):FW W n (.ref<|W.tb.cls 1) k1:=(oY (n:=0) (i:=10) (vs:=G8) G [] ⟨[],[],[],[]⟩ (by kernel_rfl) O<|by kernel_rfl).fin.sel.fw.mono b
noncomputable def YZ:Y<|an×aT:= [("ranges", .local)]
noncomputable def Ay:aj→Y af→R Fl:=ai (aK<|ao k1<|ae (ao w7<|ae (aa 0) nilA) nilA) nilM
noncomputable def qJ:Y V→Y af→R V:=aU<|aZ<|aS 1 0 1<|Ay
theorem DN(G:Pg W f)(b:6≤n):FW W n (.ref<|f 11) qJ:=(bf (n:=4) (i:=11) (vs:=YZ) G [⟨N,7,w7,Vp G<|L O⟩,⟨Q,1,k1,sj G<|L O⟩] ⟨[],[],[],[]⟩ (by kernel_rfl) O<|by kernel_rfl).fin.sel.mono b
noncomputable def YY:Y<|an×aT:= [("self", .local),("code", .local)]
noncomputable def HA:aj→Y af→R Fl:=ai (aK<|ag eqS (ag modS (ao w5<|ae (aD (aF 1)<|aa 0)<|ae (aa 1) nilA)<|kI 2)<|kI 0) nilM
noncomputable def jG:Y V→Y af→R V:=aU<|aZ<|aS 2 0 2<|HA
theorem NN(G:Pg W f)(b:4≤n):FW W n (.ref<|f 12) jG:=(bf (n:=2) (i:=12) (vs:=YY) G [⟨N,5,w5,zg G<|L O⟩] ⟨[],[],[],[]⟩ (by kernel_rfl) O<|by kernel_rfl).fin.sel.mono b
noncomputable def YX:Y<|an×aT:= [("self", .cell)]
noncomputable def Hz:aj→Y af→R Fl:=ai (aK<|bW ["at"] [("self",0)] N (gW iM<|ae (kI 0)<|ae (ao ce<|ae (aD (aF 1)<|aa 0) nilA)<|ae (kI 2) nilA) (bv 0) trueT (tupF<|ae (ag aE (aD (aF 1)<|aa 1)<|aa 0)<|ae (ag subS (ag aE (aD (aF 1)<|aa 1)<|ag addS (aa 0)<|kI 1)<|kI 1) nilA) 1000) nilM
noncomputable def jF:Y V→Y af→R V:=aU<|aZ<|aS 1 0 1<|Hz
theorem DL(G:Pg W f)(b:2≤n):FW W n (.ref<|f 13) jF:=(bf (n:=0) (i:=13) (vs:=YX) G [] ⟨[],[],[],[]⟩ (by kernel_rfl) O<|by kernel_rfl).fin.sel.mono b
noncomputable def YW:Y<|an×aT:= [("self", .local),("other", .local)]
noncomputable def ZF:aj→Y af→R Fl:=ai (aK<|ao k1<|ae (ao w9<|ae (aD (aF 1)<|aa 0)<|ae (aD (aF 1)<|aa 1)<|ae (kS [117,110,105,111,110]) nilA) nilA) nilM
noncomputable def nR:Y V→Y af→R V:=aU<|aZ<|aS 2 0 2<|ZF
theorem DK(G:Pg W f)(b:6≤n):FW W n (.ref<|f 15) nR:=(bf (n:=4) (i:=15) (vs:=YW) G [⟨N,9,w9,vi G<|L O⟩,⟨Q,1,k1,sj G<|L O⟩] ⟨[],[],[],[]⟩ (by kernel_rfl) O<|by kernel_rfl).fin.sel.mono b
noncomputable def YV:Y<|an×aT:= [("self", .local),("other", .local)]
noncomputable def ZE:aj→Y af→R Fl:=ai (aK<|ao k1<|ae (ao w9<|ae (aD (aF 1)<|aa 0)<|ae (aD (aF 1)<|aa 1)<|ae (kS [98,111,116,104]) nilA) nilA) nilM
noncomputable def s9:Y V→Y af→R V:=aU<|aZ<|aS 2 0 2<|ZE
theorem NM(G:Pg W f)(b:6≤n):FW W n (.ref<|f 16) s9:=(bf (n:=4) (i:=16) (vs:=YV) G [⟨N,9,w9,vi G<|L O⟩,⟨Q,1,k1,sj G<|L O⟩] ⟨[],[],[],[]⟩ (by kernel_rfl) O<|by kernel_rfl).fin.sel.mono b
noncomputable def YU:Y<|an×aT:= [("self", .local),("other", .local)]
noncomputable def ZD:aj→Y af→R Fl:=ai (aK<|ao k1<|ae (ao w9<|ae (aD (aF 1)<|aa 0)<|ae (aD (aF 1)<|aa 1)<|ae (kS [119,105,116,104,111,117,116]) nilA) nilA) nilM
noncomputable def s8:Y V→Y af→R V:=aU<|aZ<|aS 2 0 2<|ZD
theorem NL(G:Pg W f)(b:6≤n):FW W n (.ref<|f 17) s8:=(bf (n:=4) (i:=17) (vs:=YU) G [⟨N,9,w9,vi G<|L O⟩,⟨Q,1,k1,sj G<|L O⟩] ⟨[],[],[],[]⟩ (by kernel_rfl) O<|by kernel_rfl).fin.sel.mono b
end
section
noncomputable def YT:Y<|an×aT:= [("self", .local)]
noncomputable def Hy:aj→Y af→R Fl:=ai (aK<|ao k1<|ae (ao w9<|ae (listF<|ae (kI 0)<|ae (kI 1114112) nilA)<|ae (aD (aF 1)<|aa 0)<|ae (kS [119,105,116,104,111,117,116]) nilA) nilA) nilM
noncomputable def mz:Y V→Y af→R V:=aU<|aZ<|aS 1 0 1<|Hy
theorem yt(G:Pg W f)(b:6≤n):FW W n (.ref<|f 18) mz:=(bf (n:=4) (i:=18) (vs:=YT) G [⟨N,9,w9,vi G<|L O⟩,⟨Q,1,k1,sj G<|L O⟩] ⟨[],[],[],[]⟩ (by kernel_rfl) O<|by kernel_rfl).fin.sel.mono b
noncomputable def YS:Y<|an×aT:= [("one", .local),("other", .local)]
noncomputable def ZC:aj→Y af→R Fl:=ai (aK<|kr (ag eqS (aa 0)<|aa 1)<|ag eqS (iU qq<|aa 0)<|iU qq<|aa 1) nilM
noncomputable def qI:Y V→Y af→R V:=aU<|aZ<|aS 2 0 2<|ZC
theorem DH(G:Pg W f)(b:2≤n):FW W n (.ref<|f 22) qI:=(bf (n:=0) (i:=22) (vs:=YS) G [] ⟨[],[],[],[]⟩ (by kernel_rfl) O<|by kernel_rfl).fin.sel.mono b
noncomputable def YR:Y<|an×aT:= [("self", .local),("default", .local)]
noncomputable def ZB:aj→Y af→R Fl:=ai (dm 2 (aa 0)<|aa 1)<|ai (dm 3 (aa 0)<|listF<|ae (kI 0) nilA)<|ai (dm 4 (aa 0)<|listF<|ae (aa 1) nilA) nilM
noncomputable def k2:Y V→Y af→R V:=aU<|ko 2<|aS 2 0 2 ZB
theorem V2(G:Pg W f)(b:3≤n):FW W n (.ref<|W.tb.cls 2) k2:=(oY (n:=0) (i:=23) (vs:=YR) G [] ⟨[],[],[],[]⟩ (by kernel_rfl) O<|by kernel_rfl).sel.fw.mono b
noncomputable def YQ:Y<|an×aT:= [("self", .local),("code", .local)]
noncomputable def ZA:aj→Y af→R Fl:=ai (aK<|ag aE (aD (aF 4)<|aa 0)<|ao w5<|ae (aD (aF 3)<|aa 0)<|ae (aa 1) nilA) nilM
noncomputable def Am:Y V→Y af→R V:=aU<|aZ<|aS 2 0 2<|ZA
theorem NK(G:Pg W f)(b:4≤n):FW W n (.ref<|f 24) Am:=(bf (n:=2) (i:=24) (vs:=YQ) G [⟨N,5,w5,zg G<|L O⟩] ⟨[],[],[],[]⟩ (by kernel_rfl) O<|by kernel_rfl).fin.sel.mono b
noncomputable def YP:Y<|an×aT:= [("self", .local),("first", .local),("last", .local),("value", .local),("low", .local),("high", .local),("behind", .local),("starts", .local),("values", .local)]
noncomputable def Zz:aj→Y af→R Fl:=ai (ax (aq<|ag gtS (aa 1)<|aa 2) (ai (retN) nilM) nilM)<|ai (aB 4<|ag addS (ao w5<|ae (aD (aF 3)<|aa 0)<|ae (ag subS (aa 1)<|kI 1) nilA)<|kI 1)<|ai (aB 5<|ag addS (ao w5<|ae (aD (aF 3)<|aa 0)<|ae (ag addS (aa 2)<|kI 1) nilA)<|kI 1)<|ai (aB 6<|ag aE (aD (aF 4)<|aa 0)<|ag subS (aa 5)<|kI 1)<|ai (iK [7,8]<|ae (listM<|ae (aa 1) nilA)<|ae (listM<|ae (aa 3) nilA) nilA)<|ai (ax (a_ (aq<|ag ltS (aa 2)<|kI 1114111)<|a_ (sG<|aq<|ao qI<|ae (aa 6)<|ae (aa 3) nilA)<|kT Q) (ai (a7<|cU f_ fh (aa 7)<|ae (ag addS (aa 2)<|kI 1) nilA)<|ai (a7<|cU f_ fh (aa 8)<|ae (aa 6) nilA) nilM) nilM)<|ai (ax (a_ (aq<|ag gtS (aa 4)<|kI 0)<|a_ (aq<|ao qI<|ae (ag aE (aD (aF 4)<|aa 0)<|ag subS (aa 4)<|kI 1)<|ae (aa 3) nilA)<|kT Q) (ai (iK [7,8]<|ae (cR (aa 7) (ct<|kI 1) partN)<|ae (cR (aa 8) (ct<|kI 1) partN) nilA) nilM) nilM)<|ai (dm 3 (aa 0)<|ag addS (ag addS (cR (aD (aF 3)<|aa 0) partN<|ct<|aa 4)<|aa 7)<|cR (aD (aF 3)<|aa 0) (ct<|aa 5) partN)<|ai (dm 4 (aa 0)<|ag addS (ag addS (cR (aD (aF 4)<|aa 0) partN<|ct<|aa 4)<|aa 8)<|cR (aD (aF 4)<|aa 0) (ct<|aa 5) partN) nilM
noncomputable def Al:Y V→Y af→R V:=aU<|aS 4 0 9<|Zz
theorem NJ(G:Pg W f)(b:4≤n):FW W n (.ref<|f 25) Al:=(bf (n:=2) (i:=25) (vs:=YP) G [⟨N,22,qI,DH G<|L O⟩,⟨N,5,w5,zg G<|L O⟩] ⟨[7,8],[],[],[]⟩ (by kernel_rfl) O<|by kernel_rfl).sel.mono b
noncomputable def YN:Y<|an×aT:= [("range_map", .local),("starts", .local),("found", .local),("at", .local),("value", .local),("last", .local)]
noncomputable def Zv:aj→Y af→R Fl:=ai (iK [1,2]<|ae (aD (aF 3)<|aa 0)<|ae (listM nilA) nilA)<|ai (fH Q (gW zy<|ae (aD (aF 4)<|aa 0) nilA) (kg [3,4]) (ai (aB 5<|ax (aq<|ag ltS (ag addS (aa 3)<|kI 1)<|ao ce<|ae (aa 1) nilA) (ag subS (ag aE (aa 1)<|ag addS (aa 3)<|kI 1)<|kI 1)<|kI 1114111)<|ai (a7<|cU f_ fh (aa 2)<|ae (tupF<|ae (ag aE (aa 1)<|aa 3)<|ae (aa 5)<|ae (aa 4) nilA) nilA) nilM) 1000)<|ai (aK<|aa 2) nilM
noncomputable def Aj:Y V→Y af→R V:=aU<|aZ<|aS 1 0 6<|Zv
theorem NH(G:Pg W f)(b:2≤n):FW W n (.ref<|f 28) Aj:=(bf (n:=0) (i:=28) (vs:=YN) G [] ⟨[2],[],[],[]⟩ (by kernel_rfl) O<|by kernel_rfl).fin.sel.mono b
noncomputable def YO:Y<|an×aT:= [("self", .cell)]
noncomputable def Zw:aj→Y af→R Fl:=ai (aK<|bW ["row"] [("self",0)] N (bT<|ao Aj<|ae (aa 0) nilA) (bv 0) (sG<|aq<|ao qI<|ae (ag aE (aa 0)<|kI 2)<|ae (aD (aF 2)<|aa 1) nilA) (aa 0) 1000) nilM
noncomputable def Ak:Y V→Y af→R V:=aU<|aZ<|aS 1 0 1<|Zw
theorem NI(G:Pg W f)(b:4≤n):FW W n (.ref<|f 26) Ak:=(bf (n:=2) (i:=26) (vs:=YO) G [⟨N,22,qI,DH G<|L O⟩,⟨N,28,Aj,NH G<|L O⟩] ⟨[],[],[],[]⟩ (by kernel_rfl) O<|by kernel_rfl).fin.sel.mono b
noncomputable def YM:Y<|an×aT:= [("found", .local),("name", .local)]
noncomputable def Zu:aj→Y af→R Fl:=ai (aB 0<|dictM<|cQ (kS [103,99]) (kS [67,110])<|cQ (kS [99,99,99]) (kI 0)<|cQ (kS [98,99]) (kS [76])<|cQ (kS [108,98]) (kS [88,88])<|cQ (kS [101,97]) (kS [78])<|cQ (kS [115,99]) (kS [90,122,122,122])<|cQ (kS [106,116]) (kS [85])<|cQ (kS [105,110,99,98]) (kS [78,111,110,101]) nilP)<|ai (fH N (bT<|tupF<|ae (kS [103,99,98])<|ae (kS [119,98])<|ae (kS [115,98]) nilA) (bv 1) (ai (gz (aa 0) (aa 1)<|kS [79,116,104,101,114]) nilM) 1000)<|ai (fH N (bT<|tupF<|ae (kS [101,120])<|ae (kS [115,100])<|ae (kS [99,97,115,101,100])<|ae (kS [99,105])<|ae (kS [101,112])<|ae (kS [100,105])<|ae (kS [105,100,115])<|ae (kS [105,100,99])<|ae (kS [120,105,100,115])<|ae (kS [120,105,100,99])<|ae (kS [112,97,116,95,115,121,110])<|ae (kS [112,97,116,95,119,115])<|ae (kS [105,100,115,116]) nilA) (bv 1) (ai (gz (aa 0) (aa 1)<|kM<|.bool N) nilM) 1000)<|ai (fH N (bT<|tupF<|ae (kS [100,109])<|ae (kS [117,99])<|ae (kS [108,99])<|ae (kS [116,99])<|ae (kS [99,102])<|ae (kS [98,109])<|ae (kS [98,112,98])<|ae (kS [115,99,120])<|ae (kS [110,116])<|ae (kS [110,118])<|ae (kS [110,97,109,101])<|ae (kS [99,111,110,102])<|ae (kS [110,102,107,99,95,99,102]) nilA) (bv 1) (ai (gz (aa 0) (aa 1)<|kM .none) nilM) 1000)<|ai (fH N (bT<|tupF<|ae (kS [115,117,99])<|ae (kS [115,108,99])<|ae (kS [115,116,99])<|ae (kS [97,108,105,97,115]) nilA) (bv 1) (ai (gz (aa 0) (aa 1)<|tupF nilA) nilM) 1000)<|ai (gz (aa 0) (kS [105,100,110,97])<|tupF<|ae (kS [100,105,115,97,108,108,111,119,101,100])<|ae (tupF nilA) nilA)<|ai (aK<|aa 0) nilM
noncomputable def Ai:Y V→Y af→R V:=aU<|aS 0 0 2<|Zu
theorem NG(G:Pg W f)(b:2≤n):FW W n (.ref<|f 29) Ai:=(bf (n:=0) (i:=29) (vs:=YM) G [] ⟨[0],[],[],[]⟩ (by kernel_rfl) O<|by kernel_rfl).sel.mono b
noncomputable def YL:Y<|an×aT:= [("self", .local)]
noncomputable def Zt:aj→Y af→R Fl:=ai (dm 5 (aa 0)<|ao Ai nilA)<|ai (dm 6 (aa 0) dictE)<|ai (dm 7 (aa 0) dictE)<|ai (dm 8 (aa 0) dictE) nilM
noncomputable def k3:Y V→Y af→R V:=aU<|ko 3<|aS 1 0 1 Zt
theorem V0(G:Pg W f)(b:5≤n):FW W n (.ref<|W.tb.cls 3) k3:=(oY (n:=2) (i:=30) (vs:=YL) G [⟨N,29,Ai,NG G<|L O⟩] ⟨[],[],[],[]⟩ (by kernel_rfl) O<|by kernel_rfl).sel.fw.mono b
noncomputable def YI:Y<|an×aT:= [("self", .local),("name", .local)]
noncomputable def Zq:aj→Y af→R Fl:=ai (ax (aq<|ag notInS (aa 1)<|aD (aF 6)<|aa 0) (ai (gz (aD (aF 6)<|aa 0) (aa 1)<|ao k2<|ae (cU vx vW (aD (aF 5)<|aa 0)<|ae (aa 1) nilA) nilA) nilM) nilM)<|ai (aK<|ag k_ (aD (aF 6)<|aa 0)<|aa 1) nilM
noncomputable def Ag:Y V→Y af→R V:=aU<|aS 2 0 2<|Zq
theorem ND(G:Pg W f)(b:5≤n):FW W n (.ref<|f 33) Ag:=(bf (n:=3) (i:=33) (vs:=YI) G [⟨Q,2,k2,V2 G<|L O⟩] ⟨[],[],[],[]⟩ (by kernel_rfl) O<|by kernel_rfl).sel.mono b
noncomputable def YK:Y<|an×aT:= [("self", .local),("name", .local),("first", .local),("last", .local),("value", .local)]
noncomputable def Zs:aj→Y af→R Fl:=ai (a7<|aC 2 Al (aC 3 Ag (aa 0)<|ae (aa 1) nilA)<|ae (aa 2)<|ae (aa 3)<|ae (aa 4) nilA) nilM
noncomputable def lC:Y V→Y af→R V:=aU<|aS 5 0 5<|Zs
theorem NF(G:Pg W f)(b:7≤n):FW W n (.ref<|f 31) lC:=(bf (n:=5) (i:=31) (vs:=YK) G [⟨N,25,Al,NJ G<|L O⟩,⟨N,33,Ag,ND G<|L O⟩] ⟨[],[],[],[]⟩ (by kernel_rfl) O<|by kernel_rfl).sel.mono b
noncomputable def YJ:Y<|an×aT:= [("self", .local),("name", .local),("code", .local)]
noncomputable def Zr:aj→Y af→R Fl:=ai (ax (aq<|ag inS (aa 1)<|aD (aF 6)<|aa 0) (ai (aK<|aC 2 Am (ag k_ (aD (aF 6)<|aa 0)<|aa 1)<|ae (aa 2) nilA) nilM) nilM)<|ai (aK<|cU vx vW (aD (aF 5)<|aa 0)<|ae (aa 1) nilA) nilM
noncomputable def Ah:Y V→Y af→R V:=aU<|aZ<|aS 3 0 3<|Zr
theorem NE(G:Pg W f)(b:6≤n):FW W n (.ref<|f 32) Ah:=(bf (n:=4) (i:=32) (vs:=YJ) G [⟨N,24,Am,NK G<|L O⟩] ⟨[],[],[],[]⟩ (by kernel_rfl) O<|by kernel_rfl).fin.sel.mono b
noncomputable def YH:Y<|an×aT:= [("word", .local),("kept", .local),("sign", .local)]
noncomputable def Zp:aj→Y af→R Fl:=ai (aB 1<|listM nilA)<|ai (fH N (bT<|aa 0) (bv 2) (ai (ax (aq<|ag notInS (aa 2)<|kS [32,95,45,9]) (ai (a7<|cU f_ fh (aa 1)<|ae (ax (lX (kS [65]) (aa 2) (kS [90]) leStrS leStrS) (ao e7<|ae (ag addS (ao oH<|ae (aa 2) nilA)<|kI 32) nilA)<|aa 2) nilA) nilM) nilM) nilM) 1000)<|ai (aK<|cU kZ lh (kS [])<|ae (aa 1) nilA) nilM
noncomputable def s7:Y V→Y af→R V:=aU<|aZ<|aS 1 0 3<|Zp
theorem DG(G:Pg W f)(b:2≤n):FW W n (.ref<|f 34) s7:=(bf (n:=0) (i:=34) (vs:=YH) G [] ⟨[1],[],[],[]⟩ (by kernel_rfl) O<|by kernel_rfl).fin.sel.mono b
noncomputable def YG:Y<|an×aT:= [("known", .local),("word", .local),("loose", .local)]
noncomputable def Zo:aj→Y af→R Fl:=ai (aB 2<|ao s7<|ae (aa 1) nilA)<|ai (ax (aq<|ag inS (aa 2)<|aa 0) (ai (aK<|ag k_ (aa 0)<|aa 2) nilM) nilM)<|ai (ax (a_ (aq<|ag eqS (cR (aa 2) partN<|ct<|kI 2)<|kS [105,115])<|a_ (aq<|ag inS (cR (aa 2) (ct<|kI 2) partN)<|aa 0)<|kT Q) errM nilM)<|ai (aK<|kM .none) nilM
noncomputable def qH:Y V→Y af→R V:=aU<|aZ<|aS 2 0 3<|Zo
theorem DF(G:Pg W f)(b:4≤n):FW W n (.ref<|f 35) qH:=(bf (n:=2) (i:=35) (vs:=YG) G [⟨N,34,s7,DG G<|L O⟩] ⟨[],[203],[],["known"]⟩ (by kernel_rfl) O<|by kernel_rfl).fin.sel.mono b
end
section
noncomputable def ZL:Y<|Y M×Y M:=Gq<|lj 36
noncomputable def YF:Y<|an×aT:= []
noncomputable def Zn:aj→Y af→R Fl:=ai (aK<|kM<|.dict<|sB ZL) nilM
noncomputable def Af:Y V→Y af→R V:=aU<|aZ<|aS 0 0 0<|Zn
theorem NC(G:Pg W f)(b:2≤n):FW W n (.ref<|f 36) Af:=(bf (n:=0) (i:=36) (vs:=YF) G [] ⟨[],[],[],[]⟩ (by kernel_rfl) O<|by kernel_rfl).fin.sel.mono b
noncomputable def ZK:Y<|Y M×Y M:=Gq<|lj 37
noncomputable def YE:Y<|an×aT:= []
noncomputable def Zm:aj→Y af→R Fl:=ai (aK<|kM<|.dict<|sB ZK) nilM
noncomputable def Ae:Y V→Y af→R V:=aU<|aZ<|aS 0 0 0<|Zm
theorem NB(G:Pg W f)(b:2≤n):FW W n (.ref<|f 37) Ae:=(bf (n:=0) (i:=37) (vs:=YE) G [] ⟨[],[],[],[]⟩ (by kernel_rfl) O<|by kernel_rfl).fin.sel.mono b
noncomputable def YD:Y<|an×aT:= [("value", .cell),("seconds", .local)]
noncomputable def Zl:aj→Y af→R Fl:=ai (ax (aq<|ag eqS (aa 0)<|kS [76,67]) (ai (aK<|tupF<|ae (kS [76,117])<|ae (kS [76,108])<|ae (kS [76,116]) nilA) nilM) nilM)<|ai (ax (aq<|ag neS (ao ce<|ae (aa 0) nilA)<|kI 1) (ai (aK<|tupF<|ae (aa 0) nilA) nilM) nilM) errM
noncomputable def Ad:Y V→Y af→R V:=aU<|aZ<|aS 1 0 2<|Zl
theorem NA(G:Pg W f)(b:2≤n):FW W n (.ref<|f 38) Ad:=(bf (n:=0) (i:=38) (vs:=YD) G [] ⟨[],[],[215],[]⟩ (by kernel_rfl) O<|by kernel_rfl).fin.sel.mono b
noncomputable def YC:Y<|an×aT:= [("data", .local),("word", .local),("found", .local)]
noncomputable def Zk:aj→Y af→R Fl:=ai (aB 2<|ao qH<|ae (aD (aF 7)<|aa 0)<|ae (aa 1) nilA)<|ai (ax (aq<|ag isS (aa 2)<|kM .none) (ai (aB 2<|ao qH<|ae (ao Af nilA)<|ae (aa 1) nilA) nilM) nilM)<|ai (ax (aq<|ag isNotS (aa 2)<|kM .none) (ai (aK<|aa 2) nilM) nilM)<|ai (aK<|ax (cy (aq<|ag inS (aa 1)<|aD (aF 5)<|aa 0)<|cy (aq<|ag inS (aa 1)<|aD (aF 6)<|aa 0)<|kT N) (aa 1)<|kM .none) nilM
noncomputable def Ac:Y V→Y af→R V:=aU<|aZ<|aS 2 0 3<|Zk
theorem Nz(G:Pg W f)(b:6≤n):FW W n (.ref<|f 39) Ac:=(bf (n:=4) (i:=39) (vs:=YC) G [⟨N,35,qH,DF G<|L O⟩,⟨N,36,Af,NC G<|L O⟩] ⟨[],[],[],[]⟩ (by kernel_rfl) O<|by kernel_rfl).fin.sel.mono b
noncomputable def YB:Y<|an×aT:= [("data", .local),("name", .local),("word", .local),("loose", .local),("key", .local)]
noncomputable def Zj:aj→Y af→R Fl:=ai (aB 3<|ao s7<|ae (aa 2) nilA)<|ai (fH N (bT<|tupF<|ae (aa 3)<|ae (ax (aq<|ag eqS (cR (aa 3) partN<|ct<|kI 2)<|kS [105,115]) (cR (aa 3) (ct<|kI 2) partN)<|aa 3) nilA) (bv 4) (ai (ax (aq<|ag inS (tupF<|ae (aa 1)<|ae (aa 4) nilA)<|aD (aF 8)<|aa 0) errM nilM) nilM) 1000)<|ai (aK<|ax (aq<|ag eqS (aa 1)<|kS [103,99]) (ao qH<|ae (ao Ae nilA)<|ae (aa 2) nilA)<|kM .none) nilM
noncomputable def sZ:Y V→Y af→R V:=aU<|aZ<|aS 3 0 5<|Zj
theorem DC(G:Pg W f)(b:6≤n):FW W n (.ref<|f 40) sZ:=(bf (n:=4) (i:=40) (vs:=YB) G [⟨N,34,s7,DG G<|L O⟩,⟨N,35,qH,DF G<|L O⟩,⟨N,37,Ae,NB G<|L O⟩] ⟨[],[227],[],[]⟩ (by kernel_rfl) O<|by kernel_rfl).fin.sel.mono b
noncomputable def YA:Y<|an×aT:= [("data", .local),("name", .local),("value", .local),("word", .local),("short", .local),("due", .local),("told", .local)]
noncomputable def Zi:aj→Y af→R Fl:=ai (ax (aq<|iU qq<|aa 2) errM nilM)<|ai (ax (a_ (aq<|ag eqS (aa 1)<|kS [115,99,120])<|a_ (aq<|ag isS (aa 2)<|kM .none)<|kT Q) (ai (aK<|kM<|.bool N) nilM) nilM)<|ai (aB 4<|ao sZ<|ae (aa 0)<|ae (aa 1)<|ae (aa 3) nilA)<|ai (ax (a_ (aq<|ag eqS (aa 1)<|kS [103,99])<|a_ (aq<|ag isNotS (aa 4)<|kM .none)<|kT Q) (ai (aK<|ag inS (aa 2)<|ao Ad<|ae (aa 4) nilA) nilM) nilM) errM
noncomputable def Ab:Y V→Y af→R V:=aU<|aZ<|aS 4 0 7<|Zi
theorem Ny(G:Pg W f)(b:8≤n):FW W n (.ref<|f 46) Ab:=(bf (n:=6) (i:=46) (vs:=YA) G [⟨N,38,Ad,NA G<|L O⟩,⟨N,40,sZ,DC G<|L O⟩] ⟨[],[265],[272],[]⟩ (by kernel_rfl) O<|by kernel_rfl).fin.sel.mono b
noncomputable def Yz:Y<|an×aT:= [("data", .local),("name", .local),("code", .local),("word", .local),("value", .local)]
noncomputable def Zh:aj→Y af→R Fl:=ai (aB 4<|aC 3 Ah (aa 0)<|ae (aa 1)<|ae (aa 2) nilA)<|ai (ax (a_ (aq<|ag eqS (aa 1)<|kS [115,99,120])<|a_ (aq<|ag isS (aa 4)<|kM .none)<|kT Q) errM nilM)<|ai (aK<|ao Ab<|ae (aa 0)<|ae (aa 1)<|ae (aa 4)<|ae (aa 3) nilA) nilM
noncomputable def Aa:Y V→Y af→R V:=aU<|aZ<|aS 4 0 5<|Zh
theorem Nx(G:Pg W f)(b:10≤n):FW W n (.ref<|f 47) Aa:=(bf (n:=8) (i:=47) (vs:=Yz) G [⟨N,32,Ah,NE G<|L O⟩,⟨N,46,Ab,Ny G<|L O⟩] ⟨[],[284],[],[]⟩ (by kernel_rfl) O<|by kernel_rfl).fin.sel.mono b
noncomputable def Yy:Y<|an×aT:= [("data", .local),("name", .local)]
noncomputable def Zg:aj→Y af→R Fl:=ai (aK<|ax (aq<|ag inS (aa 1)<|aD (aF 6)<|aa 0) (aC 2 Ak (ag k_ (aD (aF 6)<|aa 0)<|aa 1) nilA)<|listF nilA) nilM
noncomputable def z_:Y V→Y af→R V:=aU<|aZ<|aS 2 0 2<|Zg
theorem Nw(G:Pg W f)(b:6≤n):FW W n (.ref<|f 48) z_:=(bf (n:=4) (i:=48) (vs:=Yy) G [⟨N,26,Ak,NI G<|L O⟩] ⟨[],[],[],[]⟩ (by kernel_rfl) O<|by kernel_rfl).fin.sel.mono b
noncomputable def Yx:Y<|an×aT:= [("data", .local),("name", .local),("word", .local),("starts", .local),("one", .local),("first", .local),("last", .local),("value", .local),("places", .local),("ranges", .local),("at", .local)]
noncomputable def Zf:aj→Y af→R Fl:=ai (aB 3<|dictM<|cQ (kI 0) (kM<|.bool Q) nilP)<|ai (fH N (bT<|ax (aq<|ag eqS (aa 1)<|kS [115,99,120]) (tupF<|ae (aa 1)<|ae (kS [115,99]) nilA)<|tupF<|ae (aa 1) nilA) (bv 4) (ai (fH Q (bT<|ao z_<|ae (aa 0)<|ae (aa 4) nilA) (kg [5,6,7]) (ai (gz (aa 3) (aa 5)<|kM<|.bool Q)<|ai (ax (aq<|ag ltS (aa 6)<|kI 1114111) (ai (gz (aa 3) (ag addS (aa 6)<|kI 1)<|kM<|.bool Q) nilM) nilM) nilM) 1000) nilM) 1000)<|ai (iK [8,9]<|ae (ag addS (ao ol<|ae (aa 3) nilA)<|listF<|ae (ag addS (kI 1114111)<|kI 1) nilA)<|ae (listM nilA) nilA)<|ai (fH N (gW iM<|ae (ag subS (ao ce<|ae (aa 8) nilA)<|kI 1) nilA) (bv 10) (ai (ax (aq<|ao Aa<|ae (aa 0)<|ae (aa 1)<|ae (ag aE (aa 8)<|aa 10)<|ae (aa 2) nilA) (ai (a7<|cU f_ fh (aa 9)<|ae (tupF<|ae (ag aE (aa 8)<|aa 10)<|ae (ag subS (ag aE (aa 8)<|ag addS (aa 10)<|kI 1)<|kI 1) nilA) nilA) nilM) nilM) nilM) 1000)<|ai (aK<|ao qJ<|ae (aa 9) nilA) nilM
noncomputable def z9:Y V→Y af→R V:=aU<|aZ<|aS 3 0 11<|Zf
theorem Nv(G:Pg W f)(b:12≤n):FW W n (.ref<|f 49) z9:=(bf (n:=10) (i:=49) (vs:=Yx) G [⟨N,11,qJ,DN G<|L O⟩,⟨N,47,Aa,Nx G<|L O⟩,⟨N,48,z_,Nw G<|L O⟩] ⟨[3,9],[],[],[]⟩ (by kernel_rfl) O<|by kernel_rfl).fin.sel.mono b
noncomputable def Yw:Y<|an×aT:= [("data", .local),("name", .local),("word", .local),("first", .local),("last", .local),("value", .local)]
noncomputable def Ze:aj→Y af→R Fl:=ai (ax (cy (aq<|ag isNotS (ao sZ<|ae (aa 0)<|ae (aa 1)<|ae (aa 2) nilA)<|kM .none)<|cy errM<|kT N) (ai (aK<|kM<|.bool Q) nilM) nilM) errM
noncomputable def wh:Y V→Y af→R V:=aU<|aZ<|aS 3 0 6<|Ze
theorem Nu(G:Pg W f)(b:8≤n):FW W n (.ref<|f 50) wh:=(bf (n:=6) (i:=50) (vs:=Yw) G [⟨N,40,sZ,DC G<|L O⟩] ⟨[],[],[304],[]⟩ (by kernel_rfl) O<|by kernel_rfl).fin.sel.mono b
noncomputable def Yv:Y<|an×aT:= [("data", .local),("word", .local),("value", .local),("name", .local)]
noncomputable def Zd:aj→Y af→R Fl:=ai (ax (aq<|ag isS (aa 2)<|kM .none) errM nilM)<|ai (aB 3<|ao Ac<|ae (aa 0)<|ae (aa 1) nilA)<|ai (ax (aq<|ag isS (aa 3)<|kM .none) (ai (aK<|kM .none) nilM) nilM)<|ai (ax (aq<|iU qq<|cU vx vW (aD (aF 5)<|aa 0)<|ae (aa 3) nilA) errM nilM)<|ai (ax (cy (aq<|ao wh<|ae (aa 0)<|ae (aa 3)<|ae (aa 2) nilA)<|cy (a_ (aq<|ag eqS (aa 3)<|kS [115,99,120])<|a_ (aq<|ao wh<|ae (aa 0)<|ae (kS [115,99])<|ae (aa 2) nilA)<|kT Q)<|kT N) (ai (aK<|ao z9<|ae (aa 0)<|ae (aa 3)<|ae (aa 2) nilA) nilM) nilM)<|ai (aK<|kM .none) nilM
noncomputable def z8:Y V→Y af→R V:=aU<|aZ<|aS 3 0 4<|Zd
theorem Nt(G:Pg W f)(b:14≤n):FW W n (.ref<|f 52) z8:=(bf (n:=12) (i:=52) (vs:=Yv) G [⟨N,39,Ac,Nz G<|L O⟩,⟨N,49,z9,Nv G<|L O⟩,⟨N,50,wh,Nu G<|L O⟩] ⟨[],[322,327],[],[]⟩ (by kernel_rfl) O<|by kernel_rfl).fin.sel.mono b
noncomputable def Yu:Y<|an×aT:= [("self", .local),("codes", .local),("strings", .local)]
noncomputable def Zc:aj→Y af→R Fl:=ai (dm 9 (aa 0)<|aa 1)<|ai (dm 10 (aa 0)<|aa 2) nilM
noncomputable def k4:Y V→Y af→R V:=aU<|aZ<|ko 4<|aS 3 0 3 Zc
theorem qf(G:Pg W f)(b:3≤n):FW W n (.ref<|W.tb.cls 4) k4:=(oY (n:=0) (i:=53) (vs:=Yu) G [] ⟨[],[],[],[]⟩ (by kernel_rfl) O<|by kernel_rfl).fin.sel.fw.mono b
noncomputable def Yt:Y<|an×aT:= [("strings", .local)]
noncomputable def Hx:aj→Y af→R Fl:=ai (aK<|aD sortU<|aa 0) nilM
noncomputable def wg:Y V→Y af→R V:=aU<|aZ<|aS 1 0 1<|Hx
theorem Nq(G:Pg W f)(b:2≤n):FW W n (.ref<|f 56) wg:=(bf (n:=0) (i:=56) (vs:=Yt) G [] ⟨[],[],[],[]⟩ (by kernel_rfl) O<|by kernel_rfl).fin.sel.mono b
noncomputable def Ys:Y<|an×aT:= [("one", .local),("other", .cell),("way", .local),("kept", .local)]
noncomputable def wx:aj→Y af→R Fl:=ai (ax (aq<|ag eqS (aa 2)<|kS [117,110,105,111,110]) (ai (aK<|ao k4<|ae (aC 1 nR (aD (aF 9)<|aa 0)<|ae (aD (aF 9)<|aa 1) nilA)<|ae (ao wg<|ae (ag addS (aD (aF 10)<|aa 0)<|aD (aF 10)<|aa 1) nilA) nilA) nilM) nilM)<|ai (ax (aq<|ag eqS (aa 2)<|kS [98,111,116,104]) (ai (aB 3<|bW ["string"] [("other",1)] N (bT<|aD (aF 10)<|aa 0) (bv 0) (aq<|ag inS (aa 0)<|aD (aF 10)<|aa 1) (aa 0) 1000)<|ai (aK<|ao k4<|ae (aC 1 s9 (aD (aF 9)<|aa 0)<|ae (aD (aF 9)<|aa 1) nilA)<|ae (aa 3) nilA) nilM) nilM)<|ai (aB 3<|bW ["string"] [("other",1)] N (bT<|aD (aF 10)<|aa 0) (bv 0) (aq<|ag notInS (aa 0)<|aD (aF 10)<|aa 1) (aa 0) 1000)<|ai (aK<|ao k4<|ae (aC 1 s8 (aD (aF 9)<|aa 0)<|ae (aD (aF 9)<|aa 1) nilA)<|ae (aa 3) nilA) nilM
noncomputable def oS:Y V→Y af→R V:=aU<|aZ<|aS 3 0 4<|wx
theorem DA(G:Pg W f)(b:8≤n):FW W n (.ref<|f 57) oS:=(bf (n:=6) (i:=57) (vs:=Ys) G [⟨N,15,nR,DK G<|L O⟩,⟨N,16,s9,NM G<|L O⟩,⟨N,17,s8,NL G<|L O⟩,⟨N,56,wg,Nq G<|L O⟩,⟨Q,4,k4,qf G<|L O⟩] ⟨[],[],[],[]⟩ (by kernel_rfl) O<|by kernel_rfl).fin.sel.mono b
end
section
noncomputable def Yr:Y<|an×aT:= [("self", .local),("octets", .local),("data", .local)]
noncomputable def Zb:aj→Y af→R Fl:=ai (dm 11 (aa 0)<|aa 1)<|ai (dm 12 (aa 0)<|aa 2)<|ai (dm 13 (aa 0)<|kI 0) nilM
noncomputable def k5:Y V→Y af→R V:=aU<|ko 5<|aS 3 0 3 Zb
theorem VY(G:Pg W f)(b:3≤n):FW W n (.ref<|W.tb.cls 5) k5:=(oY (n:=0) (i:=58) (vs:=Yr) G [] ⟨[],[],[],[]⟩ (by kernel_rfl) O<|by kernel_rfl).sel.fw.mono b
noncomputable def Yq:Y<|an×aT:= [("self", .local),("at", .local)]
noncomputable def Za:aj→Y af→R Fl:=ai (yx<|aa 1) nilM
noncomputable def cV:Y V→Y af→R V:=aU<|aZ<|aS 2 0 2<|Za
theorem iJ(G:Pg W f)(b:2≤n):FW W n (.ref<|f 59) cV:=(bf (n:=0) (i:=59) (vs:=Yq) G [] ⟨[],[],[],[]⟩ (by kernel_rfl) O<|by kernel_rfl).fin.sel.mono b
noncomputable def Yp:Y<|an×aT:= [("self", .local)]
noncomputable def Hw:aj→Y af→R Fl:=ai (dS (a_ (aq<|ag ltS (aD (aF 13)<|aa 0)<|ao ce<|ae (aD (aF 11)<|aa 0) nilA)<|a_ (aq<|ag inS (ag aE (aD (aF 11)<|aa 0)<|aD (aF 13)<|aa 0)<|kB [32,9,10,13])<|kT Q) (ai (oj 13 iS (aa 0)<|kI 1) nilM) 1000) nilM
noncomputable def dU:Y V→Y af→R V:=aU<|aZ<|aS 1 0 1<|Hw
theorem rP(G:Pg W f)(b:2≤n):FW W n (.ref<|f 60) dU:=(bf (n:=0) (i:=60) (vs:=Yp) G [] ⟨[],[],[],[]⟩ (by kernel_rfl) O<|by kernel_rfl).fin.sel.mono b
noncomputable def Yo:Y<|an×aT:= [("self", .local)]
noncomputable def ww:aj→Y af→R Fl:=ai (aK<|ax (aq<|ag ltS (aD (aF 13)<|aa 0)<|ao ce<|ae (aD (aF 11)<|aa 0) nilA) (ag aE (aD (aF 11)<|aa 0)<|aD (aF 13)<|aa 0)<|gJ<|kI 1) nilM
noncomputable def bt:Y V→Y af→R V:=aU<|aZ<|aS 1 0 1<|ww
theorem jn(G:Pg W f)(b:2≤n):FW W n (.ref<|f 61) bt:=(bf (n:=0) (i:=61) (vs:=Yo) G [] ⟨[],[],[],[]⟩ (by kernel_rfl) O<|by kernel_rfl).fin.sel.mono b
noncomputable def Yn:Y<|an×aT:= [("self", .local)]
noncomputable def Hv:aj→Y af→R Fl:=ai (ax (cy (aq<|ag geS (aD (aF 13)<|aa 0)<|ao ce<|ae (aD (aF 11)<|aa 0) nilA)<|cy (aq<|ag gtS (ag aE (aD (aF 11)<|aa 0)<|aD (aF 13)<|aa 0)<|kI 127)<|kT N) (ai (a7<|aC 5 cV (aa 0)<|ae (aD (aF 13)<|aa 0) nilA) nilM) nilM)<|ai (oj 13 iS (aa 0)<|kI 1)<|ai (aK<|ag aE (aD (aF 11)<|aa 0)<|ag subS (aD (aF 13)<|aa 0)<|kI 1) nilM
noncomputable def cu:Y V→Y af→R V:=aU<|aZ<|aS 1 0 1<|Hv
theorem kR(G:Pg W f)(b:4≤n):FW W n (.ref<|f 62) cu:=(bf (n:=2) (i:=62) (vs:=Yn) G [⟨N,59,cV,iJ G<|L O⟩] ⟨[],[],[],[]⟩ (by kernel_rfl) O<|by kernel_rfl).fin.sel.mono b
noncomputable def Ym:Y<|an×aT:= [("self", .local),("signs", .local)]
noncomputable def Hu:aj→Y af→R Fl:=ai (aK<|ag eqS (cR (aD (aF 11)<|aa 0) (ct<|aD (aF 13)<|aa 0)<|ct<|ag addS (aD (aF 13)<|aa 0)<|ao ce<|ae (aa 1) nilA)<|aa 1) nilM
noncomputable def iX:Y V→Y af→R V:=aU<|aZ<|aS 2 0 2<|Hu
theorem Dz(G:Pg W f)(b:2≤n):FW W n (.ref<|f 63) iX:=(bf (n:=0) (i:=63) (vs:=Ym) G [] ⟨[],[],[],[]⟩ (by kernel_rfl) O<|by kernel_rfl).fin.sel.mono b
noncomputable def Yl:Y<|an×aT:= [("self", .local),("sign", .local),("begun", .local),("found", .local),("here", .local)]
noncomputable def Ht:aj→Y af→R Fl:=ai (aB 2<|aD (aF 13)<|aa 0)<|ai (aB 3<|listM nilA)<|ai (aB 4<|aC 5 cu (aa 0) nilA)<|ai (dS (aq<|ag neS (aa 4)<|aa 1) (ai (a7<|cU f_ fh (aa 3)<|ae (ao e7<|ae (aa 4) nilA) nilA)<|ai (ax (aq<|ag eqS (aC 5 bt (aa 0) nilA)<|gJ<|kI 1) (ai (a7<|aC 5 cV (aa 0)<|ae (aa 2) nilA) nilM) nilM)<|ai (aB 4<|aC 5 cu (aa 0) nilA) nilM) 1000)<|ai (aK<|cU kZ lh (kS [])<|ae (aa 3) nilA) nilM
noncomputable def sY:Y V→Y af→R V:=aU<|aZ<|aS 2 0 5<|Ht
theorem Nn(G:Pg W f)(b:6≤n):FW W n (.ref<|f 64) sY:=(bf (n:=4) (i:=64) (vs:=Yl) G [⟨N,59,cV,iJ G<|L O⟩,⟨N,61,bt,jn G<|L O⟩,⟨N,62,cu,kR G<|L O⟩] ⟨[3],[],[],[]⟩ (by kernel_rfl) O<|by kernel_rfl).fin.sel.mono b
noncomputable def Yk:Y<|an×aT:= [("reader", .local),("least", .local),("most", .local),("number", .local),("many", .local)]
noncomputable def Hr:aj→Y af→R Fl:=ai (kh [3,4]<|ae (kI 0)<|ae (kI 0) nilA)<|ai (dS (a_ (aq<|ag ltS (aa 4)<|aa 2)<|a_ (aq<|ag neS (aC 5 bt (aa 0) nilA)<|gJ<|kI 1)<|a_ (aq<|ag isNotS (ao w3<|ae (aC 5 bt (aa 0) nilA) nilA)<|kM .none)<|kT Q) (ai (aB 3<|ag addS (ag mulS (aa 3)<|kI 16)<|ao w3<|ae (aC 5 cu (aa 0) nilA) nilA)<|ai (aB 4<|ag iS (aa 4)<|kI 1) nilM) 1000)<|ai (ax (aq<|ag ltS (aa 4)<|aa 1) (ai (a7<|aC 5 cV (aa 0)<|ae (aD (aF 13)<|aa 0) nilA) nilM) nilM)<|ai (aK<|aa 3) nilM
noncomputable def jE:Y V→Y af→R V:=aU<|aZ<|aS 3 0 5<|Hr
theorem Dy(G:Pg W f)(b:6≤n):FW W n (.ref<|f 65) jE:=(bf (n:=4) (i:=65) (vs:=Yk) G [⟨N,3,w3,Vv G<|L O⟩,⟨N,59,cV,iJ G<|L O⟩,⟨N,61,bt,jn G<|L O⟩,⟨N,62,cu,kR G<|L O⟩] ⟨[],[],[],[]⟩ (by kernel_rfl) O<|by kernel_rfl).fin.sel.mono b
noncomputable def Yj:Y<|an×aT:= [("reader", .local),("number", .local)]
noncomputable def Hq:aj→Y af→R Fl:=ai (a7<|aC 5 cu (aa 0) nilA)<|ai (aB 1<|ao jE<|ae (aa 0)<|ae (kI 1)<|ae (kI 6) nilA)<|ai (ax (aq<|ag neS (aC 5 bt (aa 0) nilA)<|kI 125) (ai (a7<|aC 5 cV (aa 0)<|ae (aD (aF 13)<|aa 0) nilA) nilM) nilM)<|ai (a7<|aC 5 cu (aa 0) nilA)<|ai (aK<|aa 1) nilM
noncomputable def qG:Y V→Y af→R V:=aU<|aZ<|aS 1 0 2<|Hq
theorem Nl(G:Pg W f)(b:8≤n):FW W n (.ref<|f 67) qG:=(bf (n:=6) (i:=67) (vs:=Yj) G [⟨N,59,cV,iJ G<|L O⟩,⟨N,61,bt,jn G<|L O⟩,⟨N,62,cu,kR G<|L O⟩,⟨N,65,jE,Dy G<|L O⟩] ⟨[],[],[],[]⟩ (by kernel_rfl) O<|by kernel_rfl).fin.sel.mono b
noncomputable def Yi:Y<|an×aT:= [("reader", .local),("begun", .local),("sign", .local),("controls", .local),("code", .local)]
noncomputable def Ax:aj→Y af→R Fl:=ai (aB 1<|aD (aF 13)<|aa 0)<|ai (a7<|aC 5 cu (aa 0) nilA)<|ai (aB 2<|aC 5 cu (aa 0) nilA)<|ai (aB 3<|dictF<|cQ (kI 97) (kI 7)<|cQ (kI 98) (kI 8)<|cQ (kI 116) (kI 9)<|cQ (kI 110) (kI 10)<|cQ (kI 118) (kI 11)<|cQ (kI 102) (kI 12)<|cQ (kI 114) (kI 13) nilP)<|ai (ax (aq<|ag inS (aa 2)<|aa 3) errM nilM)<|ai (aB 4<|aa 2)<|ai (ax (aq<|ag eqS (ao e7<|ae (aa 2) nilA)<|kS [120]) (ai (aB 4<|ax (aq<|ag eqS (aC 5 bt (aa 0) nilA)<|kI 123) (ao qG<|ae (aa 0) nilA)<|ao jE<|ae (aa 0)<|ae (kI 2)<|ae (kI 2) nilA) nilM)<|ai (ax (aq<|ag eqS (ao e7<|ae (aa 2) nilA)<|kS [117]) (ai (aB 4<|ao jE<|ae (aa 0)<|ae (kI 4)<|ae (kI 4) nilA) nilM)<|ai (ax (aq<|ag eqS (ao e7<|ae (aa 2) nilA)<|kS [85]) (ai (aB 4<|ao jE<|ae (aa 0)<|ae (kI 8)<|ae (kI 8) nilA) nilM)<|ai (ax (aq<|ag eqS (ao e7<|ae (aa 2) nilA)<|kS [78]) errM<|ai (ax (aq<|ag inS (ao e7<|ae (aa 2) nilA)<|kS [112,80]) (ai (a7<|aC 5 cV (aa 0)<|ae (aa 1) nilA) nilM) nilM) nilM) nilM) nilM) nilM)<|ai (ax (aq<|ag gtS (aa 4)<|kI 1114111) (ai (a7<|aC 5 cV (aa 0)<|ae (aa 1) nilA) nilM) nilM)<|ai (aK<|aa 4) nilM
noncomputable def qF:Y V→Y af→R V:=aU<|aZ<|aS 1 0 5<|Ax
theorem Nk(G:Pg W f)(b:10≤n):FW W n (.ref<|f 68) qF:=(bf (n:=8) (i:=68) (vs:=Yi) G [⟨N,59,cV,iJ G<|L O⟩,⟨N,61,bt,jn G<|L O⟩,⟨N,62,cu,kR G<|L O⟩,⟨N,65,jE,Dy G<|L O⟩,⟨N,67,qG,Nl G<|L O⟩] ⟨[],[432,441],[],["controls"]⟩ (by kernel_rfl) O<|by kernel_rfl).fin.sel.mono b
noncomputable def Yh:Y<|an×aT:= [("reader", .local),("begun", .local),("code", .local)]
noncomputable def Aw:aj→Y af→R Fl:=ai (ax (aq<|ag eqS (aC 5 bt (aa 0) nilA)<|kI 92) (ai (aK<|ao qF<|ae (aa 0) nilA) nilM) nilM)<|ai (aB 1<|aD (aF 13)<|aa 0)<|ai (aB 2<|aC 5 cu (aa 0) nilA)<|ai (ax (aq<|ag inS (aa 2)<|kB [91,93,123,125,38,45,92,94]) (ai (a7<|aC 5 cV (aa 0)<|ae (aa 1) nilA) nilM) nilM)<|ai (aK<|aa 2) nilM
noncomputable def lB:Y V→Y af→R V:=aU<|aZ<|aS 1 0 3<|Aw
theorem Dx(G:Pg W f)(b:12≤n):FW W n (.ref<|f 69) lB:=(bf (n:=10) (i:=69) (vs:=Yh) G [⟨N,59,cV,iJ G<|L O⟩,⟨N,61,bt,jn G<|L O⟩,⟨N,62,cu,kR G<|L O⟩,⟨N,68,qF,Nk G<|L O⟩] ⟨[],[],[],[]⟩ (by kernel_rfl) O<|by kernel_rfl).fin.sel.mono b
noncomputable def Yg:Y<|an×aT:= [("reader", .local)]
noncomputable def Hp:aj→Y af→R Fl:=ai (aK<|mA (aC 5 iX (aa 0)<|ae (kB [91,58]) nilA)<|mA (aC 5 iX (aa 0)<|ae (kB [92,112]) nilA)<|aC 5 iX (aa 0)<|ae (kB [92,80]) nilA) nilM
noncomputable def oR:Y V→Y af→R V:=aU<|aZ<|aS 1 0 1<|Hp
theorem Dw(G:Pg W f)(b:4≤n):FW W n (.ref<|f 70) oR:=(bf (n:=2) (i:=70) (vs:=Yg) G [⟨N,63,iX,Dz G<|L O⟩] ⟨[],[],[],[]⟩ (by kernel_rfl) O<|by kernel_rfl).fin.sel.mono b
noncomputable def Yf:Y<|an×aT:= [("reader", .local),("words", .local),("is_other", .local),("begun", .local),("name", .local),("sign", .local),("value", .local),("found", .local)]
noncomputable def Y_:aj→Y af→R Fl:=ai (ax (aq<|ag eqS (cR (aa 1) partN<|ct<|kI 1)<|kS [94]) (ai (iK [1,2]<|ae (cR (aa 1) (ct<|kI 1) partN)<|ae (nG<|aa 2) nilA) nilM) nilM)<|ai (kO [4,5,6]<|cU kZ Bg (aa 1)<|ae (kS [61]) nilA)<|ai (ax (aq<|ag eqS (aa 5)<|kS []) errM nilM)<|ai (aB 7<|ao z8<|ae (aD (aF 12)<|aa 0)<|ae (cU kZ yw (aa 4)<|ae (kS [32]) nilA)<|ae (ax (aq<|ag neS (aa 5)<|kS []) (cU kZ yw (aa 6)<|ae (kS [32]) nilA)<|kM .none) nilA)<|ai (ax (aq<|ag isS (aa 7)<|kM .none) (ai (a7<|aC 5 cV (aa 0)<|ae (aa 3) nilA) nilM) nilM)<|ai (aK<|ax (aq<|aa 2) (aC 1 mz (aa 7) nilA)<|aa 7) nilM
noncomputable def oQ:Y V→Y af→R V:=aU<|aZ<|aS 4 0 8<|Y_
theorem Nj(G:Pg W f)(b:16≤n):FW W n (.ref<|f 71) oQ:=(bf (n:=14) (i:=71) (vs:=Yf) G [⟨N,18,mz,yt G<|L O⟩,⟨N,52,z8,Nt G<|L O⟩,⟨N,59,cV,iJ G<|L O⟩] ⟨[],[462],[],[]⟩ (by kernel_rfl) O<|by kernel_rfl).fin.sel.mono b
noncomputable def Ye:Y<|an×aT:= [("reader", .local),("begun", .local),("end", .local),("words", .local),("is_other", .local)]
noncomputable def Av:aj→Y af→R Fl:=ai (aB 1<|aD (aF 13)<|aa 0)<|ai (ax (aq<|aC 5 iX (aa 0)<|ae (kB [91,58]) nilA) (ai (aB 2<|cU yH zw (aD (aF 11)<|aa 0)<|ae (kB [58,93])<|ae (ag addS (aa 1)<|kI 2) nilA)<|ai (ax (aq<|ag ltS (aa 2)<|kI 0) (ai (a7<|aC 5 cV (aa 0)<|ae (aa 1) nilA) nilM) nilM)<|ai (aB 3<|cU kZ lh (kS [])<|ae (bW ["octet"] [] N (bT<|cR (aD (aF 11)<|aa 0) (ct<|ag addS (aa 1)<|kI 2)<|ct<|aa 2) (bv 0) trueT (ao e7<|ae (aa 0) nilA) 1000) nilA)<|ai (dm 13 (aa 0)<|ag addS (aa 2)<|kI 2)<|ai (aK<|ao oQ<|ae (aa 0)<|ae (aa 3)<|ae (kM<|.bool N)<|ae (aa 1) nilA) nilM) nilM)<|ai (a7<|aC 5 cu (aa 0) nilA)<|ai (aB 4<|ag eqS (aC 5 cu (aa 0) nilA)<|kI 80)<|ai (ax (aq<|ag neS (aC 5 bt (aa 0) nilA)<|kI 123) (ai (a7<|aC 5 cV (aa 0)<|ae (aa 1) nilA) nilM) nilM)<|ai (a7<|aC 5 cu (aa 0) nilA)<|ai (aK<|ao oQ<|ae (aa 0)<|ae (aC 5 sY (aa 0)<|ae (kI 125) nilA)<|ae (aa 4)<|ae (aa 1) nilA) nilM
noncomputable def qE:Y V→Y af→R V:=aU<|aZ<|aS 1 0 5<|Av
theorem Nh(G:Pg W f)(b:18≤n):FW W n (.ref<|f 72) qE:=(bf (n:=16) (i:=72) (vs:=Ye) G [⟨N,59,cV,iJ G<|L O⟩,⟨N,61,bt,jn G<|L O⟩,⟨N,62,cu,kR G<|L O⟩,⟨N,63,iX,Dz G<|L O⟩,⟨N,64,sY,Nn G<|L O⟩,⟨N,71,oQ,Nj G<|L O⟩] ⟨[],[],[],[]⟩ (by kernel_rfl) O<|by kernel_rfl).fin.sel.mono b
end
section
noncomputable def Yd:Y<|an×aT:= [("self", .local)]
noncomputable def Y9:aj→Y af→R Fl:=ai (dm 14 (aa 0)<|listM nilA)<|ai (dm 15 (aa 0)<|ao k4<|ae (ao qP nilA)<|ae (listF nilA) nilA)<|ai (dm 16 (aa 0)<|kM<|.bool N) nilM
noncomputable def k6:Y V→Y af→R V:=aU<|ko 6<|aS 1 0 1 Y9
theorem VW(G:Pg W f)(b:6≤n):FW W n (.ref<|W.tb.cls 6) k6:=(oY (n:=3) (i:=73) (vs:=Yd) G [⟨Q,1,qP,D9 G<|L O⟩,⟨Q,4,k4,qf G<|L O⟩] ⟨[],[],[],[]⟩ (by kernel_rfl) O<|by kernel_rfl).sel.fw.mono b
noncomputable def Yc:Y<|an×aT:= [("self", .local),("first", .local),("last", .local)]
noncomputable def Au:aj→Y af→R Fl:=ai (a7<|cU f_ fh (aD (aF 14)<|aa 0)<|ae (tupF<|ae (aa 1)<|ae (aa 2) nilA) nilA)<|ai (dm 16 (aa 0)<|kM<|.bool N) nilM
noncomputable def my:Y V→Y af→R V:=aU<|aZ<|aS 3 0 3<|Au
theorem Dt(G:Pg W f)(b:2≤n):FW W n (.ref<|f 74) my:=(bf (n:=0) (i:=74) (vs:=Yc) G [] ⟨[],[],[],[]⟩ (by kernel_rfl) O<|by kernel_rfl).fin.sel.mono b
noncomputable def Yb:Y<|an×aT:= [("self", .local),("codes", .local)]
noncomputable def oW:aj→Y af→R Fl:=ai (ax (aq<|ag eqS (ao ce<|ae (aa 1) nilA)<|kI 1) (ai (a7<|cU f_ fh (aD (aF 14)<|aa 0)<|ae (tupF<|ae (ag aE (aa 1)<|kI 0)<|ae (ag aE (aa 1)<|kI 0) nilA) nilA) nilM)<|ai (dm 15 (aa 0)<|ao oS<|ae (aD (aF 15)<|aa 0)<|ae (ao k4<|ae (ao qP nilA)<|ae (listF<|ae (ao oB<|ae (aa 1) nilA) nilA) nilA)<|ae (kS [117,110,105,111,110]) nilA) nilM)<|ai (dm 16 (aa 0)<|kM<|.bool N) nilM
noncomputable def oP:Y V→Y af→R V:=aU<|aZ<|aS 2 0 2<|oW
theorem Nd(G:Pg W f)(b:10≤n):FW W n (.ref<|f 75) oP:=(bf (n:=8) (i:=75) (vs:=Yb) G [⟨N,57,oS,DA G<|L O⟩,⟨Q,1,qP,D9 G<|L O⟩,⟨Q,4,k4,qf G<|L O⟩] ⟨[],[],[],[]⟩ (by kernel_rfl) O<|by kernel_rfl).fin.sel.mono b
noncomputable def X_:Y<|an×aT:= [("self", .local)]
noncomputable def wu:aj→Y af→R Fl:=ai (ax (aq<|ag eqS (aD (aF 14)<|aa 0)<|listF nilA) (ai (aK<|aD (aF 15)<|aa 0) nilM) nilM)<|ai (aK<|ao k4<|ae (aC 1 nR (aD (aF 9)<|aD (aF 15)<|aa 0)<|ae (ao qJ<|ae (aD (aF 14)<|aa 0) nilA) nilA)<|ae (aD (aF 10)<|aD (aF 15)<|aa 0) nilA) nilM
noncomputable def nQ:Y V→Y af→R V:=aU<|aZ<|aS 1 0 1<|wu
theorem Dq(G:Pg W f)(b:8≤n):FW W n (.ref<|f 77) nQ:=(bf (n:=6) (i:=77) (vs:=X_) G [⟨N,11,qJ,DN G<|L O⟩,⟨N,15,nR,DK G<|L O⟩,⟨Q,4,k4,qf G<|L O⟩] ⟨[],[],[],[]⟩ (by kernel_rfl) O<|by kernel_rfl).fin.sel.mono b
noncomputable def Ya:Y<|an×aT:= [("self", .local),("other", .local),("way", .local)]
noncomputable def wv:aj→Y af→R Fl:=ai (dm 15 (aa 0)<|ao oS<|ae (aC 6 nQ (aa 0) nilA)<|ae (aa 1)<|ae (aa 2) nilA)<|ai (dm 14 (aa 0)<|listM nilA)<|ai (dm 16 (aa 0)<|kM<|.bool Q) nilM
noncomputable def jD:Y V→Y af→R V:=aU<|aS 3 0 3<|wv
theorem Dr(G:Pg W f)(b:10≤n):FW W n (.ref<|f 76) jD:=(bf (n:=8) (i:=76) (vs:=Ya) G [⟨N,57,oS,DA G<|L O⟩,⟨N,77,nQ,Dq G<|L O⟩] ⟨[],[],[],[]⟩ (by kernel_rfl) O<|by kernel_rfl).sel.mono b
noncomputable def X9:Y<|an×aT:= [("reader", .local)]
noncomputable def Ho:aj→Y af→R Fl:=ai (aK<|mA (ag eqS (aC 5 bt (aa 0) nilA)<|kI 91)<|ao oR<|ae (aa 0) nilA) nilM
noncomputable def mx:Y V→Y af→R V:=aU<|aZ<|aS 1 0 1<|Ho
theorem Dp(G:Pg W f)(b:6≤n):FW W n (.ref<|f 78) mx:=(bf (n:=4) (i:=78) (vs:=X9) G [⟨N,61,bt,jn G<|L O⟩,⟨N,70,oR,Dw G<|L O⟩] ⟨[],[],[],[]⟩ (by kernel_rfl) O<|by kernel_rfl).fin.sel.mono b
noncomputable def X7:Y<|an×aT:= [("reader", .local),("found", .local)]
noncomputable def Hn:aj→Y af→R Fl:=ai (a7<|aC 5 cu (aa 0) nilA)<|ai (aB 1<|listM nilA)<|ai (a7<|aC 5 dU (aa 0) nilA)<|ai (dS (aq<|ag neS (aC 5 bt (aa 0) nilA)<|kI 125) (ai (a7<|cU f_ fh (aa 1)<|ae (ao lB<|ae (aa 0) nilA) nilA)<|ai (a7<|aC 5 dU (aa 0) nilA) nilM) 1000)<|ai (a7<|aC 5 cu (aa 0) nilA)<|ai (aK<|aa 1) nilM
noncomputable def qD:Y V→Y af→R V:=aU<|aZ<|aS 1 0 2<|Hn
theorem M8(G:Pg W f)(b:14≤n):FW W n (.ref<|f 80) qD:=(bf (n:=12) (i:=80) (vs:=X7) G [⟨N,60,dU,rP G<|L O⟩,⟨N,61,bt,jn G<|L O⟩,⟨N,62,cu,kR G<|L O⟩,⟨N,69,lB,Dx G<|L O⟩] ⟨[1],[],[],[]⟩ (by kernel_rfl) O<|by kernel_rfl).fin.sel.mono b
noncomputable def X6:Y<|an×aT:= [("reader", .local),("so_far", .local),("begun", .local),("first", .local),("last", .local),("minus", .local)]
noncomputable def td:aj→Y af→R Fl:=ai (aB 2<|aD (aF 13)<|aa 0)<|ai (aB 3<|ao lB<|ae (aa 0) nilA)<|ai (a7<|aC 5 dU (aa 0) nilA)<|ai (aB 4<|aa 3)<|ai (ax (aq<|ag eqS (aC 5 bt (aa 0) nilA)<|kI 45) (ai (aB 5<|aD (aF 13)<|aa 0)<|ai (a7<|aC 5 cu (aa 0) nilA)<|ai (a7<|aC 5 dU (aa 0) nilA)<|ai (ax (aq<|ag eqS (aC 5 bt (aa 0) nilA)<|kI 93) (ai (dm 13 (aa 0)<|aa 5) nilM)<|ai (aB 4<|ao lB<|ae (aa 0) nilA) nilM) nilM) nilM)<|ai (ax (aq<|ag ltS (aa 4)<|aa 3) (ai (a7<|aC 5 cV (aa 0)<|ae (aa 2) nilA) nilM) nilM)<|ai (a7<|aC 6 my (aa 1)<|ae (aa 3)<|ae (aa 4) nilA) nilM
noncomputable def nP:Y V→Y af→R V:=aU<|aZ<|aS 2 0 6<|td
theorem M7(G:Pg W f)(b:14≤n):FW W n (.ref<|f 81) nP:=(bf (n:=12) (i:=81) (vs:=X6) G [⟨N,59,cV,iJ G<|L O⟩,⟨N,60,dU,rP G<|L O⟩,⟨N,61,bt,jn G<|L O⟩,⟨N,62,cu,kR G<|L O⟩,⟨N,69,lB,Dx G<|L O⟩,⟨N,74,my,Dt G<|L O⟩] ⟨[],[],[],[]⟩ (by kernel_rfl) O<|by kernel_rfl).fin.sel.mono b
noncomputable def X2:Y<|an×aT:= [("code", .local),("controls", .local),("digits", .local)]
noncomputable def Y8:aj→Y af→R Fl:=ai (ax (lX (kI 32) (aa 0) (kI 127) ltS ltS) (ai (aK<|ax (aq<|ag inS (aa 0)<|kB [91,93,123,125,38,45,92,94]) (ao ot<|ae (listF<|ae (kI 92)<|ae (aa 0) nilA) nilA)<|ao ot<|ae (listF<|ae (aa 0) nilA) nilA) nilM) nilM)<|ai (aB 1<|dictF<|cQ (kI 7) (kB [97])<|cQ (kI 8) (kB [98])<|cQ (kI 9) (kB [116])<|cQ (kI 10) (kB [110])<|cQ (kI 11) (kB [118])<|cQ (kI 12) (kB [102])<|cQ (kI 13) (kB [114]) nilP)<|ai (ax (cy (aq<|ag eqS (aa 0)<|kI 32)<|cy (aq<|ag inS (aa 0)<|aa 1)<|kT N) errM nilM)<|ai (aB 2<|ao w2<|ae (aa 0) nilA)<|ai (ax (aq<|ag ltS (aa 0)<|kI 256) (ai (aK<|ag addS (kB [92,120])<|cR (aa 2) (ct<|kI 2) partN) nilM) nilM)<|ai (ax (aq<|ag eqS (ao ce<|ae (aa 2) nilA)<|kI 4) (ai (aK<|ag addS (kB [92,117])<|aa 2) nilM) nilM)<|ai (aK<|ag addS (ag addS (kB [92,120,123])<|aa 2)<|kB [125]) nilM
noncomputable def qC:Y V→Y af→R V:=aU<|aZ<|aS 1 0 3<|Y8
theorem M3(G:Pg W f)(b:4≤n):FW W n (.ref<|f 85) qC:=(bf (n:=2) (i:=85) (vs:=X2) G [⟨N,2,w2,Vx G<|L O⟩] ⟨[],[591],[],["controls"]⟩ (by kernel_rfl) O<|by kernel_rfl).fin.sel.mono b
noncomputable def X1:Y<|an×aT:= [("first", .local),("last", .local)]
noncomputable def Hl:aj→Y af→R Fl:=ai (ax (aq<|ag eqS (aa 0)<|aa 1) (ai (aK<|ao qC<|ae (aa 0) nilA) nilM) nilM)<|ai (aK<|ag addS (ag addS (ao qC<|ae (aa 0) nilA)<|ax (aq<|ag eqS (aa 1)<|ag addS (aa 0)<|kI 1) (kB [])<|kB [45])<|ao qC<|ae (aa 1) nilA) nilM
noncomputable def qB:Y V→Y af→R V:=aU<|aZ<|aS 2 0 2<|Hl
theorem M1(G:Pg W f)(b:6≤n):FW W n (.ref<|f 86) qB:=(bf (n:=4) (i:=86) (vs:=X1) G [⟨N,85,qC,M3 G<|L O⟩] ⟨[],[],[],[]⟩ (by kernel_rfl) O<|by kernel_rfl).fin.sel.mono b
noncomputable def X0:Y<|an×aT:= [("ranges", .local),("is_other", .local),("body", .local)]
noncomputable def Hk:aj→Y af→R Fl:=ai (aB 2<|cU yH yE (kB [])<|ae (bW ["first","last"] [] Q (bT<|aa 0) (kg [0,1]) trueT (ao qB<|ae (aa 0)<|ae (aa 1) nilA) 1000) nilA)<|ai (ax (a_ (aq<|ag eqS (cR (aa 2) partN<|ct<|kI 1)<|kB [58])<|a_ (sG<|aq<|aa 1)<|kT Q) (ai (aB 2<|ag addS (kB [92])<|aa 2) nilM) nilM)<|ai (aK<|ag addS (ag addS (ax (aq<|aa 1) (kB [91,94])<|kB [91])<|aa 2)<|kB [93]) nilM
noncomputable def sX:Y V→Y af→R V:=aU<|aZ<|aS 2 0 3<|Hk
theorem M0(G:Pg W f)(b:8≤n):FW W n (.ref<|f 87) sX:=(bf (n:=6) (i:=87) (vs:=X0) G [⟨N,86,qB,M1 G<|L O⟩] ⟨[],[],[],[]⟩ (by kernel_rfl) O<|by kernel_rfl).fin.sel.mono b
noncomputable def XZ:Y<|an×aT:= [("code_set", .local),("straight", .local),("other", .local)]
noncomputable def Hj:aj→Y af→R Fl:=ai (aB 1<|ao sX<|ae (aC 1 jF (aa 0) nilA)<|ae (kM<|.bool N) nilA)<|ai (aB 2<|ao sX<|ae (aC 1 jF (aC 1 mz (aa 0) nilA) nilA)<|ae (kM<|.bool Q) nilA)<|ai (aK<|ax (aq<|ag leS (ao ce<|ae (aa 1) nilA)<|ao ce<|ae (aa 2) nilA) (aa 1)<|aa 2) nilM
noncomputable def qA:Y V→Y af→R V:=aU<|aZ<|aS 1 0 3<|Hj
theorem MY(G:Pg W f)(b:10≤n):FW W n (.ref<|f 88) qA:=(bf (n:=8) (i:=88) (vs:=XZ) G [⟨N,13,jF,DL G<|L O⟩,⟨N,18,mz,yt G<|L O⟩,⟨N,87,sX,M0 G<|L O⟩] ⟨[],[],[],[]⟩ (by kernel_rfl) O<|by kernel_rfl).fin.sel.mono b
noncomputable def XY:Y<|an×aT:= []
noncomputable def Y7:aj→Y af→R Fl:=ai (aK<|listF<|ae (kB [91,97])<|ae (kB [97])<|ae (kB [91,98,45,97,93])<|ae (kB [91,97,93,98])<|ae (kB [91,97,38,98,93])<|ae (kB [91,92,120,54,93])<|ae (kB [91,92,112,123,122,122,61,76,108,125,93])<|ae (kB [91,97,38,93])<|ae (kB [])<|ae (kB [91,123,97,98,93])<|ae (kB [91,92,117,49,50,93])<|ae (kB [91,92,112,123,103,99,61,76,108,125,45,97,93]) nilA) nilM
noncomputable def sW:Y V→Y af→R V:=aU<|aZ<|aS 0 0 0<|Y7
theorem MX(G:Pg W f)(b:2≤n):FW W n (.ref<|f 89) sW:=(bf (n:=0) (i:=89) (vs:=XY) G [] ⟨[],[],[],[]⟩ (by kernel_rfl) O<|by kernel_rfl).fin.sel.mono b
noncomputable def XX:Y<|an×aT:= [("script", .local)]
noncomputable def Hi:aj→Y af→R Fl:=ai (aK<|dictM<|cQ (kS [99,101,108,108,115]) (bW ["cell"] [] N (bT<|cR (aa 0) partN<|ct<|kI 40) (bv 0) trueT (ag modS (ao sI<|ae (aa 0) nilA)<|kI 1000000007) 1000)<|cQ (kS [97,116]) (kI 0) nilP) nilM
noncomputable def sV:Y V→Y af→R V:=aU<|aS 1 0 1<|Hi
theorem MV(G:Pg W f)(b:2≤n):FW W n (.ref<|f 90) sV:=(bf (n:=0) (i:=90) (vs:=XX) G [] ⟨[1000],[],[],[]⟩ (by kernel_rfl) O<|by kernel_rfl).sel.mono b
end
section
noncomputable def XW:Y<|an×aT:= [("deck", .local),("below", .local),("at", .local),("cells", .local)]
noncomputable def As:aj→Y af→R Fl:=ai (iK [2,3]<|ae (ag k_ (aa 0)<|kS [97,116])<|ae (ag k_ (aa 0)<|kS [99,101,108,108,115]) nilA)<|ai (gz (aa 0) (kS [97,116])<|ag addS (aa 2)<|kI 1)<|ai (ax (aq<|ag ltS (aa 2)<|ao ce<|ae (aa 3) nilA) (ai (aK<|ag modS (ag aE (aa 3)<|aa 2)<|aa 1) nilM) nilM)<|ai (ax (aq<|ag eqS (aa 3)<|listF nilA) (ai (aK<|ag modS (ag addS (ag mulS (aa 2)<|kI 7)<|ag fdivS (aa 2)<|kI 3)<|aa 1) nilM) nilM)<|ai (aK<|ag modS (ag addS (ag fdivS (ag aE (aa 3)<|ag modS (aa 2)<|ao ce<|ae (aa 3) nilA)<|ag addS (aa 2)<|kI 1)<|ag mulS (aa 2)<|kI 5)<|aa 1) nilM
noncomputable def b9:Y V→Y af→R V:=aU<|aZ<|aS 2 0 4<|As
theorem rN(G:Pg W f)(b:2≤n):FW W n (.ref<|f 91) b9:=(bf (n:=0) (i:=91) (vs:=XW) G [] ⟨[0],[],[],["deck"]⟩ (by kernel_rfl) O<|by kernel_rfl).fin.sel.mono b
noncomputable def XV:Y<|an×aT:= [("deck", .local),("code", .local)]
noncomputable def Hh:aj→Y af→R Fl:=ai (aK<|ag aE (listF<|ae (ao e7<|ae (aa 1) nilA)<|ae (ag addS (kS [92,120])<|cR (ao nJ<|ae (aa 1) nilA) (ct<|kI 2) partN)<|ae (ag addS (kS [92,117,48,48])<|cR (ao nJ<|ae (aa 1) nilA) (ct<|kI 2) partN)<|ae (ag addS (ag addS (kS [92,120,123])<|cR (ao nJ<|ae (aa 1) nilA) (ct<|kI 2) partN)<|kS [125])<|ae (ao e7<|ae (aa 1) nilA) nilA)<|ao b9<|ae (aa 0)<|ae (kI 5) nilA) nilM
noncomputable def kx:Y V→Y af→R V:=aU<|aZ<|aS 2 0 2<|Hh
theorem MU(G:Pg W f)(b:4≤n):FW W n (.ref<|f 92) kx:=(bf (n:=2) (i:=92) (vs:=XV) G [⟨N,91,b9,rN G<|L O⟩] ⟨[],[],[],["deck"]⟩ (by kernel_rfl) O<|by kernel_rfl).fin.sel.mono b
noncomputable def XU:Y<|an×aT:= [("way", .local),("near", .local),("far", .local)]
noncomputable def Y6:aj→Y af→R Fl:=ai (aK<|ax (aq<|ag eqS (aa 0)<|kS [124]) (mA (aa 1)<|aa 2)<|kr (aa 1)<|ax (aq<|ag eqS (aa 0)<|kS [38]) (aa 2)<|nG<|aa 2) nilM
noncomputable def nO:Y V→Y af→R V:=aU<|aZ<|aS 3 0 3<|Y6
theorem MT(G:Pg W f)(b:2≤n):FW W n (.ref<|f 93) nO:=(bf (n:=0) (i:=93) (vs:=XU) G [] ⟨[],[],[],[]⟩ (by kernel_rfl) O<|by kernel_rfl).fin.sel.mono b
noncomputable def XT:Y<|an×aT:= [("way", .cell),("one", .cell),("other", .cell),("codes", .local),("some", .local)]
noncomputable def Hg:aj→Y af→R Fl:=ai (aB 3<|bW ["code"] [("one",1),("other",2),("way",0)] N (bT<|kM eA) (bv 0) (aq<|ao nO<|ae (aa 3)<|ae (ag inS (aa 0)<|ag aE (aa 1)<|kI 0)<|ae (ag inS (aa 0)<|ag aE (aa 2)<|kI 0) nilA) (aa 0) 1000)<|ai (aB 4<|ag addS (ag aE (aa 1)<|kI 2)<|bW ["row"] [("one",1)] N (bT<|ag aE (aa 2)<|kI 2) (bv 0) (aq<|ag notInS (aa 0)<|ag aE (aa 1)<|kI 2) (aa 0) 1000)<|ai (aK<|tupF<|ae (aa 3)<|ae (ao nO<|ae (aa 0)<|ae (ag aE (aa 1)<|kI 1)<|ae (ag aE (aa 2)<|kI 1) nilA)<|ae (bW ["row"] [("one",1),("other",2),("way",0)] N (bT<|aa 4) (bv 0) (aq<|ao nO<|ae (aa 3)<|ae (ag inS (aa 0)<|ag aE (aa 1)<|kI 2)<|ae (ag inS (aa 0)<|ag aE (aa 2)<|kI 2) nilA) (aa 0) 1000) nilA) nilM
noncomputable def qz:Y V→Y af→R V:=aU<|aZ<|aS 3 0 5<|Hg
theorem MP(G:Pg W f)(b:4≤n):FW W n (.ref<|f 94) qz:=(bf (n:=2) (i:=94) (vs:=XT) G [⟨N,93,nO,MT G<|L O⟩] ⟨[],[],[],[]⟩ (by kernel_rfl) O<|by kernel_rfl).fin.sel.mono b
noncomputable def XS:Y<|an×aT:= [("one", .cell)]
noncomputable def Hf:aj→Y af→R Fl:=ai (aK<|ax (aq<|ag neS (ag aE (aa 0)<|kI 2)<|listF nilA) (kM .none)<|tupF<|ae (bW ["code"] [("one",0)] N (bT<|kM eA) (bv 0) (aq<|ag notInS (aa 0)<|ag aE (aa 1)<|kI 0) (aa 0) 1000)<|ae (nG<|ag aE (aa 0)<|kI 1)<|ae (listF nilA) nilA) nilM
noncomputable def lA:Y V→Y af→R V:=aU<|aZ<|aS 1 0 1<|Hf
theorem Dl(G:Pg W f)(b:2≤n):FW W n (.ref<|f 95) lA:=(bf (n:=0) (i:=95) (vs:=XS) G [] ⟨[],[],[],[]⟩ (by kernel_rfl) O<|by kernel_rfl).fin.sel.mono b
noncomputable def XR:Y<|an×aT:= [("deck", .local),("word", .local),("way", .local),("some", .local),("text", .local)]
noncomputable def He:aj→Y af→R Fl:=ai (iK [1,2]<|ae (ag aE (listF<|ae (kS [76,108])<|ae (kS [76,117]) nilA)<|ao b9<|ae (aa 0)<|ae (kI 2) nilA)<|ae (ao b9<|ae (aa 0)<|ae (kI 4) nilA) nilA)<|ai (aB 3<|tupF<|ae (ax (aq<|ag eqS (aa 1)<|kS [76,108]) (cR (kM eA) partN<|ct<|kI 5)<|cR (kM eA) (ct<|kI 5) partN)<|ae (kM<|.bool N)<|ae (listF nilA) nilA)<|ai (aB 4<|ag aE (listF<|ae (ag addS (ag addS (kS [92,112,123,103,99,61])<|aa 1)<|kS [125])<|ae (ag addS (ag addS (kS [92,80,123,103,99,61])<|aa 1)<|kS [125])<|ae (ag addS (ag addS (kS [91,58,103,99,61])<|aa 1)<|kS [58,93])<|ae (ag addS (ag addS (kS [91,58,94,103,99,61])<|aa 1)<|kS [58,93]) nilA)<|aa 2)<|ai (aK<|tupF<|ae (aa 4)<|ae (ax (aq<|ag eqS (ag modS (aa 2)<|kI 2)<|kI 0) (aa 3)<|ao lA<|ae (aa 3) nilA) nilA) nilM
noncomputable def wc:Y V→Y af→R V:=aU<|aZ<|aS 1 0 5<|He
theorem MM(G:Pg W f)(b:4≤n):FW W n (.ref<|f 96) wc:=(bf (n:=2) (i:=96) (vs:=XR) G [⟨N,91,b9,rN G<|L O⟩,⟨N,95,lA,Dl G<|L O⟩] ⟨[],[],[],["deck"]⟩ (by kernel_rfl) O<|by kernel_rfl).fin.sel.mono b
noncomputable def XN:Y<|an×aT:= [("text", .local)]
noncomputable def Hc:aj→Y af→R Fl:=ai (aK<|ao ot<|ae (bW ["sign"] [] N (bT<|aa 0) (bv 0) trueT (ao oH<|ae (aa 0) nilA) 1000) nilA) nilM
noncomputable def jC:Y V→Y af→R V:=aU<|aZ<|aS 1 0 1<|Hc
theorem MH(G:Pg W f)(b:2≤n):FW W n (.ref<|f 99) jC:=(bf (n:=0) (i:=99) (vs:=XN) G [] ⟨[],[],[],[]⟩ (by kernel_rfl) O<|by kernel_rfl).fin.sel.mono b
noncomputable def Xb:Y<|an×aT:= [("codes", .local),("found", .local),("at", .local),("many", .local),("row", .local)]
noncomputable def Gy:aj→Y af→R Fl:=ai (kh [1,2]<|ae (kS [])<|ae (kI 0) nilA)<|ai (dS (aq<|ag ltS (aa 2)<|ao ce<|ae (aa 0) nilA) (ai (aB 3<|kI 1)<|ai (dS (a_ (aq<|ag ltS (ag addS (aa 2)<|aa 3)<|ao ce<|ae (aa 0) nilA)<|a_ (aq<|ag eqS (ag aE (aa 0)<|ag addS (aa 2)<|aa 3)<|ag addS (ag aE (aa 0)<|aa 2)<|aa 3)<|kT Q) (ai (aB 3<|ag addS (aa 3)<|kI 1) nilM) 1000)<|ai (aB 4<|bW ["code"] [] N (bT<|cR (aa 0) (ct<|aa 2)<|ct<|ag addS (aa 2)<|aa 3) (bv 0) trueT (ao e7<|ae (aa 0) nilA) 1000)<|ai (aB 1<|ag addS (aa 1)<|ax (aq<|ag ltS (aa 3)<|kI 3) (cU kZ lh (kS [])<|ae (aa 4) nilA)<|ag addS (ag addS (ag aE (aa 4)<|kI 0)<|kS [45])<|ag aE (aa 4)<|gJ<|kI 1)<|ai (aB 2<|ag addS (aa 2)<|aa 3) nilM) 1000)<|ai (aK<|aa 1) nilM
noncomputable def ke:Y V→Y af→R V:=aU<|aZ<|aS 1 0 5<|Gy
theorem Lf(G:Pg W f)(b:2≤n):FW W n (.ref<|f 100) ke:=(bf (n:=0) (i:=100) (vs:=Xb) G [] ⟨[],[],[],[]⟩ (by kernel_rfl) O<|by kernel_rfl).fin.sel.mono b
end
section
noncomputable def X8:Y<|an×aT:= [("reader", .local),("deep", .local)]
noncomputable def te(w:Y V→Y af→R V):aj→Y af→R Fl:=ai (ax (aq<|ao oR<|ae (aa 0) nilA) (ai (aK<|ao k4<|ae (ao qE<|ae (aa 0) nilA)<|ae (listF nilA) nilA) nilM) nilM)<|ai (ax (cy (aq<|ag neS (aC 5 bt (aa 0) nilA)<|kI 91)<|cy (aq<|ag gtS (aa 1)<|kI 18)<|kT N) (ai (a7<|aC 5 cV (aa 0)<|ae (aD (aF 13)<|aa 0) nilA) nilM) nilM)<|ai (aK<|ao w<|ae (aa 0)<|ae (aa 1) nilA) nilM
noncomputable def G7(w:Y V→Y af→R V):Y V→Y af→R V:=aU<|aZ<|aS 2 0 2<|te w
theorem M_(G:Pg W f)(h:FW W n (.ref<|f 83) w)(b:18≤n):FW W (n+2) (.ref<|f 79)<|G7 w:=(bf (n:=n) (i:=79) (vs:=X8) G [⟨N,59,cV,iJ G<|fL O b⟩,⟨N,61,bt,jn G<|fL O b⟩,⟨N,70,oR,Dw G<|fL O b⟩,⟨N,72,qE,Nh G<|fL O b⟩,⟨N,83,w,h⟩,⟨Q,4,k4,qf G<|fL O b⟩] ⟨[],[],[],[]⟩ (by kernel_rfl) O<|by kernel_rfl).fin.sel
noncomputable def X5:Y<|an×aT:= [("reader", .local),("so_far", .local),("deep", .local),("is_first", .local),("begun", .local),("sign", .local)]
noncomputable def tc(w:Y V→Y af→R V):aj→Y af→R Fl:=ai (aB 4<|aD (aF 13)<|aa 0)<|ai (aB 5<|aC 5 cu (aa 0) nilA)<|ai (a7<|aC 5 dU (aa 0) nilA)<|ai (ax (a_ (aq<|aD (aF 16)<|aa 1)<|a_ (aq<|ao mx<|ae (aa 0) nilA)<|kT Q) (ai (a7<|aC 6 jD (aa 1)<|ae (ao w<|ae (aa 0)<|ae (ag addS (aa 2)<|kI 1) nilA)<|ae (ax (aq<|ag eqS (aa 5)<|kI 38) (kS [98,111,116,104])<|kS [119,105,116,104,111,117,116]) nilA) nilM)<|ai (ax (a_ (aq<|ag eqS (aa 5)<|kI 45)<|a_ (cy (aq<|aa 3)<|cy (aq<|ag eqS (aC 5 bt (aa 0) nilA)<|kI 93)<|kT N)<|kT Q) (ai (a7<|aC 6 my (aa 1)<|ae (kI 45)<|ae (kI 45) nilA) nilM)<|ai (a7<|aC 5 cV (aa 0)<|ae (aa 4) nilA) nilM) nilM) nilM
noncomputable def we(w:Y V→Y af→R V):Y V→Y af→R V:=aU<|aS 4 0 6<|tc w
theorem M6(G:Pg W f)(h:FW W n (.ref<|f 79) w)(b:18≤n):FW W (n+2) (.ref<|f 82)<|we w:=(bf (n:=n) (i:=82) (vs:=X5) G [⟨N,59,cV,iJ G<|fL O b⟩,⟨N,60,dU,rP G<|fL O b⟩,⟨N,61,bt,jn G<|fL O b⟩,⟨N,62,cu,kR G<|fL O b⟩,⟨N,74,my,Dt G<|fL O b⟩,⟨N,76,jD,Dr G<|fL O b⟩,⟨N,78,mx,Dp G<|fL O b⟩,⟨N,79,w,h⟩] ⟨[],[],[],[]⟩ (by kernel_rfl) O<|by kernel_rfl).sel
noncomputable def X4:Y<|an×aT:= [("reader", .local),("deep", .local),("begun", .local),("is_other", .local),("so_far", .local),("is_first", .local),("found", .local)]
noncomputable def Hm(w:Y V→Y af→R V):aj→Y af→R Fl:=ai (aB 2<|aD (aF 13)<|aa 0)<|ai (a7<|aC 5 cu (aa 0) nilA)<|ai (a7<|aC 5 dU (aa 0) nilA)<|ai (aB 3<|ag eqS (aC 5 bt (aa 0) nilA)<|kI 94)<|ai (ax (aq<|aa 3) (ai (a7<|aC 5 cu (aa 0) nilA)<|ai (a7<|aC 5 dU (aa 0) nilA) nilM) nilM)<|ai (aB 4<|ao k6 nilA)<|ai (aB 5<|kM<|.bool Q)<|ai (dS (aq<|ag neS (aC 5 bt (aa 0) nilA)<|kI 93) (ai (ax (cy (aq<|ag eqS (aC 5 bt (aa 0) nilA)<|kI 45)<|cy (aq<|ag eqS (aC 5 bt (aa 0) nilA)<|kI 38)<|kT N) (ai (a7<|ao (we w)<|ae (aa 0)<|ae (aa 4)<|ae (aa 1)<|ae (aa 5) nilA) nilM)<|ai (ax (aq<|ao mx<|ae (aa 0) nilA) (ai (a7<|aC 6 jD (aa 4)<|ae (ao w<|ae (aa 0)<|ae (ag addS (aa 1)<|kI 1) nilA)<|ae (kS [117,110,105,111,110]) nilA) nilM)<|ai (ax (aq<|ag eqS (aC 5 bt (aa 0) nilA)<|kI 123) (ai (a7<|aC 6 oP (aa 4)<|ae (ao qD<|ae (aa 0) nilA) nilA) nilM)<|ai (a7<|ao nP<|ae (aa 0)<|ae (aa 4) nilA) nilM) nilM) nilM)<|ai (aB 5<|kM<|.bool N)<|ai (a7<|aC 5 dU (aa 0) nilA) nilM) 1000)<|ai (a7<|aC 5 cu (aa 0) nilA)<|ai (aB 6<|aC 6 nQ (aa 4) nilA)<|ai (ax (a_ (aq<|aa 3)<|a_ (aq<|ag neS (aD (aF 10)<|aa 6)<|listF nilA)<|kT Q) (ai (a7<|aC 5 cV (aa 0)<|ae (aa 2) nilA) nilM) nilM)<|ai (aK<|ax (aq<|aa 3) (ao k4<|ae (aC 1 mz (aD (aF 9)<|aa 6) nilA)<|ae (listF nilA) nilA)<|aa 6) nilM
noncomputable def w83(w:Y V→Y af→R V):Y V→Y af→R V:=aU<|aZ<|aS 2 0 7<|Hm w
theorem M4(G:Pg W f)(h:FW W n (.ref<|f 79) w)(b:18≤n):FW W (n+2+2) (.ref<|f 83)<|w83 w:=(bf (n:=n+2) (i:=83) (vs:=X4) G [⟨N,18,mz,yt G<|i8 O b⟩,⟨N,59,cV,iJ G<|i8 O b⟩,⟨N,60,dU,rP G<|i8 O b⟩,⟨N,61,bt,jn G<|i8 O b⟩,⟨N,62,cu,kR G<|i8 O b⟩,⟨N,75,oP,Nd G<|i8 O b⟩,⟨N,76,jD,Dr G<|i8 O b⟩,⟨N,77,nQ,Dq G<|i8 O b⟩,⟨N,78,mx,Dp G<|i8 O b⟩,⟨N,79,w,h.mono<|hZ _ 2⟩,⟨N,80,qD,M8 G<|i8 O b⟩,⟨N,81,nP,M7 G<|i8 O b⟩,⟨N,82,we w,M6 G h b⟩,⟨Q,4,k4,qf G<|i8 O b⟩,⟨Q,6,k6,VW G<|i8 O b⟩] ⟨[],[],[],[]⟩ (by kernel_rfl) O<|by kernel_rfl).fin.sel
noncomputable def XQ:Y<|an×aT:= [("deck", .cell),("deep", .local),("way", .local),("row", .local),("text", .local),("low", .local),("high", .local)]
noncomputable def qN(w:Y V→Y af→R V):aj→Y af→R Fl:=ai (aB 2<|ao b9<|ae (aa 0)<|ae (kI 6) nilA)<|ai (ax (a_ (aq<|ag gtS (aa 2)<|kI 3)<|a_ (aq<|ag gtS (aa 1)<|kI 0)<|kT Q) (ai (aK<|ag addS (ao w<|ae (aa 0)<|ae (ag subS (aa 1)<|kI 1) nilA)<|tupF<|ae (kM<|.bool Q) nilA) nilM) nilM)<|ai (ax (aq<|ag gtS (aa 2)<|kI 2) (ai (aK<|ag addS (ao wc<|ae (aa 0) nilA)<|tupF<|ae (kM<|.bool Q) nilA) nilM) nilM)<|ai (ax (aq<|ag eqS (aa 2)<|kI 2) (ai (aB 3<|ao oB<|ae (bW ["turn"] [("deck",0)] N (gW iM<|ae (ao b9<|ae (aa 0)<|ae (kI 4) nilA) nilA) (bv 0) trueT (ag aE (kM eA)<|ao b9<|ae (aa 1)<|ae (kI 8) nilA) 1000) nilA)<|ai (aB 4<|ag addS (ag addS (kS [123])<|cU kZ lh (kS [])<|ae (bW ["code"] [("deck",0)] N (bT<|aa 3) (bv 0) trueT (ao kx<|ae (aa 1)<|ae (aa 0) nilA) 1000) nilA)<|kS [125])<|ai (aK<|tupF<|ae (aa 4)<|ae (ax (aq<|ag eqS (ao ce<|ae (aa 3) nilA)<|kI 1) (tupF<|ae (ao lW<|ae (aa 3) nilA)<|ae (kM<|.bool N)<|ae (listF nilA) nilA)<|tupF<|ae (listF nilA)<|ae (kM<|.bool N)<|ae (listF<|ae (aa 3) nilA) nilA)<|ae (kM<|.bool N) nilA) nilM) nilM)<|ai (aB 5<|ao b9<|ae (aa 0)<|ae (kI 8) nilA)<|ai (aB 6<|ax (aq<|ag eqS (aa 2)<|kI 1) (ag addS (aa 5)<|ao b9<|ae (aa 0)<|ae (ag subS (kI 8)<|aa 5) nilA)<|aa 5)<|ai (aB 4<|ao kx<|ae (aa 0)<|ae (ag aE (kM eA)<|aa 5) nilA)<|ai (ax (aq<|ag eqS (aa 2)<|kI 1) (ai (aB 4<|ag addS (ag addS (aa 4)<|kS [45])<|ao kx<|ae (aa 0)<|ae (ag aE (kM eA)<|aa 6) nilA) nilM) nilM)<|ai (aK<|tupF<|ae (aa 4)<|ae (tupF<|ae (cR (kM eA) (ct<|aa 5)<|ct<|ag addS (aa 6)<|kI 1)<|ae (kM<|.bool N)<|ae (listF nilA) nilA)<|ae (kM<|.bool N) nilA) nilM
noncomputable def oO(w:Y V→Y af→R V):Y V→Y af→R V:=aU<|aZ<|aS 2 0 7<|qN w
theorem MK(G:Pg W f)(h:FW W n (.ref<|f 98) w)(b:18≤n):FW W (n+2) (.ref<|f 97)<|oO w:=(bf (n:=n) (i:=97) (vs:=XQ) G [⟨N,91,b9,rN G<|fL O b⟩,⟨N,92,kx,MU G<|fL O b⟩,⟨N,96,wc,MM G<|fL O b⟩,⟨N,98,w,h⟩] ⟨[],[],[],["deck"]⟩ (by kernel_rfl) O<|by kernel_rfl).fin.sel
noncomputable def XO:Y<|an×aT:= [("deck", .local),("deep", .local),("is_turned", .local),("text", .local),("found", .local),("is_behind", .local),("turn", .local),("item", .local),("value", .local),("is_set", .local),("way", .local)]
noncomputable def Ar(w:Y V→Y af→R V):aj→Y af→R Fl:=ai (kh [2,3,4,5]<|ae (ag eqS (ao b9<|ae (aa 0)<|ae (kI 4) nilA)<|kI 1)<|ae (kS [91])<|ae (tupF<|ae (listF nilA)<|ae (kM<|.bool N)<|ae (listF nilA) nilA)<|ae (kM<|.bool N) nilA)<|ai (ax (aq<|aa 2) (ai (aB 3<|ag addS (aa 3)<|kS [94]) nilM) nilM)<|ai (fH N (gW iM<|ae (ao b9<|ae (aa 0)<|ae (kI 4) nilA) nilA) (bv 6) (ai (kO [7,8,9]<|ao w<|ae (aa 0)<|ae (aa 1) nilA)<|ai (aB 10<|ax (a_ (aq<|aa 9)<|a_ (aq<|aa 5)<|kT Q) (ag aE (listF<|ae (kS [124])<|ae (kS [38])<|ae (kS [45]) nilA)<|ao b9<|ae (aa 0)<|ae (kI 3) nilA)<|kS [124])<|ai (aB 3<|ag addS (ag addS (ag addS (aa 3)<|ax (aq<|ag eqS (ag modS (aa 6)<|kI 2)<|kI 1) (kS [32])<|kS [])<|ax (aq<|ag eqS (aa 10)<|kS [124]) (kS [])<|aa 10)<|aa 7)<|ai (aB 4<|ax (cy (aq<|ag isS (aa 4)<|kM .none)<|cy (aq<|ag isS (aa 8)<|kM .none)<|kT N) (kM .none)<|ao qz<|ae (aa 10)<|ae (aa 4)<|ae (aa 8) nilA)<|ai (aB 5<|aa 9) nilM) 1000)<|ai (ax (a_ (aq<|aa 2)<|a_ (aq<|ag isNotS (aa 4)<|kM .none)<|kT Q) (ai (aB 4<|ao lA<|ae (aa 4) nilA) nilM) nilM)<|ai (aK<|tupF<|ae (ag addS (aa 3)<|kS [93])<|ae (aa 4) nilA) nilM
noncomputable def G0(w:Y V→Y af→R V):Y V→Y af→R V:=aU<|aZ<|aS 2 0 11<|Ar w
theorem MJ(G:Pg W f)(h:FW W n (.ref<|f 97) w)(b:18≤n):FW W (n+2) (.ref<|f 98)<|G0 w:=(bf (n:=n) (i:=98) (vs:=XO) G [⟨N,91,b9,rN G<|fL O b⟩,⟨N,94,qz,MP G<|fL O b⟩,⟨N,95,lA,Dl G<|fL O b⟩,⟨N,97,w,h⟩] ⟨[],[],[],["deck"]⟩ (by kernel_rfl) O<|by kernel_rfl).fin.sel
end
section
noncomputable def lr:Y V→Y af→R V:=λ_ _=> .err
noncomputable def dZ(w:Y V→Y af→R V):=G7<|w83 w
noncomputable def wS:=dZ<|dZ<|dZ<|dZ lr
noncomputable def mE(w:Y V→Y af→R V):=G0<|oO w
noncomputable def wL:=mE<|mE<|mE lr
section
variable{W:Wd}{fa:M→ay}(G:Pg W fa){fi:FI}{n:M}
include G
theorem u8(b:18≤n)(h:FW W n (.ref<|fa 79) w):FW W (n+6) (.ref<|fa 79)<|dZ w:=M_ G (M4 G h b)<|bF b<|hZ n 4
theorem yI(b:18≤n)(h:FW W n (.ref<|fa 98) w):FW W (n+4) (.ref<|fa 98)<|mE w:=MJ G (MK G h b)<|bF b<|hZ n 2
theorem Vk(b:42≤n):FW W n (.ref<|fa 79) wS:=(u8 G (L O)<|u8 G (L O)<|u8 G (L O)<|u8 G (n:=18) (L O) FW.err).mono b
theorem Vl(b:30≤n):FW W n (.ref<|fa 98) wL:=(yI G (L O)<|yI G (L O)<|yI G (n:=18) (L O) FW.err).mono b
end
noncomputable def X3:Y<|an×aT:= [("octets", .local),("data", .local),("reader", .local),("found", .local)]
noncomputable def At:aj→Y af→R Fl:=ai (aB 2<|ao k5<|ae (aa 0)<|ae (aa 1) nilA)<|ai (a7<|aC 5 dU (aa 2) nilA)<|ai (aB 3<|ao wS<|ae (aa 2)<|ae (kI 0) nilA)<|ai (a7<|aC 5 dU (aa 2) nilA)<|ai (ax (aq<|ag ltS (aD (aF 13)<|aa 2)<|ao ce<|ae (aa 0) nilA) (ai (a7<|aC 5 cV (aa 2)<|ae (aD (aF 13)<|aa 2) nilA) nilM) nilM)<|ai (aK<|ax (aq<|ag eqS (aD (aF 10)<|aa 3)<|listF nilA) (aD (aF 9)<|aa 3)<|aa 3) nilM
noncomputable def fy:Y V→Y af→R V:=aU<|aZ<|aS 2 0 4<|At
theorem Do(G:Pg W f)(b:44≤n):FW W n (.ref<|f 84) fy:=(bf (n:=42) (i:=84) (vs:=X3) G [⟨N,59,cV,iJ G<|L O⟩,⟨N,60,dU,rP G<|L O⟩,⟨N,79,wS,Vk G<|L O⟩,⟨Q,5,k5,VY G<|L O⟩] ⟨[],[],[],[]⟩ (by kernel_rfl) O<|by kernel_rfl).fin.sel.mono b
theorem Le(G:Pg W a)(b:44≤n):FF W (n+1) (.ref<|a 101)<|kL fy:=by
 have e:=G.at_ 0
 refine' Ls G.T G.B (f:=a 101) (fs:=a 84) (c:=fP 101) (w:="e") (x:="octets") (r:="data") (xi:="isinstance") (xt:="int") (xl:="len") (xs:="set_of") (xb:="BadSet") (K:= ?KK) (j:=uJ O) (hm:=Do G b) (hks':=G.kf 84 O)
  (gs:=G.gf 84 O) (ks:=O) (ds:=O) (gb:=G.gk 0<|L O) (kb:=O) (db:=O) (d1:=O) (d2:=O) (d3:=O) (hxa':=by rw[e];decide) (gi:=G.gb 4<|L O) (ki:=O) (di:=O) (gt:=G.gb 8<|L O) (kt:=O) (dt:=O) (gl:=G.gb 0<|L O) (kl:=O) (dl:=O) (hit0':=G.ii) (dc2':=O) (dc3':=O)
 case KK=>rw[e];exact G.fn 101 2 O
noncomputable def Xa:Y<|an×aT:= [("script", .local),("deck", .local),("data", .local),("text", .local),("due", .cell),("told", .local),("codes", .cell),("rest", .local),("written", .local)]
noncomputable def vT:aj→Y af→ak:=cg (iK [1,2]<|ae (ao sV<|ae (aa 0) nilA)<|ae (ao k3 nilA) nilA)<|cg (a7<|aC 3 lC (aa 2)<|ae (kS [103,99])<|ae (kI 97)<|ae (kI 101)<|ae (kS [76,108]) nilA)<|cg (a7<|aC 3 lC (aa 2)<|ae (kS [103,99])<|ae (kI 102)<|ae (kI 104)<|ae (kS [76,117]) nilA)<|qo 2 1<|i4 (aq<|ag eqS (ao b9<|ae (aa 1)<|ae (kI 5) nilA)<|kI 1) (ae (ag aE (ao sW nilA)<|ao b9<|ae (aa 1)<|ae (kI 12) nilA)<|ae (aa 2) nilA) (kL fy)<|cg (kO [3,4]<|ao wL<|ae (aa 1)<|ae (kI 2) nilA)<|i4 (aq<|ag isS (aa 4)<|kM .none) (ae (ao jC<|ae (aa 3) nilA)<|ae (aa 2) nilA) (kL fy)<|cg (aB 5<|ao fy<|ae (ao jC<|ae (ag addS (kS [32])<|aa 3) nilA)<|ae (aa 2) nilA)<|cg (ax (aq<|ag neS (iU oK<|aa 5)<|ag neS (ag aE (aa 4)<|kI 2)<|listF nilA) (ai (aK<|kM<|.bool N) nilM) nilM)<|cg (ax (a_ (aq<|ag neS (ag aE (aa 4)<|kI 2)<|listF nilA)<|a_ (aq<|ag neS (ao lW<|ae (aD (aF 10)<|aa 5) nilA)<|ao ol<|ae (ag aE (aa 4)<|kI 2) nilA)<|kT Q) (ai (aK<|kM<|.bool N) nilM) nilM)<|cg (aB 6<|ax (aq<|ag neS (ag aE (aa 4)<|kI 2)<|listF nilA) (aD (aF 9)<|aa 5)<|aa 5)<|cg (ax (aq<|ag neS (bW ["code"] [("codes",6)] N (bT<|kM eA) (bv 0) (aq<|aC 1 jG (aa 1)<|ae (aa 0) nilA) (aa 0) 1000)<|ag aE (aa 4)<|kI 0) (ai (aK<|kM<|.bool N) nilM) nilM)<|cg (ax (aq<|ag neS (bW ["code"] [("codes",6)] N (bT<|tupF<|ae (kI 0)<|ae (kI 96)<|ae (kI 105)<|ae (kI 945)<|ae (kI 1114111) nilA) (bv 0) trueT (aC 1 jG (aa 1)<|ae (aa 0) nilA) 1000)<|ag rD (listF<|ae (ag aE (aa 4)<|kI 1) nilA)<|kI 5) (ai (aK<|kM<|.bool N) nilM) nilM)<|cg (aB 7<|bW ["code"] [("due",4)] N (bT<|kM eA) (bv 0) (aq<|ag notInS (aa 0)<|ag aE (aa 1)<|kI 0) (aa 0) 1000)<|cg (aB 8<|ao jC<|ae (ax (aq<|ag aE (aa 4)<|kI 1) (ag addS (ag addS (kS [91,94])<|ao ke<|ae (aa 7) nilA)<|kS [93])<|ag addS (ag addS (kS [91])<|ao ke<|ae (ag aE (aa 4)<|kI 0) nilA)<|kS [93]) nilA)<|cg (aK<|kr (ag eqS (ao qA<|ae (aa 6) nilA)<|aa 8)<|ag eqS (aC 1 jF (ao fy<|ae (aa 8)<|ae (aa 2) nilA) nilA)<|aC 1 jF (aa 6) nilA) nilD
noncomputable def zL:Y V→Y af→ak:=zC 1 0 9 vT
theorem Ld(G:Pg W f):FF W 47 (.ref<|f 102) zL:=ZJ (n:=45) (vs:=Xa) G [⟨N,100,ke,Lf G<|L O⟩,⟨N,12,jG,NN G<|L O⟩,⟨N,13,jF,DL G<|L O⟩,⟨N,31,lC,NF G<|L O⟩,⟨N,84,fy,Do G<|L O⟩,⟨N,88,qA,MY G<|L O⟩,⟨N,89,sW,MX G<|L O⟩,⟨N,90,sV,MV G<|L O⟩,⟨N,91,b9,rN G<|L O⟩,⟨N,98,wL,Vl G<|L O⟩,⟨N,99,jC,MH G<|L O⟩,⟨Q,3,k3,V0 G<|L O⟩] ⟨[],[],[],["deck"]⟩ 692 (FF.mono (Le G (L O:44≤44))<|L O) (by kernel_rfl) O<|by kernel_rfl
end
section
section
def Sd(p:Prop):Prop:=p
def fK{α:Type}(a b:Y α):Prop:=a=b
def AO(a b:M):Prop:=a=b
theorem sdN(h:a=b):AO a b:=h
theorem wj{α:Type}{a b:Y α}(h:a=b):fK a b:=h
section
variable{α:Type}{loc:aj}{H H1 H2 H3 H4:Y af}
def nx(f:Fl)(b:aj→Y af→R Fl)(H:Y af):R Fl:=lE b f H
theorem bQ(h:b l H=r):nx (.next l) b H=r:=h
theorem nS(h:R.ok (.ret v) H=r):nx (.ret v) b H=r:=h
theorem bA(h:a loc H= .ok f H1)(e:nx f b H1=r):ai a b loc H=r:=by unfold ai;rw[h];exact e
theorem km(h:a loc H= .exc k):ai a b loc H= .exc k:=by unfold ai;rw[h];rfl
theorem fx:nilM loc H= .ok (.next loc) H:=O
theorem c9(h:m loc H= .ok v H1)(e:fK (loc.set i<|z v) b):aB i m loc H= .ok (.next b) H1:=by unfold fK at e;subst e;unfold aB;rw[h];rfl
theorem Xe(h:m loc H= .exc k):aB i m loc H= .exc k:=by unfold aB;rw[h];rfl
noncomputable def ic(t:ak)(a b:α):α:=if t then a else b
theorem fJ(h:Sd<|t=Q)(e:a=r):ic t a b=r:=by rw[show t=_ from h];exact e
theorem fb(h:Sd<|t=N)(e:b=r):ic t a b=r:=by rw[show t=_ from h];exact e
theorem dq(h:c loc H= .ok t H1)(e:ic t (a loc H1) (b loc H1)=r):ax c a b loc H=r:=by unfold ax;rw[h];exact e
theorem sE(h:m loc H= .ok v H1):aK m loc H= .ok (.ret v) H1:=by unfold aK;rw[h];rfl
theorem Xg(h:m loc H= .exc k):aK m loc H= .exc k:=by unfold aK;rw[h];rfl
theorem qh(h:m loc H= .ok v H1)(e:Sd<|yN v=Q):a7 m loc H= .ok (.next loc) H1:=by unfold a7;rw[h];exact aw e
theorem vA(h:m loc H= .exc k):a7 m loc H= .exc k:=by unfold a7;rw[h];rfl
theorem br(h:a loc H= .ok x H1)(e:b loc H1= .ok y H2)(c:o x y H2=r):ag o a b loc H=r:=by unfold ag;rw[h];show R.bind (b loc H1) _=_;rw[e];exact c
theorem sF(b:a loc H= .ok x H1)(h:o x H1=r):aD o a loc H=r:=by unfold aD;rw[b];exact h
theorem cO(h:m loc H= .ok (.p<|.bool b) H1):aq m loc H= .ok b H1:=by unfold aq;rw[h];rfl
theorem a8:nilA loc H= .ok [] H:=O
theorem aI(h:a loc H= .ok v H1)(e:b loc H1= .ok vs H2):ae a b loc H= .ok (v::vs) H2:=by unfold ae;rw[h];show R.bind (b loc H1) _=_;rw[e];rfl
theorem FQ(h:a loc H= .exc k):ae a b loc H= .exc k:=by unfold ae;rw[h];rfl
theorem bH(b:a loc H= .ok vs H1)(e:m vs H1=r):ao m a loc H=r:=by unfold ao;rw[b];exact e
theorem iR(b:o loc H= .ok x H1)(c:Sd<|f6 x H1=z (C,f))(k:Sd<|mj C f=Q)(e:a loc H1= .ok vs H2)(h:m (x::vs) H2=r):aC C m o a loc H=r:=by
 unfold aC;rw[b]
 show (f6 x H1).elim .err (λq=>if q.1=C∧mj C q.2=Q then(a loc H1).bind λvs H=>m (x::vs) H else .err)=r
 rw[show f6 x H1=z (C,f)from c]
 show (if C=C∧mj C f=Q then(a loc H1).bind λvs H=>m (x::vs) H else .err)=r
 rw[aw ⟨O,k⟩,e];exact h
theorem FK(b:o loc H= .ok x H1)(c:Sd<|f6 x H1=z (C,f))(h:Sd<|mj C f=Q)(e:a loc H1= .exc k):aC C m o a loc H= .exc k:=by
 unfold aC;rw[b]
 show (f6 x H1).elim .err (λq=>if q.1=C∧mj C q.2=Q then(a loc H1).bind λvs H=>m (x::vs) H else .err)=_
 rw[show f6 x H1=z (C,f)from c]
 show (if C=C∧mj C f=Q then(a loc H1).bind λvs H=>m (x::vs) H else .err)=_
 rw[aw ⟨O,h⟩,e];rfl
theorem O1(b:o loc H= .ok x H1)(c:Sd<|i x H1=Q)(e:a loc H1= .ok vs H2)(h:m (x::vs) H2=r):cU i m o a loc H=r:=by
 unfold cU;rw[b]
 show (if i x H1 then(a loc H1).bind λvs H=>m (x::vs) H else .err)=r
 rw[aw<|show i x H1=Q from c,e];exact h
theorem nB(h:a loc H= .ok t H1)(e:ic t (b loc H1) (.ok N H1)=r):a_ a b loc H=r:=by unfold a_;rw[h];exact e
theorem qab(h:a loc H= .ok t H1)(e:ic t (.ok Q H1) (b loc H1)=r):cy a b loc H=r:=by unfold cy;rw[h];exact e
theorem We(h:a loc H= .ok (.p<|.bool t) H1)(e:ic t (b loc H1) (.ok (.p<|.bool t) H1)=r):kr a b loc H=r:=by unfold kr;rw[h];exact e
theorem qac(h:a loc H= .ok (.p<|.bool t) H1)(e:ic t (.ok (.p<|.bool t) H1) (b loc H1)=r):mA a b loc H=r:=by unfold mA;rw[h];exact e
theorem qaa(b:a loc H= .ok (.p<|.bool t) H1):nG a loc H= .ok (.p<|.bool<|!t) H1:=by unfold nG;rw[b];rfl
theorem Mq(h:a loc H= .ok x H1)(f:b loc H1= .ok y H2)(g:o x y H2= .ok (.p<|.bool t) H3)(i:ic t ((c loc H3).bind λe H=>(j y e H).bind j4) (.ok N H3)=r):lX a b c o j loc H=r:=by
 unfold lX;rw[h];show R.bind (b loc H1) _=_;rw[f];show R.bind (o x y H2) _=_;rw[g];exact i
theorem Mr{c:aj→Y af→R V}{f:V→V→Y af→R V}{y a:V}{t:ak}(b:c loc H= .ok a H1)(e:f y a H1= .ok (.p<|.bool t) H2):((c loc H).bind λa H=>(f y a H).bind j4)= .ok t H2:=by rw[b];show R.bind (f y a H1) _=_;rw[e];rfl
theorem qaf(h:a loc H= .ok (.p<|.int i) H1):gJ a loc H= .ok (.p<|.int<|-i) H1:=by unfold gJ;rw[h];rfl
theorem NV{m:aj→Y af→R V}{p b:aj→Y af→R (d J)}{x:V}{lo a:d J}{r:R V}(h:m loc H= .ok x H1)(e:p loc H1= .ok lo H2)(c:b loc H2= .ok a H3)(f:jz x lo a H3=r):cR m p b loc H=r:=by
 unfold cR;rw[h];show R.bind (p loc H1) _=_;rw[e];show R.bind (b loc H2) _=_;rw[c];exact f
theorem N4:partN loc H= .ok D H:=O
theorem N5(h:m loc H= .ok (.p<|.int i) H1):ct m loc H= .ok (z i) H1:=by unfold ct;rw[h];rfl
theorem Z1(b:c loc H= .ok v H1)(e:m loc H1= .ok x H2)(a:eW i x v H2= .ok () H3):dm i m c loc H= .ok (.next loc) H3:=by unfold dm;rw[b];show R.bind (m loc H1) _=_;rw[e];show R.bind (eW i x v H2) _=_;rw[a];rfl
theorem Z3(h:j loc H= .ok x H1)(e:aF i x H1= .ok a H2)(c:m loc H2= .ok b H3)(f:o a b H3= .ok v H3)(g:eW i x v H3= .ok () H4):oj i o j m loc H= .ok (.next loc) H4:=by
 unfold oj;rw[h];show R.bind (aF i x H1) _=_;rw[e];show R.bind (m loc H2) _=_;rw[c];show R.bind (o a b H3) _=_;rw[f];show R.bind (eW i x v H3) _=_;rw[g];rfl
theorem Z0(b:c loc H= .ok v H1)(e:a loc H1= .ok x H2)(h:m loc H2= .ok k H3)(f:nz x k v H3= .ok () H4):gz a m c loc H= .ok (.next loc) H4:=by
 unfold gz;rw[b];show R.bind (a loc H1) _=_;rw[e];show R.bind (m loc H2) _=_;rw[h];show R.bind (nz x k v H3) _=_;rw[f];rfl
theorem Xc(h:c loc H= .ok vs H1)(e:Sd<|vs.length=i.length∧vs.length≤100)(a:fK (kX loc i vs) b):kh i c loc H= .ok (.next b) H1:=by unfold fK at a;subst a;unfold kh;rw[h];exact aw e
theorem DQ(h:c loc H= .ok vs H1)(e:Sd<|vs.length=i.length∧vs.length≤100)(a:fK (kX loc i.reverse vs.reverse) b):iK i c loc H= .ok (.next b) H1:=by unfold fK at a;subst a;unfold iK;rw[h];exact aw e
theorem Ct(h:m loc H= .ok (.p<|.tup c) H1)(e:Sd<|c.length=i.length)(a:fK (kX loc i<|c.map .p) b):kO i m loc H= .ok (.next b) H1:=by unfold fK at a;subst a;unfold kO;rw[h];exact aw e
theorem nn(h:a loc H= .ok vs H1)(e:Sd<|j6 vs=z c)(b:Sd<|c.length≤1000000):listF a loc H= .ok (.p<|.list c) H1:=by
 unfold listF;rw[h];show (j6 vs).elim R.err _=_;rw[show j6 vs=z c from e];exact aw b
theorem Z7(h:e loc H= .ok vs H1)(g:Sd<|j6 vs=z c)(i:Sd<|c.length≤1000000)(f:AO H1.length k)(a:fK (H1++ [.list c]) b):listM e loc H= .ok (.lbl k) b:=by
 unfold AO at f;unfold fK at a;subst f a
 unfold listM;rw[h];show (j6 vs).elim R.err _=_;rw[show j6 vs=z c from g];exact aw i
theorem zi(h:a loc H= .ok vs H1)(e:Sd<|j6 vs=z c)(b:Sd<|c.length≤1000000):tupF a loc H= .ok (.p<|.tup c) H1:=by
 unfold tupF;rw[h];show (j6 vs).elim R.err _=_;rw[show j6 vs=z c from e];exact aw b
theorem b8(l:aj)(c:Sd<|vs.length=a)(b:fK ((vs++cX n (V.p P.none)).map z++cX (e-(a+n)) D) l)(h:m l H= .ok (.ret v) H1):aS a n e m vs H= .ok v H1:=by unfold fK at b;subst b;unfold aS;rw[aw<|show vs.length=a from c,h];rfl
theorem oy(a:aj)(e:Sd<|vs.length=n)(b:fK ((vs++cX c (V.p P.none)).map z++cX (f-(n+c)) D) a)(h:m a H= .ok (.next l) H1):aS n c f m vs H= .ok (.p .none) H1:=by unfold fK at b;subst b;unfold aS;rw[aw<|show vs.length=n from e,h];rfl
theorem vb(l:aj)(c:Sd<|vs.length=a)(b:fK ((vs++cX n (V.p P.none)).map z++cX (e-(a+n)) D) l)(h:m l H= .exc k):aS a n e m vs H= .exc k:=by unfold fK at b;subst b;unfold aS;rw[aw<|show vs.length=a from c,h];rfl
theorem gL(h:m vs H= .ok v H1)(e:fin H.length v H1=r):aZ m vs H=r:=by unfold aZ;rw[h];exact e
theorem zS(h:m vs H= .exc k):aZ m vs H= .exc k:=by unfold aZ;rw[h];rfl
theorem Ej(I:Sd<|reach H 4 (addNew []<|vs.flatMap lblsV)=k)(G:Sd<|ia k=Q)(e:Sd<|cZ k vs=z a)(h:Sd<|kn k H k=z c):aU f vs H=(f a c).bind λv b=> .ok (j0 k H.length v)<|gA k H b:=by
 unfold aU vD
 rw[show reach H 4 _=_ from I,aw<|show ia k=Q from G,show cZ k vs=_ from e]
 show (kn k H k).elim R.err _=_
 rw[show kn k H k=_ from h];rfl
theorem jr(I:Sd<|reach H 4 (addNew []<|vs.flatMap lblsV)=k)(G:Sd<|ia k=Q)(j:Sd<|cZ k vs=z a)(i:Sd<|kn k H k=z c)(h:f a c= .ok l b)(e:Sd<|j0 k H.length l=v)(g:Sd<|gA k H b=H2):aU f vs H= .ok v H2:=by
 rw[Ej I G j i,h,←show _=v from e,←show _=H2 from g];rfl
theorem yP(I:Sd<|reach H 4 (addNew []<|vs.flatMap lblsV)=a)(G:Sd<|ia a=Q)(e:Sd<|cZ a vs=z v)(b:Sd<|kn a H a=z c)(h:f v c= .exc k):aU f vs H= .exc k:=by
 rw[Ej I G e b,h];rfl
theorem sd{p:Prop}(h:p):Sd p:=h
theorem aH(h:Sd<|loc[i]? =z (z v)):aa i loc H= .ok v H:=by unfold aa;rw[show loc[i]? =z (z v)from h];rfl
theorem kE:kM p loc H= .ok (.p p) H:=O
theorem ZG:kT b loc H= .ok b H:=O
theorem Wc(h:Sd<|f6 x H=z (C,f))(e:Sd<|ig C i=Q)(a:Sd<|nK f i=z v):aF i x H= .ok v H:=by
 unfold aF;rw[show f6 x H=z (C,f)from h]
 show (if ig C i=Q then(nK f i).elim .err λv=>R.ok v H else .err)=_
 rw[aw<|show ig C i=Q from e,show nK f i=z v from a];rfl
end
section
variable{H:Y af}{a b:J}
theorem qad(h:Sd<|(decide (a<b))=t):ltS (.p<|.int a) (.p<|.int b) H= .ok (.p<|.bool t) H:=by unfold Sd at h;subst h;rfl
theorem Gv(h:Sd<|(decide (b<a))=t):gtS (.p<|.int a) (.p<|.int b) H= .ok (.p<|.bool t) H:=by unfold Sd at h;subst h;rfl
theorem Gu(h:Sd<|(decide (a≤b))=t):leS (.p<|.int a) (.p<|.int b) H= .ok (.p<|.bool t) H:=by unfold Sd at h;subst h;rfl
theorem qae(h:Sd<|(decide (b≤a))=t):geS (.p<|.int a) (.p<|.int b) H= .ok (.p<|.bool t) H:=by unfold Sd at h;subst h;rfl
theorem md(h:Sd<|(a==b)=t):eqS (.p<|.int a) (.p<|.int b) H= .ok (.p<|.bool t) H:=by unfold Sd at h;subst h;rfl
theorem Gs(h:Sd<|(!(a==b))=t):neS (.p<|.int a) (.p<|.int b) H= .ok (.p<|.bool t) H:=by unfold Sd at h;subst h;rfl
theorem zm:addS (.p<|.int a) (.p<|.int b) H= .ok (.p<|.int<|a+b) H:=O
theorem VI:subS (.p<|.int a) (.p<|.int b) H= .ok (.p<|.int<|a-b) H:=O
theorem Z5:iS (.p<|.int a) (.p<|.int b) H= .ok (.p<|.int<|a+b) H:=O
theorem VK(h:Sd<|0<b):modS (.p<|.int a) (.p<|.int b) H= .ok (.p<|.int<|a%b) H:=aw h
theorem Z6(h:Sd<|0<b∧b<1000000):fdivS (.p<|.int a) (.p<|.int b) H= .ok (.p<|.int<|a/b) H:=aw h
theorem Z9(h:Sd<|-1000000<b∧b<1000000):mulS (.p<|.int a) (.p<|.int b) H= .ok (.p<|.int<|a*b) H:=aw h
theorem Z8(h:Sd<|(!(x==y))=t):neS (.p<|.bool x) (.p<|.bool y) H= .ok (.p<|.bool t) H:=by unfold Sd at h;subst h;rfl
theorem Z_(h:Sd<|(x==y)=t):eqS (.p<|.str x) (.p<|.str y) H= .ok (.p<|.bool t) H:=by unfold Sd at h;subst h;rfl
theorem VL(h:Sd<|(x==y)=t):eqS (.p<|.bytes x) (.p<|.bytes y) H= .ok (.p<|.bool t) H:=by unfold Sd at h;subst h;rfl
theorem h_(h:Sd<|x.length+y.length≤1000000):addS (.p<|.str x) (.p<|.str y) H= .ok (.p<|.str<|x++y) H:=aw h
theorem uX(h:Sd<|x.length+y.length≤1000000):addS (.p<|.bytes x) (.p<|.bytes y) H= .ok (.p<|.bytes<|x++y) H:=aw h
theorem DX(h:Sd<|x.length+y.length≤1000000∧x≠ []∧y≠ []):addS (.p<|.tup x) (.p<|.tup y) H= .ok (.p<|.tup<|x++y) H:=aw h
theorem DY(h:Sd<|x.length+y.length≤1000000):addS (.p<|.list x) (.p<|.list y) H= .ok (.p<|.list<|x++y) H:=aw h
theorem yA(h:Sd<|x.length≤1000000):ce [.p<|.bytes x] H= .ok (.p<|.int x.length) H:=aw h
theorem N8(h:Sd<|x.length≤1000000):ce [.p<|.tup x] H= .ok (.p<|.int x.length) H:=aw h
theorem DW(h:Sd<|x.length≤1000000):ce [.p<|.list x] H= .ok (.p<|.int x.length) H:=aw h
theorem FG(h:Sd<|0≤a∧a≤1114111):e7 [.p<|.int a] H= .ok (.p<|.str [a.toNat]) H:=aw h
theorem VJ:oH [.p<|.str [c]] H= .ok (.p<|.int c) H:=O
theorem sc(h:Sd<|H[k]? =z (.list e))(g:Sd<|e.length≤1000000)(c:fK (H.set k<|.list<|e++ [p]) f):fh [.lbl k, .p p] H= .ok (.p .none) f:=by
 unfold fK at c;subst c
 show (H[k]?.bind qm).elim R.err _=_
 rw[show H[k]? =_ from h]
 exact aw g
end
end
section
noncomputable def bd:Y J→J→ak
 | [],_=>N
 |a::r,x=>xor (decide (a≤x))<|bd r x
abbrev bY(b:Y J):Prop:=b.Pairwise (· < ·)
theorem x_(h: ∀a∈b,x<a):bd b x=N:=by
 induction b with
 |nil=>rfl
 |cons a r i=>unfold bd;rw[i λc f=>h c<|.tail _ f,bu<|n7.mpr<|h a<|.head _];rfl
theorem pK(a b:Y J)(x:J):bd (a++b) x=xor (bd a x) (bd b x):=by
 induction a with
 |nil=>simp[bd]
 |cons c r i=>simp only[xe,bd,i,Bool.xor_assoc]
theorem Lz: ∀{b:Y Int},bY a→bY b→(∀x,bd a x=bd b x)→a=b:=by
 have first: ∀{c:Int} {r b:Y Int},bY (c::r)→(∀k∈b,c<k)→bd b c=bd (c::r) c→bR:=by
  intro c r b h g f
  rw[x_ g]at f
  unfold bd at f
  rw[x_ (iB.mp h).1,bx<|Int.le_refl c]at f
  cases f
 induction a with
 |nil=>
  intro b _ g f
  cases b with
  |nil=>rfl
  |cons c r=>exact(first g (b:= []) (λk G=>nomatch G) (f c)).elim
 |cons c r l=>
  intro b i g f
  cases b with
  |nil=>exact(first i (b:= []) (λk G=>nomatch G) (f c).symm).elim
  |cons k s=>
   have j:=iB.mp i
   have G:=iB.mp g
   have hcd':c=k:=by
    rcases Int.lt_trichotomy c k with h|h|h
    ·refine(first i (b:=k::s) (λe f=> ?_) (f c).symm).elim
     cases f with
     |head=>exact h
     |tail _ f=>exact Int.lt_trans h<|G.1 e f
    ·exact h
    ·refine(first g (b:=c::r) (λe f=> ?_) (f k)).elim
     cases f with
     |head=>exact h
     |tail _ f=>exact Int.lt_trans h<|j.1 e f
   subst hcd'
   rw[l j.2 G.2 λx=> ?_]
   have:=f x
   unfold bd at this
   cases h:decide (c≤x)<;>rw[h]at this<;>simpa using this
noncomputable def cnt:Y J→J→M
 | [],_=>0
 |a::r,x=>if a≤x then cnt r x+1 else 0
theorem OO(b:Y J)(x:J):cnt b x≤b.length:=by
 induction b with
 |nil=>exact bo _
 |cons a r i=>unfold cnt;split<;>simp;exact z7 i
theorem Mn: ∀{i:M} {c:J},bY b→b[i]? =z c→(c≤x↔i<cnt b x):=by
 induction b with
 |nil=>intro i c _ h;simp at h
 |cons a r k=>
  intro i c j h
  have g:=iB.mp j
  cases i with
  |zero=>
   simp only[List.getElem?_cons_zero,Option.some.injEq]at h
   subst h
   unfold cnt
   split
   ·rename_i q;exact⟨λ_=>Nat.succ_pos _,λ_=>q⟩
   ·rename_i q;exact⟨λe=>absurd e q,λe=>absurd e<|rj _⟩
  |succ i=>
   rw[List.getElem?_cons_succ]at h
   have f:=g.1 c<|dG h
   unfold cnt
   split
   ·rw[k g.2 h];exact Uc
   ·rename_i q;exact⟨λe=>by exact Ub f q e,λe=>absurd e<|Nat.not_lt_zero _⟩
theorem Mm(e:bY b)(x:J):bd b x=decide (cnt b x%2=1):=by
 induction b with
 |nil=>rfl
 |cons a r i=>
  have g:=iB.mp e
  unfold bd cnt
  by_cases q:a≤x
  ·rw[i g.2,aw q,bx q]
   rcases AX (cnt r x)with h|h<;>simp[Nat.add_mod,h]
  ·rw[az q,bu q,x_ λc f=>by have:=g.1 c f;exact Ua q this];rfl
end
section
theorem ul(H:Y af): ∀n,reach H n []= []
 |0=>rfl
 |n+1=>ul H n
theorem oD(b:Sd<|vs.flatMap lblsV= [])(e:Sd<|cZ [] vs=z vs)(h:f vs []= .ok (.p v) []):aU f vs H= .ok (.p v) H:=
 jr (k:= []) (by unfold Sd at*;rw[b];exact ul H 4) O e O h O (A7 H)
theorem Xt(h:f vs []= .ok (.p v) []):aZ f vs []= .ok (.p v) []:=gL h O
theorem fj(b:Sd<|vs.flatMap lblsV= [])(e:Sd<|cZ [] vs=z vs)(h:f vs []= .ok (.p v) []):aU (aZ f) vs H= .ok (.p v) H:=oD b e<|Xt h
theorem pT{t:aj→Y af→R ak}{b:aj→Y af→R Fl}{a:aj→Y af→Prop}(I:Nat→aj→Y af→Prop)
  (step: ∀n l H,I n l H→(∃x,t l H= .ok N x∧a l x)∨ ∃x c f,t l H= .ok Q x∧b l x= .ok (.next c) f∧ ∃p,p<n∧I p c f):
  ∀(k n:Nat) (l:aj) (H:Y af),I n l H→n<k→ ∃c f,dS t b k l H= .ok (.next c) f∧a c f:=by
 intro k
 induction k with
 |zero=>intro n l H _ h;exact absurd h<|Nat.not_lt_zero _
 |succ k u=>
  intro n l H r s
  rcases step n l H r with⟨x,e,q⟩|⟨x,c,f,i,j,p,U,g⟩
  ·exact⟨l,x,by show R.bind (t l H) _=_;rw[e];rfl,q⟩
  ·obtain ⟨v,m,o,q⟩:=u p c f g (by exact T_ s U)
   exact⟨v,m,by show R.bind (t l H) _=_;rw[i];show R.bind (b l x) _=_;rw[j];exact o,q⟩
theorem GF(e:Y P)(I:M→aj→Y af→Prop)(j: ∀H i,fv H i C=z e[i]?)
  (step: ∀i p l H,e[i]? =z p→I i l H→ ∃a c m,t p l=z a∧o a H= .ok (.next c) m∧I (i+1) c m):
  ∀(k i:M) (l:aj) (H:Y af),I i l H→i≤e.length→e.length<k+i→ ∃b f,lq C t o k i l H= .ok (.next b) f∧I e.length b f:=by
 intro k
 induction k with
 |zero=>intro i l H _ w x;exact absurd x (by exact zq228 w)
 |succ k B=>
  intro i l H n y A
  by_cases h:i<e.length
  ·obtain ⟨G,U,m,s,u,g⟩:=step i e[i] l H (de h) n
   obtain ⟨l3,r,v,q⟩:=B (i+1) U m g h (by exact vf A)
   refine⟨l3,r,?_,q⟩
   show (fv H i C).elim R.err _=_
   rw[j,de h]
   show (t e[i] l).elim R.err _=_
   rw[s]
   show R.bind (o G H) _=_
   rw[u];exact v
  ·obtain rfl:i=e.length:=by exact vg y h
   refine⟨l,H,?_,n⟩
   show (fv H e.length C).elim R.err _=_
   rw[j,n4<|bo _];rfl
theorem FM(b:m l H= .ok C x)(e:Sd<|(C.split&& !t)=N)(a:lq C o q f 0 l x=r):fH t m o q f l H=r:=by
 unfold fH;rw[b]
 exact(aw e).trans a
theorem l8(c:Y P)(a:aj→Prop)(q:P→ak)(e:P→P)(H:Y af)(s: ∀i,fv H i C=z c[i]?)
  (step: ∀p∈c,∀l,a l→ ∃f,o p l=z f∧a f∧t f H= .ok (q p) H∧(q p=true→m f H= .ok (.p<|e p) H)):
  ∀(k i:M) (l:aj) (b:Y P),a l→i≤c.length→c.length<k+i→b.length+(c.length-i)≤1000000→ju C o t m k i l H b= .ok (b++((c.drop i).filter q).map e) H:=by
 intro k
 induction k with
 |zero=>intro i l b _ y A;exact absurd A (by exact zq228 y)
 |succ k u=>
  intro i l b B G I n
  by_cases h:i<c.length
  ·obtain ⟨g,v,j,w,x⟩:=step c[i] (List.getElem_mem h) l B
   rw[w_ h]
   show (fv H i C).elim R.err _=_
   rw[s,de h]
   show (o c[i] l).elim R.err _=_
   rw[v]
   show R.bind (R.noexc<|t g H) _=_
   rw[w]
   show (bif q c[i]then _ else _)=_
   cases r:q c[i]with
   |true=>
    show R.bind (R.noexc<|m g H) _=_
    rw[x r]
    refine(aw<|T9 n).trans ?_
    show ju C o t m k (i+1) g H (b++ [e c[i]])=_
    rw[u (i+1) g _ j h (vf I) (by rw[bE];exact T8 n h),List.filter_cons_of_pos r,ee,cz];rfl
   |false=>
    show ju C o t m k (i+1) g H b=_
    rw[u (i+1) g _ j h (vf I)<|T7 n,List.filter_cons_of_neg<|by rw[r];exact jl]
  ·obtain rfl:i=c.length:=by exact vg G h
   show (fv H c.length C).elim R.err _=_
   rw[s,n4<|bo _,List.drop_length,List.filter_nil,List.map_nil,ft];rfl
theorem jZ(b:m l H= .ok C x)(h:Sd<|(C.split&& !i)=N)(g:ju C o t e f 0 (im B c l) x []= .ok p a):
  bW B c i m o t e f l H= .ok (.p<|.list p) a:=by
 unfold bW;rw[b]
 refine(aw h).trans ?_
 rw[g];rfl
theorem FH(H:Y af)(i:M):fv H i (.list<|.p<|.list c)=z c[i]? :=O
theorem kj(h:m l H= .ok v x)(e:Sd<|lf v x=z C):bT m l H= .ok C x:=by
 unfold bT;rw[h]
 show (lf v x).elim R.err _=_
 rw[show lf v x=z C from e];rfl
theorem yJ(b:a l H= .ok vs x)(e:m vs x=r):gW m a l H=r:=by unfold gW;rw[b];exact e
theorem ZX{c:Y P}{k:M}{p:P}{H:Y af}(I:k<1000000)(h:c[k]? =z p):mh (k:J)=Q∧tC (k:J) c H= .ok (.p p) H:=by
 refine⟨by unfold mh;rewrite [bx E9,bx<|T6 I];rfl,?_⟩
 have a:kz (k:J) c.length=z k:=by
  unfold kz
  rw[az<|kJ.mpr<|dA k,aw<|by rw[bx<|dA k,bx<|dQ.mpr (dH.mp h).1];rfl];rfl
 unfold tC
 rw[a]
 show (c[k]?).elim R.err _=_
 rw[h];rfl
theorem LY(i:J)(c:Y P)(H:Y af):aE (.p<|.list c) (.p<|.int i) H=if mh i=Q then tC i c H else .err:=O
theorem LZ(i:J)(b:Y M)(H:Y af):aE (.p<|.bytes b) (.p<|.int i) H=if mh i=Q then if 0≤i∧i<b.length∧b.length≤1000000 then b[i.toNat]?.elim .err λk=> .ok (.p<|.int k) H else .err else .err:=O
theorem vt{c:Y P}{k:M}{p:P}{H:Y af}(I:k<1000000)(h:c[k]? =z p):aE (.p<|.list c) (.p<|.int k) H= .ok (.p p) H:=by
 obtain ⟨b,e⟩:=ZX (H:=H) I h
 rw[LY,aw b];exact e
theorem qr{α β γ:Type}{f:β→d γ}{g:α→β}{h:α→γ}(e: ∀a,f (g a)=z (h a))(l:Y α):dJ f (l.map g)=z (l.map h):=by
 induction l with
 |nil=>rfl
 |cons a r i=>show (f<|g a).bind _=_;rw[e];show (dJ f<|r.map g).bind _=_;rw[i];rfl
end
open Lean in
local macro_rules | `(tactic| trivial) => do
  let f (s : String) := (s.splitOn " ").toArray.map fun n => mkIdent (Name.mkSimple n)
  let a := f "fx a8 kE ZG N4 zm VI Z5"
  let b := f "bA bQ nS qh c9 dq sE br sF cO aI bH iR O1 nB qab We qac qaa qaf NV N5 Z1 Z3 Z0 Xc DQ Ct nn Z7 zi aH Wc qad Gv Gu qae md Gs Z8 Z_ VL VK Z6 Z9 yA"
  let c := f "fJ fb"
  `(tactic| repeat' first
  | (with_reducible first | assumption $[| exact $a]* $[| apply $b]* $[| (apply $c; exact sd (by assumption))]* | exact sd (by assumption))
  | (with_reducible apply sdN; first | (simp only [List.length_cons, List.length_nil, List.length_append, Nat.reduceAdd]; first | done | rfl) | rfl)
  | (with_reducible apply wj; first | (dsimp only [kX, List.set, List.reverse, List.reverseAux, List.map, List.cons_append, List.nil_append]; first | done | rfl) | rfl)
  | (first $[| (with_reducible apply $c; exact sd rfl)]*)
  | exact sd rfl | exact sd (Nat.le_of_ble_eq_true rfl) | exact sd ⟨rfl, Nat.le_of_ble_eq_true rfl⟩ | exact sd (by decide))
section
noncomputable abbrev iL(b:Y J):P:= .list<|b.map .int
theorem Vu(B:bY b)(i:b.length<900)(H:Y af):w5 [.p<|iL b, .p<|.int x] H= .ok (.p<|.int<|(cnt b x:J)-1) H:=by
 refine fj (sd O) (sd O)<|b8 [z<|.p<|iL b,z<|.p<|.int x,D,D,D] (sd O) O ?_
 unfold m5
 have y:=OO b x
 obtain ⟨s,H',hw,C,l2,U⟩:=pT (t:=aq<|ag ltS (aa 2)<|aa 3) (b:=ai (aB 4<|ag fdivS (ag addS (aa 2)<|aa 3)<|kI 2)<|ai (ax (aq<|ag leS (ag aE (aa 0)<|aa 4)<|aa 1) (ai (aB 2<|ag addS (aa 4)<|kI 1) nilM)<|ai (aB 3<|aa 4) nilM) nilM)
  (a:=λl H=>H= []∧ ∃a m,l= [z<|.p<|iL b,z<|.p<|.int x,z<|.p<|.int (cnt b x:J),a,m])
  (λn l H=>H= []∧ ∃(lo a:M) (m:d V),l= [z<|.p<|iL b,z<|.p<|.int x,z<|.p<|.int lo,z<|.p<|.int a,m]∧n=a-lo∧lo≤cnt b x∧cnt b x≤a∧a≤b.length)
  (λn l H w=>by
   obtain ⟨u,lo,a,m,v,k,o,p,q⟩:=w
   subst u v
   by_cases h:lo<a
   ·right
    have G:decide ((lo:J)<(a:J))=Q:=bx (by exact E8 h)
    have j:((lo:J)+(a:J))/2=(((lo+a)/2:M):J):=by exact T5
    have e:(lo+a)/2<b.length:=by exact T4 q h
    have r:b[(lo+a)/2]? =z b[(lo+a)/2]:=de e
    have A:aE (.p<|iL b) (.p<|.int<|((lo:J)+(a:J))/2) []= .ok (.p<|.int b[(lo+a)/2]) []:=by
     rw[j];exact vt (by exact T3 i e) (by rw[eK,r];rfl)
    have I:=Mn (x:=x) B r
    by_cases f:b[(lo+a)/2]≤x
    ·have g:decide (b[(lo+a)/2]≤x)=Q:=bx f
     refine⟨[],[z<|.p<|iL b,z<|.p<|.int x,z<|.p<|.int<|((lo:J)+(a:J))/2+1,z<|.p<|.int a,z<|.p<|.int<|((lo:J)+(a:J))/2],[],?_,?_,a-((lo+a)/2+1),by exact T2 k h,O,(lo+a)/2+1,a,z<|.p<|.int<|((lo:J)+(a:J))/2,?_,O,by have:=I.mp f;exact T1 this,p,q⟩
     ·trivial
     ·trivial
     ·rw[j];rfl
    ·have g:decide (b[(lo+a)/2]≤x)=N:=bu f
     refine⟨[],[z<|.p<|iL b,z<|.p<|.int x,z<|.p<|.int lo,z<|.p<|.int<|((lo:J)+(a:J))/2,z<|.p<|.int<|((lo:J)+(a:J))/2],[],?_,?_,(lo+a)/2-lo,by exact T0 k h,O,lo,(lo+a)/2,z<|.p<|.int<|((lo:J)+(a:J))/2,?_,O,o,by have:=mt I.mpr f;exact TZ this,by exact TY e⟩
     ·trivial
     ·trivial
     ·rw[j]
   ·left
    have G:decide ((lo:J)<(a:J))=N:=bu (by exact E7 h)
    obtain rfl:lo=cnt b x:=by exact TX o p h
    refine⟨[],?_,O,_,_,O⟩
    trivial)
  1000 b.length [z<|.p<|iL b,z<|.p<|.int x,z<|.p<|.int 0,z<|.p<|.int b.length,D] [] ⟨O,0,b.length,D,O,O,dc _,y,bo _⟩ (by exact ve i)
 subst C
 obtain ⟨m,rfl⟩:=U
 have hlen0':ce [.p<|iL b] []= .ok (.p<|.int b.length) []:=by
  have:=DW (H:= []) (x:=b.map .int) (sd<|by simp;exact iP i)
  simpa using this
 trivial
end
section
inductive dg where|U|B|W
noncomputable def fR:dg→Y M
 | .U=> [117,110,105,111,110]
 | .B=> [98,111,116,104]
 | .W=> [119,105,116,104,111,117,116]
noncomputable def wf:dg→ak→ak→ak
 | .U,a,b=>a||b
 | .B,a,b=>a&&b
 | .W,a,b=>a&& !b
theorem Vo(y:dg)(a b:ak)(H:Y af):w8 [.p<|.str<|fR y, .p<|.bool a, .p<|.bool b] H= .ok (.p<|.bool<|wf y a b) H:=
 fj (sd O) (sd O) (by cases y<;>cases a<;>cases b<;>rfl)
theorem CH(h: ∀a∈b,a≤x):bd b x=decide (b.length%2=1):=by
 induction b with
 |nil=>rfl
 |cons a r i=>
  unfold bd
  rw[i λc f=>h c<|.tail _ f,bx<|h a<|.head _,fX]
  rcases AX r.length with q|q<;>simp[Nat.add_mod,q]
noncomputable def tq:aj→Y af→R ak:=cy (aq<|ag ltS (aa 4)<|ao ce<|ae (aa 0) nilA)<|cy (aq<|ag ltS (aa 5)<|ao ce<|ae (aa 1) nilA)<|kT N
noncomputable def tz:aj→Y af→R Fl:=ax (cy (aq<|ag geS (aa 5)<|ao ce<|ae (aa 1) nilA)<|cy (a_ (aq<|ag ltS (aa 4)<|ao ce<|ae (aa 0) nilA)<|a_ (aq<|ag leS (ag aE (aa 0)<|aa 4)<|ag aE (aa 1)<|aa 5)<|kT Q)<|kT N) (ai (aB 7<|ag aE (aa 0)<|aa 4) nilM)<|ai (aB 7<|ag aE (aa 1)<|aa 5) nilM
noncomputable def tx:aj→Y af→R Fl:=ax (a_ (aq<|ag ltS (aa 4)<|ao ce<|ae (aa 0) nilA)<|a_ (aq<|ag eqS (ag aE (aa 0)<|aa 4)<|aa 7)<|kT Q) (ai (aB 4<|ag iS (aa 4)<|kI 1) nilM) nilM
noncomputable def tw:aj→Y af→R Fl:=ax (a_ (aq<|ag ltS (aa 5)<|ao ce<|ae (aa 1) nilA)<|a_ (aq<|ag eqS (ag aE (aa 1)<|aa 5)<|aa 7)<|kT Q) (ai (aB 5<|ag iS (aa 5)<|kI 1) nilM) nilM
noncomputable def tv:aj→Y af→R Fl:=aB 8<|ao w8<|ae (aa 2)<|ae (ag eqS (ag modS (aa 4)<|kI 2)<|kI 1)<|ae (ag eqS (ag modS (aa 5)<|kI 2)<|kI 1) nilA
noncomputable def tu:aj→Y af→R Fl:=ax (aq<|ag neS (aa 8)<|aa 6) (ai (a7<|cU f_ fh (aa 3)<|ae (aa 7) nilA)<|ai (aB 6<|aa 8) nilM) nilM
theorem VO:m9=ai (kh [3,4,5,6]<|ae (listM nilA)<|ae (kI 0)<|ae (kI 0)<|ae (kM<|.bool N) nilA) (ai (dS tq (ai tz<|ai tx<|ai tw<|ai tv<|ai tu nilM) 1000)<|ai (aK<|aa 3) nilM):=O
noncomputable def mB(a b:Y J)(i j:M):J:=match a[i]?,b[j]? with
 |some x,some y=>if x≤y then x else y
 |some x,none=>x
 |none,some y=>y
 |none,none=>0
noncomputable def stp(a:Y J)(i:M)(m:J):M:=match a[i]? with
 |some x=>if x==m then i+1 else i
 |none=>i
section
variable{a b c:Y J}{i j:M}{y:dg}{t:ak}{o7 o8:d V}
noncomputable abbrev L9(a b:Y J)(y:dg)(i j:M)(t:ak)(o7 o8:d V):aj:= [z<|.p<|iL a,z<|.p<|iL b,z<|.p<|.str<|fR y,z<|.lbl 0,z<|.p<|.int i,z<|.p<|.int j,z<|.p<|.bool t,o7,o8]
theorem me(h:a.length<900):ce [.p<|iL a] H= .ok (.p<|.int a.length) H:=by
 have:=DW (H:=H) (x:=a.map .int) (sd<|by rw[bc];exact iP h)
 rwa [bc]at this
theorem l6{a:Y J}{k:M}{x:J}{H:Y af}(e:a.length<900)(h:a[k]? =z x):aE (.p<|iL a) (.p<|.int k) H= .ok (.p<|.int x) H:=
 vt (Nat.lt_trans (dH.mp h).1<|by exact TW e) (by rw[eK,h];rfl)
theorem rz{a:Y J}{k:M}{x:J}(h:a[k]? =z x):decide ((k:J)<(a.length:J))=Q:=bx<|dQ.mpr (dH.mp h).1
theorem rx{a:Y J}{k:M}(h:a[k]? =D):decide ((k:J)<(a.length:J))=N:=bu<|kJ.mpr<|dj.mpr<|n3.mp h
theorem BG{a:Y J}{k:M}{x:J}(h:a[k]? =z x):decide ((a.length:J)≤(k:J))=N:=bu<|n7.mpr<|dQ.mpr (dH.mp h).1
theorem I8{a:Y J}{k:M}(h:a[k]? =D):decide ((a.length:J)≤(k:J))=Q:=bx<|dj.mpr<|n3.mp h
theorem OZ(f:a.length<900)(g:b.length<900){H:Y af}:tq (L9 a b y i j t o7 o8) H= .ok (a[i]?.isSome||b[j]?.isSome) H:=by
 have k:=me (H:=H) f
 have l:=me (H:=H) g
 unfold tq
 cases h:a[i]? with
 |some x=>have q:=rz h;trivial
 |none=>
  have q:=rx h
  cases e:b[j]? with
  |some x=>have q:=rz e;trivial
  |none=>have q:=rx e;trivial
theorem O8(m:a.length<900)(l:b.length<900){H:Y af}(h:(a[i]?.isSome||b[j]?.isSome)=Q):tz (L9 a b y i j t o7 o8) H= .ok (.next<|L9 a b y i j t (some<|.p<|.int<|mB a b i j) o8) H:=by
 have p:=me (H:=H) m
 have r:=me (H:=H) l
 unfold tz mB
 cases g:a[i]? with
 |some x=>
  have q:=rz g
  have s:=l6 (H:=H) m g
  cases f:b[j]? with
  |some e=>
   have q:=BG f
   have n:=l6 (H:=H) l f
   show _=R.ok (Fl.next<|L9 a b y i j t (some<|.p<|.int<|if x≤e then x else e) o8) H
   by_cases k:x≤e
   ·have o:=bx k
    rw[aw k];trivial
   ·have o:=bu k
    rw[az k];trivial
  |none=>have q:=I8 f;trivial
 |none=>
  have q:=rx g
  cases f:b[j]? with
  |some e=>
   have q:=BG f
   have n:=l6 (H:=H) l f
   trivial
  |none=>rw[g,f]at h;cases h
theorem O7(e:a.length<900){H:Y af}{m:J}:tx (L9 a b y i j t (some<|.p<|.int m) o8) H= .ok (.next<|L9 a b y (stp a i m) j t (some<|.p<|.int m) o8) H:=by
 have f:=me (H:=H) e
 unfold tx stp
 cases h:a[i]? with
 |some x=>
  have q:=rz h
  have g:=l6 (H:=H) e h
  show _=R.ok (Fl.next<|L9 a b y (if(x==m)=Q then i+1 else i) j t (some<|.p<|.int m) o8) H
  cases k:x==m
  ·rw[az<|by decide];trivial
  ·rw[aw O];trivial
 |none=>have q:=rx h;trivial
theorem O6(e:b.length<900){H:Y af}{m:J}:tw (L9 a b y i j t (some<|.p<|.int m) o8) H= .ok (.next<|L9 a b y i (stp b j m) t (some<|.p<|.int m) o8) H:=by
 have f:=me (H:=H) e
 unfold tw stp
 cases h:b[j]? with
 |some x=>
  have q:=rz h
  have g:=l6 (H:=H) e h
  show _=R.ok (Fl.next<|L9 a b y i (if(x==m)=Q then j+1 else j) t (some<|.p<|.int m) o8) H
  cases k:x==m
  ·rw[az<|by decide];trivial
  ·rw[aw O];trivial
 |none=>have q:=rx h;trivial
noncomputable def cp(n:M):ak:=(n:J)%2==1
theorem O5:tv (L9 a b y i j t o7 o8) H= .ok (.next<|L9 a b y i j t o7<|z<|.p<|.bool<|wf y (cp i)<|cp j) H:=by
 have e:=Vo y (cp i) (cp j) H
 unfold cp at e
 unfold tv cp
 trivial
theorem O4(f:c.length<2000):tu (L9 a b y i j t (z<|.p<|.int m)<|z<|.p<|.bool u) [.list<|c.map .int]= .ok (.next<|L9 a b y i j u (z<|.p<|.int m)<|z<|.p<|.bool u) [.list<|(if u=t then c else c++ [m]).map .int]:=by
 unfold tu
 cases h:u==t
 ·have e:(!(u==t))=Q:=by rw[h];rfl
  have g:fh [.lbl 0, .p<|.int m] [.list<|c.map .int]= .ok (.p .none) [.list<|(c++ [m]).map .int]:=sc (e:=c.map .int) (sd O) (sd<|by rw[bc];exact TV f) (by rw[fN];exact wj O)
  rw[az<|by simpa using h]
  trivial
 ·have e:(!(u==t))=N:=by rw[h];rfl
  obtain rfl:=eq_of_beq h
  rw[aw O]
  trivial
end
end
section
section
variable{a b c:Y J}{i j:M}{y:dg}
structure MQ(a b:Y J)(y:dg)(i j:M)(c:Y J):Prop where
 hi:i≤a.length
 hj:j≤b.length
 inc:bY c
 pc: ∀x,bd c x=wf y (bd (a.take i) x) (bd (b.take j) x)
 ca: ∀z∈c,∀w∈a.drop i,z<w
 cb: ∀z∈c,∀w∈b.drop j,z<w
 ab: ∀z∈a.take i,∀w∈b.drop j,z<w
 ba: ∀z∈b.take j,∀w∈a.drop i,z<w
 od:cp c.length=wf y (cp i) (cp j)
theorem uW(n:Nat):cp n=decide (n%2=1):=by
 unfold cp
 rcases Nat.mod_two_eq_zero_or_one n with h|h
 ·rw[show ((n:J)%2)=0 by exact TU h,h];rfl
 ·rw[show ((n:J)%2)=1 by exact TS h,h];rfl
theorem Ft:wf y N N=N:=by cases y<;>rfl
theorem NS(h:a[i]? =z x):stp a i m=if x=m then i+1 else i:=by
 unfold stp;rw[h]
 show (if(x==m)=Q then i+1 else i)=_
 by_cases k:x=m
 ·rw[aw<|dM.mpr k,aw k]
 ·rw[az<|mt dM.mp k,az k]
theorem J_(h:a[i]? =D):stp a i m=i:=by unfold stp;rw[h]
theorem CG(m x:J):bd [m] x=decide (m≤x):=Bool.xor_false _
theorem BX(s:bY a)(p:i≤a.length)(r: ∀w∈a.drop i,m≤w)(f: ∀e∈a.take i,e<m):
  stp a i m≤a.length∧(∀w∈a.drop (stp a i m),m<w)∧(∀e∈a.take (stp a i m),e≤m)∧(∀x,x<m→bd (a.take<|stp a i m) x=bd (a.take i) x)∧i≤stp a i m∧(a[i]? =some m→i<stp a i m):=by
 cases h:a[i]? with
 |none=>
  rw[J_ h]
  have n:=n3.mp h
  refine⟨p,λw g=> ?_,λe l=>pG<|f e l,λ_ _=>rfl,bo _,λq=>nomatch q⟩
  rw[List.drop_eq_nil_of_le n]at g;cases g
 |some x=>
  rw[NS h]
  obtain ⟨n,t⟩:=dH.mp h
  have G:a.drop i=x::a.drop (i+1):=by rw[w_ n,t]
  have o:=s.sublist<|List.drop_sublist i a
  rw[G]at o r
  have B:a.take (i+1)=a.take i++ [x]:=by rw[List.take_succ,h];rfl
  have hmx':=r x<|.head _
  by_cases k:x=m
  ·rw[aw k]
   subst k
   refine⟨n,λw g=>(iB.mp o).1 w g,λe l=> ?_,λe l=> ?_,eR _,λ_=>fF _⟩
   ·rw[B]at l
    rcases gw.mp l with q|q
    ·exact pG (f e q)
    ·exact iD (bz.mp q)
   ·rw[B,pK,CG,bu (n7.mpr l)]
    exact Bool.xor_false _
  ·rw[az k]
   refine⟨p,λw g=> ?_,λe l=>pG (f e l),λ_ _=>rfl,bo _,λq=>absurd (aY q) k⟩
   rw[G]at g
   cases g with
   |head=>exact Int.lt_iff_le_and_ne.mpr ⟨hmx',λq=>k q.symm⟩
   |tail _ g=>exact ub hmx'<|(iB.mp o).1 w g
theorem BV(h:i≤a.length)(f: ∀e∈a.take i,e≤x):bd (a.take i) x=cp i:=by
 rw[CH f,mT,kC h,uW]
theorem MQ.step(A:bY a)(v:bY b)(f:MQ a b y i j c)(h:(a[i]?.isSome||b[j]?.isSome)=Q):MQ a b y (stp a i<|mB a b i j) (stp b j<|mB a b i j) (if wf y (cp<|stp a i<|mB a b i j) (cp<|stp b j<|mB a b i j)=cp c.length then c else c++ [mB a b i j])∧
  i+j<stp a i (mB a b i j)+stp b j (mB a b i j):=by
 have head: ∀{a:List Int} {i:Nat} {x:Int},bY a→a[i]? =some x→x∈a.drop i∧ ∀w∈a.drop i,x≤w:=by
  intro a i x hs h
  obtain ⟨hl,hx⟩:=List.getElem?_eq_some_iff.mp h
  have hd:a.drop i=x::a.drop (i+1):=by rw[List.drop_eq_getElem_cons hl,hx]
  have s:=hs.sublist<|List.drop_sublist i a
  rw[hd]at s⊢
  refine⟨.head _,λw l=> ?_⟩
  cases l with
  |head=>exact Int.le_refl _
  |tail _ l=>exact Int.le_of_lt<|(List.pairwise_cons.mp s).1 w l
 have p: ∀{a:List Int} {i:Nat} {x:Int},a[i]? =none→ ∀w∈a.drop i,x≤w:=by
  intro a i x h w l
  rw[List.drop_eq_nil_of_le<|List.getElem?_eq_none_iff.mp h]at l;cases l
 have I:(∀w∈a.drop i,mB a b i j≤w)∧(∀w∈b.drop j,mB a b i j≤w)∧(a[i]? =some (mB a b i j)∨b[j]? =some (mB a b i j)):=by
  unfold mB
  cases h1:a[i]? with
  |some x=>
   obtain ⟨_,p1⟩:=head A h1
   cases B:b[j]? with
   |some e=>
    obtain ⟨_,p2⟩:=head v B
    by_cases k:x≤e
    ·show (∀w∈a.drop i,(if x≤e then x else e)≤w)∧(∀w∈b.drop j,(if x≤e then x else e)≤w)∧(some x=some (if x≤e then x else e)∨_)
     rw[aw k];exact⟨p1,λw l=>Int.le_trans k<|p2 w l, .inl O⟩
    ·show (∀w∈a.drop i,(if x≤e then x else e)≤w)∧(∀w∈b.drop j,(if x≤e then x else e)≤w)∧(_∨some e=some (if x≤e then x else e))
     rw[az k];exact⟨λw l=>Int.le_trans (Int.le_of_lt<|Int.not_le.mp k)<|p1 w l,p2, .inr O⟩
   |none=>exact⟨p1,p B, .inl O⟩
  |none=>
   cases B:b[j]? with
   |some e=>exact⟨p h1,(head v B).2, .inr O⟩
   |none=>rw[h1,B]at h;cases h
 generalize mB a b i j=m at I⊢
 obtain ⟨k1,k2,k3⟩:=I
 have U: ∀e∈a.take i,e<m:=by
  intro e g
  rcases k3 with q|q
  ·have s:=A
   rw[←List.take_append_drop i a]at s
   exact(List.pairwise_append.mp s).2.2 e g m (head A q).1
  ·exact f.ab e g m (head v q).1
 have lowb': ∀e∈b.take j,e<m:=by
  intro e g
  rcases k3 with q|q
  ·exact f.ba e g m (head A q).1
  ·have s:=v
   rw[←List.take_append_drop j b]at s
   exact(List.pairwise_append.mp s).2.2 e g m (head v q).1
 have n: ∀e∈c,e<m:=by
  intro e g
  rcases k3 with q|q
  ·exact f.ca e g m (head A q).1
  ·exact f.cb e g m (head v q).1
 obtain ⟨a1,a2,a3,a4,a5,a6⟩:=BX A f.hi k1 U
 obtain ⟨b1,b2,b3,b4,b5,b6⟩:=BX v f.hj k2 lowb'
 refine⟨?_,by rcases k3 with q|q;exact Nat.add_lt_add_of_lt_of_le (a6 q) b5;exact Nat.add_lt_add_of_le_of_lt a5 (b6 q)⟩
 generalize stp a i m=t at a1 a2 a3 a4⊢
 generalize stp b j m=u at b1 b2 b3 b4⊢
 have C: ∀e∈a.take t,∀w∈b.drop u,e<w:=λe g w l=>Int.lt_of_le_of_lt (a3 e g)<|b2 w l
 have G: ∀e∈b.take u,∀w∈a.drop t,e<w:=λe g w l=>Int.lt_of_le_of_lt (b3 e g)<|a2 w l
 have low: ∀x,x<m→bd c x=wf y (bd (a.take t) x) (bd (b.take u) x):=λx hx=>by rw[a4 x hx,b4 x hx];exact f.pc x
 have high: ∀x,m≤x→wf y (bd (a.take t) x) (bd (b.take u) x)=wf y (cp t) (cp u):=λx hx=>by
  rw[BV a1 λe g=>Int.le_trans (a3 e g) hx,BV b1 λe g=>Int.le_trans (b3 e g) hx]
 have o: ∀x,m≤x→bd c x=cp c.length:=λx hx=>by rw[CH λe g=>Int.le_of_lt<|Int.lt_of_lt_of_le (n e g) hx,uW]
 by_cases q:wf y (cp t) (cp u)=cp c.length
 ·rw[aw q]
  refine⟨a1,b1,f.inc,λx=> ?_,λe g w l=>Int.lt_trans (n e g)<|a2 w l,λe g w l=>Int.lt_trans (n e g)<|b2 w l,C,G,q.symm⟩
  rcases Int.lt_or_le x m with hx|hx
  ·exact low x hx
  ·rw[high x hx,q];exact o x hx
 ·rw[az q]
  have hmem': ∀e∈c++ [m],e≤m:=λe g=>by
   rcases List.mem_append.mp g with r|r
   ·exact Int.le_of_lt (n e r)
   ·exact Int.le_of_eq (List.mem_singleton.mp r)
  have hod':cp (c++ [m]).length= !cp c.length:=by
   rw[uW,uW,List.length_append,List.length_singleton]
   rcases Nat.mod_two_eq_zero_or_one c.length with r|r<;>simp[Nat.add_mod,r]
  have H:wf y (cp t) (cp u)= !cp c.length:=by revert q;cases wf y (cp t) (cp u)<;>cases cp c.length<;>simp
  refine⟨a1,b1,List.pairwise_append.mpr ⟨f.inc,List.pairwise_singleton _ _,λe g w l=>by rw[List.mem_singleton.mp l];exact n e g⟩,λx=> ?_,λe g w l=>Int.lt_of_le_of_lt (hmem' e g)<|a2 w l,λe g w l=>Int.lt_of_le_of_lt (hmem' e g)<|b2 w l,C,G,hod'.trans H.symm⟩
  rw[pK,CG]
  rcases Int.lt_or_le x m with hx|hx
  ·rw[bu (Int.not_le.mpr hx),←low x hx];exact Bool.xor_false _
  ·rw[bx hx,high x hx,o x hx,H];cases cp c.length<;>rfl
end
theorem Fv(ha:bY a)(hb:bY b)(la:a.length<300)(lb:b.length<300)(H:Y af): ∃c,bY c∧(∀x,bd c x=wf y (bd a x) (bd b x))∧c.length≤a.length+b.length∧w9 [.p<|iL a, .p<|iL b, .p<|.str<|fR y] H= .ok (.p<|iL c) H:=by
 have l:a.length<900:=Nat.lt_trans la (by decide)
 have p:b.length<900:=Nat.lt_trans lb (by decide)
 obtain ⟨loc'',H',U,c,hS,hP,hL,hH,f,o,t,A⟩:=pT (t:=tq) (b:=ai tz<|ai tx<|ai tw<|ai tv<|ai tu nilM)
  (a:=λr H=> ∃c,bY c∧(∀x,bd c x=wf y (bd a x) (bd b x))∧c.length≤a.length+b.length∧H= [.list<|c.map .int]∧ ∃f o t,r=L9 a b y a.length b.length t f o)
  (λn r H=> ∃i j c f o,r=L9 a b y i j (cp c.length) f o∧H= [.list<|c.map .int]∧MQ a b y i j c∧n+(i+j)=a.length+b.length∧c.length≤i+j)
  (λn r H hJ=>by
   obtain ⟨i,j,c,f,o,e1,e2,e,G,B⟩:=hJ
   subst e1 e2
   have C:=OZ (y:=y) (i:=i) (j:=j) (t:=cp c.length) (o7:=f) (o8:=o) l p (H:= [.list<|c.map .int])
   cases k:(a[i]?.isSome||b[j]?.isSome)with
   |true=>
    rw[k]at C
    obtain ⟨w,g⟩:=e.step ha hb k
    have I:=O8 (y:=y) (t:=cp c.length) (o7:=f) (o8:=o) l p (H:= [.list<|c.map .int]) k
    generalize mB a b i j=m at I w g
    have f2:=O7 (b:=b) (y:=y) (i:=i) (j:=j) (t:=cp c.length) (o8:=o) (m:=m) l (H:= [.list<|c.map .int])
    have f3:=O6 (a:=a) (y:=y) (i:=stp a i m) (j:=j) (t:=cp c.length) (o8:=o) (m:=m) p (H:= [.list<|c.map .int])
    have f4:=O5 (a:=a) (b:=b) (y:=y) (i:=stp a i m) (j:=stp b j m) (t:=cp c.length) (o7:=some<|.p<|.int m) (o8:=o) (H:= [.list<|c.map .int])
    have f5:=O4 (a:=a) (b:=b) (y:=y) (i:=stp a i m) (j:=stp b j m) (t:=cp c.length) (c:=c) (m:=m) (u:=wf y (cp<|stp a i m)<|cp<|stp b j m) (by have:=e.hi;have:=e.hj;exact TR l p G B)
    refine .inr ⟨_,_,_,C,bA I<|bQ<|bA f2<|bQ<|bA f3<|bQ<|bA f4<|bQ<|bA f5<|bQ fx,n-(stp a i m+stp b j m-(i+j)),?_,stp a i m,stp b j m,_,some<|.p<|.int m,some<|.p<|.bool<|wf y (cp<|stp a i m)<|cp<|stp b j m,?_,O,w,?_,?_⟩
    ·have:=w.hi;have:=w.hj;exact TQ G g (by assumption) this
    ·rw[w.od]
    ·have:=w.hi;have:=w.hj;exact TP G g (by assumption) this
    ·split
     ·exact TO B g
     ·rw[bE,wR];exact TN B g
   |false=>
    rw[k]at C
    have hi:=e.hi
    have hj:=e.hj
    have i1:i=a.length:=by
     cases q:a[i]? with
     |none=>exact cW hi<|n3.mp q
     |some x=>rw[q]at k;cases k
    have j1:j=b.length:=by
     cases q:b[j]? with
     |none=>exact cW hj<|n3.mp q
     |some x=>rw[q]at k;simp at k
    subst i1 j1
    have pc:=e.pc
    rw[tW,tW]at pc
    exact .inl ⟨_,C,c,e.inc,pc,B,O,f,o,_,O⟩)
  1000 (a.length+b.length) (L9 a b y 0 0 false none none) [.list []] ⟨0,0,[],none,none,O,O,⟨dc _,dc _, .nil,λx=>Ft.symm,λ_ h=>(nomatch h),λ_ h=>(nomatch h),λ_ h=>(nomatch h),λ_ h=>(nomatch h),Ft.symm⟩,O,bo _⟩ (by exact TM la lb)
 subst A hH
 refine⟨c,hS,hP,hL,oD (sd O) (sd O)<|gL (v:= .lbl 0) (H1:= [.list<|c.map .int]) (b8 [some<|.p<|iL a,some<|.p<|iL b,some<|.p<|.str<|fR y,none,none,none,none,none,none] (sd O) O ?_) O⟩
 rw[VO]
 have U:dS tq (ai tz<|ai tx<|ai tw<|ai tv<|ai tu nilM) 1000 [some<|.p<|iL a,some<|.p<|iL b,some<|.p<|.str<|fR y,some<|.lbl 0,some<|.p<|.int 0,some<|.p<|.int 0,some<|.p<|.bool false,none,none] [.list []]= .ok (.next<|L9 a b y a.length b.length t f o) [.list<|c.map .int]:=U
 trivial
end
section
theorem ru(b:Y J):nv (b.map .int)=z b:=(qr (f:=j5) (g:=P.int) (h:=id) (λ_=>rfl) b).trans<|aR z<|pD b
theorem yi(a b:Y J):fZ (a.map .int) (b.map .int)=z (a==b):=by
 unfold fZ sK
 rw[ru,ru];rfl
theorem BA{α:Type}{c:M→M→ak}(f: ∀i j,c i j=Q→c j i=N)(C: ∀i j k,c j i=N→c k j=N→c k i=N)(l:Y α)(a:α):
  ((sord c l.length).map λi=>l.getD i a).Perm l∧ ∀b:α→α→Prop,(∀i j,i<l.length→j<l.length→c j i=N→b (l.getD i a) (l.getD j a))→((sord c l.length).map λi=>l.getD i a).Pairwise b:=by
 obtain ⟨n,q⟩:=rG f C l.length
 have e:(dO l.length).map (λi=>l.getD i a)=l:=by
  refine List.ext_getElem (by simp) λi r o=> ?_
  rw[List.getElem_map,List.getElem_range,gx,de o];rfl
 refine⟨by have:=n.map λi=>l.getD i a;rwa [e]at this,λb B=>rm.mpr ?_⟩
 have m: ∀i∈sord c l.length,i<l.length:=λi g=>jh.mp<|n.mem_iff.mp g
 exact q.imp_of_mem λg p h=>B _ _ (m _ g) (m _ p) h
noncomputable abbrev bO(r:J×J):P:= .tup [.int r.1, .int r.2]
theorem Vs(r:J×J)(H:Y af):w6 [.p<|bO r] H= .ok (.p<|.int r.1) H:=fj (sd O) (sd O) O
theorem LS(L:Y<|J×J):vq w6 (L.map bO)=z (L.map (·.1)):=qr (λr=>by unfold vU;rw[Vs];rfl) L
theorem Kf(L:Y<|J×J)(h:L.length<64)(H:Y af): ∃c:Y (J×J),c.Perm L∧c.Pairwise (λa b=>a.1≤b.1)∧kW w6 (.p<|.list<|L.map bO) H= .ok (.p<|.list<|c.map bO) H:=by
 obtain ⟨g,k⟩:=BA (pH (L.map (·.1))) (pN (L.map (·.1))) L (0,0)
 have f: ∀i,(L.map (·.1)).getD i 0=(L.getD i (0,0)).1:=λi=>by rw[gx,eK,gx];cases L[i]? <;>rfl
 refine⟨_,g,k _ λi j _ _ q=> ?_,?_⟩
 ·have:=kJ.mp (mL q)
  rwa [f,f]at this
 ·unfold kW
  show (vq w6<|L.map bO).elim R.err _=_
  rw[LS]
  refine(aw<|by rwa [bc]).trans ?_
  unfold lg
  rw[bc,eu]
  have l: ∀i∈sord (jp (L.map (·.1))) L.length,(L.map bO).getD i .none=(bO∘λi=>L.getD i (0,0)) i:=λi e=>by
   have e:=jh.mp ((rG (pH (L.map (·.1))) (pN (L.map (·.1))) L.length).1.mem_iff.mp e)
   show _=bO (L.getD i (0,0))
   rw[gx,gx,eK,de e];rfl
  rw[rn l]
theorem NX(n:M):kz (-1) (n+1)=z n:=by unfold kz;simp;exact TL
noncomputable def b7:aj→Y af→R Fl:=ai (ax (a_ (aq<|ag neS (aa 1)<|listF nilA)<|a_ (aq<|ag leS (aa 2)<|ag aE (aa 1)<|gJ<|kI 1)<|kT Q) (ai (gz (aa 1) (gJ<|kI 1)<|ao sH<|ae (ag aE (aa 1)<|gJ<|kI 1)<|ae (ag addS (aa 3)<|kI 1) nilA) nilM)<|ai (a7<|cU f_ uK (aa 1)<|ae (listF<|ae (aa 2)<|ae (ag addS (aa 3)<|kI 1) nilA) nilA) nilM) nilM
theorem VP:m7=ai (aB 1<|listM nilA) (ai (fH Q (bT<|aD (kW w6)<|bW ["pair"] [] N (bT<|aa 0) (bv 0) (aq<|ag leS (ag aE (aa 0)<|kI 0)<|ag aE (aa 0)<|kI 1) (aa 0) 1000) (kg [2,3]) b7 1000)<|ai (aK<|aa 1) nilM):=O
section
variable{o:d V}{f l:J}{C:af}
noncomputable abbrev L7(o:d V)(f l:J):aj:= [o,z<|.lbl 1,z<|.p<|.int f,z<|.p<|.int l]
theorem O9:b7 (L7 o f l) [C, .list []]= .ok (.next<|L7 o f l) [C, .list [.int f, .int<|l+1]]:=O
variable{pre:Y J}{s aB':J}
theorem LO(b:pre.length<900):aE (.lbl 1) (.p<|.int<|-1) [C, .list<|(pre++ [s,aB']).map .int]= .ok (.p<|.int aB') [C, .list<|(pre++ [s,aB']).map .int]:=by
 have a:kz (-1) ((pre++ [s,aB']).map P.int).length=z (pre.length+1):=by
  rw[bc,bE];exact NX _
 have h:((pre++ [s,aB']).map P.int)[pre.length+1]? =z (.int aB'):=by simp
 show (kz (-1) ((pre++ [s,aB']).map P.int).length).elim R.err _=_
 rw[a]
 show (((pre++ [s,aB']).map P.int)[pre.length+1]?).elim R.err _=_
 rw[h];rfl
theorem Ob(b:Y J)(H:Y af)(h:H[1]? =z (.list<|b.map .int)):neS (.lbl 1) (.p<|.list []) H= .ok (.p<|.bool<|!(b== [])) H:=by
 have e:wz (.lbl 1) (.p<|.list []) H=z (b== []):=by
  show (H[1]?.bind qm).bind _=_
  rw[h];exact yi b []
 unfold neS
 rw[e];rfl
theorem Mw(b:pre.length<900):b7 (L7 o f l) [C, .list<|(pre++ [s,aB']).map .int]= .ok (.next<|L7 o f l) [C, .list<|(if f≤aB' then pre++ [s,if l+1>aB' then l+1 else aB']else pre++ [s,aB']++ [f,l+1]).map .int]:=by
 have a:=Ob (pre++ [s,aB']) [C, .list<|(pre++ [s,aB']).map .int] O
 have g:(!((pre++ [s,aB'])== []))=Q:=by cases pre<;>rfl
 have j:=LO (C:=C) (s:=s) (aB':=aB') b
 have len:((pre++ [s,aB']).map P.int).length=pre.length+2:=by rw[bc,bE];rfl
 unfold b7
 by_cases h:f≤aB'
 ·have e:=bx h
  have G:nz (.lbl 1) (.p<|.int<|-1) (.p<|.int<|if l+1>aB' then l+1 else aB') [C, .list<|(pre++ [s,aB']).map .int]= .ok () [C, .list<|(pre++ [s,if l+1>aB' then l+1 else aB']).map .int]:=by
   show (if-1000000≤(-1:J)∧(-1:J)<0∧ -(((pre++ [s,aB']).map P.int).length:J)≤(-1:J)then R.ok () [C,af.list<|((pre++ [s,aB']).map P.int).set ((-1:J)+((pre++ [s,aB']).map P.int).length).toNat<|.int<|if l+1>aB' then l+1 else aB']else .err)=_
   rw[len,aw ⟨by decide,by decide,by exact TK⟩,show ((-1:J)+((pre.length+2:M):J)).toNat=pre.length+1 by exact TJ]
   simp[List.set_append]
  have c:sH [.p<|.int aB', .p<|.int<|l+1] [C, .list<|(pre++ [s,aB']).map .int]= .ok (.p<|.int<|if l+1>aB' then l+1 else aB') [C, .list<|(pre++ [s,aB']).map .int]:=O
  rw[aw h]
  generalize (if l+1>aB' then l+1 else aB')=K at*
  trivial
 ·have e:=bu h
  have G:uK [.lbl 1, .p<|.list [.int f, .int<|l+1]] [C, .list<|(pre++ [s,aB']).map .int]= .ok (.p .none) [C, .list<|(pre++ [s,aB']++ [f,l+1]).map .int]:=by
   show (if((pre++ [s,aB']).map P.int).length+2≤1000000 then R.ok (V.p P.none) [C,af.list<|(pre++ [s,aB']).map P.int++ [.int f, .int<|l+1]]else .err)=_
   rw[len,aw (by exact TH b),fN (l₂:= [f,l+1])];rfl
  rw[az h]
  trivial
end
end
section
noncomputable def eZ(r:J×J)(x:J):ak:=decide (r.1≤x)&&decide (x≤r.2)
def g9(L:Y<|J×J)(x:J):ak:=L.any λr=>eZ r x
theorem xu(A B:Y<|J×J)(x:J):g9 (A++B) x=(g9 A x||g9 B x):=List.any_append
theorem uM(r:J×J)(x:J):g9 [r] x=eZ r x:=jk _
theorem pQ(s a x:J):bd [s,a] x=xor (decide (s≤x)) (decide (a≤x)):=by show xor _ (xor _ N)=_;rw[Bool.xor_false]
structure RI(b:Y J)(pre:Y J)(s M:J)(A B:Y (J×J)):Prop where
 e:b=pre++ [s,M]
 inc:bY b
 low: ∀x,s≤x→bd pre x=N
 next: ∀r∈B,s≤r.1
 cv: ∀x,bd b x=g9 A x
theorem RI.first(h:f≤l)(g: ∀r∈B,f≤r.1):RI [f,l+1] [] f (l+1) [(f,l)] B:=by
 refine⟨O,iB.mpr ⟨λa i=>by rw[bz.mp i];exact E6 h,kF _ _⟩,λ_ _=>rfl,g,λx=> ?_⟩
 rw[pQ,uM]
 unfold eZ
 by_cases b:f≤x
 ·by_cases c:x≤l
  ·rw[bx b,bx c,bu<|by exact E5 c];rfl
  ·rw[bx b,bu c,bx<|by exact E4 c];rfl
 ·rw[bu b,bu<|by exact E3 h b];rfl
theorem RI.step(I:RI b p s a A<|(f,l)::B)(h:f≤l)(hB: ∀r∈B,f≤r.1):
  ∃v s' M',RI (if f≤a then p++ [s,if l+1>a then l+1 else a]else p++ [s,a]++ [f,l+1]) v s' M' (A++ [(f,l)]) B:=by
 obtain ⟨g,u,low,next,U⟩:=I
 subst g
 have j:s≤f:=next _ (.head _)
 obtain ⟨i1,i2,i3⟩:=List.pairwise_append.mp u
 have m:s<a:=(iB.mp i2).1 a<|.head _
 have o: ∀x,xor (bd p x) (xor (decide (s≤x)) (decide (a≤x)))=g9 A x:=λx=>by rw[←U x,pK,pQ]
 by_cases q:f≤a
 ·rw[aw q]
  obtain ⟨K,hK,k1,k2⟩: ∃K,(if l+1>a then l+1 else a)=K∧a≤K∧ ∀x,x<K↔x<a∨x≤l:=by
   by_cases c:l+1>a
   ·exact⟨l+1,aw c,by exact TG c,λx=>by exact TF c⟩
   ·exact⟨a,az c,rq _,λx=>by exact TE c⟩
  rw[hK]
  refine⟨p,s,K,O,List.pairwise_append.mpr ⟨i1,iB.mpr ⟨λc n=>by rw[bz.mp n];exact ua m k1,kF _ _⟩,λc n w hw=> ?_⟩,low,λr hr=>next r (.tail _ hr),λx=> ?_⟩
  ·have:=i3 c n
   rcases dP.mp hw with rfl|hw
   ·exact this _ (.head _)
   ·rw[bz.mp hw];exact ua (this a (.tail _ (.head _))) k1
  ·rw[xu,uM,←o x,pK,pQ]
   unfold eZ
   by_cases i:s≤x
   ·rw[low x i,bx i]
    by_cases k:a≤x
    ·rw[bx k,bx (dR q k)]
     by_cases C:x≤l
     ·rw[bx C,bu (by have:=(k2 x).mpr (.inr C);exact E0 this)];rfl
     ·rw[bu C,bx (kJ.mp λc=>by rcases (k2 x).mp c with y|y;exact zq270 k y;exact C y)];rfl
    ·rw[bu k,bu (by have:=(k2 x).mpr (.inl (n7.mp k));exact E0 this)];rfl
   ·rw[bu i,bu (by exact TD m k1 i),bu (by exact TC m i),bu (by exact TB j i)];simp
 ·rw[az q]
  have G:=n7.mp q
  refine⟨p++ [s,a],f,l+1,O,List.pairwise_append.mpr ⟨u,iB.mpr ⟨λc n=>by rw[bz.mp n];exact E6 h,kF _ _⟩,λc n w hw=> ?_⟩,λx H=> ?_,hB,λx=> ?_⟩
  ·have t:c≤a:=by
    rcases gw.mp n with y|y
    ·exact pG (i3 c y a (.tail _ (.head _)))
    ·rcases dP.mp y with rfl|y
     ·exact pG m
     ·rw[bz.mp y];exact rq _
   rcases dP.mp hw with rfl|hw
   ·exact TA t G
   ·rw[bz.mp hw];exact Tz h G t
  ·rw[pK,pQ,low x (dR j H),bx (dR j H),bx (by exact EZ G H)];rfl
  ·rw[xu,uM,pK,U x,pQ]
   unfold eZ
   by_cases i:f≤x
   ·rw[←o x,low x (dR j i),bx i,bx (dR j i),bx (by exact EZ G i)]
    by_cases k:x≤l
    ·rw[bx k,bu (by exact E5 k)];rfl
    ·rw[bu k,bx (by exact E4 k)];rfl
   ·rw[bu i,bu (by exact E3 h i)];simp
theorem Vq(L:Y<|J×J)(hL: ∀r∈L,r.1≤r.2)(t:L.length<64): ∃b,bY b∧(∀x,bd b x=g9 L x)∧b.length≤2*L.length∧w7 [.lbl 0] [.list<|L.map bO]= .ok (.p<|iL b) [.list<|L.map bO]:=by
 obtain ⟨g,hp,hs,hk⟩:=Kf L t [.list<|L.map bO, .list []]
 have B:=hp.length_eq
 have h:bW ["pair"] [] N (bT<|aa 0) (bv 0) (aq<|ag leS (ag aE (aa 0)<|kI 0)<|ag aE (aa 0)<|kI 1) (aa 0) 1000 [z<|.lbl 0,z<|.lbl 1,D,D] [.list<|L.map bO, .list []]= .ok (.p<|.list<|L.map bO) [.list<|L.map bO, .list []]:=by
  refine jZ (C:= .list<|.lbl 0) (kj (aH<|sd O)<|sd O) (sd O) ?_
  have:=l8 (C:= .list<|.lbl 0) (o:=bv 0) (t:=aq<|ag leS (ag aE (aa 0)<|kI 0)<|ag aE (aa 0)<|kI 1) (m:=aa 0) (L.map bO) (λe=> ∃o,e= [o]) (λ_=>Q) id [.list<|L.map bO, .list []] (λi=>rfl)
   (λp hp'' e hJ=>by
    obtain ⟨o,ho⟩:=hJ
    subst ho
    obtain ⟨r,w,rfl⟩:=cY.mp hp''
    exact⟨_,O,⟨_,O⟩,by show R.ok (decide (r.1≤r.2)) [af.list<|L.map bO,af.list []]=_;rw[bx<|hL r w],λ_=>rfl⟩) 1000 0 [D] [] ⟨D,O⟩ (dc _) (by rw[bc];exact Tx t) (by rw[bc];simp;exact Tw t)
  rw[iC,pF.mpr λ_ _=>rfl,pD,lQ]at this
  exact this
 obtain ⟨loc'',H',hw,hI⟩:=GF (C:= .list<|.p<|.list<|g.map bO) (t:=kg [2,3]) (o:=b7) (g.map bO)
  (λi e H=> ∃b o3 o4,e= [z<|.lbl 0,z<|.lbl 1,o3,o4]∧H= [.list<|L.map bO, .list<|b.map .int]∧b.length≤2*i∧((i=0∧b= [])∨ ∃c s a,RI b c s a (g.take i)<|g.drop i))
  (λH i=>FH H i)
  (λi p e H hi hJ=>by
   obtain ⟨b,o3,o4,G,U,A,k⟩:=hJ
   subst G U
   rw[eK]at hi
   obtain ⟨⟨f,l⟩,w,rfl⟩:=fE.mp hi
   obtain ⟨q,hg⟩:=dH.mp w
   have hd:g.drop i=(f,l)::g.drop (i+1):=by rw[w_ q,hg]
   have ht:g.take (i+1)=g.take i++ [(f,l)]:=by rw[List.take_succ,w];rfl
   have n:f≤l:=hL _<|hp.mem_iff.mp<|dG w
   have hB: ∀r∈g.drop (i+1),f≤r.1:=by
    have:=hs.sublist<|List.drop_sublist i g
    rw[hd]at this
    exact(iB.mp this).1
   rcases k with⟨rfl,rfl⟩|⟨c,s,a,I⟩
   ·refine⟨_,L7 (z (.lbl 0)) f l,[.list (L.map bO), .list [.int f, .int (l+1)]],O,O9,[f,l+1],_,_,O,O,bo _, .inr ⟨[],f,l+1,?_⟩⟩
    rw[ht]
    exact RI.first n hB
   ·have u:c.length+2=b.length:=by rw[I.e,bE];rfl
    have j:c.length+2≤2*i:=u▸A
    have hb:=Mw (o:=z<|.lbl 0) (C:= .list<|L.map bO) (f:=f) (l:=l) (pre:=c) (s:=s) (aB':=a) (by exact Tv t B q j)
    rw[hd]at I
    have I2:=I.step n hB
    rw[←ht]at I2
    rw[I.e]at*
    refine⟨_,_,_,O,hb,_,_,_,O,O,?_, .inr I2⟩
    split<;>simp only[bE,fX,lR]<;>first|exact Tu j|exact Tt j)
  1000 0 [z<|.lbl 0,z<|.lbl 1,D,D] [.list<|L.map bO, .list []] ⟨[],D,D,O,O,bo _, .inl ⟨O,O⟩⟩ (dc _) (by rw[bc];exact Ts t B)
 obtain ⟨b,o3,o4,G,U,A,k⟩:=hI
 subst G U
 rw[bc]at A k
 rw[tW,List.drop_length]at k
 have m:bY b∧ ∀x,bd b x=g9 L x:=by
  rcases k with⟨h0,rfl⟩|⟨c,s,a,I⟩
  ·have:L= []:=List.length_eq_zero_iff.mp (B.symm.trans h0)
   subst this
   exact⟨.nil,λx=>rfl⟩
  ·exact⟨I.inc,λx=>by rw[I.cv x];exact hp.any_eq⟩
 refine⟨b,m.1,m.2,B▸A,jr (k:= [0]) O rfl rfl rfl (gL (v:= .lbl 1) (H1:= [.list<|L.map bO, .list<|b.map .int]) (b8 [z<|.lbl 0,D,D,D] (sd O) O ?_) O) O rfl⟩
 rw[VP]
 have hf:fH Q (bT<|aD (kW w6)<|bW ["pair"] [] N (bT<|aa 0) (bv 0) (aq<|ag leS (ag aE (aa 0)<|kI 0)<|ag aE (aa 0)<|kI 1) (aa 0) 1000) (kg [2,3]) b7 1000 [z<|.lbl 0,z<|.lbl 1,D,D] [.list<|L.map bO, .list []]=_:=FM (kj (sF h hk)<|sd O) (sd O) hw
 trivial
end
section
abbrev cs(b:Y J):P:= .inst 1 [(1,iL b)]
theorem zr(b:Y J)(H:Y af):k1 [.p<|iL b] H= .ok (.p<|cs b) H:=oD (sd O) (sd O) O
theorem Ol(H:Y af):qP [] H= .ok (.p<|cs []) H:=oD (sd O) (sd O) O
noncomputable def wY:dg→Y V→Y af→R V
 | .U=>nR
 | .B=>s9
 | .W=>s8
noncomputable def mY(y:dg):aj→Y af→R Fl:=ai (aK<|ao k1<|ae (ao w9<|ae (aD (aF 1)<|aa 0)<|ae (aD (aF 1)<|aa 1)<|ae (kS<|fR y) nilA) nilA) nilM
theorem Vj(y:dg):wY y=aU (aZ<|aS 2 0 2<|mY y):=by cases y<;>rfl
theorem Fu(y:dg)(i:bY a)(j:bY b)(l:a.length<300)(k:b.length<300)(H:Y af): ∃c,bY c∧(∀x,bd c x=wf y (bd a x) (bd b x))∧c.length≤a.length+b.length∧wY y [.p<|cs a, .p<|cs b] H= .ok (.p<|cs c) H:=by
 obtain ⟨c,h,f,g,m⟩:=Fv (y:=y) i j l k []
 refine⟨c,h,f,g,?_⟩
 have e:=zr c []
 rw[Vj]
 refine fj (sd O) (sd O)<|b8 [z<|.p<|cs a,z<|.p<|cs b] (sd O) O ?_
 unfold mY
 trivial
theorem DJ(j:bY a)(l:a.length<300)(H:Y af): ∃c,bY c∧(∀x,bd c x=(decide (0≤x∧x<1114112)&& !(bd a x)))∧c.length≤2+a.length∧mz [.p<|cs a] H= .ok (.p<|cs c) H:=by
 obtain ⟨c,h,g,i,f⟩:=Fv (a:= [0,1114112]) (y:= .W) (by decide) j (by decide) l []
 refine⟨c,h,λx=> ?_,i,?_⟩
 ·rw[g x,pQ]
  show (_&&_)=_
  congr 1
  by_cases p:0≤x
  ·by_cases q:x<1114112
   ·rw[bx p,bu<|n7.mpr q,bx ⟨p,q⟩];rfl
   ·rw[bx p,bx<|kJ.mp q,bu λb=>q b.2];rfl
  ·rw[bu p,bu (by exact EY p),bu λb=>p b.1];rfl
 ·have e:=zr c []
  refine fj (sd O) (sd O)<|b8 [z<|.p<|cs a] (sd O) O ?_
  have f:w9 [.p<|.list [.int 0, .int 1114112], .p<|iL a, .p<|.str [119,105,116,104,111,117,116]] []= .ok (.p<|iL c) []:=f
  unfold Hy
  trivial
theorem NO(L:Y<|J×J)(f: ∀r∈L,r.1≤r.2)(g:L.length<64): ∃b,bY b∧(∀x,bd b x=g9 L x)∧b.length≤2*L.length∧aZ (aS 1 0 1 Ay) [.lbl 0] [.list<|L.map bO]= .ok (.p<|cs b) [.list<|L.map bO]:=by
 obtain ⟨b,h,a,c,i⟩:=Vq L f g
 have e:=zr b [.list<|L.map bO]
 refine⟨b,h,a,c,gL (b8 [z<|.lbl 0] (sd O) O (v:= .p<|cs b) (H1:= [.list<|L.map bO]) ?_) O⟩
 unfold Ay
 trivial
theorem DM(a:bY b)(c:b.length<900)(x:J)(H:Y af):jG [.p<|cs b, .p<|.int x] H= .ok (.p<|.bool<|bd b x) H:=by
 have e:=Vu (x:=x) a c []
 have g:((((cnt b x:J)-1)%2)==0)=bd b x:=by
  rw[Mm a]
  rcases AX (cnt b x)with h|h
  ·rw[show ((cnt b x:J)-1)%2=1 by exact Tq h,h];rfl
  ·rw[show ((cnt b x:J)-1)%2=0 by exact Tp h,h];rfl
 refine fj (sd O) (sd O) (b8 [z (.p (cs b)),z (.p (.int x))] (sd O) O ?_)
 unfold HA
 trivial
noncomputable def rngs:Y J→Y (J×J)
 |x::y::r=>(x,y-1)::rngs r
 |_=> []
theorem CB: ∀(b:Y J) (n:M),b.length=2*n→(dO n).map (λi=>(b.getD (2*i) 0,b.getD (2*i+1) 0-1))=rngs b
 | [],n,h=>by
  obtain rfl:n=0:=by simp at h;exact To h
  rfl
 | [x],n,h=>by simp at h;omega
 |x::y::r,n,h=>by
  obtain ⟨m,rfl⟩: ∃m,n=m+1:=⟨n-1,by simp at h;exact Tn h⟩
  have:=CB r m (by simp at h;exact Tm h)
  rw[List.range_succ_eq_map,ee,eu]
  show _=(x,y-1)::rngs r
  rw[←this]
  rfl
theorem Lw(a b c:J)(H:Y af):iM [.p<|.int a, .p<|.int b, .p<|.int c] H=qa a b c H:=O
theorem Xf(h:n<1000)(H:Y af):iM [.p<|.int 0, .p<|.int ((2*n:M):J), .p<|.int 2] H= .ok (.rng 0 2 n) H:=by
 have e:rf 0 ((2*n:M):J) 2=(n:J):=by
  unfold rf
  rw[aw<|by decide]
  split<;>first|exact Tl|exact Tk (by assumption)
 have a:AS 0 ((2*n:M):J) 2=Q:=by
  unfold AS Builtin.Range.rangeFitsLong
  rw[e]
  simp
  exact Tj h
 have b:(((2*n:M):J)-0).natAbs<2^29:=by
  show _<536870912
  omega
 rw[Lw]
 unfold qa
 rw[e,aw ⟨by omega,a,dA _,b,by show 2<536870912;omega⟩];rfl
theorem yu(c:b.length=2*n)(e:n<300)(H:Y af):jF [.p<|cs b] H= .ok (.p<|.list<|(rngs b).map bO) H:=by
 have k:=me (H:= []) (a:=b) (by exact y7 c e)
 rw[c]at k
 have m:=Xf (n:=n) (by exact EX e) []
 refine fj (sd O) (sd O)<|b8 [z<|.p<|cs b] (sd O) O ?_
 unfold Hz
 have g:=l8 (C:= .rng 0 2 n) (o:=bv 0) (t:=trueT) (m:=tupF<|ae (ag aE (aD (aF 1)<|aa 1)<|aa 0)<|ae (ag subS (ag aE (aD (aF 1)<|aa 1)<|ag addS (aa 0)<|kI 1)<|kI 1) nilA) ((dO n).map λ(i:M)=>P.int ((2*i:M):J)) (λl=> ∃o,l= [o,z<|.p<|cs b]) (λ_=>Q) (λp=>match p with| .int i=>bO (b.getD i.toNat 0,b.getD (i.toNat+1) 0-1)|_=> .none) []
  (λi=>by
   rw[eK]
   by_cases h:i<n
   ·rw[List.getElem?_range h]
    show z (if i<n then z<|P.int<|0+(i:J)*2 else D)=z (z<|P.int ((2*i:M):J))
    rw[aw h,show (0+(i:J)*2)=((2*i:M):J) by exact Ti]
   ·rw[n4<|by rw[pE];exact EW h]
    show z (if i<n then z<|P.int<|0+(i:J)*2 else D)=_
    rw[az h];rfl)
  (λp s l t=>by
   obtain ⟨o,y⟩:=t
   subst y
   obtain ⟨i,f,rfl⟩:=cY.mp s
   have f:=jh.mp f
   have r:b[2*i]? =z (b.getD (2*i) 0):=by rw[gx,de<|by exact Th c f];rfl
   have g2:b[2*i+1]? =z (b.getD (2*i+1) 0):=by rw[gx,de<|by exact Tg c f];rfl
   have I:=l6 (H:= []) (by exact y7 c e) r
   have j:=l6 (H:= []) (by exact y7 c e) g2
   have j:aE (.p<|iL b) (.p<|.int<|((2*i:M):J)+1) []= .ok (.p<|.int<|b.getD (2*i+1) 0) []:=j
   refine⟨_,O,⟨_,O⟩,O,λ_=> ?_⟩
   show tupF _ [z<|.p<|.int ((2*i:M):J),z<|.p<|cs b] []= .ok (.p<|bO (b.getD (2*i) 0,b.getD (2*i+1) 0-1)) []
   trivial)
  1000 0 [D,z<|.p<|cs b] [] ⟨D,O⟩ (dc _) (by simp;exact EX e) (by simp;exact Tf e)
 rw[iC,pF.mpr λ_ _=>rfl,lQ,eu]at g
 have q:List.map ((λp=>match p with| .int i=>bO (b.getD i.toNat 0,b.getD (i.toNat+1) 0-1)|_=>P.none)∘λ(i:M)=>P.int ((2*i:M):J)) (dO n)=(rngs b).map bO:=by
  rw[←CB b n c,eu];rfl
 rw[q]at g
 have G:bW ["at"] [("self",0)] N (gW iM<|ae (kI 0)<|ae (ao ce<|ae (aD (aF 1)<|aa 0) nilA)<|ae (kI 2) nilA) (bv 0) trueT (tupF<|ae (ag aE (aD (aF 1)<|aa 1)<|aa 0)<|ae (ag subS (ag aE (aD (aF 1)<|aa 1)<|ag addS (aa 0)<|kI 1)<|kI 1) nilA) 1000 [z<|.p<|cs b] []= .ok (.p<|.list<|(rngs b).map bO) []:=by
  refine jZ (C:= .rng 0 2 n) (yJ (vs:= [.p<|.int 0, .p<|.int ((2*n:M):J), .p<|.int 2]) ?_ m) (sd O) g
  trivial
 trivial
end
section
abbrev bC:=Y J
abbrev tL(s:Y bC):P:= .list<|s.map bL
abbrev HC(x y:bC):Prop:=eL y x=N
structure SO(ss:Y bC):Prop where
 p:ss.Pairwise HC
 n:ss.Nodup
theorem CM: ∀{x y:bC},eL x y=N→eL y x=N→x=y
 | [],[],_,_=>rfl
 | [],_::_,h,_=>by cases h
 |_::_,[],_,h=>by cases h
 |a::x,b::y,c,f=>by
  rw[xO]at c f
  by_cases e:a=b
  ·rw[aw e]at c;rw[aw e.symm]at f;rw[e,CM c f]
  ·rw[az e]at c;rw[az λq=>e q.symm]at f
   exact absurd (iE (kJ.mp<|mL f)<|kJ.mp<|mL c) e
theorem SO.ext(e:SO a)(f:SO b)(h: ∀r,r∈a↔r∈b):a=b:=
 ((List.perm_ext_iff_of_nodup e.n f.n).mpr h).eq_of_pairwise (λ_ _ _ _ c q=>CM q c) e.p f.p
theorem up(t:bC):ll (bL t)=z t:=ru t
theorem oc(B:Y bC):gX (B.map bL)=z B:=(qr (f:=ll) (g:=bL) (h:=id) up B).trans<|aR z<|pD B
theorem Cy(B:Y bC)(h:B.length<64): ∃s:Y bC,s.Perm B∧s.Pairwise HC∧ni (B.map bL)=z (s.map bL):=by
 cases B with
 |nil=>exact⟨[], .refl _, .nil,O⟩
 |cons t r=>
  generalize b:t::r=B at h
  have g:nv (B.map bL)=D:=by rw[←b];rfl
  obtain ⟨c,e⟩:=BA (c:=ou B) (λi j=>uv _ _) (λi j k=>uZ _ _ _) B []
  refine⟨_,c,e _ λi j _ _ q=>q,?_⟩
  unfold ni
  rw[aw (by rwa [bc]),g,oc]
  show z (lg (ou B)<|B.map bL)=_
  unfold lg
  rw[bc,eu]
  have f: ∀i∈sord (ou B) B.length,(B.map bL).getD i .none=(bL∘λi=>B.getD i []) i:=λi a=>by
   have a:=jh.mp<|(rG (l:=ou B) (λi j=>uv _ _) (λi j k=>uZ _ _ _) B.length).1.mem_iff.mp a
   show _=bL (B.getD i [])
   rw[gx,gx,eK,de a];rfl
  exact aR z<|rn f
theorem My{f:Y bC}{t:bC}(h:f.Nodup):(iW f t).Nodup∧(∀r,r∈iW f t↔r∈f∨r=t)∧(iW f t).length≤f.length+1:=by
 unfold iW
 by_cases q':t∈f
 ·rw[aw q']
  exact⟨h,λr=>⟨.inl,λc=>c.elim id λe=>e▸q'⟩,eR _⟩
 ·rw[az q']
  exact⟨kG.mpr ⟨h,kF _ _,λa g b i=>by rw[bz.mp i];exact λe=>q'<|e▸g⟩,λr=>by rw[gw,bz],by rw[bE];exact bo _⟩
theorem Cu: ∀(B a:Y bC),a.Nodup→(B.foldl iW a).Nodup∧(∀r,r∈B.foldl iW a↔r∈a∨r∈B)∧(B.foldl iW a).length≤a.length+B.length
 | [],a,h=>⟨h,λr=>by simp,bo _⟩
 |t::B,a,h=>by
  obtain ⟨b,e,c⟩:=My (t:=t) h
  obtain ⟨k1,k2,k3⟩:=Cu B _ b
  refine⟨k1,λr=>by rw[n5,k2,e,dP,or_assoc],?_⟩
  rw[n5,fX];exact Te c k3
theorem Nr(B:Y bC)(h:B.length<64)(H:Y af): ∃s,SO s∧(∀r,r∈s↔r∈B)∧s.length≤B.length∧wg [.p<|tL B] H= .ok (.p<|tL s) H:=by
 obtain ⟨f,i,n⟩:=Cu B [] jg
 rw[lR,lN]at n
 obtain ⟨s,U,a,b⟩:=Cy (iQ B)<|wK n h
 refine⟨s,⟨a,U.nodup_iff.mpr f⟩,λr=>by rw[U.mem_iff,show iQ B=B.foldl iW []from rfl,i];simp,U.length_eq▸n,?_⟩
 have e:sortU (.p<|tL B) []= .ok (.p<|tL s) []:=by
  show (gX<|B.map bL).elim R.err _=_
  rw[oc]
  refine(aw<|Td h).trans ?_
  rw[b];rfl
 refine fj (sd O) (sd O)<|b8 [z<|.p<|tL B] (sd O) O ?_
 unfold Hx
 exact bA (sE<|sF (aH<|sd O) e)<|nS O
abbrev bM(b:Y J)(s:Y bC):P:= .inst 4 [(9,cs b),(10,tL s)]
theorem oC(b:Y J)(s:Y bC)(H:Y af):k4 [.p<|cs b, .p<|tL s] H= .ok (.p<|bM b s) H:=oD (sd O) (sd O) O
theorem B7(r:bC)(s:Y bC)(H:Y af):qQ (.p<|bL r) (.p<|tL s) H=z (s.contains r):=by
 have e:oh (bL r) (s.map bL)=z (s.contains r):=by
  unfold oh qe
  rw[up,show dJ ll (s.map bL)=z s from oc s]
  refine aR z ?_
  rw[iF,List.any_eq_true,fg]
  exact⟨λ⟨x,h,e⟩=>eq_of_beq e▸h,λh=>⟨r,h,fD r⟩⟩
 exact e
theorem yg(r:bC)(s:Y bC)(H:Y af):inS (.p<|bL r) (.p<|tL s) H= .ok (.p<|.bool<|s.contains r) H:=by unfold inS;rw[B7];rfl
theorem Bh(r:bC)(s:Y bC)(H:Y af):notInS (.p<|bL r) (.p<|tL s) H= .ok (.p<|.bool<|!(s.contains r)) H:=by
 unfold notInS
 rw[B7];rfl
theorem CO(h:A.length<900)(g:m l []= .ok (.p<|tL A) [])(c:im ["string"] [("other",1)] l= [D,a])
  (B: ∀r:bC,t [z<|.p<|bL r,a] []= .ok (q r) []):
  bW ["string"] [("other",1)] N (bT m) (bv 0) t (aa 0) 1000 l []= .ok (.p<|tL<|A.filter q) []:=by
 refine jZ (C:= .list<|.p<|tL A) (kj g<|sd O) (sd O) ?_
 rw[c]
 have f:=l8 (C:= .list<|.p<|tL A) (o:=bv 0) (t:=t) (m:=aa 0) (A.map bL) (λl=> ∃o,l= [o,a]) (λp=>(ll p).elim N q) id [] (λi=>FH _ i)
  (λp j l b=>by
   obtain ⟨o,y⟩:=b
   subst y
   obtain ⟨r,n,rfl⟩:=cY.mp j
   refine⟨_,O,⟨_,O⟩,?_,λ_=>rfl⟩
   rw[up];exact B r) 1000 0 [D,a] [] ⟨D,O⟩ (dc _) (by rw[bc];exact rZ h) (by rw[bc];simp;exact iP h)
 rw[iC,lQ,pD,List.filter_map]at f
 have e:((λp=>(ll p).elim N q)∘bL)=q:=funext λr=>by
  show (ll<|bL r).elim N q=q r
  rw[up];rfl
 rwa [e]at f
def lz:dg→Prop→Prop→Prop
 | .U,a,b=>a∨b
 | .B,a,b=>a∧b
 | .W,a,b=>a∧ ¬b
theorem DB(y:dg)(s:bY a)(u:bY b)(v:a.length<300)(w:b.length<300)(h:SO A)(hB:SO B)(g:A.length+B.length<64)(H:Y af):
  ∃c C,bY c∧(∀x,bd c x=wf y (bd a x) (bd b x))∧c.length≤a.length+b.length∧SO C∧(∀r,r∈C↔lz y (r∈A) (r∈B))∧C.length≤A.length+B.length∧oS [.p<|bM a A, .p<|bM b B, .p<|.str<|fR y] H= .ok (.p<|bM c C) H:=by
 obtain ⟨c,i,j,l,f⟩:=Fu y s u v w []
 cases y with
 |U=>
  obtain ⟨C,o,p,n,d4⟩:=Nr (A++B) (by rw[bE];exact g) []
  refine⟨c,C,i,j,l,o,λr=>by rw[p,gw];exact Iff.rfl,by rw[bE]at n;exact n,fj (sd O) (sd O)<|b8 [z<|.p<|bM a A,z<|.p<|bM b B,z<|.p<|.str<|fR .U,D] (sd O) O ?_⟩
  have e:=oC c C []
  have f:nR [.p<|cs a, .p<|cs b] []=_:=f
  have d5:addS (.p<|tL A) (.p<|tL B) []= .ok (.p<|tL<|A++B) []:=by
   have:=DY (H:= []) (x:=A.map bL) (y:=B.map bL) (sd<|by rw[bc,bc];exact Tc g)
   rwa [←fN]at this
  unfold wx
  trivial
 |B=>
  have k:=CO (t:=aq<|ag inS (aa 0)<|aD (aF 10)<|aa 1) (q:=λr=>B.contains r) (m:=aD (aF 10)<|aa 0) (A:=A) (a:=z<|.p<|bM b B) (l:= [z<|.p<|bM a A,z<|.p<|bM b B,z<|.p<|.str<|fR .B,D]) (by exact EV g) (by trivial) O
   (λr=>by have:=yg r B [];trivial)
  refine⟨c,A.filter λr=>B.contains r,i,j,l,⟨h.p.filter _,h.n.filter _⟩,λr=>by rw[jS,fg];exact Iff.rfl,bF (tY _ _)<|hZ _ _,fj (sd O) (sd O)<|b8 [z<|.p<|bM a A,z<|.p<|bM b B,z<|.p<|.str<|fR .B,D] (sd O) O ?_⟩
  have e:=oC c (A.filter λr=>B.contains r) []
  have f:s9 [.p<|cs a, .p<|cs b] []=_:=f
  unfold wx
  trivial
 |W=>
  have k:=CO (t:=aq<|ag notInS (aa 0)<|aD (aF 10)<|aa 1) (q:=λr=> !(B.contains r)) (m:=aD (aF 10)<|aa 0) (A:=A) (a:=z<|.p<|bM b B) (l:= [z<|.p<|bM a A,z<|.p<|bM b B,z<|.p<|.str<|fR .W,D]) (by exact EV g) (by trivial) O
   (λr=>by have:=Bh r B [];trivial)
  refine⟨c,A.filter λr=> !(B.contains r),i,j,l,⟨h.p.filter _,h.n.filter _⟩,λr=>by rw[jS,eS,←Bool.not_eq_true,fg];exact Iff.rfl,bF (tY _ _)<|hZ _ _,fj (sd O) (sd O)<|b8 [z<|.p<|bM a A,z<|.p<|bM b B,z<|.p<|.str<|fR .W,D] (sd O) O ?_⟩
  have e:=oC c (A.filter λr=> !(B.contains r)) []
  have f:s8 [.p<|cs a, .p<|cs b] []=_:=f
  unfold wx
  trivial
end
section
noncomputable def eg:P:= .inst 3 [(5, .dict [(.str [103,99], .str [67,110]),(.str [99,99,99], .int 0),(.str [98,99], .str [76]),(.str [108,98], .str [88,88]),(.str [101,97], .str [78]),(.str [115,99], .str [90,122,122,122]),(.str [106,116], .str [85]),(.str [105,110,99,98], .str [78,111,110,101]),
 (.str [103,99,98], .str [79,116,104,101,114]),(.str [119,98], .str [79,116,104,101,114]),(.str [115,98], .str [79,116,104,101,114]),(.str [101,120], .bool N),(.str [115,100], .bool N),(.str [99,97,115,101,100], .bool N),(.str [99,105], .bool N),(.str [101,112], .bool N),(.str [100,105], .bool N),
 (.str [105,100,115], .bool N),(.str [105,100,99], .bool N),(.str [120,105,100,115], .bool N),(.str [120,105,100,99], .bool N),(.str [112,97,116,95,115,121,110], .bool N),(.str [112,97,116,95,119,115], .bool N),(.str [105,100,115,116], .bool N),(.str [100,109], .none),(.str [117,99], .none),
 (.str [108,99], .none),(.str [116,99], .none),(.str [99,102], .none),(.str [98,109], .none),(.str [98,112,98], .none),(.str [115,99,120], .none),(.str [110,116], .none),(.str [110,118], .none),(.str [110,97,109,101], .none),(.str [99,111,110,102], .none),(.str [110,102,107,99,95,99,102], .none),(.str [115,117,99], .tup []),
 (.str [115,108,99], .tup []),(.str [115,116,99], .tup []),(.str [97,108,105,97,115], .tup []),(.str [105,100,110,97], .tup [.str [100,105,115,97,108,108,111,119,101,100], .tup []])]),
 (6, .dict [(.str [103,99], .inst 2 [(2, .str [67,110]),(3, .list [.int 0, .int 97, .int 102, .int 105]),(4, .list [.str [67,110], .str [76,108], .str [76,117], .str [67,110]])])]),(7, .dict []),(8, .dict [])]
abbrev rd(B:Y M)(k:J):af:= .inst 5 [(11, .p<|.bytes B),(12, .p eg),(13, .p<|.int k)]
theorem Js(m:M)(a:Y af): ∀(H:Y af) (k:M),lY [0] m a (k+1) H=H:=by
 intro H
 induction H with
 |nil=>intro k;rfl
 |cons c H i=>intro k;exact congrArg (c:: ·)<|i<|k+1
theorem qi(b:Sd<|vs.flatMap lblsV= [])(e:Sd<|cZ [0] vs=z vs)(h:f (.lbl 0::vs) [rd B k]= .ok (.p v) [rd B a]):aU f (.lbl 0::vs) (rd B k::X)= .ok (.p v) (rd B a::X):=by
 refine jr (k:= [0]) (by show reach _ 4 (addNew []<|0::vs.flatMap lblsV)= [0];rw[show vs.flatMap lblsV= []from b];rfl) O ?_ O h O ?_
 ·show (cZ [0] vs).bind (λl=>z<|V.lbl 0::l)=_
  rw[show cZ [0] vs=z vs from e];rfl
 ·show (_::lY [0] _ _ 1 X)++ []=_
  rw[Js,ft];rfl
theorem yQ(b:Sd<|vs.flatMap lblsV= [])(a:Sd<|cZ [0] vs=z vs)(h:f (.lbl 0::vs) [rd B k]= .exc e):aU f (.lbl 0::vs) (rd B k::X)= .exc e:=by
 refine yP (a:= [0]) (by show reach _ 4 (addNew []<|0::vs.flatMap lblsV)= [0];rw[show vs.flatMap lblsV= []from b];rfl) O (v:= .lbl 0::vs) ?_ O h
 show (cZ [0] vs).bind (λl=>z<|V.lbl 0::l)=_
 rw[show cZ [0] vs=z vs from a];rfl
theorem gD(b:Sd<|vs.flatMap lblsV= [])(e:Sd<|cZ [0] vs=z vs)(h:f (.lbl 0::vs) [rd B k]= .ok (.p v) [rd B a]):aU (aZ f) (.lbl 0::vs) (rd B k::X)= .ok (.p v) (rd B a::X):=qi b e<|gL h O
section
variable{B:Y M}{k:M}{X:Y af}(hB:B.length≤1000000){c:M}{r:Y M}
theorem dn(h:B.drop k=c::r):B[k]? =z c∧B.drop (k+1)=r∧k<B.length:=by
 have e:B[k]? =z c:=by have:=wX (xs:=B) (i:=k) (j:=0);rw[h]at this;simpa using this.symm
 exact⟨e,by rw[←gy,h];rfl,(dH.mp e).1⟩
theorem xS(h:B.drop k= []):B.length≤k:=List.drop_eq_nil_iff.mp h
theorem D5(h:k<B.length):decide ((k:J)<(B.length:J))=Q:=bx<|dQ.mpr h
theorem yc(h:B.length≤k):decide ((k:J)<(B.length:J))=N:=bu<|kJ.mpr<|dj.mpr h
include hB
theorem vw(h:B[k]? =z c):aE (.p<|.bytes B) (.p<|.int k) H= .ok (.p<|.int c) H:=by
 have b:=(dH.mp h).1
 have a:mh (k:J)=Q:=by unfold mh;rewrite [bx (by exact E9),bx<|by exact Ta hB b];rfl
 rw[LZ,aw a,aw ⟨dA k,dQ.mpr b,hB⟩,xg,h];rfl
noncomputable def pk:Y M→J
 | []=> -1
 |c::_=>c
theorem eF(h:B.drop k=r):bt [.lbl 0] (rd B k::X)= .ok (.p<|.int<|pk r) (rd B k::X):=by
 refine gD (sd O) (sd O)<|b8 [z<|.lbl 0] (sd O) O ?_
 cases r with
 |nil=>have e:=yc<|xS h;unfold ww;trivial
 |cons c r=>
  obtain ⟨b,_,a⟩:=dn h
  have e:=D5 a
  have g:=vw hB (H:= [rd B k]) b
  show ww _ _= .ok (.ret<|.p<|.int c) _
  unfold ww;trivial
theorem fu(h:B.drop k=c::r)(f:c≤127):cu [.lbl 0] (rd B k::X)= .ok (.p<|.int c) (rd B ((k+1:M):J)::X):=by
 refine gD (sd O) (sd O)<|b8 [z<|.lbl 0] (sd O) O ?_
 obtain ⟨b,_,a⟩:=dn h
 have e:decide ((B.length:J)≤(k:J))=N:=bu (by exact S_ a)
 have g:=vw hB (H:= [rd B k]) b
 have j:decide ((127:J)<(c:J))=N:=bu (by exact S9 f)
 have l:eW 13 (.lbl 0) (.p<|.int<|(k:J)+1) [rd B k]= .ok () [rd B ((k+1:M):J)]:=O
 have G:aE (.p<|.bytes B) (.p<|.int<|((k+1:M):J)-1) [rd B ((k+1:M):J)]= .ok (.p<|.int c) [rd B ((k+1:M):J)]:=by
  rw[show ((k+1:M):J)-1=(k:J) by exact EU];exact vw hB b
 unfold Hv;trivial
noncomputable def bl(c:M):ak:=([32,9,10,13]:Y M).contains c
def cF:Y M→M
 | []=>0
 |c::r=>if bl c then cF r+1 else 0
theorem Ch(f:c<256):inS (.p<|.int c) (.p<|.bytes s) H= .ok (.p<|.bool<|s.contains c) H:=by
 have e:qQ (.p<|.int c) (.p<|.bytes s) H=z (s.contains c):=(aw ⟨dA c,dQ.mpr f⟩:(if 0≤(c:J)∧(c:J)<256 then z<|s.contains (c:J).toNat else D)=_)
 unfold inS
 rw[e];rfl
theorem nk(h:B.drop k=r)(I: ∀c∈r,c<256)(U:cF r<900):dU [.lbl 0] (rd B k::X)= .ok (.p .none) (rd B ((k+cF r:M):J)::X):=by
 refine gD (sd O) (sd O) ?_
 obtain ⟨w,H',hw,i,m⟩:=pT (t:=a_ (aq<|ag ltS (aD (aF 13)<|aa 0)<|ao ce<|ae (aD (aF 11)<|aa 0) nilA)<|a_ (aq<|ag inS (ag aE (aD (aF 11)<|aa 0)<|aD (aF 13)<|aa 0)<|kB [32,9,10,13])<|kT true) (b:=ai (oj 13 iS (aa 0)<|kI 1) nilM)
  (a:=λa H=>a= [z<|.lbl 0]∧H= [rd B ((k+cF r:M):J)])
  (λn a H=>a= [z<|.lbl 0]∧ ∃j,H= [rd B ((j:M):J)]∧j+n=k+cF r∧cF (B.drop j)=n∧ ∀c∈B.drop j,c<256)
  (λn a H A=>by
   obtain ⟨i,j,m,o,e,p⟩:=A
   subst i m
   cases G:B.drop j with
   |nil=>
    rw[G]at e
    have q:=yc<|xS G
    refine .inl ⟨[rd B ((j:M):J)],?_,O,by rw[←o,←e];rfl⟩
    trivial
   |cons c r'=>
    rw[G]at e p
    obtain ⟨x,v,y⟩:=dn G
    have q:=D5 y
    have q2:=vw hB (H:= [rd B ((j:M):J)]) x
    have q3:=Ch hB (s:= [32,9,10,13]) (H:= [rd B ((j:M):J)])<|p c<|.head _
    unfold cF at e
    cases g:bl c with
    |true=>
     have q4:eW 13 (.lbl 0) (.p<|.int<|(j:J)+1) [rd B ((j:M):J)]= .ok () [rd B ((j+1:M):J)]:=O
     have u:([32,9,10,13]:Y M).contains c=true:=g
     rw[g,aw O]at e
     refine .inr ⟨[rd B ((j:M):J)],[z<|.lbl 0],[rd B ((j+1:M):J)],?_,?_,cF r',by exact S8 e,O,j+1,O,by exact S7 o e,by rw[v],by rw[v];exact λc C=>p c<|.tail _ C⟩
     ·trivial
     ·trivial
    |false=>
     have u:([32,9,10,13]:Y M).contains c=false:=g
     rw[g,az<|by decide]at e
     refine .inl ⟨[rd B ((j:M):J)],?_,O,by rw[←o,←e];rfl⟩
     trivial)
  1000 (cF r) [z<|.lbl 0] [rd B ((k:M):J)] ⟨O,k,O,O,by rw[h],h▸I⟩ (by exact ve U)
 subst i m
 refine oy (l:= [z<|.lbl 0]) [z<|.lbl 0] (sd O) O ?_
 unfold Hw
 trivial
theorem rO(h:B.drop k=r)(b:s.length≤100)(I:k≤B.length):iX [.lbl 0, .p<|.bytes s] (rd B k::X)= .ok (.p<|.bool<|r.take s.length==s) (rd B k::X):=by
 refine gD (sd O) (sd O)<|b8 [z<|.lbl 0,z<|.p<|.bytes s] (sd O) O ?_
 have e:jz (.p<|.bytes B) (z (k:J)) (z<|(k:J)+(s.length:J)) [rd B k]= .ok (.p<|.bytes<|r.take s.length) [rd B k]:=by
  show (if B.length≤1000000 then R.ok (V.p<|P.bytes<|eY B (z (k:J))<|z<|(k:J)+(s.length:J)) [rd B k]else .err)=_
  rw[aw hB,←h]
  have a:cq B.length (k:J)=k:=by unfold cq;rw[az<|by exact zq213];exact S6 I
  have x:cq B.length ((k:J)+(s.length:J))=min (k+s.length) B.length:=by unfold cq;rw[az<|by exact S5];exact S4
  have:eY B (z (k:J)) (z<|(k:J)+(s.length:J))=(B.drop k).take s.length:=by
   unfold eY
   show (B.drop<|cq B.length (k:J)).take (cq B.length ((k:J)+(s.length:J))-cq B.length (k:J))=_
   rw[a,x]
   rcases dh (k+s.length) B.length with q|q
   ·rw[kC q,pA]
   ·rw[Nat.min_eq_right q,pB (by simp),pB (by simp;exact S3 q)]
  rw[this]
 unfold Hu
 have g:ce [.p (.bytes s)] [rd B k]= .ok (.p (.int s.length)) [rd B k]:=yA (sd<|by exact S2 b)
 trivial
end
end
section
theorem DD{k:M}(h:48≤k)(e:k≤57)(H:Y af):w3 [.p<|.int k] H= .ok (.p<|.int<|(k:J)-48) H:=by
 refine fj (sd O) (sd O)<|b8 [z<|.p<|.int k] (sd O) O ?_
 have b:decide ((48:J)≤(k:J))=Q:=bx (by exact S0 h)
 have g:decide ((k:J)≤(57:J))=Q:=bx (by exact SY e)
 unfold m3
 refine bA (dq (Mq kE (aH<|sd O) (Gu<|sd b)<|fJ (sd O)<|Mr kE<|Gu<|sd g)<|fJ (sd O) ?_)<|nS O
 trivial
theorem Vw(H:Y af):w3 [.p<|.int 125] H= .ok (.p .none) H:=fj (sd O) (sd O)<|by kernel_rfl
noncomputable def val(b:Y M)(n:J):J:=b.foldl (λ(n:J) (k:M)=>n*16+((k:J)-48)) n
section
variable{B:Y M}{k:M}{X:Y af}(hB:B.length≤1000000)
noncomputable def An:aj→Y af→R ak:=a_ (aq<|ag ltS (aa 4)<|aa 2)<|a_ (aq<|ag neS (aC 5 bt (aa 0) nilA)<|gJ<|kI 1)<|a_ (aq<|ag isNotS (ao w3<|ae (aC 5 bt (aa 0) nilA) nilA)<|kM .none)<|kT Q
noncomputable def AN:aj→Y af→R Fl:=ai (aB 3<|ag addS (ag mulS (aa 3)<|kI 16)<|ao w3<|ae (aC 5 cu (aa 0) nilA) nilA)<|ai (aB 4<|ag iS (aa 4)<|kI 1) nilM
theorem Of:Hr=(ai (kh [3,4]<|ae (kI 0)<|ae (kI 0) nilA)<|ai (dS An AN 1000)<|ai (ax (aq<|ag ltS (aa 4)<|aa 1) (ai (a7<|aC 5 cV (aa 0)<|ae (aD (aF 13)<|aa 0) nilA) nilM) nilM)<|ai (aK<|aa 3) nilM):=O
include hB
theorem yr{e r:Y M}{l m:M}(h:B.drop k=e++r)(I: ∀c∈e,48≤c∧c≤57)(hm:e.length=m∨(e.length<m∧ ∃y,r=125::y))(U:l≤e.length)(w:m<100):
  jE [.lbl 0, .p<|.int l, .p<|.int m] (rd B k::X)= .ok (.p<|.int<|val e 0) (rd B ((k+e.length:M):J)::X):=by
 refine gD (sd O) (sd O)<|b8 [z<|.lbl 0,z<|.p<|.int l,z<|.p<|.int m,D,D] (sd O) O ?_
 obtain ⟨x,H',hw,i,s⟩:=pT (t:=An) (b:=AN)
  (a:=λf H=>f= [z<|.lbl 0,z<|.p<|.int l,z<|.p<|.int m,z<|.p<|.int<|val e 0,z<|.p<|.int e.length]∧H= [rd B ((k+e.length:M):J)])
  (λn f H=> ∃a b,e=a++b∧b.length=n∧f= [z<|.lbl 0,z<|.p<|.int l,z<|.p<|.int m,z<|.p<|.int<|val a 0,z<|.p<|.int a.length]∧H= [rd B ((k+a.length:M):J)])
  (λn f H G=>by
   obtain ⟨a,b,i,s,A,C⟩:=G
   subst A C
   have j:B.drop (k+a.length)=b++r:=by rw[←gy,h,i,cz,mU]
   have u:e.length=a.length+b.length:=by rw[i,bE]
   unfold An
   cases b with
   |nil=>
    obtain rfl:e=a:=by rw[i,ft]
    refine .inl ⟨_,?_,O,O⟩
    rcases hm with hm|⟨hm,y,hr⟩
    ·have q:decide ((e.length:J)<(m:J))=N:=bu (by exact SX hm)
     trivial
    ·have q:decide ((e.length:J)<(m:J))=Q:=bx (by exact E8 hm)
     have p:=eF hB (X:= []) j
     rw[hr]at p
     have p2:=Vw [rd B ((k+e.length:M):J)]
     have p3:isNotS (.p .none) (.p .none) [rd B ((k+e.length:M):J)]= .ok (.p<|.bool N) [rd B ((k+e.length:M):J)]:=O
     have p4:bt [.lbl 0] [rd B ((k+e.length:M):J)]= .ok (.p<|.int 125) [rd B ((k+e.length:M):J)]:=p
     trivial
   |cons c b=>
    obtain ⟨v,o⟩:=I c (by rw[i];simp)
    have q:decide ((a.length:J)<(m:J))=Q:=bx (by rw[fX]at u;rcases hm with hm|hm<;>first|exact zq321 u hm|exact zq322 u hm.1)
    have p4:bt [.lbl 0] [rd B ((k+a.length:M):J)]= .ok (.p<|.int c) [rd B ((k+a.length:M):J)]:=eF hB (X:= []) j
    have p:=DD v o [rd B ((k+a.length:M):J)]
    have p3:isNotS (.p<|.int<|(c:J)-48) (.p .none) [rd B ((k+a.length:M):J)]= .ok (.p<|.bool Q) [rd B ((k+a.length:M):J)]:=O
    have q2:(!((c:J)== -1))=Q:=by rw[eS,cL];exact ET
    have p5:=fu hB (X:= []) j (by exact SW o)
    have p6:=DD v o [rd B ((k+a.length+1:M):J)]
    refine .inr ⟨[rd B ((k+a.length:M):J)],[z<|.lbl 0,z<|.p<|.int l,z<|.p<|.int m,z<|.p<|.int<|val a 0*16+((c:J)-48),z<|.p<|.int<|a.length+1],[rd B ((k+a.length+1:M):J)],?_,?_,b.length,by rw[←s];exact fF _,a++ [c],b,by rw[i,cz];rfl,O,?_,?_⟩
    ·trivial
    ·unfold AN
     trivial
    ·unfold val;rw[List.foldl_append,bE];rfl
    ·rw[bE];rfl)
  1000 e.length [z<|.lbl 0,z<|.p<|.int l,z<|.p<|.int m,z<|.p<|.int 0,z<|.p<|.int 0] [rd B ((k:M):J)] ⟨[],e,O,O,O,O⟩ (by rcases hm with hm|hm<;>first|exact zq325 w hm|exact zq326 w hm.1)
 subst i s
 have q:decide ((e.length:J)<(l:J))=N:=bu (by exact ES U)
 rw[Of]
 trivial
end
end
section
def Lt(c:M):Prop:=97≤c∧c≤104
noncomputable def aO:M→M→Y M
 |1,c=> [92,120,54,c-48]
 |2,c=> [92,117,48,48,54,c-48]
 |3,c=> [92,120,123,54,c-48,125]
 |_,c=> [c]
theorem Gk(h:Lt c):val [54,c-48] 0=c:=by
 show ((0:J)*16+(((54:M):J)-48))*16+(((c-48:M):J)-48)=c
 have:=h.1;have:=h.2;exact SV<|by assumption
theorem W_(h:Lt c):val [48,48,54,c-48] 0=c:=by
 show ((((0:J)*16+(((48:M):J)-48))*16+(((48:M):J)-48))*16+(((54:M):J)-48))*16+(((c-48:M):J)-48)=c
 have:=h.1;have:=h.2;exact SU<|by assumption
theorem zT(h:Lt c): ∀k∈ [54,c-48],48≤k∧k≤57:=λk hd=>by
 have:=h.1;have:=h.2
 rcases dP.mp hd with rfl|hd
 ·exact SR
 ·rw[bz.mp hd];exact SQ (by assumption) this
theorem Xv(h:Lt c): ∀k∈ [48,48,54,c-48],48≤k∧k≤57:=λk hd=>by
 rcases dP.mp hd with rfl|hd
 ·exact ER
 ·rcases dP.mp hd with rfl|hd
  ·exact ER
  ·exact zT h k hd
section
variable{B:Y M}{k:M}{X:Y af}(hB:B.length≤1000000){c:M}{r:Y M}
include hB
theorem Nm(f:Lt c)(h:B.drop k=123::54::(c-48)::125::r):qG [.lbl 0] (rd B k::X)= .ok (.p<|.int c) (rd B ((k+4:M):J)::X):=by
 refine gD (sd O) (sd O)<|b8 [z<|.lbl 0,D] (sd O) O ?_
 have i:=fu hB (X:= []) h (by exact SN)
 have b:=(dn h).2.1
 have j:=yr hB (X:= []) (e:= [54,c-48]) (r:=125::r) (l:=1) (m:=6) b (zT f) (.inr ⟨hY O,r,O⟩) (hY O) (by decide)
 rw[Gk f]at j
 have e:B.drop (k+1+2)=125::r:=by rw[←gy,b];rfl
 have p:=eF hB (X:= []) e
 have g:=fu hB (X:= []) e (by exact SM)
 have j:jE [.lbl 0, .p<|.int 1, .p<|.int 6] [rd B ((k+1:M):J)]= .ok (.p<|.int c) [rd B ((k+1+2:M):J)]:=j
 have p:bt [.lbl 0] [rd B ((k+1+2:M):J)]= .ok (.p<|.int 125) [rd B ((k+1+2:M):J)]:=p
 have q:(!((125:J)==125))=N:=O
 unfold Hq
 trivial
theorem D4(f:Lt c):decide ((1114111:J)<(c:J))=N:=bu<|by have:=f.2;exact SK this
noncomputable def wA:P:= .dict [(.int 97, .int 7),(.int 98, .int 8),(.int 116, .int 9),(.int 110, .int 10),(.int 118, .int 11),(.int 102, .int 12),(.int 114, .int 13)]
noncomputable def AK:aj→Y af→R V:=dictF<|cQ (kI 97) (kI 7)<|cQ (kI 98) (kI 8)<|cQ (kI 116) (kI 9)<|cQ (kI 110) (kI 10)<|cQ (kI 118) (kI 11)<|cQ (kI 102) (kI 12)<|cQ (kI 114) (kI 13) nilP
theorem Ef(l:aj)(H:Y af):AK l H= .ok (.p wA) H:=by kernel_rfl
theorem Fy(f:Lt c)(h:B.drop k=92::120::r)
  (x:ax (aq<|ag eqS (aC 5 bt (aa 0) nilA)<|kI 123) (ao qG<|ae (aa 0) nilA) (ao jE<|ae (aa 0)<|ae (kI 2)<|ae (kI 2) nilA) [z<|.lbl 0,z<|.p<|.int k,z<|.p<|.int 120,z<|.p wA,z<|.p<|.int 120] [rd B ((k+1+1:M):J)]= .ok (.p<|.int c) [rd B ((n:M):J)]):qF [.lbl 0] (rd B k::X)= .ok (.p<|.int c) (rd B (n:J)::X):=by
 refine gD (sd O) (sd O)<|b8 [z<|.lbl 0,D,D,D,D] (sd O) O ?_
 have i:=fu hB (X:= []) h (by exact y6)
 have b:=(dn h).2.1
 have j:=fu hB (X:= []) b (by exact SJ)
 have j:cu [.lbl 0] [rd B ((k+1:M):J)]= .ok (.p<|.int 120) [rd B ((k+1+1:M):J)]:=j
 have p:=Ef hB [z<|.lbl 0,z<|.p<|.int k,z<|.p<|.int 120,D,D] [rd B ((k+1+1:M):J)]
 unfold AK at p
 have g:inS (.p<|.int 120) (.p wA) [rd B ((k+1+1:M):J)]= .ok (.p<|.bool N) [rd B ((k+1+1:M):J)]:=by kernel_rfl
 have a:e7 [.p<|.int 120] [rd B ((k+1+1:M):J)]= .ok (.p<|.str [120]) [rd B ((k+1+1:M):J)]:=O
 have q:=D4 hB f
 unfold Ax
 trivial
theorem Vt(f:Lt c)(h:B.drop k=92::117::48::48::54::(c-48)::r):qF [.lbl 0] (rd B k::X)= .ok (.p<|.int c) (rd B ((k+6:M):J)::X):=by
 refine gD (sd O) (sd O)<|b8 [z<|.lbl 0,D,D,D,D] (sd O) O ?_
 have i:=fu hB (X:= []) h (by exact y6)
 have b:=(dn h).2.1
 have j:=fu hB (X:= []) b (by exact SI)
 have j:cu [.lbl 0] [rd B ((k+1:M):J)]= .ok (.p<|.int 117) [rd B ((k+1+1:M):J)]:=j
 have a:=Ef hB [z<|.lbl 0,z<|.p<|.int k,z<|.p<|.int 117,D,D] [rd B ((k+1+1:M):J)]
 unfold AK at a
 have g:inS (.p<|.int 117) (.p wA) [rd B ((k+1+1:M):J)]= .ok (.p<|.bool N) [rd B ((k+1+1:M):J)]:=by kernel_rfl
 have n:e7 [.p<|.int 117] [rd B ((k+1+1:M):J)]= .ok (.p<|.str [117]) [rd B ((k+1+1:M):J)]:=O
 have p:=yr hB (X:= []) (e:= [48,48,54,c-48]) (r:=r) (l:=4) (m:=4) (dn b).2.1 (Xv f) (.inl O) (bo _) (by decide)
 rw[W_ f]at p
 have p:jE [.lbl 0, .p<|.int 4, .p<|.int 4] [rd B ((k+1+1:M):J)]= .ok (.p<|.int c) [rd B ((k+6:M):J)]:=p
 have q:=D4 hB f
 unfold Ax
 trivial
theorem ye{P:M→Prop}(h: ∀c∈ [97,98,99,100,101,102,103,104],P c)(f:Lt c):P c:=by
 obtain ⟨b,e⟩:=f
 exact h c<|by simp;exact EQ b e
theorem uU(f:M)(a:Lt c)(h:B.drop k=aO f c++r):lB [.lbl 0] (rd B k::X)= .ok (.p<|.int c) (rd B ((k+(aO f c).length:M):J)::X):=by
 have e: ∀(n:M) (i:Y M),B.drop k=92::i→qF [.lbl 0] [rd B k]= .ok (.p<|.int c) [rd B (n:J)]→lB [.lbl 0] (rd B k::X)= .ok (.p<|.int c) (rd B (n:J)::X):=λn i o x=>by
  refine gD (sd O) (sd O)<|b8 [z<|.lbl 0,D,D] (sd O) O ?_
  have p:=eF hB (X:= []) o
  have p:bt [.lbl 0] [rd B k]= .ok (.p<|.int 92) [rd B k]:=p
  unfold Aw
  trivial
 have plain:B.drop k=c::r→lB [.lbl 0] (rd B k::X)= .ok (.p<|.int c) (rd B ((k+1:M):J)::X):=λh=>by
  refine gD (sd O) (sd O)<|b8 [z<|.lbl 0,D,D] (sd O) O ?_
  have p:bt [.lbl 0] [rd B k]= .ok (.p<|.int c) [rd B k]:=eF hB (X:= []) h
  have u:=fu hB (X:= []) h (by have:=a.2;exact SH this)
  have v:=Ch hB (c:=c) (s:= [91,93,123,125,38,45,92,94]) (H:= [rd B ((k+1:M):J)]) (by have:=a.2;exact SG this)
  have q:((c:J)==92)=N:=by rw[cL];have:=a.1;exact SF this
  have w:([91,93,123,125,38,45,92,94]:Y M).contains c=N:=ye hB (P:=λc=>([91,93,123,125,38,45,92,94]:Y M).contains c=N) (by decide) a
  unfold Aw
  trivial
 have j: ∀{n:M},((n:J)==(n:J))=Q:=fD _
 match f,h with
 |1,h=>
  refine e (k+4) _ h<|Fy hB a (r:=54::(c-48)::r) h ?_
  have g:=(dn (dn h).2.1).2.1
  have p:bt [.lbl 0] [rd B ((k+1+1:M):J)]= .ok (.p<|.int 54) [rd B ((k+1+1:M):J)]:=eF hB (X:= []) g
  have b:=yr hB (X:= []) (e:= [54,c-48]) (r:=r) (l:=2) (m:=2) g (zT a) (.inl O) (bo _) (by decide)
  rw[Gk a]at b
  have b:jE [.lbl 0, .p<|.int 2, .p<|.int 2] [rd B ((k+1+1:M):J)]= .ok (.p<|.int c) [rd B ((k+4:M):J)]:=b
  trivial
 |2,h=>exact e (k+6) _ h<|Vt hB a h
 |3,h=>
  refine e (k+6) _ h<|Fy hB a (r:=123::54::(c-48)::125::r) h ?_
  have g:=(dn (dn h).2.1).2.1
  have p:bt [.lbl 0] [rd B ((k+1+1:M):J)]= .ok (.p<|.int 123) [rd B ((k+1+1:M):J)]:=eF hB (X:= []) g
  have b:=Nm hB (X:= []) a g
  have b:qG [.lbl 0] [rd B ((k+1+1:M):J)]= .ok (.p<|.int c) [rd B ((k+6:M):J)]:=b
  trivial
 |0,h=>exact plain h
 |n+4,h=>exact plain h
end
end
section
noncomputable def jJ(l:ak):Y M:= [103,99,61,76,if l then 108 else 117]
noncomputable def jt:ak→ak→Y J
 |true,false=> [97,102]
 |false,false=> [102,105]
 |true,true=> [0,97,102,1114112]
 |false,true=> [0,102,105,1114112]
theorem Dv(l o:ak)(b k:J)(B:Y M)(X:Y af):oQ [.lbl 0, .p<|.str<|jJ l, .p<|.bool o, .p<|.int b] (rd B k::X)= .ok (.p<|cs<|jt l o) (rd B k::X):=by
 refine qi (sd O) (sd O) ?_
 cases l<;>cases o<;>kernel_rfl
theorem Lb(l o:ak)(b k:J)(B:Y M)(X:Y af):oQ [.lbl 0, .p<|.str<|94::jJ l, .p<|.bool o, .p<|.int b] (rd B k::X)= .ok (.p<|cs<|jt l<|!o) (rd B k::X):=by
 refine qi (sd O) (sd O) ?_
 cases l<;>cases o<;>kernel_rfl
noncomputable def bp(r:Y M):ak:=r.take 2== [91,58]||(r.take 2== [92,112]||r.take 2== [92,80])
def bs(r:Y M):ak:=pk r==91||bp r
theorem It(t:Y M):lZ (t.map λc=>P.str [c])=z (t.map λc=> [c]):=qr (f:=oE) (λ_=>rfl) t
theorem Bo(t:Y M):(t.map λc=> [c]).flatten=t:=by
 induction t with
 |nil=>rfl
 |cons c t i=>rw[ee,t6,i];rfl
theorem Cc(h:df v H=z c)(e:lZ c=z s)(b:s.flatten.length≤1000000):lh [.p<|.str [],v] H= .ok (.p<|.str s.flatten) H:=by
 show (df v H).elim R.err _=_
 rw[h]
 show (lZ c).elim R.err _=_
 rw[e]
 exact aw b
theorem Bl(h:df v H=z (t.map λc=>P.str [c]))(b:t.length≤1000000):lh [.p<|.str [],v] H= .ok (.p<|.str t) H:=by
 have:=Cc h (It t) (by rw[Bo];exact b)
 rwa [Bo]at this
section
variable{B:Y M}{k:M}{X:Y af}(hB:B.length≤1000000){c:M}{r:Y M}
include hB
theorem yq(h:B.drop k=r)(I:k≤B.length):oR [.lbl 0] (rd B k::X)= .ok (.p<|.bool<|bp r) (rd B k::X):=by
 refine gD (sd O) (sd O)<|b8 [z<|.lbl 0] (sd O) O ?_
 have b:iX [.lbl 0, .p<|.bytes [91,58]] [rd B k]= .ok (.p<|.bool<|r.take 2== [91,58]) [rd B k]:=rO hB h (by decide) I
 have g:iX [.lbl 0, .p<|.bytes [92,112]] [rd B k]= .ok (.p<|.bool<|r.take 2== [92,112]) [rd B k]:=rO hB h (by decide) I
 have j:iX [.lbl 0, .p<|.bytes [92,80]] [rd B k]= .ok (.p<|.bool<|r.take 2== [92,80]) [rd B k]:=rO hB h (by decide) I
 unfold Hp bp
 generalize (r.take 2== [91,58])=x at*
 generalize (r.take 2== [92,112])=y at*
 generalize (r.take 2== [92,80])=a at*
 cases x<;>cases y<;>trivial
theorem uT(h:B.drop k=r)(I:k≤B.length):mx [.lbl 0] (rd B k::X)= .ok (.p<|.bool<|bs r) (rd B k::X):=by
 refine gD (sd O) (sd O)<|b8 [z<|.lbl 0] (sd O) O ?_
 have b:=eF hB (X:= []) h
 have g:=yq hB (X:= []) h I
 unfold Ho bs
 have j:eqS (.p<|.int<|pk r) (.p<|.int 91) [rd B k]= .ok (.p<|.bool<|pk r==91) [rd B k]:=O
 generalize (pk r==91)=x at*
 cases x<;>trivial
theorem No(h:B.drop k=t++125::r)(ht: ∀c∈t,c≤127∧c≠125)(y:t.length<900):sY [.lbl 0, .p<|.int 125] (rd B k::X)= .ok (.p<|.str t) (rd B ((k+t.length+1:M):J)::X):=by
 have A: ∀(a b:Y M),t=a++b→B.drop (k+a.length)=b++125::r:=λa b e=>by rw[←gy,h,e,cz,mU]
 have hd: ∀b:Y M,(∀c∈b,c≤127∧c≠125)→ ∃c s,b++125::r=c::s∧c≤127∧(b= []∧c=125∧s=r∨ ∃b',b=c::b'∧c≠125∧s=b'++125::r):=λb U=>by
  cases b with
  |nil=>exact⟨125,r,O,by decide, .inl ⟨O,O,O⟩⟩
  |cons c b=>exact⟨c,_,O,(U c<|.head _).1, .inr ⟨b,O,(U c<|.head _).2,O⟩⟩
 obtain ⟨C,s0,m,x,hc20'⟩:=hd t ht
 obtain ⟨loc'',H',hw,i,u⟩:=pT (t:=aq<|ag neS (aa 4)<|aa 1) (b:=ai (a7<|cU f_ fh (aa 3)<|ae (ao e7<|ae (aa 4) nilA) nilA)<|ai (ax (aq<|ag eqS (aC 5 bt (aa 0) nilA)<|gJ<|kI 1) (ai (a7<|aC 5 cV (aa 0)<|ae (aa 2) nilA) nilM) nilM)<|ai (aB 4<|aC 5 cu (aa 0) nilA) nilM)
  (a:=λl H=>l= [z<|.lbl 0,z<|.p<|.int 125,z<|.p<|.int k,z<|.lbl 1,z<|.p<|.int ((125:M):J)]∧H= [rd B ((k+t.length+1:M):J), .list<|t.map λc=>P.str [c]])
  (λn l H=> ∃a b c s,t=a++b∧b.length=n∧b++125::r=c::s∧l= [z<|.lbl 0,z<|.p<|.int 125,z<|.p<|.int k,z<|.lbl 1,z<|.p<|.int c]∧H= [rd B ((k+a.length+1:M):J), .list<|a.map λc=>P.str [c]])
  (λn l H hJ=>by
   obtain ⟨a,b,c,s,i,u,I,e4,e5⟩:=hJ
   subst e4 e5
   cases b with
   |nil=>
    obtain rfl:t=a:=by rw[i,ft]
    cases I
    refine .inl ⟨_,?_,O,O⟩
    have q:(!(((125:M):J)==125))=N:=O
    trivial
   |cons f b=>
    obtain rfl:f=c:=by injection I
    have hm: ∀c∈f::b,c≤127∧c≠125:=λc w=>ht c (by rw[i];exact wO _ w)
    obtain ⟨d1,d2⟩:=hm f<|.head _
    obtain ⟨j,s',hc'',o,_⟩:=hd b λc w=>hm c<|.tail _ w
    have q:(!((f:J)==125))=Q:=by rw[eS,cL];exact EP d2
    have G:B.drop (k+a.length+1)=j::s':=by rw[←hc''];exact(dn<|A a (f::b) i).2.1
    have p1:=eF hB (X:= [.list<|a.map (λc=>P.str [c])++ [P.str [f]]]) G
    have p1:bt [.lbl 0] [rd B ((k+a.length+1:M):J), .list<|a.map (λc=>P.str [c])++ [P.str [f]]]= .ok (.p<|.int j) [rd B ((k+a.length+1:M):J), .list<|a.map (λc=>P.str [c])++ [P.str [f]]]:=p1
    have p2:=fu hB (X:= [.list<|a.map (λc=>P.str [c])++ [P.str [f]]]) G o
    have q2:((j:J)== -1)=N:=by rw[cL];exact ET
    have p3:e7 [.p<|.int f] [rd B ((k+a.length+1:M):J), .list<|a.map λc=>P.str [c]]= .ok (.p<|.str [f]) [rd B ((k+a.length+1:M):J), .list<|a.map λc=>P.str [c]]:=FG (sd<|by exact SD d1)
    have la:a.length≤1000000:=by have:=aR kH i;rw[bE]at this;exact SA y this
    have p4:fh [.lbl 1, .p<|.str [f]] [rd B ((k+a.length+1:M):J), .list<|a.map λc=>P.str [c]]= .ok (.p .none) [rd B ((k+a.length+1:M):J), .list<|a.map (λc=>P.str [c])++ [P.str [f]]]:=sc (sd O) (sd<|by rw[bc];exact la) O
    refine .inr ⟨_,[z<|.lbl 0,z<|.p<|.int 125,z<|.p<|.int k,z<|.lbl 1,z<|.p<|.int j],[rd B ((k+a.length+1+1:M):J), .list<|a.map (λc=>P.str [c])++ [P.str [f]]],cO<|br (aH<|sd O) (aH<|sd O)<|Gs<|sd q,?_,b.length,by rw[←u];exact fF _,a++ [f],b,j,s',by rw[i,cz];rfl,O,hc'',O,?_⟩
    ·trivial
    ·rw[fN,bE];rfl)
  1000 t.length [z<|.lbl 0,z<|.p<|.int 125,z<|.p<|.int k,z<|.lbl 1,z<|.p<|.int C] [rd B ((k+1:M):J), .list []] ⟨[],t,C,s0,O,O,m,O,O⟩ (by exact ve y)
 subst i u
 refine qi (sd O) (sd O)<|gL (v:= .p<|.str t) (H1:= [rd B ((k+t.length+1:M):J), .list<|t.map λc=>P.str [c]]) (b8 [z<|.lbl 0,z<|.p<|.int 125,D,D,D] (sd O) O ?_) O
 have p:=fu hB (X:= [.list []]) (h.trans m) x
 have pj:=Bl (t:=t) (v:= .lbl 1) (H:= [rd B ((k+t.length+1:M):J), .list<|t.map λc=>P.str [c]]) O (by exact iP y)
 unfold Ht
 trivial
end
end
section
def gI(l:ak):M→Y M
 |0=>92::112::123::jJ l++ [125]
 |1=>92::80::123::jJ l++ [125]
 |2=>91::58::jJ l++ [58,93]
 |_=>91::58::94::jJ l++ [58,93]
theorem Mb{B t r:Y M}{i:M}(h:B.drop i=t++58::93::r)(a: ∀c∈t,c<256∧c≠58)(g:B.length≤1000000):qg (ck B) (ck [58,93]) i=((i+t.length:M):J):=by
 have hlen0':i+t.length+2≤B.length:=by
  have:=aR kH h
  rw[tZ,bE]at this
  simp only[fX]at this
  exact Sz this
 have s:(ck B).size=B.length:=by show (B.map dw).length=_;rw[bc]
 have w1:(lM (ck B).size (some (i:J)) none).1=i:=by
  show (if(i:J)<0 then max 0<|(i:J)+((ck B).size:J)else(i:J))=i
  rw[az<|by exact zq213]
 have w2:(lM (ck B).size (some (i:J)) none).2=B.length:=by
  show min ((ck B).size:J) (if((ck B).size:J)<0 then max 0<|((ck B).size:J)+((ck B).size:J)else((ck B).size:J))=B.length
  rw[s,az (by exact zq213),Int.min_self]
 have ext: ∀j,((ck B).extract (j+i) (j+i+(ck [58,93]).size)==ck [58,93])=(((B.drop<|i+j).take 2).map dw== [58,93]):=by
  intro j
  show ((B.map dw).toArray.extract (j+i) (j+i+2)== [(58:da),93].toArray)=_
  rw[List.extract_toArray,List.extract_eq_take_drop,pA,←List.map_drop,←List.map_take,Nat.add_comm j i]
  rw[iF,dM,dM]
  exact⟨λe=>aR Array.toList e,λe=>aR List.toArray e⟩
 have f:tT (ck B) (ck [58,93]) i B.length=some (i+t.length):=by
  unfold tT
  rw[List.find?_map]
  have:(dO<|B.length+1-(i+(ck [58,93]).size)).find? ((λi=>(ck B).extract i (i+(ck [58,93]).size)==ck [58,93])∘λx=>x+i)=some t.length:=by
   rw[List.find?_range_eq_some]
   refine⟨?_,jh.mpr (by show _<B.length+1-(i+2);exact Sy hlen0'),λj b=> ?_⟩
   ·show ((ck B).extract (t.length+i) (t.length+i+(ck [58,93]).size)==ck [58,93])=Q
    rw[ext,←gy,h,mU];rfl
   ·show (!((ck B).extract (j+i) (j+i+(ck [58,93]).size)==ck [58,93]))=Q
    rw[ext,←gy,h,List.drop_append_of_le_length<|fq b,w_ b]
    obtain ⟨p,q⟩:=a t[j]<|List.getElem_mem b
    rw[eS,cL]
    intro e
    rw[xe,List.take_succ_cons,ee]at e
    injection e with e _
    have:=aR qW e
    rw[qV,ri p]at this
    exact q this
  rw[this,Nat.add_comm];rfl
 unfold qg
 rw[w1,w2,az<|by show ¬((B.length:J)-(i:J)<((2:M):J));exact Sx hlen0']
 show (match tT (ck B) (ck [58,93]) (i:J).toNat (B.length:J).toNat with|some j=>(j:J)|none=> -1)=_
 rw[xg,xg,f]
section
variable{B:Y M}{k:M}{X:Y af}(hB:B.length≤1000000){c:M}{r:Y M}
include hB
theorem Mk(h:B.drop k=t++r):jz (.p<|.bytes B) (z (k:J)) (z ((k+t.length:M):J)) H= .ok (.p<|.bytes t) H:=by
 have hlen0':k+t.length≤B.length∨t= []:=by
  cases t with
  |nil=>exact .inr O
  |cons c t=>have:=aR kH h;rw[tZ,bE,fX]at this;exact .inl (by rw[fX];exact Sw this)
 show (if B.length≤1000000 then R.ok (V.p<|P.bytes<|eY B (z (k:J))<|z ((k+t.length:M):J)) H else .err)=_
 rw[aw hB]
 have a: ∀n:M,cq B.length (n:J)=min n B.length:=λn=>by unfold cq;rw[az<|by exact zq213];exact Sv
 have:eY B (z (k:J)) (z ((k+t.length:M):J))=t:=by
  unfold eY
  show (B.drop<|cq B.length (k:J)).take (cq B.length ((k+t.length:M):J)-cq B.length (k:J))=t
  rw[a,a]
  rcases hlen0' with q|q
  ·rw[kC q,kC (by exact Su q),h,pA,List.take_left]
  ·subst q;rw[lR,Nat.add_zero,Nat.sub_self];rfl
 rw[this]
theorem KU(a:m l H= .ok (.p<|.bytes t) H)(g: ∀c∈t,c<256)(b:t.length<900):bW ["octet"] [] N (bT m) (bv 0) trueT (ao e7<|ae (aa 0) nilA) 1000 l H= .ok (.p<|.list<|t.map λc=>P.str [c]) H:=by
 refine jZ (C:= .bytes t) (kj a<|sd O) (sd O) ?_
 have f:=l8 (C:= .bytes t) (o:=bv 0) (t:=trueT) (m:=ao e7<|ae (aa 0) nilA) (t.map λ(c:M)=>P.int c) (λl=> ∃o,l= [o]) (λ_=>Q) (λp=>match p with| .int i=> .str [i.toNat]|_=> .none) H
  (λi=>by rw[eK];rfl)
  (λp e l h=>by
   obtain ⟨o,y⟩:=h
   subst y
   obtain ⟨c,f,rfl⟩:=cY.mp e
   refine⟨_,O,⟨_,O⟩,O,λ_=> ?_⟩
   exact bH (aI (aH<|sd O) a8)<|FG<|sd<|by have:=g c f;exact Ss this) 1000 0 [D] [] ⟨D,O⟩ (dc _) (by rw[bc];exact rZ b) (by rw[bc];simp;exact iP b)
 rw[iC,pF.mpr λ_ _=>rfl,lQ,eu]at f
 exact f
theorem zu(l:ak): ∀c∈jJ l,c≤127∧c≠125∧c<256∧c≠58:=by cases l<;>decide
theorem Fw(l:ak)(h:B.drop k=92::s::123::(jJ l++125::r))(g:s≤127):qE [.lbl 0] (rd B k::X)= .ok (.p<|cs<|jt l<|(s:J)==80) (rd B ((k+9:M):J)::X):=by
 refine gD (sd O) (sd O)<|b8 [z<|.lbl 0,D,D,D,D] (sd O) O ?_
 obtain ⟨_,b,I⟩:=dn h
 have e:=(dn b).2.1
 have a:=(dn e).2.1
 have y:iX [.lbl 0, .p<|.bytes [91,58]] [rd B k]= .ok (.p<|.bool N) [rd B k]:=rO hB (X:= []) h (by decide)<|fq I
 have i:=fu hB (X:= []) h (by exact y6)
 have j:cu [.lbl 0] [rd B ((k+1:M):J)]= .ok (.p<|.int s) [rd B ((k+1+1:M):J)]:=fu hB (X:= []) b g
 have p:bt [.lbl 0] [rd B ((k+1+1:M):J)]= .ok (.p<|.int 123) [rd B ((k+1+1:M):J)]:=eF hB (X:= []) e
 have m:cu [.lbl 0] [rd B ((k+1+1:M):J)]= .ok (.p<|.int 123) [rd B ((k+1+1+1:M):J)]:=fu hB (X:= []) e (by decide)
 have n:sY [.lbl 0, .p<|.int 125] [rd B ((k+1+1+1:M):J)]= .ok (.p<|.str<|jJ l) [rd B ((k+9:M):J)]:=No hB (X:= []) a (λc f=>⟨(zu hB l c f).1,(zu hB l c f).2.1⟩) (by cases l<;>decide)
 have o:=Dv l ((s:J)==80) k ((k+9:M):J) B []
 have q:(!((123:J)==123))=N:=O
 unfold Av
 trivial
theorem Fx(l o:ak)(h:B.drop k=91::58::(t++58::93::r))(a: ∀c∈t,c<256∧c≠58)(b:t.length<100)
  (x: ∀j,oQ [.lbl 0, .p<|.str t, .p<|.bool N, .p<|.int k] [rd B j]= .ok (.p<|cs<|jt l o) [rd B j]):qE [.lbl 0] (rd B k::X)= .ok (.p<|cs<|jt l o) (rd B ((k+(t.length+4):M):J)::X):=by
 refine gD (sd O) (sd O)<|b8 [z<|.lbl 0,D,D,D,D] (sd O) O ?_
 obtain ⟨_,f,I⟩:=dn h
 have e:B.drop (k+2)=t++58::93::r:=(dn f).2.1
 have y:iX [.lbl 0, .p<|.bytes [91,58]] [rd B k]= .ok (.p<|.bool Q) [rd B k]:=rO hB (X:= []) h (by decide)<|fq I
 have p:zw [.p<|.bytes B, .p<|.bytes [58,93], .p<|.int<|(k:J)+2] [rd B k]= .ok (.p<|.int ((k+2+t.length:M):J)) [rd B k]:=by
  show R.ok (V.p<|P.int<|qg (ck B) (ck [58,93]) ((k+2:M):J)) [rd B k]=_
  rw[Mb e a hB]
 have q:decide (((k+2+t.length:M):J)<0)=N:=bu (by exact Sr)
 have n:jz (.p<|.bytes B) (z<|(k:J)+2) (z ((k+2+t.length:M):J)) [rd B k]= .ok (.p<|.bytes t) [rd B k]:=Mk hB (H:= [rd B k]) e
 have s:=KU hB (t:=t) (m:=cR (aD (aF 11)<|aa 0) (ct<|ag addS (aa 1)<|kI 2)<|ct<|aa 2) (l:= [z<|.lbl 0,z<|.p<|.int k,z<|.p<|.int ((k+2+t.length:M):J),D,D]) (H:= [rd B k]) (by trivial) (λc g=>(a c g).1) (by exact y5 b)
 have u:=Bl (t:=t) (v:= .p<|.list<|t.map λc=>P.str [c]) (H:= [rd B k]) O (by exact Sq b)
 have w:eW 13 (.lbl 0) (.p<|.int<|((k+2+t.length:M):J)+2) [rd B k]= .ok () [rd B ((k+(t.length+4):M):J)]:=by
  rw[show (((k+2+t.length:M):J)+2)=((k+(t.length+4):M):J) by exact Sp];rfl
 have A:=x ((k+(t.length+4):M):J)
 unfold Av
 trivial
theorem Ni(l:ak)(x:w<4)(h:B.drop k=gI l w++r):qE [.lbl 0] (rd B k::X)= .ok (.p<|cs<|jt l<|w%2==1) (rd B ((k+(gI l w).length:M):J)::X):=by
 have o: ∀c∈jJ l,c<256∧c≠58:=λc f=>(zu hB l c f).2.2
 match w,x,h with
 |0,_,h=>exact Fw hB l (s:=112) (by cases l<;>exact h) (by decide)
 |1,_,h=>exact Fw hB l (s:=80) (by cases l<;>exact h) (by decide)
 |2,_,h=>exact Fx hB l N (t:=jJ l) (r:=r) (by cases l<;>exact h) o (by cases l<;>decide) λj=>Dv l N k j B []
 |3,_,h=>exact Fx hB l Q (t:=94::jJ l) (r:=r) (by cases l<;>exact h) (λc f=>by cases f with
  |head=>decide
  |tail _ f=>exact o c f) (by cases l<;>decide) λj=>Lb l N k j B []
end
end
section
theorem IC(h:H[i]? =z c)(I:ix k i=D):(gA k H a)[i]? =z c:=by
 unfold gA
 rw[t5 (by rw[mX];exact(dH.mp h).1),xw,h,lN]
 show z ((ix k i).elim c _)=_
 rw[I];rfl
theorem rv(h:H[i]? =z c)(I:ix k i=z x)(b:a[x]? =z g):(gA k H a)[i]? =z (kU k H.length g):=by
 unfold gA
 rw[t5 (by rw[mX];exact(dH.mp h).1),xw,h,lN]
 show z ((ix k i).elim c λi=>a[i]?.elim .junk (kU k H.length))=_
 rw[I]
 show z (a[x]?.elim .junk (kU k H.length))=_
 rw[b];rfl
theorem A8(h:a[k.length+i]? =z g):(gA k H a)[H.length+i]? =z (kU k H.length g):=by
 unfold gA
 rw[wZ (by rw[mX];exact zK),mX,pA,eK,wX,h];rfl
def gY(H:Y af)(k:M):Y M:=match H[k]? with
 |some c=>zq c
 |none=> []
theorem m_(H:Y af)(n:M)(k:Y M):reach H (n+1) k=reach H n (addNew k<|k.flatMap<|gY H):=O
abbrev aG(q:M)(b:Y J)(s:Y bC)(a:ak):af:= .inst 6 [(14, .lbl q),(15, .p<|bM b s),(16, .p<|.bool a)]
abbrev aJ(b:Y<|J×J):af:= .list<|b.map bO
structure St(H:Y af)(B:Y M)(k:M)(b:Y J)(ss:Y bC)(bh:ak)(Q:Y (J×J)):Prop where
 rd:H[0]? =z (rd B k)
 sf: ∃q,2≤q∧H[1]? =z (aG q b ss bh)∧H[q]? =z (aJ Q)
section
variable{H:Y af}{B:Y M}{k:M}{b b':Y J}{ss ss':Y bC}{bh bh':ak}{aM' Q':Y (J×J)}
theorem St.cons(S:St H B k b ss bh aM'): ∃X,H=Mine.rd B k::X∧ ∀a:M,St (Mine.rd B a::X) B a b ss bh aM':=by
 obtain ⟨h,q,f,g,e⟩:=S
 cases H with
 |nil=>cases h
 |cons c X=>
  injection h with h
  subst h
  refine⟨X,O,λa=>⟨O,q,f,g,?_⟩⟩
  match q,f,e with
  |q+2,_,e=>exact e
theorem St.meth(S:St H B k b ss bh aM')(G:Sd<|vs.flatMap lblsV= [])(I:Sd<|∀s,cZ s vs=z vs)(h:f (.lbl 0::vs) [aG 1 b ss bh,aJ aM']= .ok (.p v) (aG q' b' ss' bh'::X))(hq:1≤q')(w:(aG q' b' ss' bh'::X)[q']? =z (aJ Q')):
  ∃c,aU f (.lbl 1::vs) H= .ok (.p v) c∧St c B k b' ss' bh' Q':=by
 obtain ⟨C,q,a,g,m⟩:=S
 have hn:(1=q)=bR:=eq_false (by exact rY a)
 have i1:ix [1,q] 1=z 0:=O
 have r:ix [1,q] q=z 1:=by unfold ix ix;rw[az (by exact rY a),aw O];rfl
 have i0:ix [1,q] 0=D:=by unfold ix ix;rw[az (by exact EO),az<|by exact EN a];rfl
 have x:addNew [1] [q]= [1,q]:=by
  show (if(ix [1] q).isSome=Q then [1]else [1]++ [q])=_
  rw[show ix [1] q=D by unfold ix;rw[az<|by exact rY a];rfl];rfl
 have j:addNew [1,q] [q]= [1,q]:=by
  show (if(ix [1,q] q).isSome=Q then [1,q]else _)=_
  rw[r];rfl
 have u:gY H 1= [q]:=by unfold gY;rw[g];rfl
 have y:gY H q= []:=by unfold gY;rw[m];rfl
 have l1:([1]:Y Nat).flatMap (gY H)= [q]:=by rw[ji,u];rfl
 have t:([1,q]:Y Nat).flatMap (gY H)= [q]:=by rw[ji,ji,u,y];rfl
 have hk:reach H 4 (addNew []<|(V.lbl 1::vs).flatMap lblsV)= [1,q]:=by
  rw[ji,show vs.flatMap lblsV= []from G]
  show reach H 4 [1]=_
  rw[m_,l1,x,m_,t,j,m_,t,j,m_,t,j];rfl
 have U:ia [1,q]=Q:=by
  show ((ix [q] 1).isNone&&ia [q])=Q
  rw[show ix [q] 1=D by unfold ix;rw[az<|by exact EM a];rfl];rfl
 have hv:cZ [1,q] (.lbl 1::vs)=z (.lbl 0::vs):=by
  show (cZ [1,q] vs).bind (λl=>z<|V.lbl 0::l)=_
  rw[show cZ [1,q] vs=z vs from I _];rfl
 have hp:kn [1,q] H [1,q]=z [aG 1 b ss bh,aJ aM']:=by
  have A:jW [1,q] (aG q b ss bh)=z (aG 1 b ss bh):=by
   show ((((ix [1,q] q).map V.lbl).map λv=>(14,v)).bind λv=>(z [(15,V.p<|bM b ss),(16,V.p<|.bool bh)]).bind λl=>z<|v::l).map (af.inst 6)=_
   rw[r];rfl
  show (H[1]?.bind (jW [1,q])).bind (λi=>((H[q]?.bind (jW [1,q])).bind λi=>z [i]).bind λl=>z<|i::l)=_
  rw[g,m]
  show (jW [1,q]<|aG q b ss bh).bind _=_
  rw[A];rfl
 refine⟨_,jr hk U hv hp h O rfl,IC C i0,?_⟩
 have o:=rv (a:=aG q' b' ss' bh'::X) g i1 O
 have p:kU [1,q] H.length (aG q' b' ss' bh')= .inst 6 [(14,j0 [1,q] H.length<|.lbl q'),(15, .p<|bM b' ss'),(16, .p<|.bool bh')]:=O
 rw[p]at o
 rcases Nat.eq_or_lt_of_le hq with e|e
 ·have e:=e
  subst e
  exact⟨q,a,o,rv (k:= [1,q]) (a:=aG 1 b' ss' bh'::X) m r w⟩
 ·obtain ⟨n,rfl⟩: ∃n,q'=n+2:=⟨q'-2,(Nat.sub_add_cancel e).symm⟩
  have hlen0':=(dH.mp g).1
  exact⟨H.length+n,by exact EL hlen0',o,by have:=A8 (k:= [1,q]) (H:=H) (a:=aG (n+2) b' ss' bh'::X) (i:=n) (by rw[show [1,q].length+n=n+2 from Nat.add_comm _ _];exact w);exact this⟩
end
end
section
section
variable{H:Y af}{B:Y M}{k:M}{b b':Y J}{ss ss':Y bC}{bh bh':ak}{ao' Q':Y (J×J)}
theorem St.sel(S:St H B k b ss bh ao')(p:Sd<|vs.flatMap lblsV= [])(s:Sd<|∀t,cZ t vs=z vs): ∃q,2≤q∧H[1]? =z (aG q b ss bh)∧H[q]? =z (aJ ao')∧ix [0,1,q] q=z 2∧
  reach H 4 (addNew []<|(V.lbl 0::V.lbl 1::vs).flatMap lblsV)= [0,1,q]∧ia [0,1,q]=Q∧cZ [0,1,q] (.lbl 0:: .lbl 1::vs)=z (.lbl 0:: .lbl 1::vs)∧kn [0,1,q] H [0,1,q]=z [Mine.rd B k,aG 2 b ss bh,aJ ao']:=by
 obtain ⟨j,q,a,c,h⟩:=S
 have r:ix [0,1,q] q=z 2:=by unfold ix ix ix;rw[az (by exact EK a),az (by exact rY a),aw O];rfl
 have e:gY H 0= []:=by unfold gY;rw[j];rfl
 have g:gY H 1= [q]:=by unfold gY;rw[c];rfl
 have y:gY H q= []:=by unfold gY;rw[h];rfl
 have m:addNew [0,1] [q]= [0,1,q]:=by
  show (if(ix [0,1] q).isSome=Q then [0,1]else [0,1]++ [q])=_
  rw[show ix [0,1] q=D by unfold ix ix;rw[az (by exact EK a),az<|by exact rY a];rfl];rfl
 have f:addNew [0,1,q] [q]= [0,1,q]:=by
  show (if(ix [0,1,q] q).isSome=Q then [0,1,q]else _)=_
  rw[r];rfl
 have u:([0,1]:Y M).flatMap (gY H)= [q]:=by rw[ji,ji,e,g];rfl
 have o:([0,1,q]:Y M).flatMap (gY H)= [q]:=by rw[ji,ji,ji,e,g,y];rfl
 refine⟨q,a,c,h,r,?_,?_,?_,?_⟩
 ·rw[ji,ji,show vs.flatMap lblsV= []from p]
  show reach H 4 [0,1]=_
  rw[m_,u,m,m_,o,f,m_,o,f,m_,o,f];rfl
 ·show ((ix [1,q] 0).isNone&&((ix [q] 1).isNone&&ia [q]))=Q
  rw[show ix [q] 1=D by unfold ix;rw[az<|by exact EM a];rfl,show ix [1,q] 0=D by unfold ix ix;rw[az (by exact EO),az<|by exact EN a];rfl];rfl
 ·show ((cZ [0,1,q] vs).bind λl=>z<|V.lbl 1::l).bind (λl=>z<|V.lbl 0::l)=_
  rw[show cZ [0,1,q] vs=z vs from s _];rfl
 ·have n:jW [0,1,q] (aG q b ss bh)=z (aG 2 b ss bh):=by
   show ((((ix [0,1,q] q).map V.lbl).map λv=>(14,v)).bind λv=>(z [(15,V.p<|bM b ss),(16,V.p<|.bool bh)]).bind λl=>z<|v::l).map (af.inst 6)=_
   rw[r];rfl
  show (H[0]?.bind (jW [0,1,q])).bind (λi=>((H[1]?.bind (jW [0,1,q])).bind λi=>((H[q]?.bind (jW [0,1,q])).bind λi=>z [i]).bind λl=>z<|i::l).bind λl=>z<|i::l)=_
  rw[j,c,h]
  show ((jW [0,1,q]<|aG q b ss bh).bind _).bind _=_
  rw[n];rfl
theorem St.both{f:Y V→Y af→R V}{vs:Y V}{v:P}{X:Y af}{a:Nat}(S:St H B k b ss bh ao')(t:Sd<|vs.flatMap lblsV= [])(u:Sd<|∀o,cZ o vs=z vs){q':Nat}(h:f (.lbl 0:: .lbl 1::vs) [Mine.rd B k,aG 2 b ss bh,aJ ao']= .ok (.p v) (Mine.rd B a::aG q' b' ss' bh'::X))(y:2≤q')(p:(Mine.rd B a::aG q' b' ss' bh'::X)[q']? =z (aJ Q')):
  ∃c,aU f (.lbl 0:: .lbl 1::vs) H= .ok (.p v) c∧St c B a b' ss' bh' Q':=by
 have s:=S.rd
 obtain ⟨q,g,r,w,iq,I,G,A,x⟩:=S.sel t u
 have C:ix [0,1,q] 0=z 0:=O
 have U:ix [0,1,q] 1=z 1:=O
 have l:=rv (a:=Mine.rd B a::aG q' b' ss' bh'::X) s C O
 have j:=rv (a:=Mine.rd B a::aG q' b' ss' bh'::X) r U O
 have m:kU [0,1,q] H.length (aG q' b' ss' bh')= .inst 6 [(14,j0 [0,1,q] H.length<|.lbl q'),(15, .p<|bM b' ss'),(16, .p<|.bool bh')]:=O
 rw[m]at j
 refine⟨_,jr I G A x h O rfl,l,?_⟩
 rcases Nat.eq_or_lt_of_le y with e|e
 ·have e:=e
  subst e
  exact⟨q,g,j,rv (k:= [0,1,q]) (a:=Mine.rd B a::aG 2 b' ss' bh'::X) w iq p⟩
 ·obtain ⟨n,rfl⟩: ∃n,q'=n+3:=⟨q'-3,(Nat.sub_add_cancel e).symm⟩
  have hlen0':=(dH.mp r).1
  exact⟨H.length+n,by exact EL hlen0',j,by have:=A8 (k:= [0,1,q]) (H:=H) (a:=Mine.rd B a::aG (n+3) b' ss' bh'::X) (i:=n) (by rw[show [0,1,q].length+n=n+3 from Nat.add_comm _ _];exact p);exact this⟩
theorem St.bothX(S:St H B k b ss bh ao')(a:Sd<|vs.flatMap lblsV= [])(c:Sd<|∀l,cZ l vs=z vs)(h:f (.lbl 0:: .lbl 1::vs) [Mine.rd B k,aG 2 b ss bh,aJ ao']= .exc e):aU f (.lbl 0:: .lbl 1::vs) H= .exc e:=by
 obtain ⟨q,i,n,m,r,I,G,j,g⟩:=S.sel a c
 exact yP I G j g h
theorem Ju(ao':Y<|J×J):gX (ao'.map bO)=z (ao'.map λr=> [r.1,r.2]):=by
 have:=oc<|ao'.map λr=> [r.1,r.2]
 rw[eu]at this
 exact this
theorem ng(a:Y M)(x:P)(h:cZ a vs=z vs):cZ a (.p x::vs)=z (.p x::vs):=by
 show (cZ a vs).bind (λl=>z<|V.p x::l)=_
 rw[h];rfl
theorem Cw(j:bY b)(y:b.length<300)(w: ∀r∈ao',r.1≤r.2)(l:ao'.length<64)(X:Y af): ∃c,bY c∧(∀x,bd c x=(bd b x||g9 ao' x))∧c.length≤b.length+2*ao'.length∧aZ (aS 1 0 1 wu) [.lbl 0] [aG 1 b ss bh,aJ ao']= .ok (.p<|bM c ss) [aG 1 b ss bh,aJ ao']:=by
 cases h:ao' with
 |nil=>
  refine⟨b,j,λx=>(jk _).symm,hZ _ _,gL (b8 [z<|.lbl 0] (sd O) O (v:= .p<|bM b ss) (H1:= [aG 1 b ss bh,aJ []]) ?_) O⟩
  have e:eqS (.lbl 1) (.p<|.list []) [aG 1 b ss bh,aJ []]= .ok (.p<|.bool Q) [aG 1 b ss bh,aJ []]:=O
  unfold wu
  trivial
 |cons r n=>
  rw[←h]
  obtain ⟨a,s,t,g,i⟩:=NO ao' w l
  obtain ⟨c,o,p,q,f⟩:=Fu .U j s y (by exact So l g) [aG 1 b ss bh,aJ ao']
  refine⟨c,o,λx=>by rw[p,t];rfl,by exact Sn g q,gL (b8 [z<|.lbl 0] (sd O) O (v:= .p<|bM c ss) (H1:= [aG 1 b ss bh,aJ ao']) ?_) O⟩
  have e:eqS (.lbl 1) (.p<|.list []) [aG 1 b ss bh,aJ ao']= .ok (.p<|.bool N) [aG 1 b ss bh,aJ ao']:=by
   have u:fZ (ao'.map bO) []=z N:=by
    rw[h]
    show ((gX<|(r::n).map bO).bind _).or _=_
    rw[Ju];rfl
   show (fZ (ao'.map bO) []).elim R.err _=_
   rw[u];rfl
  have f:nR [.p<|cs b, .p<|cs a] [aG 1 b ss bh,aJ ao']=_:=f
  have k4:=oC c ss [aG 1 b ss bh,aJ ao']
  have A:aF 14 (.lbl 0) [aG 1 b ss bh,aJ ao']= .ok (.lbl 1) [aG 1 b ss bh,aJ ao']:=O
  have i:qJ [.lbl 1] [aG 1 b ss bh,aJ ao']= .ok (.p<|cs a) [aG 1 b ss bh,aJ ao']:=jr (k:= [1]) O rfl rfl rfl i O rfl
  unfold wu
  trivial
end
end
section
section
variable{H:Y af}{B:Y M}{k:M}{b b':Y J}{ss ss':Y bC}{bh bh':ak}{an' Q':Y (J×J)}{X:Y af}
theorem Ng(g:an'.length<900):aZ (aS 3 0 3 Au) [.lbl 0, .p<|.int f, .p<|.int l] [aG 1 b ss bh,aJ an']= .ok (.p .none) [aG 1 b ss N,aJ<|an'++ [(f,l)]]:=by
 refine gL (v:= .p .none) (H1:= [aG 1 b ss N,aJ<|an'++ [(f,l)]]) (oy (l:= [z<|.lbl 0,z<|.p<|.int f,z<|.p<|.int l]) [z<|.lbl 0,z<|.p<|.int f,z<|.p<|.int l] (sd O) O ?_) O
 have p:fh [.lbl 1, .p<|.tup [.int f, .int l]] [aG 1 b ss bh,aJ an']= .ok (.p .none) [aG 1 b ss bh,aJ<|an'++ [(f,l)]]:=sc (sd O) (sd<|by rw[bc];exact iP g) (wj<|by show _= [aG 1 b ss bh,af.list<|(an'++ [(f,l)]).map bO];rw[fN];rfl)
 have j:eW 16 (.lbl 0) (.p<|.bool N) [aG 1 b ss bh,aJ<|an'++ [(f,l)]]= .ok () [aG 1 b ss N,aJ<|an'++ [(f,l)]]:=O
 unfold Au
 trivial
theorem Du(g:an'.length<900)(c:af):my [.lbl 1, .p<|.int f, .p<|.int l] [c,aG 2 b ss bh,aJ an']= .ok (.p .none) [c,aG 2 b ss N,aJ<|an'++ [(f,l)]]:=
 jr (k:= [1,2]) (a:= [.lbl 0, .p<|.int f, .p<|.int l]) (c:= [aG 1 b ss bh,aJ an']) (b:= [aG 1 b ss N,aJ<|an'++ [(f,l)]]) (l:= .p .none) (sd<|by kernel_rfl) (sd<|by kernel_rfl) (sd<|by kernel_rfl) (sd<|by kernel_rfl) (Ng g) (sd<|by kernel_rfl) (sd<|by kernel_rfl)
theorem Na(S:St H B k b ss bh an')(j:bY b)(l:b.length<300)(i: ∀r∈an',r.1≤r.2)(m:an'.length<64): ∃c,bY c∧(∀x,bd c x=(bd b x||g9 an' x))∧c.length≤b.length+2*an'.length∧ ∃a,nQ [.lbl 1] H= .ok (.p<|bM c ss) a∧St a B k b ss bh an':=by
 obtain ⟨c,e,f,g,h⟩:=Cw (ss:=ss) (bh:=bh) j l i m []
 exact⟨c,e,f,g,S.meth (q':=1) (X:= [aJ an']) (sd O) (sd λn=>rfl) h (bo _) O⟩
theorem Ds(y:dg)(w:bY b)(h:b.length+2*an'.length<300)(u: ∀r∈an',r.1≤r.2)(G:an'.length<64)(v:bY a)(la:a.length<300)(U:SO ss)(t:SO A)(I:ss.length+A.length<64):
  ∃c C,bY c∧(∀x,bd c x=wf y (bd b x||g9 an' x) (bd a x))∧c.length≤b.length+2*an'.length+a.length∧SO C∧(∀r,r∈C↔lz y (r∈ss) (r∈A))∧C.length≤ss.length+A.length∧
   aS 3 0 3 wv [.lbl 0, .p<|bM a A, .p<|.str<|fR y] [aG 1 b ss bh,aJ an']= .ok (.p .none) [aG 2 c C Q,aJ an',aJ []]:=by
 obtain ⟨e,q,s,f,i⟩:=Cw (ss:=ss) (bh:=bh) w (by exact Sm h) u G []
 have i:nQ [.lbl 0] [aG 1 b ss bh,aJ an']= .ok (.p<|bM e ss) [aG 1 b ss bh,aJ an']:=jr (k:= [0,1]) O rfl rfl rfl i O rfl
 obtain ⟨c,C,g,j,m,n,o,p,c7⟩:=DB y q v (by exact Sl h f) la U t I [aG 1 b ss bh,aJ an']
 refine⟨c,C,g,λx=>by rw[j,s],by exact Sk f m,n,o,p,oy (l:= [z<|.lbl 0,z<|.p<|bM a A,z<|.p<|.str<|fR y]) [z<|.lbl 0,z<|.p<|bM a A,z<|.p<|.str<|fR y] (sd O) O ?_⟩
 have p1:eW 15 (.lbl 0) (.p<|bM c C) [aG 1 b ss bh,aJ an']= .ok () [aG 1 c C bh,aJ an']:=O
 have p2:eW 14 (.lbl 0) (.lbl 2) [aG 1 c C bh,aJ an', .list []]= .ok () [aG 2 c C bh,aJ an',aJ []]:=O
 have p3:eW 16 (.lbl 0) (.p<|.bool Q) [aG 2 c C bh,aJ an',aJ []]= .ok () [aG 2 c C Q,aJ an',aJ []]:=O
 unfold wv
 trivial
theorem Nc(a:af)(x y:P)(h:aS 3 0 3 wv [.lbl 0, .p x, .p y] [aG 1 b ss bh,aJ an']= .ok (.p .none) [aG 2 c C Q,aJ an',aJ []]):jD [.lbl 1, .p x, .p y] [a,aG 2 b ss bh,aJ an']= .ok (.p .none) [a,aG 3 c C Q,aJ an',aJ []]:=
 jr (k:= [1,2]) (a:= [.lbl 0, .p x, .p y]) (c:= [aG 1 b ss bh,aJ an']) (b:= [aG 2 c C Q,aJ an',aJ []]) (l:= .p .none) (sd<|by kernel_rfl) (sd<|by kernel_rfl) (sd<|by kernel_rfl) (sd<|by kernel_rfl) h (sd<|by kernel_rfl) (sd<|by kernel_rfl)
theorem Nb(y:dg)(S:St H B k b ss bh an')(s:bY b)(t:b.length+2*an'.length<300)(o: ∀r∈an',r.1≤r.2)(u:an'.length<64)(q:bY a)(G:a.length<300)(w:SO ss)(n:SO A)(v:ss.length+A.length<64):
  ∃c C,bY c∧(∀x,bd c x=wf y (bd b x||g9 an' x) (bd a x))∧c.length≤b.length+2*an'.length+a.length∧SO C∧(∀r,r∈C↔lz y (r∈ss) (r∈A))∧C.length≤ss.length+A.length∧
   ∃e,jD [.lbl 1, .p<|bM a A, .p<|.str<|fR y] H= .ok (.p .none) e∧St e B k c C Q []:=by
 obtain ⟨c,C,g,h,i,j,l,p,m⟩:=Ds (bh:=bh) y s t o u q G w n v
 exact⟨c,C,g,h,i,j,l,p,S.meth (q':=2) (sd O) (sd λf=>ng f _<|ng f _ O) m (by decide) O⟩
theorem Nf(S:St H B k b ss bh an')(m:bY b)(hl:b.length<300)(n:SO ss)(hn:ss.length<60)(hq:an'.length<900)(o:t.length<900):
  ∃c C Q' a,bY c∧SO C∧oP [.lbl 1, .p<|iL t] H= .ok (.p .none) a∧St a B k c C N Q'∧(∀x,bd c x=bd b x)∧c.length≤b.length∧
   ((∃x,t= [x]∧C=ss∧Q'=an'++ [(x,x)])∨(t.length≠1∧Q'=an'∧(∀r,r∈C↔r∈ss∨r=t)∧C.length≤ss.length+1)):=by
 have hlen0':ce [.p<|iL t] [aG 1 b ss bh,aJ an']= .ok (.p<|.int t.length) [aG 1 b ss bh,aJ an']:=me o
 have cB: ∀{b' ss' Q'},oW [z<|.lbl 0,z<|.p<|iL t] [aG 1 b ss bh,aJ an']= .ok (.next [z<|.lbl 0,z<|.p<|iL t]) [aG 1 b' ss' N,aJ Q']→aZ (aS 2 0 2 oW) [.lbl 0, .p<|iL t] [aG 1 b ss bh,aJ an']= .ok (.p .none) [aG 1 b' ss' N,aJ Q']:=λh=>
  gL (oy (l:= [z<|.lbl 0,z<|.p<|iL t]) [z<|.lbl 0,z<|.p<|iL t] (sd O) O h) O
 by_cases i:t.length=1
 ·obtain ⟨x,rfl⟩: ∃x,t= [x]:=by
   match t,i with
   | [x],_=>exact⟨x,O⟩
  obtain ⟨a,e,g⟩:=S.meth (f:=aZ<|aS 2 0 2 oW) (vs:= [.p<|iL [x]]) (v:= .none) (b':=b) (ss':=ss) (bh':=N) (Q':=an'++ [(x,x)]) (q':=1) (X:= [aJ<|an'++ [(x,x)]]) (sd O) (sd λj=>ng j _ O) (cB (by
   have p:fh [.lbl 1, .p<|.tup [.int x, .int x]] [aG 1 b ss bh,aJ an']= .ok (.p .none) [aG 1 b ss bh,aJ<|an'++ [(x,x)]]:=sc (sd O) (sd<|by rw[bc];exact iP hq) (wj<|by show _= [aG 1 b ss bh,af.list<|(an'++ [(x,x)]).map bO];rw[fN];rfl)
   have p0:aE (.p<|iL [x]) (.p<|.int 0) [aG 1 b ss bh,aJ an']= .ok (.p<|.int x) [aG 1 b ss bh,aJ an']:=O
   have p2:eW 16 (.lbl 0) (.p<|.bool N) [aG 1 b ss bh,aJ<|an'++ [(x,x)]]= .ok () [aG 1 b ss N,aJ<|an'++ [(x,x)]]:=O
   have q:(((1:M):J)==1)=Q:=O
   unfold oW
   trivial)) (bo _) O
  exact⟨b,ss,an'++ [(x,x)],a,m,n,e,g,λ_=>rfl,bo _, .inl ⟨x,O,O,O⟩⟩
 ·obtain ⟨c,C,s,u,w,y,G,I,U⟩:=DB (A:=ss) (B:= [t]) .U m (List.Pairwise.nil:bY []) hl (by decide) n ⟨kF _ _,kF _ _⟩ (by rw[wR];exact Sj hn) [aG 1 b ss bh,aJ an']
  obtain ⟨a,e,g⟩:=S.meth (f:=aZ<|aS 2 0 2 oW) (vs:= [.p<|iL t]) (v:= .none) (b':=c) (ss':=C) (bh':=N) (Q':=an') (q':=1) (X:= [aJ an']) (sd O) (sd λj=>ng j _ O) (cB (by
   have q:((t.length:J)==1)=N:=by rw[cL];exact y4 i
   have p0:=Ol [aG 1 b ss bh,aJ an']
   have p1:oB [.p<|iL t] [aG 1 b ss bh,aJ an']= .ok (.p<|bL t) [aG 1 b ss bh,aJ an']:=aw (by rw[bc];exact iP o)
   have p2:k4 [.p<|cs [], .p<|.list [bL t]] [aG 1 b ss bh,aJ an']= .ok (.p<|bM [] [t]) [aG 1 b ss bh,aJ an']:=oC [] [t] _
   have p3:oS [.p<|bM b ss, .p<|bM [] [t], .p<|.str [117,110,105,111,110]] [aG 1 b ss bh,aJ an']= .ok (.p<|bM c C) [aG 1 b ss bh,aJ an']:=U
   have p4:eW 15 (.lbl 0) (.p<|bM c C) [aG 1 b ss bh,aJ an']= .ok () [aG 1 c C bh,aJ an']:=O
   have p5:eW 16 (.lbl 0) (.p<|.bool N) [aG 1 c C bh,aJ an']= .ok () [aG 1 c C N,aJ an']:=O
   unfold oW
   trivial)) (bo _) O
  exact⟨c,C,an',a,s,y,e,g,λx=>by rw[u];exact jk _,w, .inr ⟨i,O,λr=>by rw[G];show r∈ss∨r∈ [t]↔_;rw[bz],I⟩⟩
end
end
section
structure iu(B:Y M):Prop where
 len:B.length≤1000000
 by_: ∀c∈B,c<256
section
variable{B:Y M}{k:M}{X:Y af}(hB:iu B){c:M}{r:Y M}
include hB
theorem iu.rest(h:B.drop k=r): ∀c∈r,c<256:=λc f=>hB.by_ c<|List.mem_of_mem_drop<|by rw[h];exact f
theorem l5(h:B.drop k=c::r)(f:bl c=N):dU [.lbl 0] (rd B k::X)= .ok (.p .none) (rd B k::X):=by
 have e:cF (c::r)=0:=by unfold cF;rw[f];rfl
 have:=nk hB.len (X:=X) h (hB.rest h) (by rw[e];decide)
 rwa [e,Nat.add_zero]at this
theorem og(f:M)(j:Lt c): ∃b s,aO f c=b::s∧bl b=N∧b≠125∧b≠45∧b≠93∧b≠91∧b≠123∧b≠38∧b≠94∧bp (aO f c++r)=N:=by
 have pl:aO 0 c= [c]∧bl c=N∧c≠125∧c≠45∧c≠93∧c≠91∧c≠123∧c≠38∧c≠94:=ye hB.len (P:=λc=>aO 0 c= [c]∧bl c=N∧c≠125∧c≠45∧c≠93∧c≠91∧c≠123∧c≠38∧c≠94) (by decide) j
 have x: ∀s:Y M,bp (c::s)=N:=ye hB.len (P:=λc=> ∀s:Y M,bp (c::s)=N) (λc j s=>by
  have i:c≠91∧c≠92:=by revert c;decide
  have e: ∀a b:M,a≠c→((c::s).take 2== [a,b])=N:=λa b h=>by
   rw[cL];intro q;cases s<;>simp at q<;>exact h q.1.symm
  unfold bp
  rw[e _ _<|Ne.symm i.1,e _ _<|Ne.symm i.2,e _ _<|Ne.symm i.2];rfl) j
 have g: ∀s,bp (92::120::s)=N∧bp (92::117::s)=N:=λs=>⟨O,O⟩
 have ne:bl 92=N∧(92:M)≠125∧(92:M)≠45∧(92:M)≠93∧(92:M)≠91∧(92:M)≠123∧(92:M)≠38∧(92:M)≠94:=by decide
 obtain ⟨_,y,A,C,G,H,I,U,q8⟩:=pl
 obtain ⟨t,w,l,m,o,p,u,v⟩:=ne
 match f with
 |0=>exact⟨c,[],O,y,A,C,G,H,I,U,q8,x _⟩
 |1=>exact⟨92,_,O,t,w,l,m,o,p,u,v,(g _).1⟩
 |2=>exact⟨92,_,O,t,w,l,m,o,p,u,v,(g _).2⟩
 |3=>exact⟨92,_,O,t,w,l,m,o,p,u,v,(g _).1⟩
 |n+4=>exact⟨c,[],O,y,A,C,G,H,I,U,q8,x _⟩
def cT(l:Y<|M×M):Y M:=l.flatMap λp=>aO p.1 p.2
theorem M9(C: ∀p∈l,Lt p.2)(U:l.length<900)(h:B.drop k=123::(cT l++125::r)):qD [.lbl 0] (rd B k::X)= .ok (.p<|iL<|l.map λp=>(p.2:J)) (rd B ((k+((cT l).length+2):M):J)::X):=by
 obtain ⟨loc'',H',hw,i,y⟩:=pT (t:=aq<|ag neS (aC 5 bt (aa 0) nilA)<|kI 125) (b:=ai (a7<|cU f_ fh (aa 1)<|ae (ao lB<|ae (aa 0) nilA) nilA)<|ai (a7<|aC 5 dU (aa 0) nilA) nilM)
  (a:=λf H=>f= [z<|.lbl 0,z<|.lbl 1]∧H= [rd B ((k+1+(cT l).length:M):J), .list<|(l.map λp=>(p.2:J)).map .int])
  (λn f H=> ∃a b,l=a++b∧b.length=n∧f= [z<|.lbl 0,z<|.lbl 1]∧H= [rd B ((k+1+(cT a).length:M):J), .list<|(a.map λp=>(p.2:J)).map .int])
  (λn f H hJ=>by
   obtain ⟨a,b,i,y,e3,e4⟩:=hJ
   subst e3 e4
   have o:=(dn h).2.1
   have A:B.drop (k+1+(cT a).length)=cT b++125::r:=by
    rw[←gy,o,i]
    unfold cT
    rw[List.flatMap_append,cz,mU]
   cases b with
   |nil=>
    obtain rfl:l=a:=by rw[i,ft]
    refine .inl ⟨_,?_,O,O⟩
    have p:=eF hB.len (X:= [.list<|(l.map λp=>(p.2:J)).map .int]) A
    have p:bt [.lbl 0] [rd B ((k+1+(cT l).length:M):J), .list<|(l.map λp=>(p.2:J)).map .int]= .ok (.p<|.int 125) [rd B ((k+1+(cT l).length:M):J), .list<|(l.map λp=>(p.2:J)).map .int]:=p
    have q:(!((125:J)==125))=N:=O
    trivial
   |cons p b=>
    have I:Lt p.2:=C p (by rw[i];simp)
    have A:B.drop (k+1+(cT a).length)=aO p.1 p.2++(cT b++125::r):=by rw[A,←cz];rfl
    obtain ⟨e,s,hd,d1,d2,_⟩:=og hB (r:=r) p.1 I
    have p1:bt [.lbl 0] [rd B ((k+1+(cT a).length:M):J), .list<|(a.map λp=>(p.2:J)).map .int]= .ok (.p<|.int e) [rd B ((k+1+(cT a).length:M):J), .list<|(a.map λp=>(p.2:J)).map .int]:=by
     have:=eF hB.len (X:= [.list<|(a.map λp=>(p.2:J)).map .int]) A
     rw[hd]at this;exact this
    have q:(!((e:J)==125))=Q:=by rw[eS,cL];exact EP d2
    have G:=uU hB.len (X:= [.list<|(a.map λp=>(p.2:J)).map .int]) p.1 I A
    have nx:B.drop (k+1+(cT a).length+(aO p.1 p.2).length)=cT b++125::r:=by rw[←gy,A,mU]
    have la:a.length<900:=by have:=aR kH i;rw[bE]at this;exact Si U this
    have p3:fh [.lbl 1, .p<|.int p.2] [rd B ((k+1+(cT a).length+(aO p.1 p.2).length:M):J), .list<|(a.map λp=>(p.2:J)).map .int]= .ok (.p .none) [rd B ((k+1+(cT a).length+(aO p.1 p.2).length:M):J), .list<|((a++ [p]).map λp=>(p.2:J)).map .int]:=sc (e:=(a.map λp=>(p.2:J)).map .int) (sd O) (sd<|by rw[bc,bc];exact iP la) (wj<|by rw[fN,fN];rfl)
    have p4:dU [.lbl 0] [rd B ((k+1+(cT a).length+(aO p.1 p.2).length:M):J), .list<|((a++ [p]).map λp=>(p.2:J)).map .int]= .ok (.p .none) [rd B ((k+1+(cT a).length+(aO p.1 p.2).length:M):J), .list<|((a++ [p]).map λp=>(p.2:J)).map .int]:=by
     cases b with
     |nil=>exact l5 hB nx (by decide)
     |cons u b=>
      obtain ⟨x,s',m,j,_⟩:=og hB (r:=r) u.1 (C u<|by rw[i];simp)
      have:cT (u::b)++125::r=x::(s'++(cT b++125::r)):=by
       show (aO u.1 u.2++cT b)++_=_
       rw[m,cz];rfl
      rw[this]at nx
      exact l5 hB nx j
    refine .inr ⟨_,[z<|.lbl 0,z<|.lbl 1],[rd B ((k+1+(cT a).length+(aO p.1 p.2).length:M):J), .list<|((a++ [p]).map λp=>(p.2:J)).map .int],cO<|br (iR (aH<|sd O) (sd O) (sd O) a8 p1) kE<|Gs<|sd q,?_,b.length,by rw[←y];exact fF _,a++ [p],b,by rw[i,cz];rfl,O,O,?_⟩
    ·trivial
    ·have:(cT<|a++ [p]).length=(cT a).length+(aO p.1 p.2).length:=by unfold cT;rw[List.flatMap_append,bE];simp
     rw[this,rk])
  1000 l.length [z<|.lbl 0,z<|.lbl 1] [rd B ((k+1:M):J), .list []] ⟨[],l,O,O,O,O⟩ (by exact ve U)
 subst i y
 have p0:=fu hB.len (X:= []) h (by decide)
 have o:=(dn h).2.1
 have p1:dU [.lbl 0] [rd B ((k+1:M):J), .list []]= .ok (.p .none) [rd B ((k+1:M):J), .list []]:=by
  cases l with
  |nil=>exact l5 hB o (by decide)
  |cons u b=>
   obtain ⟨x,s',m,j,_⟩:=og hB (r:=r) u.1<|C u<|.head _
   have:cT (u::b)++125::r=x::(s'++(cT b++125::r)):=by
    show (aO u.1 u.2++cT b)++_=_
    rw[m,cz];rfl
   rw[this]at o
   exact l5 hB o j
 have w:B.drop (k+1+(cT l).length)=125::r:=by rw[←gy,o,mU]
 have G:=fu hB.len (X:= [.list<|(l.map λp=>(p.2:J)).map .int]) w (by decide)
 have G:cu [.lbl 0] [rd B ((k+1+(cT l).length:M):J), .list<|(l.map λp=>(p.2:J)).map .int]= .ok (.p<|.int 125) [rd B ((k+((cT l).length+2):M):J), .list<|(l.map λp=>(p.2:J)).map .int]:=by
  rw[show k+((cT l).length+2)=k+1+(cT l).length+1 by exact Sh];exact G
 refine qi (sd O) (sd O)<|gL (v:= .lbl 1) (H1:= [rd B ((k+((cT l).length+2):M):J), .list<|(l.map λp=>(p.2:J)).map .int]) (b8 [z<|.lbl 0,D] (sd O) O ?_) O
 unfold Hn
 trivial
end
end
section
section
variable{H:Y af}{B:Y M}{k:M}{b b':Y J}{ss ss':Y bC}{bh bh':ak}{ap' Q':Y (J×J)}{X:Y af}(hB:iu B){c:M}{r:Y M}
include hB
theorem La(f:M)(S:St H B k b ss bh ap')(g:ap'.length<900)(e:Lt c)(h:B.drop k=aO f c++r)(j:cF r<900)(i:pk (r.drop<|cF r)≠45): ∃a,nP [.lbl 0, .lbl 1] H= .ok (.p .none) a∧St a B (k+((aO f c).length+cF r)) b ss N (ap'++ [((c:J),(c:J))]):=by
 have nx:B.drop (k+(aO f c).length)=r:=by rw[←gy,h,mU]
 have n:B.drop (k+(aO f c).length+cF r)=r.drop (cF r):=by rw[←gy,nx]
 refine S.both (f:=aZ<|aS 2 0 6 td) (q':=2) (X:= [aJ<|ap'++ [((c:J),(c:J))]]) (sd O) (sd λ_=>rfl) (gL (v:= .p .none) (H1:= [rd B (k+((aO f c).length+cF r):M),aG 2 b ss N,aJ<|ap'++ [((c:J),(c:J))]]) (oy (l:= [z<|.lbl 0,z<|.lbl 1,z<|.p<|.int k,z<|.p<|.int c,z<|.p<|.int c,D]) [z<|.lbl 0,z<|.lbl 1,D,D,D,D] (sd O) O ?_) O) (bo _) O
 have m:=uU hB.len (X:= [aG 2 b ss bh,aJ ap']) f e h
 have p:=nk hB.len (X:= [aG 2 b ss bh,aJ ap']) nx (hB.rest nx) j
 have q:=eF hB.len (X:= [aG 2 b ss bh,aJ ap']) n
 rw[rk]at p q
 have s:(pk (r.drop<|cF r)==45)=N:=cL.mpr i
 have t:decide ((c:J)<(c:J))=N:=bu<|Int.lt_irrefl _
 have o:my [.lbl 1, .p<|.int c, .p<|.int c] [rd B (k+((aO f c).length+cF r):M),aG 2 b ss bh,aJ ap']= .ok (.p .none) [rd B (k+((aO f c).length+cF r):M),aG 2 b ss N,aJ<|ap'++ [((c:J),(c:J))]]:=Du g _
 unfold td
 trivial
theorem K_(f j:M)(S:St H B k b ss bh ap')(p:ap'.length<900)(q:Lt c)(hc20':Lt x)(g:c≤x)(h:B.drop k=aO f c++45::(aO j x++r)):
  ∃i,nP [.lbl 0, .lbl 1] H= .ok (.p .none) i∧St i B (k+((aO f c).length+1+(aO j x).length)) b ss N (ap'++ [((c:J),(x:J))]):=by
 have nx:B.drop (k+(aO f c).length)=45::(aO j x++r):=by rw[←gy,h,mU]
 have e:=(dn nx).2.1
 obtain ⟨a,s,G,m,w,y,o,_⟩:=og hB (r:=r) j hc20'
 refine S.both (f:=aZ<|aS 2 0 6 td) (q':=2) (X:= [aJ<|ap'++ [((c:J),(x:J))]]) (sd O) (sd λ_=>rfl) (gL (v:= .p .none) (H1:= [rd B (k+((aO f c).length+1+(aO j x).length):M),aG 2 b ss N,aJ<|ap'++ [((c:J),(x:J))]]) (oy (l:= [z<|.lbl 0,z<|.lbl 1,z<|.p<|.int k,z<|.p<|.int c,z<|.p<|.int x,z<|.p<|.int (k+(aO f c).length:M)]) [z<|.lbl 0,z<|.lbl 1,D,D,D,D] (sd O) O ?_) O) (bo _) O
 have A:=uU hB.len (X:= [aG 2 b ss bh,aJ ap']) f q h
 have C:=l5 hB (X:= [aG 2 b ss bh,aJ ap']) nx (by decide)
 have I:bt [.lbl 0] [rd B (k+(aO f c).length:M),aG 2 b ss bh,aJ ap']= .ok (.p<|.int 45) [rd B (k+(aO f c).length:M),aG 2 b ss bh,aJ ap']:=eF hB.len (X:= [aG 2 b ss bh,aJ ap']) nx
 have U:=fu hB.len (X:= [aG 2 b ss bh,aJ ap']) nx (by decide)
 have n:=e
 rw[G]at n
 have p5:=l5 hB (X:= [aG 2 b ss bh,aJ ap']) n m
 have p6:bt [.lbl 0] [rd B (k+(aO f c).length+1:M),aG 2 b ss bh,aJ ap']= .ok (.p<|.int a) [rd B (k+(aO f c).length+1:M),aG 2 b ss bh,aJ ap']:=eF hB.len (X:= [aG 2 b ss bh,aJ ap']) n
 have t:=uU hB.len (X:= [aG 2 b ss bh,aJ ap']) j hc20' e
 rw[show k+(aO f c).length+1+(aO j x).length=k+((aO f c).length+1+(aO j x).length) by exact Sg]at t
 have q1:((45:J)==45)=Q:=O
 have q2:((a:J)==93)=N:=cL.mpr (by exact EJ o)
 have q3:decide ((x:J)<(c:J))=N:=bu (by exact ES g)
 have p8:my [.lbl 1, .p<|.int c, .p<|.int x] [rd B (k+((aO f c).length+1+(aO j x).length):M),aG 2 b ss bh,aJ ap']= .ok (.p .none) [rd B (k+((aO f c).length+1+(aO j x).length):M),aG 2 b ss N,aJ<|ap'++ [((c:J),(x:J))]]:=Du p _
 unfold td
 trivial
variable{ws:Y V→Y af→R V}{deep:M}{sg:M}
noncomputable def Ap(sg:M):dg:=if sg=38 then .B else .W
theorem D3(g:sg=38∨sg=45)(h:B.drop k=sg::r)(q:bs r=Q)(j: ∃f s,r=f::s∧bl f=N)
  (x:ws [.lbl 0, .p<|.int<|(deep:J)+1] [rd B (k+1:M),aG 2 b ss Q,aJ ap']=n):
  (∀a A i,n= .ok (.p<|bM a A) [rd B (m:M),aG 2 b ss Q,aJ ap']→jD [.lbl 1, .p<|bM a A, .p<|.str<|fR<|Ap sg] [rd B (m:M),aG 2 b ss Q,aJ ap']= .ok (.p .none) i→aS 4 0 6 (tc ws) [.lbl 0, .lbl 1, .p<|.int deep, .p<|.bool bh] [rd B k,aG 2 b ss Q,aJ ap']= .ok (.p .none) i)∧
  (∀e,n= .exc e→aS 4 0 6 (tc ws) [.lbl 0, .lbl 1, .p<|.int deep, .p<|.bool bh] [rd B k,aG 2 b ss Q,aJ ap']= .exc e):=by
 obtain ⟨f,s,G,o⟩:=j
 have nx:=(dn h).2.1
 have u:=fu hB.len (X:= [aG 2 b ss Q,aJ ap']) h (by rcases g with rfl|rfl<;>decide)
 have v:dU [.lbl 0] [rd B (k+1:M),aG 2 b ss Q,aJ ap']= .ok (.p .none) [rd B (k+1:M),aG 2 b ss Q,aJ ap']:=l5 hB (X:= [aG 2 b ss Q,aJ ap']) (nx.trans G) o
 have w:=uT hB.len (X:= [aG 2 b ss Q,aJ ap']) nx (by have:=(dn h).2.2;exact Sf this)
 rw[q]at w
 have y:ax (aq<|ag eqS (aa 5)<|kI 38) (kS [98,111,116,104]) (kS [119,105,116,104,111,117,116]) [z<|.lbl 0,z<|.lbl 1,z<|.p<|.int deep,z<|.p<|.bool bh,z<|.p<|.int k,z<|.p<|.int sg]=λH=> .ok (.p<|.str<|fR<|Ap sg) H:=by
  rcases g with rfl|rfl<;>rfl
 refine⟨λa A i e e2=> ?_,λe p=> ?_⟩
 ·rw[e]at x
  have p5:=congrFun y [rd B (m:M),aG 2 b ss Q,aJ ap']
  refine oy (l:= [z<|.lbl 0,z<|.lbl 1,z<|.p<|.int deep,z<|.p<|.bool bh,z<|.p<|.int k,z<|.p<|.int sg]) [z<|.lbl 0,z<|.lbl 1,z<|.p<|.int deep,z<|.p<|.bool bh,D,D] (sd rfl) rfl ?_
  unfold tc
  trivial
 ·rw[p]at x
  refine vb [z<|.lbl 0,z<|.lbl 1,z<|.p<|.int deep,z<|.p<|.bool bh,D,D] (sd rfl) rfl ?_
  have I:ao ws (ae (aa 0)<|ae (ag addS (aa 2)<|kI 1) nilA) [z<|.lbl 0,z<|.lbl 1,z<|.p<|.int deep,z<|.p<|.bool bh,z<|.p<|.int k,z<|.p<|.int sg] [rd B (k+1:M),aG 2 b ss Q,aJ ap']= .exc e:=bH (aI (aH<|sd rfl)<|aI (br (aH<|sd rfl) kE zm) a8) x
  have C:ax (a_ (aq<|aD (aF 16)<|aa 1)<|a_ (aq<|ao mx<|ae (aa 0) nilA)<|kT Q) (ai (a7<|aC 6 jD (aa 1)<|ae (ao ws<|ae (aa 0)<|ae (ag addS (aa 2)<|kI 1) nilA)<|ae (ax (aq<|ag eqS (aa 5)<|kI 38) (kS [98,111,116,104])<|kS [119,105,116,104,111,117,116]) nilA) nilM) (ai (ax (a_ (aq<|ag eqS (aa 5)<|kI 45)<|a_ (cy (aq<|aa 3)<|cy (aq<|ag eqS (aC 5 bt (aa 0) nilA)<|kI 93)<|kT N)<|kT Q) (ai (a7<|aC 6 my (aa 1)<|ae (kI 45)<|ae (kI 45) nilA) nilM)<|ai (a7<|aC 5 cV (aa 0)<|ae (aa 4) nilA) nilM) nilM) [z<|.lbl 0,z<|.lbl 1,z<|.p<|.int deep,z<|.p<|.bool bh,z<|.p<|.int k,z<|.p<|.int sg] [rd B (k+1:M),aG 2 b ss Q,aJ ap']= .exc e:=by
   refine dq (t:=Q) (H1:= [rd B (k+1:M),aG 2 b ss Q,aJ ap']) ?_ (fJ (sd rfl)<|km<|vA<|FK (aH<|sd rfl) (sd rfl) (sd rfl)<|FQ I)
   trivial
  unfold tc
  refine bA (c9 (sF (aH<|sd rfl)<|Wc (sd rfl) (sd rfl)<|sd rfl) rfl)<|bQ<|bA (c9 (iR (aH<|sd rfl) (sd rfl) (sd rfl) a8 u) rfl)<|bQ<|bA (qh (iR (aH<|sd rfl) (sd rfl) (sd rfl) a8 v)<|sd rfl)<|bQ ?_
  exact km C
end
end
section
abbrev cK:=(J→ak)×(bC→Prop)
noncomputable def qy(y:dg)(v u:cK):cK:=(λx=>wf y (v.1 x)<|u.1 x,λr=>lz y (v.2 r)<|u.2 r)
structure vI(c:Y J)(C:Y bC)(v:cK)(n s:M):Prop where
 inc:bY c
 pm: ∀x,bd c x=v.1 x
 len:c.length≤n
 so:SO C
 rw_: ∀r,r∈C↔v.2 r
 rl:C.length≤s
structure gn(ws:Y V→Y af→R V)(d:M)(t:Y M)(val:Option cK)(n s:M):Prop where
 head: ∃a s,t=a::s∧(a=91∨a=92)∧ ∀r,bs (t++r)=Q
 ok: ∀v,val=z v→ ∀B k r X,iu B→B.drop k=t++r→ ∃c C,vI c C v n s∧ws [.lbl 0, .p (.int d)] (rd B k::X)= .ok (.p (bM c C)) (rd B (k+t.length:M)::X)
 no:val=D→ ∀B k r,iu B→B.drop k=t++r→ ∃e:J,0≤e∧e≤B.length∧ ∀X,ws [.lbl 0, .p (.int d)] (rd B k::X)= .exc e
inductive pb where
 |set (t:Y M) (v:d cK)
 |str (l:Y (M×M))
 |one (f c:M)
 |two (f c f2 c2:M)
structure El where
 bl:ak
 sg:dg
 it:pb
noncomputable def eO:pb→Y M
 | .set t _=>t
 | .str l=>123::(cT l++ [125])
 | .one f c=>aO f c
 | .two f c j x=>aO f c++45::aO j x
noncomputable def gr:dg→Y M
 | .U=> []
 | .B=> [38]
 | .W=> [45]
noncomputable def fk:pb→ak
 | .set _ _=>Q
 |_=>N
noncomputable def ej(r:Y M):Y El→Y M
 | []=>93::r
 |e::a=>gr e.sg++(eO e.it++(match a with
  | []=>93::r
  |e2::_=>if e2.bl then 32::ej r a else ej r a))
noncomputable def eT(r:Y M)(a:Y El):Y M:=match a with
 | []=>93::r
 |e::_=>if e.bl then 32::ej r a else ej r a
theorem jU(r:Y M)(e:El)(a:Y El):ej r (e::a)=gr e.sg++(eO e.it++eT r a):=by
 cases a<;>rfl
theorem oq(r:Y M)(e:El)(a:Y El):eT r (e::a)=if e.bl then 32::ej r (e::a)else ej r<|e::a:=O
noncomputable def eV(l:Y<|M×M):bC:=l.map λp=>(p.2:J)
noncomputable def nM(v:cK)(a b:J):cK:=(λx=>v.1 x||eZ (a,b) x,v.2)
noncomputable def f9(v:cK)(e:El):d cK:=match e.it with
 | .set _ u=>u.map<|qy e.sg v
 | .str l=>z (match eV l with
  | [x]=>nM v x x
  |t=>(v.1,λr=>v.2 r∨r=t))
 | .one _ c=>z<|nM v c c
 | .two _ c _ a=>z<|nM v c a
noncomputable def f7:cK→Y El→d cK
 |v,[]=>z v
 |v,e::a=>(f9 v e).bind λv=>f7 v a
noncomputable def vL(w:Y V→Y af→R V)(k n s:M):pb→Prop
 | .set t v=>gn w k t v n s
 | .str l=>(∀p∈l,Lt p.2)∧l.length<100
 | .one _ c=>Lt c
 | .two _ c _ x=>Lt c∧Lt x∧c≤x
noncomputable def js(w:Y V→Y af→R V)(k n s:M):ak→Y El→Prop
 |_,[]=>True
 |bh,e::a=>vL w k n s e.it∧(e.sg≠ .U→bh=Q∧fk e.it=Q)∧js w k n s (fk e.it) a
structure jL(b:Y J)(ss:Y bC)(Q:Y (J×J))(v:cK)(i n s:M):Prop where
 inc:bY b
 so:SO ss
 q: ∀r∈Q,r.1≤r.2
 pm: ∀x,(bd b x||g9 Q x)=v.1 x
 rw_: ∀r,r∈ss↔v.2 r
 nb:b.length+2*Q.length≤i*n
 nq:Q.length≤i
 ns:ss.length≤i*s
section
variable{B:Y M}(hB:iu B){ws:Y V→Y af→R V}{aC' n s:M}{r:Y M}
include hB
theorem CU(h:vL ws aC' n s o)(r:Y M): ∃a t,eO o++r=a::t∧bl a=N∧a≠45∧a≠38∧a≠93∧a≠94:=by
 cases o with
 |set t v=>
  obtain ⟨a,s,e,w,_⟩:=h.head
  refine⟨a,s++r,by show t++r=_;rw[e];rfl,?_⟩
  rcases w with rfl|rfl<;>decide
 |str l=>exact⟨123,_,rfl,by decide⟩
 |one f c=>
  obtain ⟨a,s,e,b,p,g,i,q,u,j,k,_⟩:=og hB (r:=r) f h
  exact⟨a,s++r,by show aO f c++r=_;rw[e];rfl,b,g,j,i,k⟩
 |two f c m x=>
  obtain ⟨a,s,e,b,p,g,i,q,u,j,k,_⟩:=og hB (r:=r) f h.1
  exact⟨a,s++45::aO m x++r,by show (aO f c++45::aO m x)++r=_;rw[e];rfl,b,g,j,i,k⟩
theorem xy(h:js ws aC' n s k b)(r:Y M): ∃a t,ej r b=a::t∧bl a=N∧a≠94∧(k=N→a≠45)∧cF (eT r b)<900∧(eT r b).drop (cF<|eT r b)=ej r b:=by
 have tail: ∀{a:M} {t:Y M} {b:Y El},ej r b=a::t→bl a=N→cF (eT r b)<900∧(eT r b).drop (cF<|eT r b)=ej r b:=by
  intro a t b e u
  have j:cF (ej r b)=0:=by rw[e];unfold cF;rw[u];rfl
  cases b with
  |nil=>exact⟨by show (0:M)<900;decide,O⟩
  |cons g b=>
   rw[oq]
   cases g.bl
   ·rw[az (by decide),j];exact⟨by decide,O⟩
   ·rw[aw O]
    have:cF (32::ej r (g::b))=1:=by unfold cF;rw[j];rfl
    rw[this];exact⟨by decide,O⟩
 cases b with
 |nil=>exact⟨93,r,O,by decide,by decide,λ_=>by decide,tail (b:= []) O<|by decide⟩
 |cons e b=>
  obtain ⟨m,g2,v⟩:=h
  obtain ⟨a,t,l,i,o,w,x,p⟩:=CU hB m<|eT r b
  cases f:e.sg with
  |U=>
   have:ej r (e::b)=a::t:=by rw[jU,f];exact l
   exact⟨a,t,this,i,p,λ_=>o,tail this i⟩
  |B=>
   have:ej r (e::b)=38::(eO e.it++eT r b):=by rw[jU,f];rfl
   exact⟨38,_,this,by decide,by decide,λ_=>by decide,tail this<|by decide⟩
  |W=>
   have:ej r (e::b)=45::(eO e.it++eT r b):=by rw[jU,f];rfl
   exact⟨45,_,this,by decide,by decide,(λq=>by rw[(g2<|by rw[f];exact λc=>nomatch c).1]at q;cases q),tail this<|by decide⟩
end
end
section
noncomputable abbrev Lc(k b:M)(o f:ak):aj:= [z<|.lbl 0,z<|.p<|.int k,z<|.p<|.int b,z<|.p<|.bool o,z<|.lbl 1,z<|.p<|.bool f,D]
noncomputable def mn(w:Y V→Y af→R V):aj→Y af→R Fl:=ax (cy (aq<|ag eqS (aC 5 bt (aa 0) nilA)<|kI 45)<|cy (aq<|ag eqS (aC 5 bt (aa 0) nilA)<|kI 38)<|kT N) (ai (a7<|ao (we w)<|ae (aa 0)<|ae (aa 4)<|ae (aa 1)<|ae (aa 5) nilA) nilM)<|ai (ax (aq<|ao mx<|ae (aa 0) nilA) (ai (a7<|aC 6 jD (aa 4)<|ae (ao w<|ae (aa 0)<|ae (ag addS (aa 1)<|kI 1) nilA)<|ae (kS [117,110,105,111,110]) nilA) nilM)<|ai (ax (aq<|ag eqS (aC 5 bt (aa 0) nilA)<|kI 123) (ai (a7<|aC 6 oP (aa 4)<|ae (ao qD<|ae (aa 0) nilA) nilA) nilM)<|ai (a7<|ao nP<|ae (aa 0)<|ae (aa 4) nilA) nilM) nilM) nilM
section
variable{H:Y af}{B:Y M}{k:M}{b:Y J}{ss:Y bC}{bh:ak}{af':Y (J×J)}{X:Y af}(hB:iu B)
theorem St.inst(S:St (Mine.rd B k::X) B k b ss bh af')(e:J): ∃q,f6 (.lbl 1) (Mine.rd B e::X)=z (6,[(14, .lbl q),(15, .p<|bM b ss),(16, .p<|.bool bh)]):=by
 obtain ⟨_,q,_,h,_⟩:=S
 have h:X[0]? =z (aG q b ss bh):=h
 refine⟨q,?_⟩
 show X[0]?.bind vy=_
 rw[h];rfl
theorem FT(h:a≠91)(e:bp (a::t)=N):bs (a::t)=N:=by
 show (((a:J)==91)||bp (a::t))=N
 rw[e,jk,cL];exact Se h
include hB
variable{ws:Y V→Y af→R V}{aq' bg n s i:M}{o fs:ak}{r:Y M}{v:cK}{es:Y El}
def vO(ws:Y V→Y af→R V)(B:Y M)(aq' bg n s i:M)(o fs:ak)(r:Y M)(v:cK)(e:El)(es:Y El)(H:Y af):Prop:=
 (∃f c a b' ss' Q',f9 v e=z f∧mn ws (Lc aq' bg o fs) H= .ok (.next<|Lc aq' bg o fs) c∧St c B a b' ss' (fk e.it) Q'∧(B.drop a=eT r es∨B.drop a=ej r es)∧jL b' ss' Q' f (i+1) n s)∨
 (f9 v e=D∧ ∃x:J,0≤x∧x≤B.length∧mn ws (Lc aq' bg o fs) H= .exc x)
theorem oi(h:B.drop k=t++u):B.drop (k+t.length)=u:=by rw[←gy,h,mU]
theorem CC(l:jL b ss af' v i n s)(e:vI a A u n s)(f:bY c)(g: ∀x,bd c x=wf y (bd b x||g9 af' x) (bd a x))(j:c.length≤b.length+2*af'.length+a.length)(m:SO C)(p: ∀r,r∈C↔lz y (r∈ss) (r∈A))(q:C.length≤ss.length+A.length):jL c C [] (qy y v u) (i+1) n s:=
 ⟨f,m,λ_ h=>(nomatch h),λx=>by rw[g,l.pm,e.pm];exact jk _,λr=>by rw[p];cases y<;>simp only[lz,qy,l.rw_,e.rw_],by have:=jf i n;have:=l.nb;have:=e.len;show _+2*0≤_;exact Sc j (by assumption) (by assumption) this,dc _,by have:=jf i s;have:=l.ns;have:=e.rl;exact Sb q (by assumption) (by assumption) this⟩
theorem x8(l:jL b ss af' v i n s)(h:a≤c)(e:2≤n):jL b ss (af'++ [(a,c)]) (nM v a c) (i+1) n s:=
 ⟨l.inc,l.so,λr f=>(gw.mp f).elim (l.q r) λq=>by rw[bz.mp q];exact h,λx=>by rw[xu,uM,←Bool.or_assoc,l.pm];rfl,l.rw_,by rw[bE,wR];have:=jf i n;have:=l.nb;exact Sa e (by assumption) this,by rw[bE,wR];have:=l.nq;exact R_ this,by have:=jf i s;have:=l.ns;exact R9 (by assumption) this⟩
theorem DT(w:j=38∧G= .B∨j=45∧G= .W)(S:St H B k b ss bh af')(U:bh=Q)(l:jL b ss af' v i n s)(hn:(i+1)*n≤250)(hs:(i+1)*s≤58)(hi:i<60)(g:gn ws (aq'+1) t u n s)
  (h:B.drop k=j::(t++eT r es)):vO ws B aq' bg n s i o fs r v ⟨bl0',G, .set t u⟩ es H:=by
 subst U
 obtain ⟨X,rfl,hX⟩:=S.cons
 have q:=jf i n
 have hss':=jf i s
 have l1:=l.nb
 have l2:=l.ns
 have l3:=l.nq
 obtain ⟨a0,s0,ht0',I,p⟩:=g.head
 have hbl':bl a0=N:=by rcases I with rfl|rfl<;>decide
 have hW:Ap j=G:=by rcases w with⟨rfl,rfl⟩|⟨rfl,rfl⟩<;>rfl
 have f:j=38∨j=45:=w.imp And.left And.left
 have nx:=(dn h).2.1
 have e1:bt [.lbl 0] (rd B k::X)= .ok (.p<|.int j) (rd B k::X):=eF hB.len (X:=X) h
 have hd: ∃aq' s,t++eT r es=aq'::s∧bl aq'=N:=⟨a0,s0++eT r es,by rw[ht0'];rfl,hbl'⟩
 have et:cy (aq<|ag eqS (aC 5 bt (aa 0) nilA)<|kI 45) (cy (aq<|ag eqS (aC 5 bt (aa 0) nilA)<|kI 38)<|kT N) (Lc aq' bg o fs) (rd B k::X)= .ok Q (rd B k::X):=by
  rcases f with rfl|rfl
  ·have q1:(((38:M):J)==45)=N:=rfl
   have q2:(((38:M):J)==38)=Q:=rfl
   trivial
  ·have q1:(((45:M):J)==45)=Q:=rfl
   trivial
 cases u with
 |none=>
  obtain ⟨x,x1,x2,x3⟩:=g.no rfl B (k+1) _ hB nx
  have hm:=(D3 hB (b:=b) (ss:=ss) (bh:=fs) (ap':=af') (m:=k) (deep:=aq') f h (p _) hd<|x3 [aG 2 b ss Q,aJ af']).2 x rfl
  have:=S.bothX (vs:= [.p<|.int aq', .p<|.bool fs]) (sd rfl) (sd λy=>ng y _<|ng y _ rfl) hm
  exact .inr ⟨rfl,x,x1,x2,dq et<|fJ (sd rfl)<|km<|vA<|bH (aI (aH<|sd rfl)<|aI (aH<|sd rfl)<|aI (aH<|sd rfl)<|aI (aH<|sd rfl) a8) this⟩
 |some u=>
  obtain ⟨a,A,e,hw⟩:=g.ok u rfl B (k+1) _ [aG 2 b ss Q,aJ af'] hB nx
  have t1:=e.len
  have t2:=e.rl
  obtain ⟨c,C,c1,c2,c3,c4,c5,c6,c7⟩:=Ds (bh:=Q) G l.inc (by exact EI hn q l1) l.q (by exact y0 hi l3) e.inc (by exact EH hn q t1) l.so e.so (by exact EG hs hss' l2 t2)
  have hm:=(D3 hB (b:=b) (ss:=ss) (bh:=fs) (ap':=af') (m:=k+1+t.length) (deep:=aq') f h (p _) hd hw).1 a A _ rfl (by rw[hW];exact Nc _ _ _ c7)
  obtain ⟨H',e2,e3⟩:=S.both (vs:= [.p<|.int aq', .p<|.bool fs]) (q':=3) (sd rfl) (sd λy=>ng y _<|ng y _ rfl) hm (by decide) rfl
  refine .inl ⟨_,H',k+1+t.length,c,C,[],rfl,?_,e3, .inl<|oi hB nx,CC hB l e c1 c2 c3 c4 c5 c6⟩
  exact dq et<|fJ (sd rfl)<|bA (qh (bH (aI (aH<|sd rfl)<|aI (aH<|sd rfl)<|aI (aH<|sd rfl)<|aI (aH<|sd rfl) a8) e2)<|sd rfl)<|bQ fx
theorem OS(S:St H B k b ss bh af')(l:jL b ss af' v i n s)(w:(i+1)*n≤250)(hs:(i+1)*s≤58)(G:i<60)(g:gn ws (aq'+1) t u n s)(m:sg≠ .U→bh=Q)
  (h:B.drop k=gr sg++(t++eT r es)):vO ws B aq' bg n s i o fs r v ⟨bl0',sg, .set t u⟩ es H:=by
 obtain ⟨X,rfl,hX⟩:=S.cons
 have j:=jf i n
 have hss':=jf i s
 have l1:=l.nb
 have l2:=l.ns
 have l3:=l.nq
 obtain ⟨p,s0,ht0',I,y⟩:=g.head
 have hbl':bl p=N:=by rcases I with rfl|rfl<;>decide
 cases sg with
 |U=>
  have h:B.drop k=t++eT r es:=h
  have e1:bt [.lbl 0] (rd B k::X)= .ok (.p<|.int p) (rd B k::X):=by
   have:=eF hB.len (X:=X) h
   rw[ht0']at this;exact this
  have q1:((p:J)==45)=N:=by rcases I with rfl|rfl<;>rfl
  have q2:((p:J)==38)=N:=by rcases I with rfl|rfl<;>rfl
  have hk:k≤B.length:=by rw[ht0']at h;exact fq (dn h).2.2
  have e2:=uT hB.len (X:=X) h hk
  rw[y]at e2
  cases u with
  |none=>
   obtain ⟨x,x1,x2,x3⟩:=g.no rfl B k _ hB h
   refine .inr ⟨rfl,x,x1,x2,?_⟩
   obtain ⟨q,hI⟩:=S.inst k
   have pw:ao ws (ae (aa 0)<|ae (ag addS (aa 1)<|kI 1) nilA) (Lc aq' bg o fs) (rd B k::X)= .exc x:=bH (aI (aH<|sd rfl)<|aI (br (aH<|sd rfl) kE zm) a8)<|x3 X
   have pt:ax (aq<|ao mx<|ae (aa 0) nilA) (ai (a7<|aC 6 jD (aa 4)<|ae (ao ws<|ae (aa 0)<|ae (ag addS (aa 1)<|kI 1) nilA)<|ae (kS [117,110,105,111,110]) nilA) nilM) (ai (ax (aq<|ag eqS (aC 5 bt (aa 0) nilA)<|kI 123) (ai (a7<|aC 6 oP (aa 4)<|ae (ao qD<|ae (aa 0) nilA) nilA) nilM)<|ai (a7<|ao nP<|ae (aa 0)<|ae (aa 4) nilA) nilM) nilM) (Lc aq' bg o fs) (rd B k::X)= .exc x:=
    dq (cO<|bH (aI (aH<|sd rfl) a8) e2) (fJ (sd rfl)<|km<|vA<|FK (aH<|sd rfl) (sd hI) (sd rfl)<|FQ pw)
   unfold mn
   refine dq (t:=N) (H1:=rd B k::X) ?_ (fb (sd rfl)<|km pt)
   trivial
  |some u=>
   obtain ⟨a,A,e,hw⟩:=g.ok u rfl B k _ X hB h
   have hw:ws [.lbl 0, .p<|.int<|(aq':J)+1] (rd B k::X)= .ok (.p<|bM a A) (rd B (k+t.length:M)::X):=hw
   have S':=hX<|k+t.length
   have t1:=e.len
   have t2:=e.rl
   obtain ⟨c,C,c1,c2,c3,c4,c5,c6,H',c7,c8⟩:=Nb .U S' l.inc (by exact EI w j l1) l.q (by exact y0 G l3) e.inc (by exact EH w j t1) l.so e.so (by exact EG hs hss' l2 t2)
   have c7:jD [.lbl 1, .p<|bM a A, .p<|.str [117,110,105,111,110]] (rd B (k+t.length:M)::X)= .ok (.p .none) H':=c7
   refine .inl ⟨_,H',k+t.length,c,C,[],rfl,?_,c8, .inl<|oi hB h,CC hB l e c1 c2 c3 c4 c5 c6⟩
   obtain ⟨q,hI⟩:=S.inst k
   unfold mn
   trivial
 |B=>exact DT hB (.inl ⟨rfl,rfl⟩) S (m λf=>nomatch f) l w hs G g h
 |W=>exact DT hB (.inr ⟨rfl,rfl⟩) S (m λf=>nomatch f) l w hs G g h
end
end
section
section
variable{H:Y af}{B:Y M}{k:M}{b:Y J}{ss:Y bC}{bh:ak}{ag':Y (J×J)}{X:Y af}(hB:iu B)
variable{ws:Y V→Y af→R V}{ai' bg n s i:M}{o fs:ak}{r:Y M}{v:cK}{es:Y El}
include hB
theorem OR{e:Y<|M×M}{bl0':ak}(S:St H B k b ss bh ag')(l:jL b ss ag' v i n s)(h2:2≤n)(h1:1≤s)(hn:(i+1)*n≤250)(hs:(i+1)*s≤58)(hi:i<60)(g:(∀p∈e,Lt p.2)∧e.length<100)
  (h:B.drop k=123::((cT e++ [125])++eT r es)):vO ws B ai' bg n s i o fs r v ⟨bl0', .U, .str e⟩ es H:=by
 obtain ⟨X,rfl,hX⟩:=S.cons
 have f:=jf i n
 have j:=jf i s
 have l1:=l.nb
 have l2:=l.ns
 have l3:=l.nq
 rw[cz]at h
 have h:B.drop k=123::(cT e++125::eT r es):=h
 have e1:bt [.lbl 0] (rd B k::X)= .ok (.p<|.int 123) (rd B k::X):=eF hB.len (X:=X) h
 have e2:=uT hB.len (X:=X) h<|fq (dn h).2.2
 rw[FT (by decide) O]at e2
 have e3:=M9 hB (X:=X) g.1 (by exact y5 g.2) h
 have G:=hX<|k+((cT e).length+2)
 obtain ⟨c,C,Q',m,I,U,c3,c4,c5,c6,c7⟩:=Nf (t:=eV e) G l.inc (by exact R8 hn f l1) l.so (by exact R7 hs j l2) (by exact yZ hi l3) (by unfold eV;rw[bc];exact y5 g.2)
 obtain ⟨q,hI⟩:=G.inst ((k+((cT e).length+2):M):J)
 have c3:oP [.lbl 1, .p<|iL<|e.map λp=>(p.2:J)] (rd B (k+((cT e).length+2):M)::X)= .ok (.p .none) m:=c3
 obtain ⟨q0,hI0'⟩:=S.inst k
 have dr:B.drop (k+((cT e).length+2))=eT r es:=by
  have:B.drop (k+(123::(cT e++ [125])).length)=eT r es:=oi hB (by rw[h];simp)
  rw[show (123::(cT e++ [125])).length=(cT e).length+2 by simp]at this;exact this
 have ex:mn ws (Lc ai' bg o fs) (rd B k::X)= .ok (.next<|Lc ai' bg o fs) m:=by
  unfold mn
  trivial
 rcases c7 with⟨x,u,w,A⟩|⟨u,w,A,x4⟩
 ·subst w A
  refine .inl ⟨nM v x x,m,_,c,C,ag'++ [(x,x)],by show z (match eV e with| [x]=>nM v x x|t=>(v.1,λr=>v.2 r∨r=t))=_;rw[u],ex,c4, .inl dr,?_⟩
  have:=x8 hB (a:=x) (c:=x) l (rq _) h2
  exact⟨I,U,this.q,λy=>by rw[c5];exact this.pm y,this.rw_,by have:=this.nb;exact R6 c6 this,this.nq,this.ns⟩
 ·subst w
  refine .inl ⟨(v.1,λr=>v.2 r∨r=eV e),m,_,c,C,Q',?_,ex,c4, .inl dr,I,U,l.q,λx=>by rw[c5];exact l.pm x,λr=>by rw[A,l.rw_],by exact R5 f c6 l1,by exact R0 l3,by exact RZ h1 j l2 x4⟩
  show z (match eV e with| [x]=>nM v x x|t=>(v.1,λr=>v.2 r∨r=t))=_
  match hr:eV e,u with
  | [],_=>rfl
  |_::_::_,_=>rfl
theorem Dc{c:Y M}{bl0':ak}{u:pb}(S:St H B k b ss bh ag')(G: ∃a t,B.drop k=a::t∧a≠45∧a≠38∧a≠91∧a≠123∧bp (a::t)=N){e:Y af}(x:nP [.lbl 0, .lbl 1] H= .ok (.p .none) e):
  mn ws (Lc ai' bg o fs) H= .ok (.next<|Lc ai' bg o fs) e:=by
 obtain ⟨a,t,h,f,g,j,l,m⟩:=G
 obtain ⟨X,rfl,U⟩:=S.cons
 have q:bt [.lbl 0] (rd B k::X)= .ok (.p<|.int a) (rd B k::X):=eF hB.len (X:=X) h
 have p:=uT hB.len (X:=X) h<|fq (dn h).2.2
 rw[FT j m]at p
 have w:((a:J)==45)=N:=cL.mpr (by exact EF f)
 have y:((a:J)==38)=N:=cL.mpr (by exact RY g)
 have A:((a:J)==123)=N:=cL.mpr (by exact RX l)
 unfold mn
 trivial
theorem C_{f c:M}(h:Lt c)(u:Y M): ∃a t,aO f c++u=a::t∧a≠45∧a≠38∧a≠91∧a≠123∧bp (a::t)=N:=by
 obtain ⟨a,s,e,_,_,q,_,g,j,U,_,I⟩:=og hB (r:=u) f h
 rw[e]at I
 exact⟨a,s++u,by rw[e];rfl,q,U,g,j,I⟩
theorem OT{e:El}(S:St H B k b ss bh ag')(l:jL b ss ag' v i n s)(h2:2≤n)(h1:1≤s)(hn:(i+1)*n≤250)(hs:(i+1)*s≤58)(A:i<60)(g:js ws (ai'+1) n s bh<|e::es)(h:B.drop k=ej r (e::es)):vO ws B ai' bg n s i o fs r v e es H:=by
 obtain ⟨p,g2,g3⟩:=g
 rw[jU]at h
 obtain ⟨bl0',sg,C⟩:=e
 have w:fk C=N→sg= .U:=λq=>by
  cases sg with
  |U=>rfl
  |B|W=>rw[(g2 λm=>nomatch m).2]at q;cases q
 cases C with
 |set t u=>exact OS hB S l hn hs A p (λq=>(g2 q).1) h
 |str l0=>obtain rfl:=w O;exact OR hB S l h2 h1 hn hs A p h
 |one f c=>
  obtain rfl:=w O
  have h:B.drop k=aO f c++eT r es:=h
  obtain ⟨a,t,q1,q2,q3,q4,q5,q6⟩:=xy hB g3 r
  obtain ⟨G,I,e2⟩:=La hB f S (by have:=l.nq;exact yZ A this) p h q5 (by rw[q6,q1];show (a:J)≠45;have:=q4 O;exact EF this)
  refine .inl ⟨_,G,_,b,ss,_,O,Dc hB (c:= []) (bl0':=bl0') (u:= .one f c) S (by rw[h];exact C_ hB p _) I,e2, .inr ?_,x8 hB l (rq _) h2⟩
  rw[←rk,←gy,oi hB h,q6]
 |two f c x y=>
  obtain rfl:=w O
  have h:B.drop k=aO f c++45::(aO x y++eT r es):=by
   have h:B.drop k=(aO f c++45::aO x y)++eT r es:=h
   rw[h,cz];rfl
  obtain ⟨G,I,e2⟩:=K_ hB f x S (by have:=l.nq;exact yZ A this) p.1 p.2.1 p.2.2 h
  refine .inl ⟨_,G,_,b,ss,_,O,Dc hB (c:= []) (bl0':=bl0') (u:= .one f c) S (by rw[h];exact C_ hB p.1 _) I,e2, .inl ?_,x8 hB l (dj.mpr p.2.2) h2⟩
  have:=oi hB (t:=aO f c++45::aO x y) (u:=eT r es) (k:=k) (by rw[h,cz];rfl)
  rw[bE,fX]at this
  rw[show k+((aO f c).length+1+(aO x y).length)=k+((aO f c).length+((aO x y).length+1)) by exact RW];exact this
noncomputable def kq(ws:Y V→Y af→R V):aj→Y af→R Fl:=ai (mn ws)<|ai (aB 5<|kM<|.bool N)<|ai (a7<|aC 5 dU (aa 0) nilA) nilM
noncomputable def jx:aj→Y af→R ak:=aq<|ag neS (aC 5 bt (aa 0) nilA)<|kI 93
def LR(B:Y M)(ws:Y V→Y af→R V)(ai' bg n s:M)(o:ak)(r:Y M)(es:Y El)(i:M)(v:cK)(fs:ak)(H:Y af)(f:M):Prop:=
  (∃g c e b' ss' bh' Q' a,f7 v es=z g∧dS jx (kq ws) f (Lc ai' bg o fs) H= .ok (.next<|Lc ai' bg o a) c∧St c B e b' ss' bh' Q'∧B.drop e=93::r∧jL b' ss' Q' g (i+es.length) n s)∨
  (f7 v es=D∧ ∃x:J,0≤x∧x≤B.length∧dS jx (kq ws) f (Lc ai' bg o fs) H= .exc x)
theorem Ks{es:Y El}{k i:M}{b:Y J}{ss:Y bC}{bh:ak}{ag':Y<|J×J}{v:cK}{fs:ak}{H:Y af}{f:M}(S:St H B k b ss bh ag')(l:jL b ss ag' v i n s)(h2:2≤n)(h1:1≤s)(C:(i+es.length)*n≤250)(G:(i+es.length)*s≤58)(A:i+es.length<60)(g:js ws (ai'+1) n s bh es)(h:B.drop k=ej r es)(y:es.length<f):
  LR B ws ai' bg n s o r es i v fs H f:=by
 induction es generalizing k i b ss bh ag' v fs H f with
 |nil=>
  cases f with
  |zero=>exact absurd y<|rj _
  |succ f=>
   refine Or.inl ⟨v,H,k,b,ss,bh,ag',fs,O,?_,S,h,l⟩
   obtain ⟨X,rfl,hX⟩:=S.cons
   have e1:bt [.lbl 0] (rd B k::X)= .ok (.p<|.int 93) (rd B k::X):=eF hB.len (X:=X) h
   have q:(!((93:J)==93))=N:=O
   have w:jx (Lc ai' bg o fs) (rd B k::X)= .ok N (rd B k::X):=by unfold jx;trivial
   unfold dS
   simp only[w,R.bind]
   rfl
 |cons e es ih=>
  cases f with
  |zero=>exact absurd y<|Nat.not_lt_zero _
  |succ f=>
   have len:i+(e::es).length=i+1+es.length:=by rw[fX];exact RV
   rw[len]at C G A
   have m1:(i+1)*n≤(i+1+es.length)*n:=jd _<|hZ _ _
   have m2:(i+1)*s≤(i+1+es.length)*s:=jd _<|hZ _ _
   have ch:=OT (bg:=bg) (o:=o) (fs:=fs) hB S l h2 h1 (bF m1 C) (bF m2 G) (by exact RU A) g h
   obtain ⟨a,t,p1,p2,p3,p4⟩:=CU hB g.1<|eT r es
   obtain ⟨a0,t0,p,u⟩: ∃a t,ej r (e::es)=a::t∧a≠93:=by
    rw[jU]
    cases e.sg with
    |U=>exact⟨a,t,p1,p4.2.1⟩
    |B=>exact⟨38,_,O,by decide⟩
    |W=>exact⟨45,_,O,by decide⟩
   have w:jx (Lc ai' bg o fs) H= .ok Q H:=by
    obtain ⟨X,rfl,hX⟩:=S.cons
    have e1:bt [.lbl 0] (rd B k::X)= .ok (.p<|.int a0) (rd B k::X):=eF hB.len (X:=X)<|h.trans p
    have q:(!((a0:J)==93))=Q:=by rw[eS,cL];exact EJ u
    unfold jx;trivial
   have go: ∀rr,kq ws (Lc ai' bg o fs) H=rr→dS jx (kq ws) (f+1) (Lc ai' bg o fs) H=rr.bind (lE<|dS jx (kq ws) f):=λrr hr=>by
    rw[←hr]
    show R.bind (jx (Lc ai' bg o fs) H) _=_
    rw[w];rfl
   rcases ch with⟨v',H',k',b',ss',Q',c,c2,c3,c4,c5⟩|⟨c,x,x1,x2,x3⟩
   ·have I:f7 v (e::es)=f7 v' es:=by show (f9 v e).bind _=_;rw[c];rfl
    obtain ⟨_,_,r1,r2,_,_,r5,r6⟩:=xy hB g.2.2 r
    obtain ⟨k2,hk2',sk⟩: ∃k2,B.drop k2=ej r es∧ ∀X,dU [.lbl 0] (rd B k'::X)= .ok (.p .none) (rd B k2::X):=by
     rcases c4 with c4|c4
     ·refine⟨k'+cF (eT r es),by rw[←gy,c4,r6],λX=>nk hB.len c4 (hB.rest c4) r5⟩
     ·exact⟨k',c4,λX=>l5 hB (c4.trans r1) r2⟩
    obtain ⟨X',rfl,m⟩:=c3.cons
    have e2:=sk X'
    have j:kq ws (Lc ai' bg o fs) H= .ok (.next<|Lc ai' bg o N) (rd B k2::X'):=by unfold kq;trivial
    unfold LR;rw[I,len,go _ j]
    exact ih (m k2) c5 C G A g.2.2 hk2'<|Nat.lt_of_succ_lt_succ y
   ·have I:f7 v (e::es)=D:=by show (f9 v e).bind _=_;rw[c];rfl
    have j:kq ws (Lc ai' bg o fs) H= .exc x:=km x3
    exact Or.inr ⟨I,x,x1,x2,by rw[go _ j];rfl⟩
end
end
section
theorem C1(r:Y M): ∀a:Y El,ej r a=ej [] a++r
 | []=>rfl
 | [e]=>by rw[jU,jU,cz,cz];rfl
 |e::g::a=>by
  have i:=C1 r<|g::a
  rw[jU,jU,cz,cz,oq,oq]
  cases g.bl
  ·rw[az (by decide),az (by decide),i]
  ·rw[aw O,aw O,i];rfl
theorem Ee(r:Y M)(a:Y El):eT r a=eT [] a++r:=by
 cases a with
 |nil=>rfl
 |cons e a=>
  rw[oq,oq,C1 r<|e::a]
  cases e.bl
  ·rw[az (by decide),az<|by decide]
  ·rw[aw O,aw O];rfl
noncomputable def lT(o:ak)(e:Y El):Y M:=91::((if o then [94]else [])++eT [] e)
theorem yd(s:Y bC)(H:Y af):neS (.p<|tL s) (.p<|.list []) H= .ok (.p<|.bool<|!(s.isEmpty)) H:=by
 cases s with
 |nil=>rfl
 |cons r s=>
  have e:fZ ((r::s).map bL) []=z N:=by
   show ((gX<|(r::s).map bL).bind _).or _=_
   rw[oc];rfl
  show (fZ ((r::s).map bL) []).elim R.err _=_
  rw[e];rfl
noncomputable def zO(v:cK):cK:=(λx=>decide (0≤x∧x<1114112)&& !(v.1 x),λ_=>bR)
def nj(o:ak)(e:Y El)(val:d cK):Prop:=match f7 (λ_=>N,λ_=>bR) e with
 |none=>val=none
 |some v=>if o then((∀r,¬v.2 r)∧val=some (zO v))∨((∃r,v.2 r)∧val=none)else val=some v
section
variable{B:Y M}{k:M}{X:Y af}(hB:iu B){ws:Y V→Y af→R V}{ah' n s:M}{r:Y M}{es:Y El}{o:ak}
theorem Np(x k:J)(X:Y af):cV [.lbl 0, .p<|.int x] (rd B k::X)= .exc x:=yQ (sd O) (sd O) O
theorem VX(k:J):k6 [] [rd B k]= .ok (.lbl 1) [rd B k,aG 2 [] [] N,aJ []]:=by kernel_rfl
theorem Xu:fin 1 (.p v) (rd B k::X)= .ok (.p v) [rd B k]:=O
noncomputable abbrev L1(ah' b:M)(o:ak):aj:= [z<|.lbl 0,z<|.p<|.int ah',z<|.p<|.int b,z<|.p<|.bool o,D,D,D]
noncomputable def nD(ws:Y V→Y af→R V):aj→Y af→R Fl:=ai (aB 4<|ao k6 nilA)<|ai (aB 5<|kM<|.bool Q)<|ai (dS jx (kq ws) 1000)<|ai (a7<|aC 5 cu (aa 0) nilA)<|ai (aB 6<|aC 6 nQ (aa 4) nilA)<|ai (ax (a_ (aq<|aa 3)<|a_ (aq<|ag neS (aD (aF 10)<|aa 6)<|listF nilA)<|kT Q) (ai (a7<|aC 5 cV (aa 0)<|ae (aa 2) nilA) nilM) nilM)<|ai (aK<|ax (aq<|aa 3) (ao k4<|ae (aC 1 mz (aD (aF 9)<|aa 6) nilA)<|ae (listF nilA) nilA)<|aa 6) nilM
noncomputable def vV(t:aj→Y af→R Fl):aj→Y af→R Fl:=ai (aB 2<|aD (aF 13)<|aa 0)<|ai (a7<|aC 5 cu (aa 0) nilA)<|ai (a7<|aC 5 dU (aa 0) nilA)<|ai (aB 3<|ag eqS (aC 5 bt (aa 0) nilA)<|kI 94)<|ai (ax (aq<|aa 3) (ai (a7<|aC 5 cu (aa 0) nilA)<|ai (a7<|aC 5 dU (aa 0) nilA) nilM) nilM) t
theorem D2:Hm ws=vV (nD ws):=O
include hB
theorem L5(g:js ws (ah'+1) n s false es)(h:B.drop k=lT o es++r): ∃i,B.drop i=ej r es∧vV f [z<|.lbl 0,z<|.p<|.int ah',D,D,D,D,D] [rd B k]=f (L1 ah' k o) [rd B i]∧k≤B.length:=by
 unfold lT at h
 rw[xe,cz,←Ee]at h
 obtain ⟨_,b,I⟩:=dn h
 obtain ⟨a,t,u,G,w,H,v,q⟩:=xy hB g r
 have y:=fu hB.len (X:= []) h (by decide)
 cases o with
 |false=>
  have b:B.drop (k+1)=eT r es:=b
  have p:=nk hB.len (X:= []) b (hB.rest b) v
  have c:B.drop (k+1+cF (eT r es))=ej r es:=by rw[←gy,b,q]
  have m:bt [.lbl 0] [rd B (k+1+cF (eT r es):M)]= .ok (.p<|.int a) [rd B (k+1+cF (eT r es):M)]:=eF hB.len (X:= [])<|c.trans u
  have e:((a:J)==94)=false:=cL.mpr (by exact RT w)
  refine⟨_,c,?_,fq I⟩
  unfold vV
  generalize l:f (L1 ah' k false) [rd B (k+1+cF (eT r es):M)]=x
  trivial
 |true=>
  have b:B.drop (k+1)=94::eT r es:=b
  have p:=l5 hB (X:= []) b (by decide)
  have m:bt [.lbl 0] [rd B (k+1:M)]= .ok (.p<|.int 94) [rd B (k+1:M)]:=eF hB.len (X:= []) b
  have A:=fu hB.len (X:= []) b (by decide)
  have c:=(dn b).2.1
  have C:=nk hB.len (X:= []) c (hB.rest c) v
  have j:B.drop (k+1+1+cF (eT r es))=ej r es:=by rw[←gy,c,q]
  have e:((94:J)==94)=true:=O
  refine⟨_,j,?_,fq I⟩
  unfold vV
  generalize l:f (L1 ah' k true) [rd B (k+1+1+cF (eT r es):M)]=x
  trivial
theorem M5(h2:2≤n)(h1:1≤s)(hn:es.length*n≤250)(hs:es.length*s≤58)(hi:es.length<60)(g:js ws (ah'+1) n s false es)(h:B.drop k=lT o es++r){val:d cK}(l:nj o es val):
  (∃v c C,val=z v∧vI c C v (es.length*n+2) (es.length*s)∧w83 ws [.lbl 0, .p<|.int ah'] (rd B k::X)= .ok (.p<|bM c C) (rd B (k+(lT o es).length:M)::X))∨
  (val=D∧ ∃x:J,0≤x∧x≤B.length∧ ∀X,w83 ws [.lbl 0, .p<|.int ah'] (rd B k::X)= .exc x):=by
 obtain ⟨k1,hk1',hh,hk⟩:=L5 (f:=nD ws) (ah':=ah') hB g h
 have st:St [rd B k1,aG 2 [] [] false,aJ []] B k1 [] [] false []:=⟨O,2,bo _,O,O⟩
 have rl:jL [] [] [] (λ_=>false,λ_=>bR) 0 n s:=⟨.nil,⟨.nil, .nil⟩,λ_ h=>(nomatch h),λ_=>rfl,λr=>⟨λh=>(nomatch h),λh=>h.elim⟩,dc _,bo _,dc _⟩
 have lp:=Ks (bg:=k) (o:=o) (i:=0) (fs:=true) (f:=1000) hB st rl h2 h1 (by rw[lN];exact hn) (by rw[lN];exact hs) (by exact RS hi) g hk1' (by exact RQ hi)
 have G:=VX (B:=B) (k1:J)
 have b: ∀x:J,nD ws (L1 ah' k o) [rd B k1]= .exc x→ ∀X,w83 ws [.lbl 0, .p<|.int ah'] (rd B k::X)= .exc x:=λx hx X=>
  yQ (sd O) (sd O) (zS<|vb [z<|.lbl 0,z<|.p<|.int ah',D,D,D,D,D] (sd O) O<|by rw[D2,hh];exact hx)
 have j: ∀(p:P) (e:M) (H:Y af),nD ws (L1 ah' k o) [rd B k1]= .ok (.ret<|.p p) (rd B e::H)→w83 ws [.lbl 0, .p<|.int ah'] (rd B k::X)= .ok (.p p) (rd B e::X):=λp e H hx=>
  qi (sd O) (sd O) (gL (b8 [z<|.lbl 0,z<|.p<|.int ah',D,D,D,D,D] (sd O) O<|by rw[D2,hh];exact hx) Xu)
 rcases lp with⟨v',H',e,b',ss',bh',Q',fs'',v1,v2,v3,v4,v5⟩|⟨v1,x,x1,x2,x3⟩
 ·rw[lN]at v5
  obtain ⟨H,rfl,y⟩:=v3.cons
  have pt:=fu hB.len (X:=H) v4 (by decide)
  have U:=v5.nb
  have l2:=v5.ns
  have l3:=v5.nq
  obtain ⟨c,c1,c2,c3,H2,c4,c5⟩:=Na (y<|e+1) v5.inc (by exact RP hn U) v5.q (by exact y0 hi l3)
  obtain ⟨f,rfl,_⟩:=c5.cons
  have v2:dS jx (kq ws) 1000 [z<|.lbl 0,z<|.p<|.int ah',z<|.p<|.int k,z<|.p<|.bool o,z<|.lbl 1,z<|.p<|.bool true,D] [rd B k1,aG 2 [] [] false,aJ []]=_:=v2
  have pn:=yd ss'<|rd B (e+1:M)::f
  obtain ⟨q,hI⟩:=(y<|e+1).inst ((e+1:M):J)
  have kk:e+1=k+(lT o es).length:=by
   have e1:B.drop (e+1)=r:=(dn v4).2.1
   have e2:B.drop (k+(lT o es).length)=r:=oi hB h
   have lk:=(dn v4).2.2
   have u:=aR kH e1
   have w:=aR kH e2
   have z3:=aR kH h
   rw[tZ]at u w z3
   rw[bE]at z3
   have:(lT o es).length≠0:=by unfold lT;simp
   exact RO lk u z3 this
  have ld:val=D∨True:= .inr trivial
  unfold nj at l
  rw[v1]at l
  cases o with
  |false=>
   obtain rfl:val=z v':=l
   refine .inl ⟨v',c,ss',O,⟨c1,λx=>by rw[c2,v5.pm],by exact RN U c3,v5.so,v5.rw_,v5.ns⟩,?_⟩
   rw[←kk]
   refine j _ _ f ?_
   unfold nD
   trivial
  |true=>
   cases m:ss'.isEmpty with
   |true=>
    obtain rfl:ss'= []:=List.isEmpty_iff.mp m
    obtain ⟨I,d1,d2,d3,d4⟩:=DJ c1 (by exact RM hn U c3)<|rd B (e+1:M)::f
    have A:=oC I []<|rd B (e+1:M)::f
    have A:k4 [.p<|cs I, .p<|.list []] (rd B (e+1:M)::f)= .ok (.p<|bM I []) (rd B (e+1:M)::f):=A
    rcases l with⟨u,w⟩|⟨⟨a,u⟩,w⟩
    ·refine .inl ⟨zO v',I,[],w,⟨d1,λx=>by rw[d2,c2,v5.pm];rfl,by exact RL U c3 d3,⟨.nil, .nil⟩,λr=>⟨λh=>(nomatch h),λh=>h.elim⟩,dc _⟩,?_⟩
     rw[←kk]
     refine j _ _ f ?_
     unfold nD
     trivial
    ·exact nomatch (v5.rw_ a).mpr u
   |false=>
    obtain ⟨a,zs,hz⟩: ∃a zs,ss'=a::zs:=by
     cases ss' with
     |nil=>cases m
     |cons a zs=>exact⟨a,zs,O⟩
    have hz1':a∈ss':=by rw[hz];exact .head _
    rcases l with⟨u,w⟩|⟨_,w⟩
    ·exact absurd ((v5.rw_ a).mp hz1') (u a)
    ·refine .inr ⟨w,k,dA _,dj.mpr hk,b _ ?_⟩
     rw[m]at pn
     have px:=Np (B:=B) (k:J) ((e+1:M):J) f
     have pi:ax (a_ (aq<|aa 3)<|a_ (aq<|ag neS (aD (aF 10)<|aa 6)<|listF nilA)<|kT true) (ai (a7<|aC 5 cV (aa 0)<|ae (aa 2) nilA) nilM) nilM [z<|.lbl 0,z<|.p<|.int ah',z<|.p<|.int k,z<|.p<|.bool true,z<|.lbl 1,z<|.p<|.bool fs'',z<|.p<|bM c ss'] (rd B (e+1:M)::f)= .exc k:=by
      refine dq (t:=true) (H1:=rd B (e+1:M)::f) ?_ (fJ (sd O)<|km<|vA<|iR (aH<|sd O) (sd O) (sd O) (aI (aH<|sd O) a8) px)
      trivial
     unfold nD
     refine bA (c9 (bH a8 G) O)<|bQ<|bA (c9 kE O)<|bQ<|bA v2<|bQ<|bA (qh (iR (aH<|sd O) (sd O) (sd O) a8 pt)<|sd O)<|bQ<|bA (c9 (iR (aH<|sd O) (sd hI) (sd O) a8 c4) O)<|bQ<|km pi
 ·refine .inr ⟨by unfold nj at l;rw[v1]at l;exact l,x,x1,x2,b x ?_⟩
  have x3:dS jx (kq ws) 1000 [z<|.lbl 0,z<|.p<|.int ah',z<|.p<|.int k,z<|.p<|.bool o,z<|.lbl 1,z<|.p<|.bool true,D] [rd B k1,aG 2 [] [] false,aJ []]=_:=x3
  unfold nD
  exact bA (c9 (bH a8 G) O)<|bQ<|bA (c9 kE O)<|bQ<|km x3
end
end
section
section
variable{ws:Y V→Y af→R V}{ar' n s:M}{es:Y El}{o:ak}
theorem gn.mono{t:Y M}{val:d cK}{p s':M}(h:gn ws ar' t val n s)(b:n≤p)(f:s≤s'):gn ws ar' t val p s':=
 ⟨h.head,λv i B k r X g G=>let ⟨c,C,a,e⟩:=h.ok v i B k r X g G;⟨c,C,⟨a.inc,a.pm,bF a.len b,a.so,a.rw_,bF a.rl f⟩,e⟩,h.no⟩
theorem VU(g:js ws ar' n s false es)(C:iu [])(r:Y M):bp (lT o es++r)=false:=by
 have k: ∀x t,x≠58→bp (91::x::t)=false:=λx t j=>by
  unfold bp
  have h:((91::x::t).take 2== [91,58])=false:=by rw[cL];intro q;simp at q;exact j q
  rw[h];rfl
 unfold lT
 rw[xe,cz,←Ee]
 cases o with
 |true=>exact k 94 _ (by decide)
 |false=>
  show bp (91::eT r es)=false
  cases es with
  |nil=>exact k 93 r (by decide)
  |cons e es=>
   rw[oq]
   cases G:e.bl with
   |true=>rw[aw rfl];exact k 32 _ (by decide)
   |false=>
    rw[az (by decide),jU]
    cases H:e.sg with
    |B=>exact k 38 _ (by decide)
    |W=>exact k 45 _ (by decide)
    |U=>
     show bp (91::(eO e.it++eT r es))=false
     have i:=g.1
     have b: ∀(f c:M) (u:Y M),Lt c→ ∃x t,aO f c++u=x::t∧x≠58:=λf c u y=>by
      match f with
      |0=>exact⟨c,u,rfl,by have:=y.1;exact EE this⟩
      |1|2|3=>exact⟨92,_,rfl,by decide⟩
      |_+4=>exact⟨c,u,rfl,by have:=y.1;exact EE this⟩
     cases m:e.it with
     |set t v=>
      rw[m]at i
      obtain ⟨a,s,h,A,_⟩:=gn.head i
      show bp (91::(t++eT r es))=false
      rw[h]
      exact k a _ (by rcases A with rfl|rfl<;>decide)
     |str l=>exact k 123 _ (by decide)
     |one f c=>
      rw[m]at i
      obtain ⟨x,t,h,j⟩:=b f c (eT r es) i
      show bp (91::(aO f c++eT r es))=false
      rw[h];exact k x t j
     |two f c w p=>
      rw[m]at i
      obtain ⟨x,t,h,j⟩:=b f c (45::aO w p++eT r es) i.1
      show bp (91::((aO f c++45::aO w p)++eT r es))=false
      rw[cz,h];exact k x t j
theorem D_(ws:Y V→Y af→R V):dZ ws=aU (aZ<|aS 2 0 2<|te<|w83 ws):=O
theorem gn.list(G:ar'≤18)(u:2≤n)(t:1≤s)(y:es.length*n≤250)(A:es.length*s≤58)(w:es.length<60)(g:js ws (ar'+1) n s N es){val:d cK}(H:nj o es val):gn (dZ ws) ar' (lT o es) val (es.length*n+2)<|es.length*s:=by
 have l: ∀r,bp (lT o es++r)=N:=λr=>VU g ⟨dc _,λ_ h=>nomatch h⟩ r
 have W:=λ(B:Y M) (k:M) (r:Y M) (b:iu B) (h:B.drop k=lT o es++r)=>M5 (ah':=ar') (X:= []) b u t y A w g h H
 obtain ⟨a,j⟩: ∃a,lT o es=91::a:=⟨_,O⟩
 rw[D_ ws]
 generalize lT o es=L at W l j⊢
 generalize w83 ws=wl at W⊢
 have step: ∀{B:Y M} {k:M} {r:Y M},iu B→B.drop k=L++r→oR [.lbl 0] [rd B k]= .ok (.p<|.bool N) [rd B k]∧bt [.lbl 0] [rd B k]= .ok (.p<|.int 91) [rd B k]:=λ{B k r} b h=>by
  rw[j]at h l
  have e:=yq b.len (X:= []) h<|fq (dn (c:=91) (r:=a++r) h).2.2
  rw[l]at e
  exact⟨e,eF b.len (X:= []) h⟩
 have q1:(!((91:J)==91))=N:=O
 have q2:decide ((18:J)<(ar':J))=N:=bu (by exact RK G)
 refine⟨⟨91,_,j, .inl O,λr=>by rw[j];rfl⟩,λv e B k r X b h=> ?_,λe B k r b h=> ?_⟩
 ·rcases W B k r b h with⟨q,c,C,i,a,e2⟩|⟨i,_⟩
  ·obtain rfl:v=q:=aY (e.symm.trans i)
   obtain ⟨p,I⟩:=step b h
   refine⟨c,C,a,gD (sd O) (sd O)<|b8 [z<|.lbl 0,z<|.p<|.int ar'] (sd O) O ?_⟩
   unfold te
   trivial
  ·rw[e]at i;cases i
 ·rcases W B k r b h with⟨q,c,C,i,_⟩|⟨_,x,U,x2,m⟩
  ·rw[e]at i;cases i
  ·obtain ⟨p,I⟩:=step b h
   refine⟨x,U,x2,λX=>yQ (sd O) (sd O)<|zS<|vb [z<|.lbl 0,z<|.p<|.int ar'] (sd O) O ?_⟩
   have m:=m []
   unfold te
   refine bA (dq (cO<|bH (aI (aH<|sd O) a8) p)<|fb (sd O) fx)<|bQ<|bA (f:= .next [z<|.lbl 0,z<|.p<|.int ar']) (H1:= [rd B k]) ?_ (bQ<|km<|Xg<|bH (aI (aH<|sd O)<|aI (aH<|sd O) a8) m)
   trivial
noncomputable def FE(l o:ak):cK:=(λx=>bd (jt l o) x,λ_=>bR)
theorem gn.prop(l:ak)(b:w<4):gn (dZ ws) ar' (gI l w) (z<|FE l<|w%2==1) 4 0:=by
 have c: ∀w,w<4→ ∀r,bp (gI l w++r)=Q:=by
  iterate 4 refine jo ?_ (λ_=>rfl)
  exact om
 have c:=c w b
 refine⟨?_,λv e B k r X g h=> ?_,λe=>nomatch e⟩
 ·have f: ∀w,w<4→ ∃a s,gI l w=a::s∧(a=91∨a=92):=
   jo (jo (jo (jo om ⟨92,_,O, .inr O⟩) ⟨92,_,O, .inr O⟩) ⟨91,_,O, .inl O⟩) ⟨91,_,O, .inl O⟩
  obtain ⟨a,s,e,j⟩:=f w b
  exact⟨a,s,e,j,λr=>by unfold bs;rw[c];exact Bool.or_true _⟩
 ·obtain rfl:=aY e
  have i:=yq g.len (X:= []) h (by
   have:=aR kH h
   rw[tZ,bE]at this
   have f: ∀w,w<4→(gI l w).length≠0:=by
    iterate 4 refine jo ?_ (by cases l<;>decide)
    exact om
   exact RJ (by assumption)<|f w b)
  rw[c]at i
  have m:=Ni g.len (X:= []) l b h
  have p:k4 [.p<|cs<|jt l<|w%2==1, .p<|.list []] [rd B (k+(gI l w).length:M)]= .ok (.p<|bM (jt l<|w%2==1) []) [rd B (k+(gI l w).length:M)]:=oC _ [] _
  rw[D_]
  generalize w83 ws=q
  refine⟨jt l<|w%2==1,[],⟨?_,λx=>rfl,?_,⟨.nil, .nil⟩,λr=>⟨λh=>(nomatch h),λh=>h.elim⟩,bo _⟩,gD (sd O) (sd O)<|b8 [z<|.lbl 0,z<|.p<|.int ar'] (sd O) O ?_⟩
  ·cases l<;>cases (w%2==1)<;>decide
  ·cases l<;>cases (w%2==1)<;>decide
  ·unfold te
   trivial
end
section
variable{B:Y M}(hB:iu B){t:Y M}{n s:M}{val:d cK}
theorem Mf(a:Y bC)(H:Y af):eqS (.p<|tL a) (.p<|.list []) H= .ok (.p<|.bool a.isEmpty) H:=by
 cases a with
 |nil=>rfl
 |cons r a=>
  have e:fZ ((r::a).map bL) []=z N:=by
   show ((gX<|(r::a).map bL).bind _).or _=_
   rw[oc];rfl
  show (fZ ((r::a).map bL) []).elim R.err _=_
  rw[e];rfl
theorem Jr(m:M)(a:Y af): ∀(H:Y af) (k:M),lY [] m a k H=H:=by
 intro H
 induction H with
 |nil=>intro k;rfl
 |cons c H i=>intro k;exact congrArg (c:: ·)<|i<|k+1
theorem VZ(B:Y M)(H:Y af):k5 [.p<|.bytes B, .p eg] H= .ok (.lbl H.length) (H++ [rd B 0]):=by
 refine jr (k:= []) (a:= [.p<|.bytes B, .p eg]) (c:= []) (l:= .lbl 0) (b:= [rd B 0]) (by exact ul H 4) O rfl rfl (by kernel_rfl) ?_ ?_
 ·show V.lbl (H.length+(0-0))=_;rfl
 ·show lY [] H.length [rd B 0] 0 H++ [rd B 0]=_
  rw[Jr]
include hB
theorem yp(h:gn wS 0 t val n s)(u:B=t∨B=32::t)(H:Y af):
  (∀v,val=z v→ ∃c C,vI c C v n s∧fy [.p<|.bytes B, .p eg] H= .ok (.p<|if C.isEmpty then cs c else bM c C) H)∧
  (val=D→ ∃x:J,0≤x∧x≤B.length∧fy [.p<|.bytes B, .p eg] H= .exc x):=by
 obtain ⟨a,s0,A,p,y⟩:=h.head
 have i:bl a=N:=by rcases p with rfl|rfl<;>decide
 have g:cF t=0:=by rw[A];unfold cF;rw[i];rfl
 obtain ⟨k,I,U⟩: ∃k:M,B.drop k=t++ []∧dU [.lbl 0] [rd B 0]= .ok (.p .none) [rd B (k:J)]:=by
  rcases u with rfl|rfl
  ·refine⟨0,by rw[iC,ft],?_⟩
   have:=nk hB.len (k:=0) (X:= []) (r:=B) rfl hB.by_ (by rw[g];decide)
   rwa [g]at this
  ·refine⟨1,by rw[ft];rfl,?_⟩
   have e:cF (32::t)=1:=by unfold cF;rw[g];rfl
   have:=nk hB.len (k:=0) (X:= []) (r:=32::t) rfl hB.by_ (by rw[e];decide)
   rwa [e]at this
 have G:k5 [.p<|.bytes B, .p eg] []= .ok (.lbl 0) [rd B 0]:=VZ B []
 refine⟨λv j=> ?_,λj=> ?_⟩
 ·obtain ⟨c,C,f,e⟩:=h.ok v j B k [] [] hB I
  have w:B.drop (k+t.length)= []:=oi hB I
  generalize k+t.length=k2 at e w
  have e2:dU [.lbl 0] [rd B k2]= .ok (.p .none) [rd B k2]:=nk hB.len (X:= []) w (hB.rest w) (by decide)
  have q:decide ((k2:J)<(B.length:J))=N:=yc<|xS w
  have hl:=hB.len
  have o:=Mf C [rd B k2]
  have e:wS [.lbl 0, .p<|.int 0] [rd B k]= .ok (.p<|bM c C) [rd B k2]:=e
  obtain ⟨b,m⟩: ∃b,C.isEmpty=b:=⟨_,rfl⟩
  rw[m]at o
  refine⟨c,C,f,oD (sd rfl) (sd rfl)<|gL (v:= .p<|if C.isEmpty then cs c else bM c C) (H1:= [rd B k2]) (b8 [z<|.p<|.bytes B,z<|.p eg,D,D] (sd rfl) rfl ?_) rfl⟩
  rw[m]
  unfold At
  cases b
  ·rw[az<|by decide];trivial
  ·rw[aw rfl];trivial
 ·obtain ⟨x,x1,x2,l⟩:=h.no j B k [] hB I
  have l:wS [.lbl 0, .p<|.int 0] [rd B k]= .exc x:=l []
  refine⟨x,x1,x2,yP (a:= []) (c:= []) (v:= [.p<|.bytes B, .p eg]) (ul H 4) rfl rfl rfl (zS<|vb [z<|.p<|.bytes B,z<|.p eg,D,D] (sd rfl) rfl ?_)⟩
  unfold At
  exact bA (c9 (bH (aI (aH<|sd rfl)<|aI (aH<|sd rfl) a8) G) rfl)<|bQ<|bA (qh (iR (aH<|sd rfl) (sd rfl) (sd rfl) a8 U)<|sd rfl)<|bQ<|km<|Xe<|bH (aI (aH<|sd rfl)<|aI kE a8) l
end
end
section
abbrev dk(cs:Y J)(a:J):af:= .dict [(.str [99,101,108,108,115], .p<|iL cs),(.str [97,116], .p<|.int a)]
theorem rU{f:Y V→Y af→R V}{vs:Y V}{cs:Y J}{a m:J}{v:P}(b:Sd<|vs.flatMap lblsV= [])(e:Sd<|cZ [0] vs=z vs)(h:f (.lbl 0::vs) [dk cs a]= .ok (.p v) [dk cs m]):aU f (.lbl 0::vs) [dk cs a]= .ok (.p v) [dk cs m]:=by
 refine jr (k:= [0]) (by show reach _ 4 (addNew []<|0::vs.flatMap lblsV)= [0];rw[show vs.flatMap lblsV= []from b];rfl) O (a:= .lbl 0::vs) ?_ O h O rfl
 show (cZ [0] vs).bind (λl=>z<|V.lbl 0::l)=_
 rw[show cZ [0] vs=z vs from e];rfl
theorem sJ{f:Y V→Y af→R V}{vs:Y V}{cs:Y J}{a m:J}{v:P}(h:f vs [dk cs a]= .ok (.p v) [dk cs m]):aZ f vs [dk cs a]= .ok (.p v) [dk cs m]:=gL h O
theorem LK(h:0<n): ∃k:M,k<n∧x%(n:J)=k:=by
 have a:=Int.emod_nonneg x (b:=n) (by exact RH h)
 have e:=Int.emod_lt_of_pos x (b:=n) (by exact RG h)
 exact⟨(x%(n:J)).toNat,by exact RF a e,by exact RE a⟩
theorem iI(cs:Y J){a n:M}(j:0<n)(o:a<900000)(i:cs.length<900): ∃k:M,k<n∧b9 [.lbl 0, .p<|.int n] [dk cs a]= .ok (.p<|.int k) [dk cs (a+1:M)]:=by
 have t:k_ (.lbl 0) (.p<|.str [97,116]) [dk cs a]= .ok (.p<|.int a) [dk cs a]:=O
 have u:k_ (.lbl 0) (.p<|.str [99,101,108,108,115]) [dk cs a]= .ok (.p<|iL cs) [dk cs a]:=O
 have v:nz (.lbl 0) (.p<|.str [97,116]) (.p<|.int<|(a:J)+1) [dk cs a]= .ok () [dk cs (a+1:M)]:=O
 have w:=me (H:= [dk cs (a+1:M)]) i
 have y:(0:J)<(n:J):=dQ.mpr j
 have go: ∀x:J,As [z<|.lbl 0,z<|.p<|.int n,D,D] [dk cs a]= .ok (.ret<|.p<|.int<|x%(n:J)) [dk cs (a+1:M)]→ ∃k:M,k<n∧b9 [.lbl 0, .p<|.int n] [dk cs a]= .ok (.p<|.int k) [dk cs (a+1:M)]:=λx h=>by
  obtain ⟨k,l,m⟩:=LK (x:=x) j
  rw[m]at h
  exact⟨k,l,rU (sd O) (sd O)<|sJ<|b8 [z<|.lbl 0,z<|.p<|.int n,D,D] (sd O) O h⟩
 unfold As at go
 by_cases h:a<cs.length
 ·have q:decide ((a:J)<(cs.length:J))=Q:=bx (dQ.mpr h)
  have p:=l6 (H:= [dk cs (a+1:M)]) i<|de h
  exact go cs[a] (by trivial)
 ·have q:decide ((a:J)<(cs.length:J))=N:=bu (by exact E7 h)
  cases b:cs with
  |nil=>
   subst b
   have r:eqS (.p<|iL []) (.p<|.list []) [dk [] (a+1:M)]= .ok (.p<|.bool Q) [dk [] (a+1:M)]:=O
   have B:(0:J)<3∧(3:J)<1000000:=by decide
   exact go ((a:J)*7+(a:J)/3) (by trivial)
  |cons c g=>
   have r:eqS (.p<|iL cs) (.p<|.list []) [dk cs (a+1:M)]= .ok (.p<|.bool N) [dk cs (a+1:M)]:=by
    have e:fZ (cs.map .int) []=z N:=by
     rw[b];exact yi (c::g) []
    show (fZ (cs.map .int) []).elim R.err _=_
    rw[e];rfl
   have f:0<cs.length:=by rw[b];exact Nat.succ_pos _
   have B:(0:J)<(cs.length:J):=dQ.mpr f
   have A:(0:J)<(a:J)+1∧(a:J)+1<1000000:=by exact RD o
   have s:(a:J)%(cs.length:J)=((a%cs.length:M):J):=O
   have p:aE (.p<|iL cs) (.p<|.int<|(a:J)%(cs.length:J)) [dk cs (a+1:M)]= .ok (.p<|.int<|cs[a%cs.length]'(Nat.mod_lt _ f)) [dk cs (a+1:M)]:=l6 i<|de<|Nat.mod_lt _ f
   rw[←b]
   exact go ((cs[a%cs.length]'(Nat.mod_lt _ f))/((a:J)+1)+(a:J)*5)<|by trivial
theorem Gz{P:M→Prop}(h: ∀c∈ [97,98,99,100,101,102,103,104],P c){c:M}(f:Lt c):P c:=by
 obtain ⟨b,e⟩:=f
 exact h c<|by simp;exact EQ b e
noncomputable def Az:aj→Y af→R V:=listF<|ae (ao e7<|ae (aa 1) nilA)<|ae (ag addS (kS [92,120])<|cR (ao nJ<|ae (aa 1) nilA) (ct<|kI 2) partN)<|ae (ag addS (kS [92,117,48,48])<|cR (ao nJ<|ae (aa 1) nilA) (ct<|kI 2) partN)<|ae (ag addS (ag addS (kS [92,120,123])<|cR (ao nJ<|ae (aa 1) nilA) (ct<|kI 2) partN)<|kS [125])<|ae (ao e7<|ae (aa 1) nilA) nilA
theorem Ok{c:M}(f:Lt c)(o:d V)(H:Y af):Az [o,z<|.p<|.int c] H= .ok (.p<|.list [.str<|aO 0 c, .str<|aO 1 c, .str<|aO 2 c, .str<|aO 3 c, .str<|aO 4 c]) H:=by
 refine Gz (P:=λc=>Az [o,z<|.p<|.int c] H= .ok (.p<|.list [.str<|aO 0 c, .str<|aO 1 c, .str<|aO 2 c, .str<|aO 3 c, .str<|aO 4 c]) H) (λc f=> ?_) f
 simp only[dP,lP,or_false]at f
 rcases f with rfl|rfl|rfl|rfl|rfl|rfl|rfl|rfl<;>kernel_rfl
theorem Xs(k:f<5):([.str<|aO 0 c, .str<|aO 1 c, .str<|aO 2 c, .str<|aO 3 c, .str<|aO 4 c]:Y P)[f]? =z (.str<|aO f c):=by
 have all: ∀f,f<5→([.str<|aO 0 c, .str<|aO 1 c, .str<|aO 2 c, .str<|aO 3 c, .str<|aO 4 c]:Y P)[f]? =z (.str<|aO f c):=by
  iterate 5 refine jo ?_ O
  exact om
 exact all f k
theorem uS(cs:Y J){a c:M}(g:Lt c)(h:a<900000)(b:cs.length<900): ∃f:M,kx [.lbl 0, .p<|.int c] [dk cs a]= .ok (.p<|.str<|aO f c) [dk cs (a+1:M)]:=by
 obtain ⟨f,k,e⟩:=iI cs (n:=5) (by decide) h b
 have e:b9 [.lbl 0, .p<|.int 5] [dk cs a]=_:=e
 refine⟨f,rU (sd O) (sd O)<|sJ<|b8 [z<|.lbl 0,z<|.p<|.int c] (sd O) O ?_⟩
 have l:=Ok g (z<|.lbl 0) [dk cs a]
 unfold Az at l
 unfold Hh
 exact bA (sE<|br l (bH (aI (aH<|sd O)<|aI kE a8) e)<|vt (by exact RC k)<|Xs k)<|nS O
noncomputable def gj:dg→Y M
 | .U=> [124]
 | .B=> [38]
 | .W=> [45]
theorem yo(y:dg)(a b:ak)(H:Y af):nO [.p<|.str<|gj y, .p<|.bool a, .p<|.bool b] H= .ok (.p<|.bool<|wf y a b) H:=
 fj (sd O) (sd O) (by cases y<;>cases a<;>cases b<;>kernel_rfl)
end
section
noncomputable abbrev cn:Y J:= [97,98,99,100,101,102,103,104]
abbrev cC(L:Y J)(o:ak)(R:Y bC):P:= .tup [iL L, .bool o,tL R]
theorem B8(c:J)(L:Y J)(H:Y af):qQ (.p<|.int c) (.p<|iL L) H=z (L.contains c):=by
 have e:oh (.int c) (L.map .int)=z (L.contains c):=by
  unfold oh qe
  rw[show dJ j5 (L.map P.int)=z L from ru L]
  refine aR z ?_
  rw[iF,List.any_eq_true,fg]
  exact⟨λ⟨x,h,e⟩=>eq_of_beq e▸h,λh=>⟨c,h,fD c⟩⟩
 exact e
theorem CV(c:J)(L:Y J)(H:Y af):inS (.p<|.int c) (.p<|iL L) H= .ok (.p<|.bool<|L.contains c) H:=by unfold inS;rw[B8];rfl
theorem Bi(c:J)(L:Y J)(H:Y af):notInS (.p<|.int c) (.p<|iL L) H= .ok (.p<|.bool<|!(L.contains c)) H:=by
 unfold notInS
 rw[B8];rfl
theorem CP{α:Type}(b:α→P)(c:P→d α)(G: ∀a,c (b a)=z a){g:Y an}{f:Y<|an×M}{t:aj→Y af→R ak}{q:α→ak}{m:aj→Y af→R cG}{C:cG}{A:Y α}{B:aj}{l:aj}{H x:Y af}(h:A.length<900)
  (s:m l H= .ok C x)(hsp':C.split=N)(u: ∀i,fv x i C=z (A.map b)[i]?)(n:im g f l=D::B)(w: ∀a,t (z (.p<|b a)::B) x= .ok (q a) x):
  bW g f N m (bv 0) t (aa 0) 1000 l H= .ok (.p<|.list<|(A.filter q).map b) x:=by
 refine jZ s (sd<|by rw[hsp'];rfl) ?_
 rw[n]
 have j:=l8 (C:=C) (o:=bv 0) (t:=t) (m:=aa 0) (A.map b) (λl=> ∃o,l=o::B) (λp=>(c p).elim N q) id x u
  (λp v l k=>by
   obtain ⟨o,y⟩:=k
   subst y
   obtain ⟨r,U,rfl⟩:=cY.mp v
   refine⟨_,O,⟨_,O⟩,?_,λ_=>rfl⟩
   rw[G];exact w r) 1000 0 (D::B) [] ⟨D,O⟩ (dc _) (by rw[bc];exact rZ h) (by rw[bc,lR];exact yY h)
 rw[iC,lQ,pD,List.filter_map]at j
 have e:((λp=>(c p).elim N q)∘b)=q:=funext λr=>by
  show (c<|b r).elim N q=q r
  rw[G];rfl
 rwa [e]at j
theorem vr{o:Y an}{c:Y<|an×M}{t:aj→Y af→R ak}{q:J→ak}{B:aj}{l:aj}{H:Y af}(b:im o c l=D::B)(h: ∀a:J,t (z (.p<|.int a)::B) H= .ok (q a) H):
  bW o c N (bT<|kM eA) (bv 0) t (aa 0) 1000 l H= .ok (.p<|iL<|cn.filter q) H:=
 CP .int j5 (λ_=>rfl) (by decide) (kj kE<|sd O) O (λi=>rfl) b h
theorem FL{o:Y an}{c:Y<|an×M}{t:aj→Y af→R ak}{q:bC→ak}{m:aj→Y af→R V}{A:Y bC}{B:aj}{l:aj}{H:Y af}(C:A.length<900)(h:m l H= .ok (.p<|tL A) H)(b:im o c l=D::B)(e: ∀a:bC,t (z (.p<|bL a)::B) H= .ok (q a) H):
  bW o c N (bT m) (bv 0) t (aa 0) 1000 l H= .ok (.p<|tL<|A.filter q) H:=
 CP bL ll ru C (kj h<|sd O) O (λi=>rfl) b e
theorem qT(L:Y J)(o:ak)(R:Y bC)(H:Y af):aE (.p<|cC L o R) (.p<|.int 0) H= .ok (.p<|iL L) H:=O
theorem qS(L:Y J)(o:ak)(R:Y bC)(H:Y af):aE (.p<|cC L o R) (.p<|.int 1) H= .ok (.p<|.bool o) H:=O
theorem wC(L:Y J)(o:ak)(R:Y bC)(H:Y af):aE (.p<|cC L o R) (.p<|.int 2) H= .ok (.p<|tL R) H:=O
noncomputable def nE(y:dg)(L q:Y J):Y J:=cn.filter λc=>wf y (L.contains c)<|q.contains c
noncomputable def qk(y:dg)(A a:Y bC):Y bC:=(A++a.filter λr=> !(A.contains r)).filter λr=>wf y (A.contains r)<|a.contains r
theorem MR(y:dg)(L b:Y J)(o f:ak)(A a:Y bC)(C:A.length+a.length<800)(H:Y af):qz [.p<|.str<|gj y, .p<|cC L o A, .p<|cC b f a] H= .ok (.p<|cC (nE y L b) (wf y o f)<|qk y A a) H:=by
 refine fj (sd O) (sd O)<|b8 [z<|.p<|.str<|gj y,z<|.p<|cC L o A,z<|.p<|cC b f a,D,D] (sd O) O ?_
 have k:=qT L o A []
 have n:=qS L o A []
 have p:=wC L o A []
 have s:=qT b f a []
 have u:=qS b f a []
 have v:=wC b f a []
 have w:=vr (o:= ["code"]) (c:= [("one",1),("other",2),("way",0)]) (t:=aq<|ao nO<|ae (aa 3)<|ae (ag inS (aa 0)<|ag aE (aa 1)<|kI 0)<|ae (ag inS (aa 0)<|ag aE (aa 2)<|kI 0) nilA) (q:=λc=>wf y (L.contains c)<|b.contains c) (B:= [z<|.p<|cC L o A,z<|.p<|cC b f a,z<|.p<|.str<|gj y])
  (l:= [z<|.p<|.str<|gj y,z<|.p<|cC L o A,z<|.p<|cC b f a,D,D]) (H:= []) O (λc=>by
   have h:=CV c L []
   have i:=CV c b []
   have j:=yo y (L.contains c) (b.contains c) []
   trivial)
 have G:=FL (o:= ["row"]) (c:= [("one",1)]) (t:=aq<|ag notInS (aa 0)<|ag aE (aa 1)<|kI 2) (q:=λr=> !(A.contains r)) (m:=ag aE (aa 2)<|kI 2) (A:=a) (B:= [z<|.p<|cC L o A]) (l:= [z<|.p<|.str<|gj y,z<|.p<|cC L o A,z<|.p<|cC b f a,z<|.p<|iL<|cn.filter λc=>wf y (L.contains c)<|b.contains c,D]) (H:= []) (by exact RB C) (by trivial) O (λr=>by
   have h:=Bh r A []
   trivial)
 have hlen0':(A++a.filter λr=> !(A.contains r)).length<900:=by
  rw[bE]
  have:=tY (λr=> !(A.contains r)) a
  exact RA C this
 have I:=FL (o:= ["row"]) (c:= [("one",1),("other",2),("way",0)]) (t:=aq<|ao nO<|ae (aa 3)<|ae (ag inS (aa 0)<|ag aE (aa 1)<|kI 2)<|ae (ag inS (aa 0)<|ag aE (aa 2)<|kI 2) nilA) (q:=λr=>wf y (A.contains r)<|a.contains r) (m:=aa 4) (A:=A++a.filter λr=> !(A.contains r)) (B:= [z<|.p<|cC L o A,z<|.p<|cC b f a,z<|.p<|.str<|gj y])
  (l:= [z<|.p<|.str<|gj y,z<|.p<|cC L o A,z<|.p<|cC b f a,z<|.p<|iL<|cn.filter λc=>wf y (L.contains c)<|b.contains c,z<|.p<|tL<|A++a.filter λr=> !(A.contains r)]) (H:= []) hlen0' (by trivial) O (λr=>by
   have h:=yg r A []
   have i:=yg r a []
   have j:=yo y (A.contains r) (a.contains r) []
   trivial)
 have U:=yo y o f []
 have d5:addS (.p<|tL A) (.p<|tL<|a.filter λr=> !(A.contains r)) []= .ok (.p<|tL<|A++a.filter λr=> !(A.contains r)) []:=by
  have:=DY (H:= []) (x:=A.map bL) (y:=(a.filter λr=> !(A.contains r)).map bL) (sd<|by rw[bc,bc];rw[bE]at hlen0';exact Rz hlen0')
  rwa [←fN]at this
 unfold Hg
 show ai _ _ _ _=R.ok (Fl.ret<|V.p<|.tup [iL<|cn.filter λc=>wf y (L.contains c)<|b.contains c, .bool<|wf y o f,tL<|(A++a.filter λr=> !(A.contains r)).filter λr=>wf y (A.contains r)<|a.contains r]) []
 trivial
theorem MO(L:Y J)(o:ak)(A:Y bC)(H:Y af):lA [.p<|cC L o A] H= .ok (.p<|if A.isEmpty then cC (cn.filter λc=> !(L.contains c)) (!o) []else .none) H:=by
 refine fj (sd O) (sd O)<|b8 [z<|.p<|cC L o A] (sd O) O ?_
 have i:=qT L o A []
 have f:=qS L o A []
 have g:=wC L o A []
 have e:=yd A []
 have h:=vr (o:= ["code"]) (c:= [("one",0)]) (t:=aq<|ag notInS (aa 0)<|ag aE (aa 1)<|kI 0) (q:=λc=> !(L.contains c)) (B:= [z<|.p<|cC L o A]) (l:= [z<|.p<|cC L o A]) (H:= []) O (λc=>by
   have j:=Bi c L []
   trivial)
 unfold Hf
 cases C:A.isEmpty with
 |true=>
  rw[C]at e
  rw[aw O]
  show ai _ _ _ _=R.ok (Fl.ret<|V.p<|.tup [iL<|cn.filter λc=> !(L.contains c), .bool<|!o, .list []]) []
  trivial
 |false=>
  rw[C]at e
  rw[az<|by decide]
  trivial
noncomputable def qc:ak→ak→Y J
 |true,false=> [97,98,99,100,101]
 |false,false=> [102,103,104]
 |true,true=> [102,103,104]
 |false,true=> [97,98,99,100,101]
theorem MN(cs:Y J){a:M}(c:a<800000)(b:cs.length<900): ∃(l:ak) (w:M),w<4∧wc [.lbl 0] [dk cs a]= .ok (.p<|.tup [.str<|gI l w,cC (qc l<|w%2==1) (w%2==1) []]) [dk cs (a+2:M)]:=by
 obtain ⟨B,i,e⟩:=iI cs (n:=2) (a:=a) (by decide) (by exact ED c) b
 obtain ⟨H,h,g⟩:=iI cs (n:=4) (a:=a+1) (by decide) (by exact Ry c) b
 have e:b9 [.lbl 0, .p<|.int 2] [dk cs a]=_:=e
 have g:b9 [.lbl 0, .p<|.int 4] [dk cs (a+1:M)]=_:=g
 refine⟨B==0,H,h,rU (sd rfl) (sd rfl)<|sJ<|b8 [z<|.lbl 0,D,D,D,D] (sd rfl) rfl ?_⟩
 have j:aE (.p<|.list [.str [76,108], .str [76,117]]) (.p<|.int B) [dk cs (a+1:M)]= .ok (.p<|.str [76,if(B==0)then 108 else 117]) [dk cs (a+1:M)]:=by
  rcases (by exact zq421 i:B=0∨B=1)with rfl|rfl<;>kernel_rfl
 unfold He
 refine bA (DQ (b:= [z (.lbl 0),z (.p (.str [76,if(B==0)then 108 else 117])),z (.p (.int H)),D,D]) (aI (br (nn (aI kE (aI kE a8)) (sd rfl) (sd (by decide))) (bH (aI (aH (sd rfl)) (aI kE a8)) e) j) (aI (bH (aI (aH (sd rfl)) (aI kE a8)) g) a8)) (sd ⟨rfl,hY rfl⟩) rfl) (bQ ?_)
 generalize ((a+1+1:M):J)=k
 generalize (B==0)=l
 rcases (by exact zq422 h:H=0∨H=1∨H=2∨H=3)with rfl|rfl|rfl|rfl<;>cases l<;>kernel_rfl
end
section
abbrev fp:=Y J×ak×Y bC
def eB:d fp→P
 |none=> .none
 |some u=>cC u.1 u.2.1 u.2.2
noncomputable def dT(L:Y J)(o:ak)(x:J):ak:=if 97≤x∧x≤104 then L.contains x else decide (0≤x∧x<1114112)&&o
def dv:d fp→d cK
 |none=>none
 |some u=>some (dT u.1 u.2.1,λr=>r∈u.2.2)
structure WD(s:M)(u:fp):Prop where
 l:cn.filter (λc=>u.1.contains c)=u.1
 n:u.2.2.Nodup
 s:u.2.2.length≤s
noncomputable def AA:pb→d cK
 | .set _ u=>u
 | .str l=>z (match eV l with
  | [x]=>(eZ (x,x),λ_=>bR)
  |t=>(λ_=>N,λr=>r=t))
 | .one _ c=>z (eZ (c,c),λ_=>bR)
 | .two _ c _ a=>z (eZ (c,a),λ_=>bR)
theorem Kb(v:cK)(e:El)(h:fk e.it=N→e.sg= .U):f9 v e=(AA e.it).map (qy e.sg v):=by
 obtain ⟨b,G,m⟩:=e
 have o: ∀P:bC→Prop,(λr=>P r∨bR)=P:=λP=>funext λr=>propext<|Iff.intro (λh=>h.elim id False.elim) Or.inl
 cases m with
 |set t u=>rfl
 |one f c=>
  obtain rfl:G= .U:=h O
  show z _=z (_,λr=>v.2 r∨bR)
  rw[o];rfl
 |two f c j i=>
  obtain rfl:G= .U:=h O
  show z _=z (_,λr=>v.2 r∨bR)
  rw[o];rfl
 |str l=>
  obtain rfl:G= .U:=h O
  show z (match eV l with| [x]=>nM v x x|t=>(v.1,λr=>v.2 r∨r=t))=z (qy .U v<|match eV l with| [x]=>(eZ (x,x),λ_=>bR)|t=>(λ_=>N,λr=>r=t))
  have g:(λx=>v.1 x||N)=v.1:=funext λx=>jk _
  match eV l with
  | []=>show z (v.1,_)=z ((λx=>v.1 x||N),_);rw[g];rfl
  | [x]=>show z _=z (_,λr=>v.2 r∨bR);rw[o];rfl
  |a::b::t=>show z (v.1,_)=z ((λx=>v.1 x||N),_);rw[g];rfl
theorem FR(e:Y P)(a:aj→Prop)(I:M→Y P→Y af→Prop)(t: ∀H i,fv H i C=z e[i]?)(hlen0':e.length<900)
  (step: ∀i p l H b,e[i]? =z p→a l→I i b H→ ∃f q x,v p l=z f∧a f∧o f H= .ok (.p q) x∧I (i+1) (b++ [q]) x):
  ∀(k i:M) (l:aj) (H:Y af) (b:Y P),a l→I i b H→b.length=i→i≤e.length→e.length<k+i→ ∃c g,ju C v trueT o k i l H b= .ok c g∧I e.length c g:=by
 intro k
 induction k with
 |zero=>intro i l H b _ _ _ B G;exact absurd G (by exact zq228 B)
 |succ k ih=>
  intro i l H b U r s hi hk
  by_cases h:i<e.length
  ·obtain ⟨u,q,x,w,n,y,m⟩:=step i e[i] l H b (de h) U r
   obtain ⟨c,g,A,j⟩:=ih (i+1) u x (b++ [q]) n m (by rw[bE,s];rfl) h (by exact vf hk)
   refine⟨c,g,?_,j⟩
   show (fv H i C).elim R.err _=_
   rw[t,de h]
   show (v e[i] l).elim R.err _=_
   rw[w]
   show R.bind (R.noexc<|o u H) _=_
   rw[y]
   exact(aw<|Rx hlen0' s h).trans A
  ·obtain rfl:i=e.length:=by exact vg hi h
   refine⟨b,H,?_,r⟩
   show (fv H e.length C).elim R.err _=_
   rw[t,n4<|bo _];rfl
theorem Gp{n:M}(h:n<4)(H:Y af):iM [.p<|.int n] H= .ok (.rng 0 1 n) H:=by
 rcases (by exact zq422 h:n=0∨n=1∨n=2∨n=3)with rfl|rfl|rfl|rfl<;>kernel_rfl
theorem FJ(n:M)(H:Y af)(i:M):fv H i (.rng 0 1 n)=z ((dO n).map λ(i:M)=>P.int i)[i]? :=by
 rw[eK]
 by_cases h:i<n
 ·rw[List.getElem?_range h]
  show z (if i<n then z<|P.int<|0+(i:J)*1 else D)=z (z<|P.int (i:J))
  rw[aw h,Int.mul_one,Int.zero_add]
 ·rw[n4<|by rw[pE];exact EW h]
  show z (if i<n then z<|P.int<|0+(i:J)*1 else D)=_
  rw[az h];rfl
theorem u0{k:M}(h:k<8)(H:Y af):aE (.p eA) (.p<|.int k) H= .ok (.p<|.int ((97+k:M):J)) H:=by
 refine vt (by exact Rw h) ?_
 rcases (by exact zq425 h:k=0∨k=1∨k=2∨k=3∨k=4∨k=5∨k=6∨k=7)with rfl|rfl|rfl|rfl|rfl|rfl|rfl|rfl<;>rfl
section
variable{cs:Y J}(hcs:cs.length<900)
include hcs
theorem NZ(j:n<4)(v:a<800000)(x:e l t= .ok (.rng 0 1 n) [dk cs a])(A:im ["turn"] [("deck",0)] l= [D,z<|.lbl 0]):
  ∃r:List M,r.length=n∧(∀c∈r,Lt c)∧bW ["turn"] [("deck",0)] N e (bv 0) trueT (ag aE (kM eA)<|ao b9<|ae (aa 1)<|ae (kI 8) nilA) 1000 l t= .ok (.p<|.list<|r.map λ(c:M)=>P.int c) [dk cs (a+n:M)]:=by
 obtain ⟨b,H',u,r,B,C,m,f⟩:=FR (C:= .rng 0 1 n) (v:=bv 0) (o:=ag aE (kM eA)<|ao b9<|ae (aa 1)<|ae (kI 8) nilA) ((List.range n).map λ(i:M)=>P.int i) (λl=> ∃o,l= [o,z<|.lbl 0])
  (λi b H=> ∃r:List M,r.length=i∧(∀c∈r,Lt c)∧b=r.map (λ(c:M)=>P.int c)∧H= [dk cs (a+i:M)]) (λH i=>FJ n H i) (by rw[List.length_map,List.length_range];exact EC j)
  (λi p l H b I ⟨o,G⟩ ⟨r,B,C,m,f⟩=>by
   subst G m f
   have y:i<n:=by
    have:=(List.getElem?_eq_some_iff.mp I).1
    rwa [List.length_map,List.length_range]at this
   obtain ⟨k,s,g⟩:=iI cs (n:=8) (a:=a+i) (by decide) (by exact EB j v y) hcs
   have g:b9 [.lbl 0, .p<|.int 8] [dk cs (a+i:M)]=_:=g
   refine⟨[z<|.p p,z<|.lbl 0], .int ((97+k:M):J),[dk cs (a+(i+1):M)],O,⟨_,O⟩,br kE (bH (aI (aH<|sd O)<|aI kE a8) g)<|u0 s _,r++ [97+k],by rw[List.length_append,B];rfl,λc w=> ?_,by rw[List.map_append];rfl,O⟩
   rcases List.mem_append.mp w with q|q
   ·exact C c q
   ·rw[List.mem_singleton.mp q];exact⟨by exact l4,by exact rX s⟩)
  1000 0 [D,z<|.lbl 0] [dk cs a] [] ⟨D,O⟩ ⟨[],O,λ_ h=>(nomatch h),O,O⟩ O (dc _) (by rw[List.length_map,List.length_range];exact yX j)
 rw[List.length_map,List.length_range]at B f
 subst m f
 exact⟨r,B,C,jZ x (sd O)<|by rw[A];exact u⟩
theorem HS{r:Y M}{i c:M}(h:r[i]? =z c):r.take (i+1)=r.take i++ [c]:=by rw[List.take_succ,h];rfl
theorem K8{a:M}{r:Y M}(x: ∀c∈r,Lt c)(k:r.length<4)(t:a<800000){b:aj}{e:aj→Y af→R V}(u:e b [dk cs a]= .ok (.p<|.tup<|r.map λ(c:M)=>P.int c) [dk cs a])(w:im ["code"] [("deck",0)] b= [D,z<|.lbl 0]):
  ∃l:Y (M×M),l.map (·.2)=r∧bW ["code"] [("deck",0)] N (bT e) (bv 0) trueT (ao kx<|ae (aa 1)<|ae (aa 0) nilA) 1000 b [dk cs a]= .ok (.p<|.list<|l.map λp=> .str<|aO p.1 p.2) [dk cs (a+r.length:M)]:=by
 obtain ⟨g,A,s,l,B,m,h⟩:=FR (C:= .tup<|r.map λ(c:M)=>P.int c) (v:=bv 0) (o:=ao kx<|ae (aa 1)<|ae (aa 0) nilA) (r.map λ(c:M)=>P.int c) (λb=> ∃o,b= [o,z<|.lbl 0])
  (λi g H=> ∃l:Y (M×M),l.map (·.2)=r.take i∧g=l.map (λp=>P.str<|aO p.1 p.2)∧H= [dk cs (a+i:M)]) (λH i=>rfl) (by rw[bc];exact EC k)
  (λi p b H g n ⟨o,y⟩ ⟨l,B,m,h⟩=>by
   subst y m h
   rw[eK]at n
   obtain ⟨c,j,rfl⟩:=fE.mp n
   have v:=(dH.mp j).1
   obtain ⟨f,q⟩:=uS cs (a:=a+i) (x c<|dG j) (by exact EB k t v) hcs
   exact⟨[z<|.p<|.int c,z<|.lbl 0], .str<|aO f c,[dk cs (a+(i+1):M)],O,⟨_,O⟩,bH (aI (aH<|sd O)<|aI (aH<|sd O) a8) q,l++ [(f,c)],by rw[fN,B,HS hcs j];rfl,by rw[fN];rfl,O⟩)
  1000 0 [D,z<|.lbl 0] [dk cs a] [] ⟨D,O⟩ ⟨[],O,O,O⟩ O (dc _) (by rw[bc];exact yX k)
 rw[bc]at B h
 rw[tW]at B
 subst m h
 exact⟨l,B,jZ (kj u<|sd O) (sd O)<|by rw[w];exact s⟩
end
end
section
theorem jm{L:Y J}{o:ak}{x:J}(h:97≤x∧x≤104):dT L o x=L.contains x:=aw h
theorem jT{L:Y J}{o:ak}{x:J}(h: ¬(97≤x∧x≤104)):dT L o x=(decide (0≤x∧x<1114112)&&o):=az h
theorem let8{x:J}(h:97≤x∧x≤104):x=97∨x=98∨x=99∨x=100∨x=101∨x=102∨x=103∨x=104:=by exact Rv h.1 h.2
theorem Kk(l o:ak):(λx=>bd (jt l o) x)=dT (qc l o) o:=funext λx=>by
 by_cases h:97≤x∧x≤104
 ·rw[jm h]
  rcases let8 h with rfl|rfl|rfl|rfl|rfl|rfl|rfl|rfl<;>cases l<;>cases o<;>rfl
 ·rw[jT h]
  have e:decide (97≤x)=decide (105≤x)∧decide (102≤x)=decide (105≤x):=⟨decide_eq_decide.mpr (by exact Ru h),decide_eq_decide.mpr<|by exact Rt h⟩
  have g:decide (0≤x∧x<1114112)=(decide (0≤x)^^decide (1114112≤x)):=by
   by_cases p:0≤x
   ·by_cases q:x<1114112
    ·rw[bx ⟨p,q⟩,bx p,bu<|by exact Rs q];rfl
    ·rw[bu λa=>q a.2,bx p,bx<|by exact Rr q];rfl
   ·rw[bu λa=>p a.1,bu p,bu<|by exact EY p];rfl
  rw[g]
  cases l<;>cases o<;>simp only[jt,bd,e.1,e.2]<;>cases decide (105≤x)<;>cases decide (0≤x)<;>cases decide (1114112≤x)<;>rfl
theorem pW(f:J→ak)(L:Y J)(o:ak)(h:f=dT L o):(z (f,λ_=>bR):d cK)=dv (z (L,o,[])):=by
 subst h
 show z (_,_)=z (dT L o,λr=>r∈([]:Y bC))
 rw[show (λr=>r∈([]:Y bC))=λ_=>bR from funext λr=>propext ⟨λh=>(nomatch h),False.elim⟩]
theorem C9{c a:M}(b:Lt c)(e:Lt a){L:Y J}(v: ∀x:J,97≤x∧x≤104→(L.contains x=Q↔(c:J)≤x∧x≤a)):eZ ((c:J),(a:J))=dT L N:=funext λx=>by
 have:=b.1
 have:=e.2
 by_cases h:97≤x∧x≤104
 ·rw[jm h,iF,v x h]
  unfold eZ
  rw[b_,fC,fC]
 ·rw[jT h,n_]
  unfold eZ
  rw[Bool.and_eq_false_iff,wF,wF]
  omega
structure vc(ws:Y V→Y af→R V)(d n s T:M)(it:pb)(v:Option fp):Prop where
 good:vL ws d n s it
 val:AA it=dv v
 wd: ∀u,v=z u→WD s u
 len:(eO it).length≤T
 asc: ∀c∈eO it,c<128
def tF(cs:Y J)(w:Y V→Y af→R V)(m:M)(g:Y V→Y af→R V)(k n s b e A:M):Prop:=
 ∀a:M,a≤A→ ∃(f:M) (t:Y M) (v:d fp),w [.lbl 0, .p<|.int m] [dk cs a]= .ok (.p<|.tup [.str t,eB v]) [dk cs (f:M)]∧f≤a+b∧t.length≤e∧(∀c∈t,c<128)∧gn g k t (dv v) n s∧ ∀u,v=z u→WD s u
theorem uA(f c:M):(aO f c).length≤6:=by
 match f with
 |0|1|2|3|_+4=>exact hY O
theorem uB(f:M)(h:Lt c): ∀x∈aO f c,x<128:=by
 have:=h.1
 have:=h.2
 match f with
 |0|1|2|3|_+4=>simp[aO]<;>first|exact Rq this|exact Rp this
theorem OX(h: ∀p∈l,Lt p.2): ∀x∈cT l,x<128:=λx a=>by
 obtain ⟨p,b,a⟩:=tX.mp a
 exact uB p.1 (h p b) x a
theorem Ek(l:Y<|M×M):(cT l).length≤6*l.length:=by
 induction l with
 |nil=>exact bo _
 |cons p l i=>
  show (aO p.1 p.2++cT l).length≤_
  rw[bE,fX]
  have:=uA p.1 p.2
  exact Ro i this
theorem Bs{α:Type}(f:α→Y M): ∀l:Y α,lZ (l.map λp=>P.str<|f p)=z (l.map f)
 | []=>rfl
 |p::l=>by
  show (lZ<|l.map λp=>P.str<|f p).bind _=_
  rw[Bs f l];rfl
theorem LW(h:l.length<1000):lh [.p<|.str [], .p<|.list<|l.map λp=> .str<|aO p.1 p.2] H= .ok (.p<|.str<|cT l) H:=by
 have b:=Ek l
 have e:(l.map λp=>aO p.1 p.2).flatten=cT l:=by unfold cT;rw[w0]
 have:=Cc (v:= .p<|.list<|l.map λp=> .str<|aO p.1 p.2) (H:=H) O (Bs (λp:M×M=>aO p.1 p.2) l) (by rw[e];exact Rn h b)
 rwa [e]at this
theorem Lj(t:bC):t.length≠1→(z (match t with| [x]=>(eZ (x,x),λ_=>bR)|t=>(λ_=>N,λr=>r=t)):d cK)=z (λ_=>N,λr=>r=t):=by
 intro h
 match t,h with
 | [],_=>rfl
 |_::_::_,_=>rfl
theorem rV{L:Y J}{o:ak}{s:M}(h:cn.filter (λc=>L.contains c)=L):WD s (L,o,[]):=⟨h,jg,dc _⟩
section
variable{cs:Y J}(hcs:cs.length<900){wl ws:Y V→Y af→R V}{deep aD' n s aE' aF' a:M}
include hcs
noncomputable def Aq:aj→Y af→R Fl:=ai (aB 3<|ao oB<|ae (bW ["turn"] [("deck",0)] N (gW iM<|ae (ao b9<|ae (aa 0)<|ae (kI 4) nilA) nilA) (bv 0) trueT (ag aE (kM eA)<|ao b9<|ae (aa 1)<|ae (kI 8) nilA) 1000) nilA)<|ai (aB 4<|ag addS (ag addS (kS [123])<|cU kZ lh (kS [])<|ae (bW ["code"] [("deck",0)] N (bT<|aa 3) (bv 0) trueT (ao kx<|ae (aa 1)<|ae (aa 0) nilA) 1000) nilA)<|kS [125])<|ai (aK<|tupF<|ae (aa 4)<|ae (ax (aq<|ag eqS (ao ce<|ae (aa 3) nilA)<|kI 1) (tupF<|ae (ao lW<|ae (aa 3) nilA)<|ae (kM<|.bool N)<|ae (listF nilA) nilA)<|tupF<|ae (listF nilA)<|ae (kM<|.bool N)<|ae (listF<|ae (aa 3) nilA) nilA)<|ae (kM<|.bool N) nilA) nilM
theorem NY(hn:2≤n)(hs:1≤s)(hT:20≤aF')(G:a≤700000): ∃a' C v,Aq [z<|.lbl 0,z<|.p<|.int deep,z<|.p<|.int 2,D,D,D,D] [dk cs a]= .ok (.ret<|.p<|.tup [.str<|eO C,eB v, .bool<|fk C]) [dk cs (a':M)]∧a'≤a+7∧fk C=N∧vc ws aD' n s aF' C v:=by
 obtain ⟨m,f,m2⟩:=iI cs (n:=4) (a:=a) (by decide) (by exact EA G) hcs
 have m2:b9 [.lbl 0, .p<|.int 4] [dk cs a]=_:=m2
 have r:=Gp f [dk cs (a+1:M)]
 obtain ⟨w,w1,w2,w3⟩:=NZ hcs (a:=a+1) f (by exact Rm G) (l:= [z<|.lbl 0,z<|.p<|.int deep,z<|.p<|.int 2,D,D,D,D]) (t:= [dk cs a]) (e:=gW iM<|ae (ao b9<|ae (aa 0)<|ae (kI 4) nilA) nilA) (yJ (aI (bH (aI (aH<|sd O)<|aI kE a8) m2) a8) r) O
 generalize j:a+1+m=q at w3
 obtain ⟨l,U,l2⟩:=K8 hcs (a:=q) (r:=w) w2 (by exact Rl f w1) (by exact Rk G f j) (b:= [z<|.lbl 0,z<|.p<|.int deep,z<|.p<|.int 2,z<|.p<|.tup<|w.map λ(c:M)=>P.int c,D,D,D]) (e:=aa 3) (aH<|sd O) O
 generalize A:q+w.length=b at l2
 have hll':l.length=m:=by rw[←w1,←U,bc]
 have o: ∀p∈l,Lt p.2:=λp hp=>w2 _ (by rw[←U];exact List.mem_map_of_mem hp)
 have g:eV l=w.map λ(c:M)=>(c:J):=by unfold eV;rw[←U,eu];rfl
 have q1:oB [.p<|.list<|w.map λ(c:M)=>P.int c] [dk cs (q:M)]= .ok (.p<|.tup<|w.map λ(c:M)=>P.int c) [dk cs (q:M)]:=aw (by rw[bc];exact Ez f w1)
 have k:=Ek l
 have q2:=LW (l:=l) (H:= [dk cs (b:M)]) (by exact Rj f hll')
 have q3:addS (.p<|.str [123]) (.p<|.str<|cT l) [dk cs (b:M)]= .ok (.p<|.str<|123::cT l) [dk cs (b:M)]:=h_ (sd<|by show 1+_≤_;exact Ri f hll' k)
 have q4:addS (.p<|.str<|123::cT l) (.p<|.str [125]) [dk cs (b:M)]= .ok (.p<|.str<|123::(cT l++ [125])) [dk cs (b:M)]:=h_ (sd<|by show _+1+1≤_;exact Rh f hll' k)
 have q5:ce [.p<|.tup<|w.map λ(c:M)=>P.int c] [dk cs (b:M)]= .ok (.p<|.int w.length) [dk cs (b:M)]:=by
  have:=N8 (H:= [dk cs (b:M)]) (x:=w.map λ(c:M)=>P.int c) (sd<|by rw[bc];exact Ez f w1)
  rwa [bc]at this
 have B:(eO<|.str l).length≤aF':=by show (123::(cT l++ [125])).length≤aF';rw[fX,bE];show _+1+1≤aF';exact Rg hT f hll' k
 have i: ∀c∈eO (.str l),c<128:=λc hc=>by
  rcases dP.mp hc with rfl|hc
  ·decide
  ·rcases gw.mp hc with hc|hc
   ·exact OX o c hc
   ·rw[bz.mp hc];decide
 unfold Aq
 by_cases y:w.length=1
 ·obtain ⟨c,rfl⟩:=List.length_eq_one_iff.mp y
  have hc:=w2 c<|.head _
  refine⟨b, .str l,z ([(c:J)],N,[]),?_,by have:m=1:=w1.symm;have:q+1=b:=A;exact Rf j w1 y this,O,⟨o,by exact Rd hll' w1 y⟩,?_,?_,B,i⟩
  ·have q6:((([c].length:M):J)==1)=Q:=O
   show _=R.ok (Fl.ret<|.p<|.tup [.str<|123::(cT l++ [125]), .tup [.list<|[c].map λ(c:M)=>P.int c, .bool N, .list []], .bool N]) _
   have q7:lW [.p<|.tup<|[c].map λ(c:M)=>P.int c] [dk cs (b:M)]= .ok (.p<|.list<|[c].map λ(c:M)=>P.int c) [dk cs (b:M)]:=O
   refine bA (c9 (bH (aI w3 a8) q1) O)<|bQ ?_
   refine bA (c9 (br (br kE (O1 kE (sd O) (aI l2 a8) q2) q3) kE q4) O)<|bQ ?_
   trivial
  ·show (z (match eV l with| [x]=>(eZ (x,x),λ_=>bR)|t=>(λ_=>N,λr=>r=t)):d cK)=_
   rw[g]
   exact pW _ _ _ (C9 hc hc λx hx=>by rw[fg,bz];exact Rc)
  ·rintro u I
   obtain rfl:=aY I
   refine rV ?_
   exact Gz (P:=λc=>cn.filter (λx=> [(c:J)].contains x)= [(c:J)]) (by decide) hc
 ·refine⟨b, .str l,z ([],N,[eV l]),?_,by exact Rb f w1 j A,O,⟨o,by exact Ra f hll'⟩,?_,?_,B,i⟩
  ·have q6:((w.length:J)==1)=N:=by rw[cL];exact y4 y
   have hz:bL (eV l)= .tup (w.map λ(c:M)=>P.int c):=by rw[g];show P.tup _=_;rw[eu];rfl
   show _=R.ok (Fl.ret<|.p<|.tup [.str<|123::(cT l++ [125]), .tup [.list [], .bool N, .list [bL<|eV l]], .bool N]) _
   rw[hz]
   trivial
  ·show (z (match eV l with| [x]=>(eZ (x,x),λ_=>bR)|t=>(λ_=>N,λr=>r=t)):d cK)=z (dT [] N,λr=>r∈ [eV l])
   have e1:(λr=>r∈ [eV l])=λr=>r=eV l:=funext λr=>propext bz
   have e2:(λ_:J=>N)=dT [] N:=funext λx=>by
    by_cases h:97≤x∧x≤104
    ·rw[jm h];rfl
    ·rw[jT h,n_]
   rw[e1,←e2]
   exact Lj (eV l) (by rw[g,bc];exact y)
  ·rintro u I
   obtain rfl:=aY I
   exact⟨O,kF _ _,hs⟩
end
end
section
section
variable{cs:Y J}(hcs:cs.length<900){wl ws:Y V→Y af→R V}{deep aj' n s ak' al' A a:M}
include hcs
noncomputable def wm:aj→Y af→R Fl:=ai (aB 5<|ao b9<|ae (aa 0)<|ae (kI 8) nilA)<|ai (aB 6<|ax (aq<|ag eqS (aa 2)<|kI 1) (ag addS (aa 5)<|ao b9<|ae (aa 0)<|ae (ag subS (kI 8)<|aa 5) nilA)<|aa 5)<|ai (aB 4<|ao kx<|ae (aa 0)<|ae (ag aE (kM eA)<|aa 5) nilA)<|ai (ax (aq<|ag eqS (aa 2)<|kI 1) (ai (aB 4<|ag addS (ag addS (aa 4)<|kS [45])<|ao kx<|ae (aa 0)<|ae (ag aE (kM eA)<|aa 6) nilA) nilM) nilM)<|ai (aK<|tupF<|ae (aa 4)<|ae (tupF<|ae (cR (kM eA) (ct<|aa 5)<|ct<|ag addS (aa 6)<|kI 1)<|ae (kM<|.bool N)<|ae (listF nilA) nilA)<|ae (kM<|.bool N) nilA) nilM
def lD(lo h:M):Y J:=(cn.drop lo).take<|h+1-lo
theorem C7{lo h:M}(b:lo≤h)(e:h<8)(H:Y af):jz (.p eA) (z (lo:J)) (z<|(h:J)+1) H= .ok (.p<|iL<|lD lo h) H:=by
 have c:cq 8 (lo:J)=lo:=by unfold cq;rw[az<|by exact zq213];exact Q_ b e
 have x:cq 8 ((h:J)+1)=h+1:=by unfold cq;rw[az<|by exact Q9];exact Q8 e
 show (if 8≤1000000 then R.ok (V.p<|P.list<|((cn.map P.int).drop<|cq 8 (lo:J)).take<|cq 8 ((h:J)+1)-cq 8 (lo:J)) H else .err)=_
 rw[aw (by decide),c,x,←List.map_drop,←List.map_take];rfl
theorem DV: ∀b,b<8→ ∀lo,lo≤b→cn.filter (λx=>(lD lo b).contains x)=lD lo b∧ ∀x∈cn,((lD lo b).contains x=Q↔((97+lo:M):J)≤x∧x≤((97+b:M):J)):=by
 intro b h
 rcases (by exact zq425 h:b=0∨b=1∨b=2∨b=3∨b=4∨b=5∨b=6∨b=7)with rfl|rfl|rfl|rfl|rfl|rfl|rfl|rfl<;>decide
theorem LM(h:97≤x∧x≤104):x∈cn:=by rcases let8 h with rfl|rfl|rfl|rfl|rfl|rfl|rfl|rfl<;>decide
theorem CA{lo h:M}(b:lo≤h)(e:h<8):(z (eZ (((97+lo:M):J),((97+h:M):J)),λ_=>bR):d cK)=dv (z (lD lo h,N,[]))∧WD s (lD lo h,N,[]):=
 ⟨pW _ _ _ (C9 ⟨by exact l4,by exact Q7 b e⟩ ⟨by exact l4,by exact rX e⟩ λx c=>(DV hcs h e lo b).2 x<|LM hcs c),rV (DV hcs h e lo b).1⟩
theorem N2(y:M)(G:y<2)(B:20≤al')(h:a≤700000): ∃k i v,wm [z<|.lbl 0,z<|.p<|.int deep,z<|.p<|.int y,D,D,D,D] [dk cs a]= .ok (.ret<|.p<|.tup [.str<|eO i,eB v, .bool<|fk i]) [dk cs (k:M)]∧k≤a+4∧fk i=N∧vc ws aj' n s al' i v:=by
 obtain ⟨lo,m,m2⟩:=iI cs (n:=8) (a:=a) (by decide) (by exact EA h) hcs
 have m2:b9 [.lbl 0, .p<|.int 8] [dk cs a]=_:=m2
 rcases (by exact zq421 G:y=0∨y=1)with rfl|rfl
 ·obtain ⟨f,I⟩:=uS cs (a:=a+1) (c:=97+lo) ⟨by exact l4,by exact rX m⟩ (by exact Ey h) hcs
  have e:=u0 m [dk cs (a+1:M)]
  have o:=C7 hcs (bo lo) m [dk cs (a+1+1:M)]
  obtain ⟨g,v2⟩:=CA (s:=s) hcs (bo lo) m
  have q:(((0:M):J)==1)=N:=rfl
  refine⟨a+1+1, .one f<|97+lo,z (lD lo lo,N,[]),?_,by exact Q6,rfl,⟨⟨by exact l4,by exact rX m⟩,g,λu b=>aY b▸v2,bF (uA f _) (by exact Q5 B),uB f ⟨by exact l4,by exact rX m⟩⟩⟩
  generalize a+1+1=r at I o⊢
  unfold wm
  refine bA (c9 (bH (aI (aH<|sd rfl)<|aI kE a8) m2) rfl)<|bQ<|bA (c9 (dq (cO<|br (aH<|sd rfl) kE<|md<|sd q)<|fb (sd rfl)<|aH<|sd rfl) rfl)<|bQ<|bA (c9 (bH (aI (aH<|sd rfl)<|aI (br kE (aH<|sd rfl) e) a8) I) rfl)<|bQ<|bA (dq (cO<|br (aH<|sd rfl) kE<|md<|sd q)<|fb (sd rfl) fx)<|bQ ?_
  show _=R.ok (Fl.ret<|.p<|.tup [.str<|aO f<|97+lo, .tup [iL<|lD lo lo, .bool N, .list []], .bool N]) _
  trivial
 ·obtain ⟨w,w1,w2⟩:=iI cs (n:=8-lo) (a:=a+1) (by exact Q4 m) (by exact Ey h) hcs
  have w2:b9 [.lbl 0, .p<|.int<|8-(lo:J)] [dk cs (a+1:M)]= .ok (.p<|.int w) [dk cs (a+1+1:M)]:=by
   rw[show (8:J)-(lo:J)=((8-lo:M):J) by exact Q3 w1];exact w2
  obtain ⟨f,I⟩:=uS cs (a:=a+1+1) (c:=97+lo) ⟨by exact l4,by exact yW w1⟩ (by exact Q1 h) hcs
  obtain ⟨j,t⟩:=uS cs (a:=a+1+1+1) (c:=97+(lo+w)) ⟨by exact yV,by exact yU w1⟩ (by exact Q0 h) hcs
  have e:=u0 m [dk cs (a+1+1:M)]
  have U:aE (.p eA) (.p<|.int<|(lo:J)+(w:J)) [dk cs (a+1+1+1:M)]=_:=u0 (k:=lo+w) (by exact yT w1) [dk cs (a+1+1+1:M)]
  have o:jz (.p eA) (z (lo:J)) (z<|((lo:J)+(w:J))+1) [dk cs (a+1+1+1+1:M)]=_:=C7 hcs (lo:=lo) (h:=lo+w) (by exact zK) (by exact yT w1) [dk cs (a+1+1+1+1:M)]
  obtain ⟨g,v2⟩:=CA (s:=s) (lo:=lo) (h:=lo+w) hcs (by exact zK) (by exact yT w1)
  have q:(((1:M):J)==1)=Q:=rfl
  have l:=uA f<|97+lo
  have p:=uA j<|97+(lo+w)
  have p1:addS (.p<|.str<|aO f<|97+lo) (.p<|.str [45]) [dk cs (a+1+1+1:M)]= .ok (.p<|.str<|aO f (97+lo)++ [45]) [dk cs (a+1+1+1:M)]:=h_ (sd<|by show _+1≤_;exact QZ l)
  have p2:addS (.p<|.str<|aO f (97+lo)++ [45]) (.p<|.str<|aO j<|97+(lo+w)) [dk cs (a+1+1+1+1:M)]= .ok (.p<|.str<|aO f (97+lo)++45::aO j (97+(lo+w))) [dk cs (a+1+1+1+1:M)]:=by
   have:=h_ (H:= [dk cs (a+1+1+1+1:M)]) (x:=aO f (97+lo)++ [45]) (y:=aO j<|97+(lo+w)) (sd<|by rw[bE];show _+1+_≤_;exact QY l p)
   rwa [cz]at this
  refine⟨a+1+1+1+1, .two f (97+lo) j<|97+(lo+w),z (lD lo<|lo+w,N,[]),?_,by exact QX,rfl,⟨⟨⟨by exact l4,by exact yW w1⟩,⟨by exact yV,by exact yU w1⟩,by exact QW⟩,g,λu b=>aY b▸v2,?_,?_⟩⟩
  ·generalize a+1+1+1+1=a4 at*
   generalize a+1+1+1=a3 at*
   generalize a+1+1=r at*
   unfold wm
   refine bA (c9 (bH (aI (aH<|sd rfl)<|aI kE a8) m2) rfl)<|bQ<|bA (c9 (dq (cO<|br (aH<|sd rfl) kE<|md<|sd q)<|fJ (sd rfl)<|br (aH<|sd rfl) (bH (aI (aH<|sd rfl)<|aI (br kE (aH<|sd rfl) VI) a8) w2) zm) rfl)<|bQ<|bA (c9 (bH (aI (aH<|sd rfl)<|aI (br kE (aH<|sd rfl) e) a8) I) rfl)<|bQ<|bA (dq (cO<|br (aH<|sd rfl) kE<|md<|sd q)<|fJ (sd rfl)<|bA (c9 (br (br (aH<|sd rfl) kE p1) (bH (aI (aH<|sd rfl)<|aI (br kE (aH<|sd rfl) U) a8) t) p2) rfl)<|bQ fx)<|bQ ?_
   show _=R.ok (Fl.ret<|.p<|.tup [.str<|aO f (97+lo)++45::aO j (97+(lo+w)), .tup [iL<|lD lo<|lo+w, .bool N, .list []], .bool N]) _
   trivial
  ·show (aO f (97+lo)++45::aO j (97+(lo+w))).length≤al'
   rw[bE,fX];exact QV B l p
  ·intro c hc
   rcases gw.mp hc with hc|hc
   ·exact uB f ⟨by exact l4,by exact yW w1⟩ c hc
   ·rcases dP.mp hc with rfl|hc
    ·decide
    ·exact uB j ⟨by exact yV,by exact yU w1⟩ c hc
theorem ML(hn:4≤n)(hs:1≤s)(hT:20≤al')(H:8≤ak')(j:a+1≤A)(C:A≤500000)(I:deep=0∨ ∃k,deep=k+1∧tF cs wl k (dZ ws) aj' n s ak' al' A): ∃m i v,oO wl [.lbl 0, .p<|.int deep] [dk cs a]= .ok (.p<|.tup [.str<|eO i,eB v, .bool<|fk i]) [dk cs (m:M)]∧m≤a+ak'+1∧vc (dZ ws) aj' n s al' i v:=by
 obtain ⟨y,y1,g⟩:=iI cs (n:=6) (a:=a) (by decide) (by exact QU j C) hcs
 have g:b9 [.lbl 0, .p<|.int 6] [dk cs a]=_:=g
 have hd0':((0:J)<(deep:J))=(0<deep):=propext dQ
 have e: ∀(p:P) (m:M),qN wl [z<|.lbl 0,z<|.p<|.int deep,D,D,D,D,D] [dk cs a]= .ok (.ret<|.p p) [dk cs (m:M)]→oO wl [.lbl 0, .p<|.int deep] [dk cs a]= .ok (.p p) [dk cs (m:M)]:=λp m h=>
  rU (sd rfl) (sd rfl) (sJ<|b8 [z<|.lbl 0,z<|.p<|.int deep,D,D,D,D,D] (sd rfl) rfl h)
 by_cases c1:3<y∧0<deep
 ·rcases I with h|⟨k,hk,G⟩
  ·omega
  subst hk
  obtain ⟨m,t,v,g1,g2,g3,g6,g4,g5⟩:=G (a+1) (by exact QT j)
  refine⟨m, .set t<|dv v,v,e _ _ ?_,by exact QS g2,⟨g4,rfl,g5,g3,g6⟩⟩
  have q1:decide ((3:J)<(y:J))=Q:=bx (by exact Ew c1.1)
  have q:decide ((0:J)<((k+1:M):J))=Q:=bx (by exact QR)
  have g1:wl [.lbl 0, .p<|.int<|((k+1:M):J)-1] [dk cs (a+1:M)]= .ok (.p<|.tup [.str t,eB v]) [dk cs (m:M)]:=by rw[show ((k+1:M):J)-1=(k:J) by exact EU];exact g1
  have p1:addS (.p<|.tup [.str t,eB v]) (.p<|.tup [.bool Q]) [dk cs (m:M)]= .ok (.p<|.tup [.str t,eB v, .bool Q]) [dk cs (m:M)]:=DX (sd ⟨hY rfl,λh=>(nomatch h),λh=>nomatch h⟩)
  unfold qN
  refine bA (c9 (bH (aI (aH<|sd rfl)<|aI kE a8) g) rfl)<|bQ<|bA (f:= .ret<|.p<|.tup [.str t,eB v, .bool Q]) (H1:= [dk cs (m:M)]) ?_ (nS rfl)
  trivial
 have r:ax (a_ (aq<|ag gtS (aa 2)<|kI 3)<|a_ (aq<|ag gtS (aa 1)<|kI 0)<|kT Q) (ai (aK<|ag addS (ao wl<|ae (aa 0)<|ae (ag subS (aa 1)<|kI 1) nilA)<|tupF<|ae (kM<|.bool Q) nilA) nilM) nilM [z<|.lbl 0,z<|.p<|.int deep,z<|.p<|.int y,D,D,D,D] [dk cs (a+1:M)]= .ok (.next [z<|.lbl 0,z<|.p<|.int deep,z<|.p<|.int y,D,D,D,D]) [dk cs (a+1:M)]:=by
  by_cases B:3<y
  ·have q1:decide ((3:J)<(y:J))=Q:=bx (by exact Ew B)
   have q:decide ((0:J)<(deep:J))=N:=bu (by exact QQ c1 B)
   trivial
  ·have q1:decide ((3:J)<(y:J))=N:=bu (by exact QP B)
   trivial
 by_cases x:2<y
 ·obtain ⟨l,w,p0,p1⟩:=MN cs (a:=a+1) (by exact QO j C) hcs
  have pl:(gI l w).length≤11:=by
   rcases (by exact zq422 p0:w=0∨w=1∨w=2∨w=3)with rfl|rfl|rfl|rfl<;>cases l<;>decide
  have pa: ∀c∈gI l w,c<128:=by
   rcases (by exact zq422 p0:w=0∨w=1∨w=2∨w=3)with rfl|rfl|rfl|rfl<;>cases l<;>decide
  generalize hz:(w%2==1)=b at p1
  refine⟨a+1+2, .set (gI l w) (z (FE l b)),z (qc l b,b,[]),e _ _ ?_,by exact QN H,⟨?_,pW _ _ _ (Kk l b),λu hu=> ?_,by show (gI l w).length≤al';exact QM hT pl,pa⟩⟩
  ·have q1:decide ((2:J)<(y:J))=Q:=bx (by exact QL x)
   have p2:addS (.p<|.tup [.str<|gI l w,cC (qc l b) b []]) (.p<|.tup [.bool Q]) [dk cs (a+1+2:M)]= .ok (.p<|.tup [.str<|gI l w,cC (qc l b) b [], .bool Q]) [dk cs (a+1+2:M)]:=DX (sd ⟨hY rfl,λh=>(nomatch h),λh=>nomatch h⟩)
   generalize a+1+2=a2 at p1 p2⊢
   unfold qN
   refine bA (c9 (bH (aI (aH<|sd rfl)<|aI kE a8) g) rfl)<|bQ<|bA r<|bQ<|bA (f:= .ret<|.p<|.tup [.str<|gI l w,cC (qc l b) b [], .bool Q]) (H1:= [dk cs (a2:M)]) ?_ (nS rfl)
   trivial
  ·rw[←hz]
   exact(gn.prop l p0).mono hn<|dc _
  ·obtain rfl:=aY hu
   refine rV ?_
   cases l<;>cases b<;>decide
 have q:decide ((2:J)<(y:J))=N:=bu (by exact QK x)
 by_cases o:y=2
 ·subst o
  obtain ⟨m,i,v,U,s2,s3,s4⟩:=NY (ws:=dZ ws) (aD':=aj') (n:=n) (s:=s) (aF':=al') (deep:=deep) hcs (a:=a+1) (by exact Ev hn) hs hT (by exact Eu j C)
  refine⟨m,i,v,e _ _ ?_,by exact QJ H s2,s4⟩
  have q3:(((2:M):J)==2)=Q:=rfl
  unfold Aq at U
  unfold qN
  refine bA (c9 (bH (aI (aH<|sd rfl)<|aI kE a8) g) rfl)<|bQ<|bA r<|bQ<|bA (dq (cO<|br (aH<|sd rfl) kE<|Gv<|sd q)<|fb (sd rfl) fx)<|bQ<|bA (dq (cO<|br (aH<|sd rfl) kE<|md<|sd q3)<|fJ (sd rfl) U)<|nS rfl
 ·obtain ⟨m,i,v,U,s2,s3,s4⟩:=N2 (ws:=dZ ws) (aj':=aj') (n:=n) (s:=s) (al':=al') (deep:=deep) hcs (a:=a+1) y (by exact QI x o) hT (by exact Eu j C)
  refine⟨m,i,v,e _ _ ?_,by exact QH H s2,s4⟩
  have q3:((y:J)==2)=N:=cL.mpr (by exact QG o)
  unfold wm at U
  unfold qN
  exact bA (c9 (bH (aI (aH<|sd rfl)<|aI kE a8) g) rfl)<|bQ<|bA r<|bQ<|bA (dq (cO<|br (aH<|sd rfl) kE<|Gv<|sd q)<|fb (sd rfl) fx)<|bQ<|bA (dq (cO<|br (aH<|sd rfl) kE<|md<|sd q3)<|fb (sd rfl) fx)<|bQ U
end
end
section
noncomputable def mF(e:El):Y M:=(if e.bl then [32]else [])++(gr e.sg++eO e.it)
noncomputable def eX(e:Y El):Y M:=e.flatMap mF
theorem yM: ∀a:Y El,eT [] a=eX a++ [93]
 | []=>rfl
 |e::a=>by
  rw[oq,jU,yM a]
  show _=(mF e++eX a)++ [93]
  unfold mF
  cases e.bl
  ·rw[az (by decide),az (by decide),cz,lQ,cz]
  ·rw[aw O,aw O,cz,cz,cz];rfl
noncomputable def j3(a:ak)(b:Y El):ak:=b.foldl (λ_ e=>fk e.it) a
theorem Ja(a:ak)(b:Y El)(e:El):j3 a (b++ [e])=fk e.it:=by unfold j3;rw[List.foldl_append];rfl
theorem BE(f:vL w k n s e.it): ∀{b:Y El} {a:ak},js w k n s a b→(e.sg≠ .U→j3 a b=Q∧fk e.it=Q)→js w k n s a (b++ [e])
 | [],a,_,c=>⟨f,c,trivial⟩
 |e0::b,a,h,c=>⟨h.1,h.2.1,BE f h.2.2 c⟩
theorem Bc(e:El): ∀(a:Y El) (v:cK),f7 v (a++ [e])=(f7 v a).bind λv=>f9 v e
 | [],v=>by show (f9 v e).bind (λv=>some v)=f9 v e;cases f9 v e<;>rfl
 |e0::a,v=>by
  show (f9 v e0).bind (λv=>f7 v<|a++ [e])=((f9 v e0).bind λv=>f7 v a).bind _
  cases f9 v e0 with
  |none=>rfl
  |some u=>exact Bc e a u
noncomputable def zl(y:dg)(u i:fp):fp:=(nE y u.1 i.1,wf y u.2.1 i.2.1,qk y u.2.2 i.2.2)
theorem Kq(y:dg)(A a:Y bC)(r:bC):r∈qk y A a↔lz y (r∈A) (r∈a):=by
 unfold qk
 rw[jS,gw,jS,eS]
 have c:A.contains r=decide (r∈A):=by rw[iF,fg,fC]
 have x:a.contains r=decide (r∈a):=by rw[iF,fg,fC]
 rw[c,x]
 by_cases b:r∈A<;>by_cases e:r∈a<;>cases y<;>simp[b,e,wf,lz]
theorem OI(y:dg)(u i:fp):(z (qy y (dT u.1 u.2.1,λr=>r∈u.2.2) (dT i.1 i.2.1,λr=>r∈i.2.2)):d cK)=dv (z<|zl y u i):=by
 obtain ⟨L,o,A⟩:=u
 obtain ⟨b,f,a⟩:=i
 have e:(λx=>wf y (dT L o x)<|dT b f x)=dT (nE y L b) (wf y o f):=funext λx=>by
  by_cases h:97≤x∧x≤104
  ·rw[jm h,jm h,jm h]
   unfold nE
   rw[iF,fg,jS]
   exact⟨λq=>⟨by rcases let8 h with rfl|rfl|rfl|rfl|rfl|rfl|rfl|rfl<;>decide,q⟩,λq=>q.2⟩
  ·rw[jT h,jT h,jT h]
   cases decide (0≤x∧x<1114112)<;>cases y<;>cases o<;>cases f<;>rfl
 have g:(λr=>lz y (r∈A)<|r∈a)=λr=>r∈qk y A a:=funext λr=>propext (Kq y A a r).symm
 show z (λx=>wf y (dT L o x)<|dT b f x,λr=>lz y (r∈A)<|r∈a)=z (dT (nE y L b)<|wf y o f,λr=>r∈qk y A a)
 rw[e,g]
theorem xr:cn.filter (λc=>(cn.filter q).contains c)=cn.filter q:=by
 refine List.filter_congr λx a=> ?_
 rw[iF,fg,jS]
 exact⟨λh=>h.2,λh=>⟨a,h⟩⟩
theorem WD.put{y:dg}{u g:fp}{i f:M}(h:WD (i*f) u)(j:WD f g):WD ((i+1)*f)<|zl y u g:=by
 refine⟨by show cn.filter (λc=>(nE y u.1 g.1).contains c)=nE y u.1 g.1;unfold nE;exact xr,(kG.mpr ⟨h.n,j.n.filter _,λa o b p e=> ?_⟩).filter _,?_⟩
 ·subst e
  have:=(jS.mp p).2
  rw[fg.mpr o]at this;cases this
 ·have e:=jf i f
  have k:=h.s
  have m:=j.s
  refine bF (tY _ _) ?_
  rw[bE]
  have:=tY (λr=> !(u.2.2.contains r)) g.2.2
  exact QF e k m this
noncomputable def ql(y:dg):d fp→d fp→d fp
 |some u,some i=>some<|zl y u i
 |_,_=>D
theorem Mi(b:f7 (λ_=>N,λ_=>bR) a=dv f)(h:AA e.it=dv v)(g:e.sg=y)(c:fk e.it=N→e.sg= .U):f7 (λ_=>N,λ_=>bR) (a++ [e])=dv (ql y f v):=by
 rw[Bc,b]
 cases f with
 |none=>cases v<;>rfl
 |some u=>
  show f9 (dT u.1 u.2.1,λr=>r∈u.2.2) e=_
  rw[Kb _ _ c,h,g]
  cases v with
  |none=>rfl
  |some i=>exact OI y u i
theorem ya(L:Y J)(o:ak)(P:bC→Prop):(z (zO (dT L o,P)):d cK)=dv (z (cn.filter λc=> !(L.contains c),!o,[])):=by
 refine pW _ _ _ (funext λx=> ?_)
 show (decide (0≤x∧x<1114112)&& !(dT L o x))=_
 by_cases h:97≤x∧x≤104
 ·rw[jm h,jm h,bx (by exact QE h.1 h.2),Bool.true_and,iF,fg,jS]
  exact⟨λq=>⟨by rcases let8 h with rfl|rfl|rfl|rfl|rfl|rfl|rfl|rfl<;>decide,q⟩,λq=>q.2⟩
 ·rw[jT h,jT h]
  cases decide (0≤x∧x<1114112)<;>cases o<;>rfl
end
section
noncomputable def XA(w:Y V→Y af→R V):aj→Y af→R Fl:=kO [7,8,9]<|ao w<|ae (aa 0)<|ae (aa 1) nilA
noncomputable def z0:aj→Y af→R V:=ax (a_ (aq<|aa 9)<|a_ (aq<|aa 5)<|kT Q) (ag aE (listF<|ae (kS [124])<|ae (kS [38])<|ae (kS [45]) nilA)<|ao b9<|ae (aa 0)<|ae (kI 3) nilA)<|kS [124]
noncomputable def GK:aj→Y af→R V:=ag addS (ag addS (ag addS (aa 3)<|ax (aq<|ag eqS (ag modS (aa 6)<|kI 2)<|kI 1) (kS [32])<|kS [])<|ax (aq<|ag eqS (aa 10)<|kS [124]) (kS [])<|aa 10)<|aa 7
noncomputable def zZ:aj→Y af→R V:=ax (cy (aq<|ag isS (aa 4)<|kM .none)<|cy (aq<|ag isS (aa 8)<|kM .none)<|kT N) (kM .none)<|ao qz<|ae (aa 10)<|ae (aa 4)<|ae (aa 8) nilA
noncomputable def AM(w:Y V→Y af→R V):aj→Y af→R Fl:=ai (XA w)<|ai (aB 10 z0)<|ai (aB 3 GK)<|ai (aB 4 zZ)<|ai (aB 5<|aa 9) nilM
theorem Oe(w:Y V→Y af→R V):Ar w=(ai (kh [2,3,4,5]<|ae (ag eqS (ao b9<|ae (aa 0)<|ae (kI 4) nilA)<|kI 1)<|ae (kS [91])<|ae (tupF<|ae (listF nilA)<|ae (kM<|.bool N)<|ae (listF nilA) nilA)<|ae (kM<|.bool N) nilA)<|ai (ax (aq<|aa 2) (ai (aB 3<|ag addS (aa 3)<|kS [94]) nilM) nilM)<|ai (fH N (gW iM<|ae (ao b9<|ae (aa 0)<|ae (kI 4) nilA) nilA) (bv 6) (AM w) 1000)<|ai (ax (a_ (aq<|aa 2)<|a_ (aq<|ag isNotS (aa 4)<|kM .none)<|kT Q) (ai (aB 4<|ao lA<|ae (aa 4) nilA) nilM) nilM)<|ai (aK<|tupF<|ae (ag addS (aa 3)<|kS [93])<|ae (aa 4) nilA) nilM):=O
noncomputable abbrev gQ(m:M)(o:ak)(t:Y M)(f:d fp)(b:ak)(c e g h a:d V):aj:= [z<|.lbl 0,z<|.p<|.int m,z<|.p<|.bool o,z<|.p<|.str t,z<|.p<|eB f,z<|.p<|.bool b,c,e,g,h,a]
theorem AB(f:d fp)(H:Y af):isS (.p<|eB f) (.p .none) H= .ok (.p<|.bool f.isNone) H:=by cases f<;>rfl
theorem Om(f:d fp)(H:Y af):isNotS (.p<|eB f) (.p .none) H= .ok (.p<|.bool<|!f.isNone) H:=by cases f<;>rfl
section
variable{cs:Y J}(hcs:cs.length<900){deep a i:M}{o bh:ak}{t u:Y M}{f v:d fp}{se:ak}{o10:d V}
theorem Vz{k:M}(G:k<3)(H:Y af): ∃y,aE (.p<|.list [.str [124], .str [38], .str [45]]) (.p<|.int k) H= .ok (.p<|.str<|gj y) H:=by
 rcases (by exact zq494 G:k=0∨k=1∨k=2)with rfl|rfl|rfl
 ·exact⟨.U,rfl⟩
 ·exact⟨.B,rfl⟩
 ·exact⟨.W,rfl⟩
include hcs in
theorem Mv(c:a<800000): ∃(m:M) (y:dg),m≤a+1∧(y≠ .U→bh=true∧se=true)∧z0 (gQ deep o t f bh (z<|.p<|.int i) (z<|.p<|.str u) (z<|.p<|eB v) (z<|.p<|.bool se) o10) [dk cs a]= .ok (.p<|.str<|gj y) [dk cs (m:M)]:=by
 unfold z0
 cases se with
 |false=>exact⟨a, .U,by exact Fb,λh=>absurd rfl h,by trivial⟩
 |true=>
  cases bh with
  |false=>exact⟨a, .U,by exact Fb,λh=>absurd rfl h,by trivial⟩
  |true=>
   obtain ⟨k,B,H⟩:=iI cs (n:=3) (a:=a) (by decide) (by exact ED c) hcs
   have H:b9 [.lbl 0, .p<|.int 3] [dk cs a]=_:=H
   obtain ⟨y,b⟩:=Vz B [dk cs (a+1:M)]
   exact⟨a+1,y,bo _,λ_=>⟨O,O⟩,by trivial⟩
theorem Mu(y:dg)(h:t.length+u.length≤999000):GK (gQ deep o t f bh (z<|.p<|.int i) (z<|.p<|.str u) (z<|.p<|eB v) (z<|.p<|.bool se)<|z<|.p<|.str<|gj y) H= .ok (.p<|.str<|t++((if i%2==1 then [32]else [])++(gr y++u))) H:=by
 have e:ax (aq<|ag eqS (ag modS (aa 6)<|kI 2)<|kI 1) (kS [32]) (kS []) (gQ deep o t f bh (z<|.p<|.int i) (z<|.p<|.str u) (z<|.p<|eB v) (z<|.p<|.bool se)<|z<|.p<|.str<|gj y) H= .ok (.p<|.str<|if i%2==1 then [32]else []) H:=by
  have q:((i:J)%2==1)=(i%2==1):=by rw[iF,dM,dM];exact QD
  generalize m:(i%2==1)=b at q⊢
  cases b<;>trivial
 have g:ax (aq<|ag eqS (aa 10)<|kS [124]) (kS []) (aa 10) (gQ deep o t f bh (z<|.p<|.int i) (z<|.p<|.str u) (z<|.p<|eB v) (z<|.p<|.bool se)<|z<|.p<|.str<|gj y) H= .ok (.p<|.str<|gr y) H:=by
  cases y<;>rfl
 have l:(if i%2==1 then [32]else []:Y M).length≤1:=by cases (i%2==1)<;>decide
 have c:(gr y).length≤1:=by cases y<;>decide
 generalize (if i%2==1 then [32]else []:Y M)=b at e l⊢
 have p:=h_ (H:=H) (x:=t) (y:=b) (sd<|by exact QC h l)
 have j:=h_ (H:=H) (x:=t++b) (y:=gr y) (sd<|by rw[bE];exact QB h c l)
 have k:=h_ (H:=H) (x:=t++b++gr y) (y:=u) (sd<|by rw[bE,bE];exact QA h c l)
 rw[show t++(b++(gr y++u))=t++b++gr y++u by rw[cz,cz]]
 exact br (br (br (aH<|sd O) e p) g j) (aH<|sd O) k
theorem Mt(y:dg)(h: ∀b c,f=some b→v=some c→b.2.2.length+c.2.2.length<800):zZ (gQ deep o k f bh (some<|.p<|.int i) (some<|.p<|.str u) (some<|.p<|eB v) (some<|.p<|.bool se)<|some<|.p<|.str<|gj y) H= .ok (.p<|eB<|ql y f v) H:=by
 have e:=AB f H
 have g:=AB v H
 unfold zZ
 cases f with
 |none=>trivial
 |some b=>
  cases v with
  |none=>trivial
  |some c=>
   have j:qz [.p<|.str<|gj y, .p<|eB<|some b, .p<|eB<|some c] H= .ok (.p<|eB<|ql y (some b)<|some c) H:=MR y b.1 c.1 b.2.1 c.2.1 b.2.2 c.2.2 (h b c O rfl) H
   trivial
end
structure GI(ws:Y V→Y af→R V)(d n s T:M)(es:Y El)(f:Option fp)(i:M):Prop where
 len:es.length=i
 good:js ws d n s N es
 val:f7 (λ_=>N,λ_=>bR) es=dv f
 wd: ∀u,f=z u→WD (i*s) u
 tl:(eX es).length≤i*(T+2)
 asc: ∀c∈eX es,c<128
theorem GI.snoc(G:GI w k n s a j f i)(I:vc w k n s a m v)(o:y≠ .U→j3 N j=Q∧fk m=Q):GI w k n s a (j++ [⟨b,y,m⟩]) (ql y f v)<|i+1:=by
 refine⟨by rw[List.length_append,G.len];rfl,BE I.good G.good o,Mi G.val I.val O λq=> ?_,λu g=> ?_,?_,λc hc=> ?_⟩
 ·by_cases h:y= .U
  ·exact h
  ·rw[(o h).2]at q;cases q
 ·cases f with
  |none=>cases v<;>cases g
  |some x=>
   cases v with
   |none=>cases g
   |some A=>
    obtain rfl:=aY g
    exact(G.wd x O).put<|I.wd A O
 ·unfold eX
  rw[List.flatMap_append,List.length_append]
  have l:=G.tl
  unfold eX at l
  have p:=I.len
  have e:=jf i<|a+2
  have:([⟨b,y,m⟩]:List El).flatMap mF=(if b then [32]else [])++(gr y++eO m):=by rw[List.flatMap_cons];show mF _++ []=_;rw[List.append_nil];rfl
  rw[this,List.length_append,List.length_append]
  have r:(if b then [32]else []:List M).length≤1:=by cases b<;>decide
  have t:(gr y).length≤1:=by cases y<;>decide
  exact Qz l p e r t
 ·obtain ⟨e,he,hc⟩:=List.mem_flatMap.mp hc
  rcases List.mem_append.mp he with he|he
  ·exact G.asc c (List.mem_flatMap.mpr ⟨e,he,hc⟩)
  ·rw[List.mem_singleton.mp he]at hc
   rcases List.mem_append.mp hc with hc|hc
   ·have hc:c∈(if b then [32]else []:List M):=hc
    cases b
    ·exact nomatch hc
    ·rw[List.mem_singleton.mp hc];decide
   ·rcases List.mem_append.mp hc with hc|hc
    ·have hc:c∈gr y:=hc
     cases y
     ·exact nomatch hc
     ·rw[List.mem_singleton.mp hc];decide
     ·rw[List.mem_singleton.mp hc];decide
    ·exact I.asc c hc
section
variable{cs:Y J}(hcs:cs.length<900){wl ws:Y V→Y af→R V}{deep aG' n s aH' aI' A:M}{o:ak}
noncomputable def fm(o:ak):Y M:=91::(if o then [94]else [])
include hcs
theorem Og(hm:m<4)(ha:a+4000≤A)(hA:A≤500000)(hn:4≤n)(hs:1≤s)(hs2':s≤9)(hT:20≤aI')(hT2':aI'≤300)(hD:8≤aH')(hD2':aH'≤1000)(hrec':deep=0∨ ∃k,deep=k+1∧tF cs wl k (dZ ws) aG' n s aH' aI' A):
  ∃c f l w B C U j,GI (dZ ws) aG' n s aI' c f m∧l≤a+m*(aH'+2)∧lq (.rng 0 1 m) (bv 6) (AM<|oO wl) 1000 0 (gQ deep o (fm o) (z ([],N,[])) N D D D D D) [dk cs a]= .ok (.next<|gQ deep o (fm o++eX c) f (j3 N c) w B C U j) [dk cs (l:M)]:=by
 obtain ⟨loc'',H',hw,c,f,l,w,B,C,U,j,e1,e2,e3,r⟩:=GF (C:= .rng 0 1 m) (t:=bv 6) (o:=AM<|oO wl) ((dO m).map λ(i:M)=>P.int i)
  (λi loc0' H=> ∃c f l w B C U j,loc0'=gQ deep o (fm o++eX c) f (j3 N c) w B C U j∧H= [dk cs (l:M)]∧GI (dZ ws) aG' n s aI' c f i∧l≤a+i*(aH'+2)) (λH i=>FJ m H i)
  (λi p loc0' H hp hJ=>by
   obtain ⟨c,f,l,w,B,C,U,j,e1,e2,G,r⟩:=hJ
   subst e1 e2
   obtain ⟨hi,hpi'⟩:=dH.mp hp
   rw[bc,pE]at hi
   rw[List.getElem_map,List.getElem_range]at hpi'
   subst hpi'
   have q:i≤3:=by exact Qy hm hi
   have m1:i*(aH'+2)≤3*(aH'+2):=jd _ q
   have m2:i*(aI'+2)≤3*(aI'+2):=jd _ q
   have m3:i*s≤3*s:=jd _ q
   have e5:=jf i<|aH'+2
   obtain ⟨a2,g,v,i1,i2,I⟩:=ML (a:=l) hcs hn hs hT hD (by exact Qx ha hD2' r m1) hA hrec'
   obtain ⟨a3,y,y1,y2,y3⟩:=Mv (deep:=deep) (o:=o) (t:=fm o++eX c) (f:=f) (bh:=j3 N c) (i:=i) (u:=eO g) (v:=v) (se:=fk g) (o10:=j) hcs (a:=a2) (by exact Qw ha hA hD2' r m1 i2)
   have hl:(fm o).length≤2:=by cases o<;>decide
   have c1:=Mu (deep:=deep) (o:=o) (t:=fm o++eX c) (f:=f) (bh:=j3 N c) (i:=i) (u:=eO g) (v:=v) (se:=fk g) y (by rw[bE];have:=G.tl;have:=I.len;exact Qv hT2' m2 hl (by assumption) this) (H:= [dk cs (a3:M)])
   have c2:=Mt (deep:=deep) (o:=o) (f:=f) (bh:=j3 N c) (i:=i) (u:=eO g) (v:=v) (se:=fk g) y (λu1 u2 h1 h2=>by have:=(G.wd u1 h1).s;have:=(I.wd u2 h2).s;exact Qu hs2' m3 (by assumption) this) (H:= [dk cs (a3:M)]) (k:=fm o++eX c++((if i%2==1 then [32]else [])++(gr y++eO g)))
   have G2:=G.snoc (b:=i%2==1) I y2
   have et:fm o++eX c++((if i%2==1 then [32]else [])++(gr y++eO g))=fm o++eX (c++ [⟨i%2==1,y,g⟩]):=by
    have e:([⟨i%2==1,y,g⟩]:Y El).flatMap mF=mF ⟨i%2==1,y,g⟩:=by rw[ji];exact ft _
    unfold eX
    rw[List.flatMap_append,e,cz];rfl
   have el:=Ja N c ⟨i%2==1,y,g⟩
   refine⟨_,gQ deep o (fm o++eX c++((if i%2==1 then [32]else [])++(gr y++eO g))) (ql y f v) (fk g) (z<|.p<|.int i) (z<|.p<|.str<|eO g) (z<|.p<|eB v) (z<|.p<|.bool<|fk g)<|z<|.p<|.str<|gj y,[dk cs (a3:M)],O,?_,c++ [⟨i%2==1,y,g⟩],ql y f v,a3,z<|.p<|.int i,z<|.p<|.str<|eO g,z<|.p<|eB v,z<|.p<|.bool<|fk g,z<|.p<|.str<|gj y,?_,O,G2,by exact Qt r e5 i2 y1⟩
   ·exact bA (Ct (bH (aI (aH<|sd O)<|aI (aH<|sd O) a8) i1) (sd O) O)<|bQ<|bA (c9 y3 O)<|bQ<|bA (c9 c1 O)<|bQ<|bA (c9 c2 O)<|bQ<|bA (c9 (aH<|sd O) O)<|bQ fx
   ·rw[et,el])
  1000 0 (gQ deep o (fm o) (z ([],N,[])) N D D D D D) [dk cs a] ⟨[],z ([],N,[]),a,D,D,D,D,D,by show _=gQ deep o (fm o++ []) _ _ _ _ _ _ _;rw[ft];rfl,O,⟨O,trivial,by
   show (z (λ_=>N,λ_=>bR):d cK)=_
   exact pW _ _ _ (funext λx=>by
    by_cases h:97≤x∧x≤104
    ·rw[jm h];rfl
    ·rw[jT h,n_]),λu hu=>aY hu▸rV O,dc _,λ_ h=>nomatch h⟩,by exact Qs⟩ (dc _) (by rw[bc,pE];exact yX hm)
 subst e1 e2
 rw[bc,pE]at e3 r
 exact⟨c,f,l,w,B,C,U,j,e3,r,hw⟩
end
end
section
theorem WD.mono{f s':M}{u:fp}(h:WD f u)(a:f≤s'):WD s' u:=⟨h.l,h.n,bF h.s a⟩
noncomputable def sL(o:ak)(f:d fp):d fp:=match f with
 |none=>none
 |some u=>if o then(if u.2.2.isEmpty then some (cn.filter λc=> !(u.1.contains c),!u.2.1,[])else none)else some u
theorem JV(u:fp):eB (sL Q<|z u)=if u.2.2.isEmpty then cC (cn.filter λc=> !(u.1.contains c)) (!u.2.1) []else .none:=by
 show eB (if Q=Q then(if u.2.2.isEmpty then z (cn.filter λc=> !(u.1.contains c),!u.2.1,[])else D)else z u)=_
 rw[aw O];split<;>rfl
theorem ID(h:f7 (λ_=>false,λ_=>bR) e=dv f):nj o e<|dv<|sL o f:=by
 unfold nj
 rw[h]
 cases f with
 |none=>rfl
 |some u=>
  cases o with
  |false=>rfl
  |true=>
   obtain ⟨L,o,R⟩:=u
   cases R with
   |nil=>exact .inl ⟨λr h=>(nomatch h),(ya L o _).symm⟩
   |cons r R=>exact .inr ⟨⟨r, .head _⟩,O⟩
theorem Lh(f:isNotS (.p b) (.p .none) H= .ok (.p<|.bool x) H)(h:x=true→lA [.p b] H= .ok (.p u) H)(c:x=false→u=b):
  ax (a_ (aq<|aa 2)<|a_ (aq<|ag isNotS (aa 4)<|kM .none)<|kT true) (ai (aB 4<|ao lA<|ae (aa 4) nilA) nilM) nilM [o,e,z<|.p<|.bool true,y,z<|.p b,g,i,j,k,l,a] H= .ok (.next [o,e,z<|.p<|.bool true,y,z<|.p u,g,i,j,k,l,a]) H:=by
 cases x with
 |false=>rw[c O];exact dq (nB (cO<|aH<|sd O)<|fJ (sd O)<|nB (cO<|br (aH<|sd O) kE f)<|fb (sd O) O)<|fb (sd O) fx
 |true=>exact dq (nB (cO<|aH<|sd O)<|fJ (sd O)<|nB (cO<|br (aH<|sd O) kE f)<|fJ (sd O) ZG)<|fJ (sd O)<|bA (c9 (bH (aI (aH<|sd O) a8)<|h O) O)<|bQ fx
theorem Oq(w:Y V→Y af→R V):mE w=aU (aZ<|aS 2 0 11<|Ar<|oO w):=O
theorem xR{cs:List J}(q:cs.length<900){U ws:List V→List af→R V}{i b n s e g A A':M}(p:A'+4002≤A)(hA:A≤500000)(hd:b≤18)(hn:4≤n)(hn2':n≤83)(hs:1≤s)(x:s≤9)(hT:20≤g)(hT2':g≤300)(hD:8≤e)(hD2':e≤1000)(I:i=0∨ ∃k,i=k+1∧tF cs U k (dZ ws) (b+1) n s e g A):
  tF cs (mE U) i (dZ<|dZ ws) b (3*n+2) (3*s) (2+3*(e+2)) (3+3*(g+2)) A':=by
 intro a ha
 obtain ⟨y,y1,y2⟩:=iI cs (n:=4) (a:=a) (by decide) (by exact Qr p hA ha) q
 obtain ⟨m,m1,m2⟩:=iI cs (n:=4) (a:=a+1) (by decide) (by exact Qq p hA ha) q
 have y2:b9 [.lbl 0, .p<|.int 4] [dk cs a]=_:=y2
 have m2:b9 [.lbl 0, .p<|.int 4] [dk cs (a+1:M)]=_:=m2
 generalize v:a+1+1=a2 at m2
 obtain ⟨o,ho⟩: ∃o,((y:J)==1)=o:=⟨_,O⟩
 obtain ⟨j,f,l,o6,o7,o8,o9,C,G,g1,g2⟩:=Og (o:=o) (wl:=U) (ws:=ws) (aG':=b+1) q m1 (a:=a2) (by exact Qp p ha v) hA hn hs x hT hT2' hD hD2' I
 have w:m≤3:=by exact Qo m1
 have k1:m*(e+2)≤3*(e+2):=jd _ w
 have k2:m*(g+2)≤3*(g+2):=jd _ w
 have k3:m*n≤3*n:=jd _ w
 have k4:m*s≤3*s:=jd _ w
 have len:=G.len
 have B:=G.tl
 have S:=gn.list (o:=o) (ar':=b) hd (by exact Ev hn) hs (by rw[len];exact Qn hn2' k3) (by rw[len];exact Qm x k4) (by exact Ql w len) G.good<|ID (o:=o) G.val
 rw[len]at S
 have ht:fm o++eX j++ [93]=lT o j:=by
  unfold lT fm
  rw[yM,List.append_assoc];rfl
 have hl:(fm o).length≤2:=by cases o<;>decide
 refine⟨l,lT o j,sL o f,?_,by exact Qk v g1 k1,?_,?_,S.mono (by exact Qj k3) k4,λu t=> ?_⟩
 ·have r:=Gp m1 [dk cs (a2:M)]
  have p1:=Om f [dk cs (l:M)]
  have p2:addS (.p<|.str<|fm o++eX j) (.p<|.str [93]) [dk cs (l:M)]= .ok (.p<|.str<|lT o j) [dk cs (l:M)]:=by
   rw[←ht];exact h_ (sd<|by rw[List.length_append];show _+1≤_;exact Qi hT2' k2 B hl)
  have hh:fm o=if o then [91,94]else [91]:=by cases o<;>rfl
  have p3:ax (aq<|aa 2) (ai (aB 3<|ag addS (aa 3)<|kS [94]) nilM) nilM (gQ i o [91] (some ([],false,[])) false none none none none none) [dk cs (a+1:M)]= .ok (.next<|gQ i o (fm o) (some ([],false,[])) false none none none none none) [dk cs (a+1:M)]:=by
   cases o with
   |false=>exact dq (cO<|aH<|sd O)<|fb (sd O) fx
   |true=>exact dq (cO<|aH<|sd O) (fJ (sd O)<|bA (c9 (br (aH<|sd O) kE<|h_<|sd<|by decide) O)<|bQ fx)
  have p4:ax (a_ (aq<|aa 2)<|a_ (aq<|ag isNotS (aa 4)<|kM .none)<|kT true) (ai (aB 4<|ao lA<|ae (aa 4) nilA) nilM) nilM (gQ i o (fm o++eX j) f (j3 false j) o6 o7 o8 o9 C) [dk cs (l:M)]= .ok (.next<|gQ i o (fm o++eX j) (sL o f) (j3 false j) o6 o7 o8 o9 C) [dk cs (l:M)]:=by
   have nf:sL false f=f:=by cases f<;>rfl
   cases o with
   |false=>rw[nf];exact dq (nB (cO<|aH<|sd O)<|fb (sd O) O)<|fb (sd O) fx
   |true=>
    refine Lh p1 (λh=> ?_) λh=> ?_
    ·cases f with
     |none=>cases h
     |some u=>rw[JV];exact MO u.1 u.2.1 u.2.2 [dk cs (l:M)]
    ·cases f with
     |none=>rfl
     |some u=>cases h
  rw[Oq]
  generalize lT o j=tt at p2
  refine rU (sd O) (sd O)<|sJ<|b8 [some<|.lbl 0,some<|.p<|.int i,none,none,none,none,none,none,none,none,none] (sd O) O ?_
  rw[Oe]
  refine bA (Xc (b:=gQ i o [91] (some ([],false,[])) false none none none none none) (aI (br (bH (aI (aH<|sd O)<|aI kE a8) y2) kE<|md<|sd ho)<|aI kE<|aI (zi (aI (nn a8 (sd O)<|sd<|by decide)<|aI kE<|aI (nn a8 (sd O)<|sd<|by decide) a8) (sd O)<|sd<|by decide)<|aI kE a8) (sd ⟨O,hY O⟩) O)<|bQ<|bA p3<|bQ<|bA (FM (yJ (aI (bH (aI (aH<|sd O)<|aI kE a8) m2) a8) r) (sd O) g2)<|bQ<|bA p4<|bQ ?_
  exact bA (sE<|zi (aI (br (aH<|sd O) kE p2)<|aI (aH<|sd O) a8) (sd O)<|sd<|hY O)<|nS O
 ·rw[←ht,List.length_append,List.length_append];show _+_+1≤_;exact Qh k2 B hl
 ·rw[←ht]
  intro c hc
  rcases List.mem_append.mp hc with hc|hc
  ·rcases List.mem_append.mp hc with hc|hc
   ·have: ∀c∈fm o,c<128:=by cases o<;>decide
    exact this c hc
   ·exact G.asc c hc
  ·rw[List.mem_singleton.mp hc];decide
 ·cases f with
  |none=>cases t
  |some H=>
   cases o with
   |false=>
    obtain rfl:H=u:=aY t
    exact(G.wd H O).mono k4
   |true=>
    have t:(if H.2.2.isEmpty then some (cn.filter λc=> !(H.1.contains c),!H.2.1,[])else none)=some u:=t
    split at t
    ·obtain rfl:=aY t
     exact rV xr
    ·cases t
theorem Vm{cs:Y J}(h:cs.length<900):tF cs wL 2 wS 0 134 27 320 657 1000:=
 xR (U:=mE<|mE lr) (ws:=dZ<|dZ lr) (i:=2) (b:=0) (n:=44) (s:=9) (e:=104) (g:=216) (A:=10000) h (by decide) (by decide) (by decide) (by decide) (by decide) (by decide) (by decide) (by decide) (by decide) (by decide) (by decide)
  (.inr ⟨1,O,xR (U:=mE lr) (ws:=dZ lr) (i:=1) (b:=1) (n:=14) (s:=3) (e:=32) (g:=69) (A:=20000) h (by decide) (by decide) (by decide) (by decide) (by decide) (by decide) (by decide) (by decide) (by decide) (by decide) (by decide)
   (.inr ⟨0,O,xR (U:=lr) (ws:=lr) (i:=0) (b:=2) (n:=4) (s:=1) (e:=8) (g:=20) (A:=30000) h (by decide) (by decide) (by decide) (by decide) (by decide) (by decide) (by decide) (by decide) (by decide) (by decide) (by decide)<|.inl O⟩)⟩)
end
section
noncomputable def mH:ak→Y (J×ak)→Y J
 |_,[]=> []
 |p,(c,v)::r=>if v==p then mH p r else c::mH v r
noncomputable def pZ:ak→Y (J×ak)→J→ak
 |p,[],_=>p
 |p,(c,v)::r,x=>if c≤x then pZ v r x else p
theorem yj: ∀(b:Y<|J×ak) (p:ak),∀a∈mH p b,a∈b.map (·.1)
 | [],p,a,h=>nomatch h
 |(c,v)::r,p,a,h=>by
  unfold mH at h
  split at h
  ·exact .tail _<|yj r p a h
  ·cases h with
   |head=>exact .head _
   |tail _ h=>exact .tail _<|yj r v a h
theorem va: ∀(f:Y<|J×ak) (p:ak),(f.map (·.1)).Pairwise (· < ·)→bY (mH p f)∧ ∀x,bd (mH p f) x=(p^^pZ p f x)
 | [],p,_=>⟨.nil,λx=>by cases p<;>rfl⟩
 |(c,v)::r,p,h=>by
  have b:=iB.mp h
  have lo: ∀{q:ak} {x:J},x<c→pZ q r x=q:=λ{q x} k=>by
   cases r with
   |nil=>rfl
   |cons e r=>
    have:c<e.1:=b.1 e.1<|.head _
    exact az (by exact Qg k this)
  unfold mH
  by_cases e:v=p
  ·subst e
   rw[aw<|fD v]
   obtain ⟨j,i⟩:=va r v b.2
   refine⟨j,λx=> ?_⟩
   rw[i]
   show _=(v^^if c≤x then pZ v r x else v)
   by_cases q:c≤x
   ·rw[aw q]
   ·rw[az q,lo<|by exact Et q]
  ·rw[az<|by rw[dM];exact e]
   obtain ⟨j,i⟩:=va r v b.2
   refine⟨iB.mpr ⟨λa l=>b.1 a<|yj r v a l,j⟩,λx=> ?_⟩
   show (decide (c≤x)^^bd (mH v r) x)=(p^^if c≤x then pZ v r x else p)
   have g:v= !p:=by cases v<;>cases p<;>simp_all
   by_cases q:c≤x
   ·rw[aw q,bx q,i,g];cases p<;>cases pZ _ r x<;>rfl
   ·rw[az q,bu q,i,lo<|by exact Et q];cases v<;>cases p<;>rfl
def bitsOf(L:Y J):Y ak:=cn.map λc=>L.contains c
def jy(b:Y ak):Y J:=(cn.zip b).filterMap λp=>if p.2 then z p.1 else D
theorem B3{L:Y J}(h:cn.filter (λc=>L.contains c)=L):jy (bitsOf L)=L:=by
 have g: ∀(q:J→ak) (l:Y J),((l.zip<|l.map q).filterMap λp=>if p.2 then z p.1 else D)=l.filter q:=by
  intro q l
  induction l with
  |nil=>rfl
  |cons a l i=>
   rw[ee,List.zip_cons_cons,List.filterMap_cons]
   cases e:q a with
   |true=>rw[List.filter_cons_of_pos e];exact aR (a:: ·) i
   |false=>rw[List.filter_cons_of_neg<|by rw[e];decide];exact i
 exact(g _ _).trans h
def cb(b:Y ak)(o:ak):Y J:=mH N<|(0,o)::(cn.zip b)++ [(105,o),(1114112,N)]
theorem zB{L:Y J}{o:ak}{c:Y J}(f:bY c)(g: ∀x,bd c x=dT L o x):c=cb (bitsOf L) o:=by
 have i:(((0,o)::(cn.zip<|bitsOf L)++ [(105,o),(1114112,N)]:Y<|J×ak).map (·.1)).Pairwise (· < ·):=by
  show List.Pairwise _ [0,97,98,99,100,101,102,103,104,105,1114112]
  decide
 obtain ⟨k1,k2⟩:=va _ N i
 refine Lz f k1 λx=> ?_
 unfold cb
 rw[k2,g,Bool.false_xor]
 show _=(if 0≤x then(if 97≤x then(if 98≤x then(if 99≤x then(if 100≤x then(if 101≤x then(if 102≤x then(if 103≤x then(if 104≤x then(if 105≤x then(if 1114112≤x then N else o)else L.contains 104)else L.contains 103)else L.contains 102)else L.contains 101)else L.contains 100)else L.contains 99)else L.contains 98)else L.contains 97)else o)else N)
 by_cases h:97≤x∧x≤104
 ·rw[jm h]
  rcases let8 h with rfl|rfl|rfl|rfl|rfl|rfl|rfl|rfl<;>rfl
 ·rw[jT h]
  by_cases a:0≤x
  ·rw[aw a]
   by_cases b:97≤x
   ·rw[aw b,aw (by exact Qf h b),aw (by exact Qe h b),aw (by exact Qd h b),aw (by exact Qc h b),aw (by exact Qb h b),aw (by exact Qa h b),aw (by exact P_ h b),aw (by exact P9 h b)]
    by_cases e:1114112≤x
    ·rw[aw e,bu (by exact P8 e)];rfl
    ·rw[az e,bx (by exact P7 b e)];rfl
   ·rw[az b,bx (by exact P5 a b)];rfl
  ·rw[az a,bu (by exact P0 a)];rfl
end
section
noncomputable def cw(c:J):Y M:=if c==0 then [92,120,48,48]else if c==1114111 then [92,120,123,49,48,70,70,70,70,125]else [c.toNat]
noncomputable abbrev mC:Y J:= [0,96,97,98,99,100,101,102,103,104,105,1114111]
theorem Dn(h:c∈mC)(H:Y af):qC [.p<|.int c] H= .ok (.p<|.bytes<|cw c) H:=by
 refine fj (sd rfl) (sd rfl) ?_
 simp only[dP,lP,or_false]at h
 rcases h with rfl|rfl|rfl|rfl|rfl|rfl|rfl|rfl|rfl|rfl|rfl|rfl<;>kernel_rfl
def rT(r:J×J):Y M:=if r.1==r.2 then cw r.1 else cw r.1++(if r.2==r.1+1 then []else [45])++cw r.2
theorem u_(c:J):(cw c).length≤10:=by
 unfold cw
 cases c==0
 ·cases c==1114111
  ·exact hY O
  ·exact hY O
 ·exact hY O
theorem N1(r:J×J):(rT r).length≤21:=by
 have:=u_ r.1
 have:=u_ r.2
 unfold rT
 split
 ·exact PZ (by assumption)
 ·rw[bE,bE]
  have:(if(r.2==r.1+1)=Q then []else [45]:Y M).length≤1:=by cases (r.2==r.1+1)<;>decide
  exact PY (by assumption) (by assumption) this
theorem M2(h:r.1∈mC)(g:r.2∈mC)(H:Y af):qB [.p<|.int r.1, .p<|.int r.2] H= .ok (.p<|.bytes<|rT r) H:=by
 obtain ⟨f,l⟩:=r
 refine fj (sd O) (sd O)<|b8 [z<|.p<|.int f,z<|.p<|.int l] (sd O) O ?_
 have k:=Dn h []
 have m:=Dn g []
 have c:=u_ f
 have e:=u_ l
 unfold Hl rT
 cases q:f==l with
 |true=>rw[aw O];trivial
 |false=>
  rw[az<|by decide]
  have j:ax (aq<|ag eqS (aa 1)<|ag addS (aa 0)<|kI 1) (kB []) (kB [45]) [z<|.p<|.int f,z<|.p<|.int l] []= .ok (.p<|.bytes<|if l==f+1 then []else [45]) []:=by
   cases n:l==f+1<;>trivial
  have b:(if l==f+1 then []else [45]:Y M).length≤1:=by cases (l==f+1)<;>decide
  have i:=uX (H:= []) (x:=cw f) (y:=if l==f+1 then []else [45]) (sd<|by exact PX c b)
  have p:=uX (H:= []) (x:=cw f++if l==f+1 then []else [45]) (y:=cw l) (sd<|by rw[bE];exact PW c e b)
  generalize (if l==f+1 then []else [45]:Y M)=a at j i p⊢
  trivial
def wT(b:Y<|J×J)(n:ak):Y M:=(if n then [91,94]else [91])++(b.flatMap rT++ [93])
theorem IQ(b:Y<|J×J):uN (b.map λr=>P.bytes<|rT r)=z (b.map rT):=qr (f:=vH) (λ_=>rfl) b
theorem ux: ∀b:Y (J×J),(b.flatMap rT).length≤21*b.length
 | []=>bo _
 |r::b=>by
  rw[ji,bE,fX]
  have:=N1 r
  have:=ux b
  exact PV (by assumption) this
theorem Dm(h: ∀r∈c,r.1∈mC∧r.2∈mC)(f:c.length<900)(w:((c.flatMap rT).take 1== [58])=N)(H:Y af):sX [.p<|.list<|c.map bO, .p<|.bool n] H= .ok (.p<|.bytes<|wT c n) H:=by
 refine fj (sd O) (sd O)<|b8 [z<|.p<|.list<|c.map bO,z<|.p<|.bool n,D] (sd O) O ?_
 have k:=ux c
 have g:=l8 (C:= .list<|.p<|.list<|c.map bO) (o:=kg [0,1]) (t:=trueT) (m:=ao qB<|ae (aa 0)<|ae (aa 1) nilA) (c.map bO) (λl=> ∃a b,l= [a,b]) (λ_=>Q) (λp=>match p with| .tup [.int a, .int b]=> .bytes (rT (a,b))|_=> .none) [] (λi=>rfl)
  (λp o l m=>by
   obtain ⟨a,b,y⟩:=m
   subst y
   obtain ⟨r,j,rfl⟩:=cY.mp o
   exact⟨[z<|.p<|.int r.1,z<|.p<|.int r.2],O,⟨_,_,O⟩,O,λ_=>bH (aI (aH<|sd O)<|aI (aH<|sd O) a8)<|M2 (h r j).1 (h r j).2 []⟩) 1000 0 [D,D] [] ⟨D,D,O⟩ (dc _) (by rw[bc];exact rZ f) (by rw[bc,lR];exact yY f)
 rw[iC,pF.mpr λ_ _=>rfl,lQ,eu]at g
 have q:bW ["first","last"] [] Q (bT<|aa 0) (kg [0,1]) trueT (ao qB<|ae (aa 0)<|ae (aa 1) nilA) 1000 [z<|.p<|.list<|c.map bO,z<|.p<|.bool n,D] []= .ok (.p<|.list<|c.map λr=> .bytes<|rT r) []:=jZ (kj (aH<|sd O)<|sd O) (sd O) g
 have x:yE [.p<|.bytes [], .p<|.list<|c.map λr=> .bytes<|rT r] []= .ok (.p<|.bytes<|c.flatMap rT) []:=by
  show (uN<|c.map λr=> .bytes<|rT r).elim R.err _=_
  rw[IQ]
  show (if(c.map λr=>rT r).flatten.length≤1000000 then R.ok (V.p<|P.bytes (c.map λr=>rT r).flatten) []else R.err)=_
  rw[←w0,aw<|Es f k]
 have s:jz (.p<|.bytes<|c.flatMap rT) D (z 1) []= .ok (.p<|.bytes<|(c.flatMap rT).take 1) []:=by
  show (if(c.flatMap rT).length≤1000000 then R.ok (V.p<|P.bytes<|((c.flatMap rT).drop 0).take<|cq (c.flatMap rT).length 1-0) []else .err)=_
  rw[aw (by exact Es f k),iC]
  have:(c.flatMap rT).take (cq (c.flatMap rT).length 1-0)=(c.flatMap rT).take 1:=by
   cases c.flatMap rT with
   |nil=>rfl
   |cons a t=>
    have:cq (a::t).length 1=1:=by unfold cq;rw[az (by decide),fX];exact PU
    rw[this]
  rw[this]
 unfold wT
 generalize c.flatMap rT=e at*
 have A:addS (.p<|.bytes<|if n then [91,94]else [91]) (.p<|.bytes e) []= .ok (.p<|.bytes<|(if n then [91,94]else [91])++e) []:=uX (sd<|by cases n<;>show _+_≤_<;>simp<;>first|exact PT f k|exact PS f k)
 have B:addS (.p<|.bytes<|(if n then [91,94]else [91])++e) (.p<|.bytes [93]) []= .ok (.p<|.bytes<|(if n then [91,94]else [91])++(e++ [93])) []:=by
  rw[←cz]
  exact uX (sd<|by rw[bE];cases n<;>show _+_+_≤_<;>simp<;>first|exact PQ f k|exact PP f k)
 have u:ax (aq<|aa 1) (kB [91,94]) (kB [91]) [z<|.p<|.list<|c.map bO,z<|.p<|.bool n,z<|.p<|.bytes e] []= .ok (.p<|.bytes<|if n then [91,94]else [91]) []:=by cases n<;>rfl
 unfold Hk
 trivial
end
section
noncomputable def Go:Y J→Y (J×J)
 | []=> []
 |c::r=>match Go r with
  |(a,b)::t=>if a==c+1 then(c,b)::t else(c,c)::(a,b)::t
  | []=> [(c,c)]
noncomputable def Y5(p:J×J):Y<|M×M:=if p.1==p.2 then [(p.1.toNat,p.1.toNat)]else if p.2==p.1+1 then [(p.1.toNat,p.1.toNat),(p.2.toNat,p.2.toNat)]else [(p.1.toNat,p.2.toNat)]
def nF(a:Y J):Y<|M×M:=(Go a).flatMap Y5
noncomputable def wn(p:M×M):Y M:=if p.1==p.2 then [p.1]else [p.1,45,p.2]
def lrT(a:Y J):Y M:=(nF a).flatMap wn
def hatL(b:Y ak)(o:ak):Y J:=jy<|if o then b.map not else b
def wrT(b:Y ak)(o:ak):Y M:=(if o then [91,94]else [91])++(lrT (hatL b o)++ [93])
def Ha(r:R V):d<|Y M:=r.casesOn (λv H=>H.casesOn (g_ v) λ_ _=>D) (λ_=>D) D
theorem N7(h:Ha r=z s):r= .ok (.p<|.str s) []:=by
 cases r with
 |ok v H=>cases H with
  |nil=>
   obtain ⟨p,rfl,e⟩:=jI h
   exact aR (λp=>R.ok (V.p p) _)<|kN e
  |cons _ _=>cases h
 |_=>cases h
noncomputable def GJ(b:Y ak):ak:=(Ha<|aZ (aS 1 0 5 Gy) [.p<|iL<|jy b] []).elim N λs=>s==lrT (jy b)&&(lrT<|jy b).all (λc=>decide (c<128))&&decide ((lrT<|jy b).length<20)
theorem Mp: ∀a b c k e f g h:ak,GJ [a,b,c,k,e,f,g,h]=Q:=by decide+kernel
def wo(b:Y J):ak:=b.length%2==0&&(rngs b).all (λr=>mC.contains r.1&&mC.contains r.2)&& !(((rngs b).flatMap rT).take 1== [58])&&decide (b.length<20)
def Gr(b c:Y J):Y M:=if(wT (rngs b) N).length≤(wT (rngs c) Q).length then wT (rngs b) N else wT (rngs c) Q
def sM(b:Y ak)(o:ak):ak:=wo (cb b o)&&wo (cb (b.map not)<|!o)&&Gr (cb b o) (cb (b.map not)<|!o)==wrT b o
theorem Db: ∀a b c k e f g h o:ak,sM [a,b,c,k,e,f,g,h] o=Q:=by decide+kernel
def zX(b:Y ak):ak:=(nF<|jy b).all (λp=>decide (97≤p.1∧p.1≤p.2∧p.2≤104))&&decide ((nF<|jy b).length≤8)&&cn.all λx=>((nF<|jy b).any λp=>eZ ((p.1:J),(p.2:J)) x)==(jy b).contains x
theorem Mo: ∀a b c k e f g h:ak,zX [a,b,c,k,e,f,g,h]=Q:=by decide+kernel
theorem uC{P:Y ak→Prop}(h: ∀a b c k e f g h,P [a,b,c,k,e,f,g,h])(L:Y J):P<|bitsOf L:=h _ _ _ _ _ _ _ _
theorem xT(L:Y J):bitsOf (cn.filter λc=> !(L.contains c))=(bitsOf L).map not:=by
 unfold bitsOf
 rw[eu]
 refine rn λc f=> ?_
 show _= !(L.contains c)
 rw[iF,fg,jS]
 exact⟨λh=>h.2,λh=>⟨f,h⟩⟩
theorem CZ{L:Y J}(h:cn.filter (λc=>L.contains c)=L)(o:ak):hatL (bitsOf L) o=if o then cn.filter λc=> !(L.contains c)else L:=by
 cases o with
 |false=>exact B3 h
 |true=>
  show jy ((bitsOf L).map not)=cn.filter (λc=> !(L.contains c))
  rw[←xT];exact B3 xr
theorem Cr(L:Y J)(o:ak): ∃c,(if o then(bitsOf L).map not else bitsOf L)=bitsOf c:=by
 cases o with
 |false=>exact⟨L,O⟩
 |true=>exact⟨_,(xT L).symm⟩
theorem Lg{L:Y J}(o:ak)(H:Y af):ke [.p<|iL<|hatL (bitsOf L) o] H= .ok (.p<|.str<|lrT<|hatL (bitsOf L) o) H∧(∀c∈lrT (hatL (bitsOf L) o),c<128)∧(lrT<|hatL (bitsOf L) o).length<20:=by
 obtain ⟨a,e⟩:=Cr L o
 unfold hatL
 rw[e]
 have h:=uC (P:=λb=>GJ b=Q) Mp a
 obtain ⟨s,k,h⟩:=yL h
 rw[b_,b_,dM,jj,fC]at h
 obtain ⟨⟨f,g⟩,i⟩:=h
 subst f
 exact⟨oD (sd O) (sd O)<|N7 k,λc j=>fB<|g c j,i⟩
def yz(h:wo b=Q): ∃n,b.length=2*n∧n<20∧(∀r∈rngs b,r.1∈mC∧r.2∈mC)∧(((rngs b).flatMap rT).take 1== [58])=N:=by
 unfold wo at h
 rw[b_,b_,b_,dM,jj,eS,fC]at h
 obtain ⟨⟨⟨a,e⟩,c⟩,f⟩:=h
 refine⟨b.length/2,by exact PO a,by exact PN f,λr g=> ?_,c⟩
 have:=e r g
 rw[b_,fg,fg]at this
 exact this
theorem xI: ∀b:Y J,(rngs b).length≤b.length
 | []=>bo _
 | [_]=>dc _
 |_::_::r=>by show (rngs r).length+1≤r.length+1+1;have:=xI r;exact PM this
theorem OU(L:Y J)(o:ak):bY<|cb (bitsOf L) o:=(va _ N<|by show List.Pairwise _ [0,97,98,99,100,101,102,103,104,105,1114112];decide).1
theorem MZ{L:Y J}{o:ak}(A: ∀x,bd (cb (bitsOf L) o) x=dT L o x)(H:Y af):qA [.p<|Mine.cs<|cb (bitsOf L) o] H= .ok (.p<|.bytes<|wrT (bitsOf L) o) H:=by
 have h:=uC (P:=λb=> ∀o,sM b o=Q) Db L o
 unfold sM at h
 rw[b_,b_,dM]at h
 obtain ⟨⟨s,u⟩,e⟩:=h
 obtain ⟨n,t,w,C,G⟩:=yz s
 obtain ⟨m,f,m2,m3,B⟩:=yz u
 obtain ⟨c,k,p,c3,c4⟩:=DJ (OU L o) (by exact PL t w) []
 have v:c=cb ((bitsOf L).map not) (!o):=by
  rw[←xT]
  refine zB k λx=> ?_
  rw[p,A]
  have:=ya L o λ_=>bR
  exact congrFun (aR Prod.fst<|aY this) x
 subst v
 have l:=xI<|cb (bitsOf L) o
 have g:=xI<|cb ((bitsOf L).map not)<|!o
 have p1:=yu t (by exact yS w) []
 have p2:=yu f (by exact yS m2) []
 have p3:=Dm (n:=N) C (by exact Er t w l) G []
 have p4:=Dm (n:=Q) m3 (by exact Er f m2 g) B []
 have I:=ux<|rngs<|cb (bitsOf L) o
 have r:=ux<|rngs<|cb ((bitsOf L).map not)<|!o
 have t1:(wT (rngs<|cb (bitsOf L) o) N).length≤1000000:=by unfold wT;rw[bE,bE];show 1+(_+1)≤_;exact PK t w l I
 have t2:(wT (rngs<|cb ((bitsOf L).map not)<|!o) Q).length≤1000000:=by unfold wT;rw[bE,bE];show 2+(_+1)≤_;exact PJ f m2 g r
 unfold Gr at e
 refine fj (sd O) (sd O)<|b8 [z<|.p<|Mine.cs<|cb (bitsOf L) o,D,D] (sd O) O ?_
 rw[←e]
 generalize cb ((bitsOf L).map not) (!o)=j at*
 generalize cb (bitsOf L) o=i at*
 generalize wT (rngs i) N=x at*
 generalize wT (rngs j) Q=y at*
 have e1:=yA (H:= [])<|sd t1
 have e2:=yA (H:= [])<|sd t2
 unfold Hj
 by_cases q:x.length≤y.length
 ·have U:decide ((x.length:J)≤(y.length:J))=Q:=bx (dj.mpr q)
  rw[aw q];trivial
 ·have U:decide ((x.length:J)≤(y.length:J))=N:=bu (by exact PI q)
  rw[az q];trivial
theorem uR(B: ∀c∈t,c<128)(b:t.length<900)(H:Y af):jC [.p<|.str t] H= .ok (.p<|.bytes t) H:=by
 refine fj (sd O) (sd O)<|b8 [z<|.p<|.str t] (sd O) O ?_
 have m:lf (.p<|.str t) []=z (.str t):=aw<|jj.mpr λc h=>bx<|B c h
 have a:=l8 (C:= .str t) (o:=bv 0) (t:=trueT) (m:=ao oH<|ae (aa 0) nilA) (t.map λ(c:M)=>P.str [c]) (λl=> ∃o,l= [o]) (λ_=>Q) (λp=>match p with| .str [c]=> .int c|_=> .none) []
  (λi=>by rw[eK];rfl)
  (λp k l g=>by
   obtain ⟨o,y⟩:=g
   subst y
   obtain ⟨c,h,rfl⟩:=cY.mp k
   exact⟨_,O,⟨_,O⟩,O,λ_=>bH (aI (aH<|sd O) a8) VJ⟩) 1000 0 [D] [] ⟨D,O⟩ (dc _) (by rw[bc];exact rZ b) (by rw[bc,lR];exact yY b)
 rw[iC,pF.mpr λ_ _=>rfl,lQ,eu]at a
 have q:bW ["sign"] [] N (bT<|aa 0) (bv 0) trueT (ao oH<|ae (aa 0) nilA) 1000 [z<|.p<|.str t] []= .ok (.p<|.list<|t.map λ(c:M)=>P.int c) []:=jZ (kj (aH<|sd O)<|sd m) (sd O) a
 have n:uY (t.map λ(c:M)=>P.int c)=z t:=by
  have e:nv (t.map λ(c:M)=>P.int c)=z (t.map λc:M=>(c:J)):=qr (f:=j5) (λ_=>rfl) t
  unfold uY
  rw[e]
  refine(aw λi j=> ?_).trans ?_
  ·obtain ⟨c,h,rfl⟩:=cY.mp j
   exact⟨dA c,PH<|B c h⟩
  ·rw[eu];exact aR z<|pD t
 have x:ot [.p<|.list<|t.map λ(c:M)=>P.int c] []= .ok (.p<|.bytes t) []:=by
  show (uY<|t.map λ(c:M)=>P.int c).elim R.err _=_
  rw[n]
  exact aw (by rw[bc];exact iP b)
 unfold Hc
 trivial
end
section
noncomputable def kp(p:M×M):El:=⟨N, .U,if p.1=p.2 then .one 0 p.1 else .two 0 p.1 0 p.2⟩
theorem OH(p:M×M):mF (kp p)=wn p:=by
 obtain ⟨a,b⟩:=p
 unfold mF kp wn
 by_cases h:a=b
 ·rw[aw<|dM.mpr h,aw h];rfl
 ·rw[az<|mt dM.mp h,az h];rfl
theorem Mh(c:Y<|M×M):eX (c.map kp)=c.flatMap wn:=by
 unfold eX
 rw[w0,eu,w0]
 exact aR List.flatten<|rn λp _=>OH p
theorem C0: ∀(c:Y<|M×M) (g:ak),(∀p∈c,97≤p.1∧p.1≤p.2∧p.2≤104)→js w k n s g (c.map kp)
 | [],_,_=>trivial
 |p::c,g,h=>by
  obtain ⟨b,a,f⟩:=h p<|.head _
  refine⟨?_,λq=>absurd rfl q,C0 c _ λq i=>h q<|.tail _ i⟩
  unfold kp
  by_cases e:p.1=p.2
  ·rw[aw e];exact⟨b,by exact PG f e⟩
  ·rw[az e];exact⟨⟨b,by exact PF a f⟩,⟨by exact PE b a,f⟩,a⟩
theorem DO: ∀(c:Y<|M×M) (f:J→ak) (P:bC→Prop),f7 (f,P) (c.map kp)=z (λx=>f x||c.any (λp=>eZ ((p.1:J),(p.2:J)) x),P)
 | [],f,P=>by
  show z (f,P)=z (λx=>f x||N,P)
  rw[show (λx=>f x||N)=f from funext λx=>jk _]
 |p::c,f,P=>by
  have e:f9 (f,P) (kp p)=z (λx=>f x||eZ ((p.1:J),(p.2:J)) x,P):=by
   unfold f9 kp
   by_cases h:p.1=p.2
   ·simp only[aw h];rw[←h];rfl
   ·simp only[az h];rfl
  show (f9 (f,P)<|kp p).bind _=_
  rw[e]
  show f7 _ (c.map kp)=_
  rw[DO c]
  exact aR z<|Prod.ext (funext λx=>Bool.or_assoc _ _ _) O
theorem Oj(o:ak)(e:Y El):lT o e=(if o then [91,94]else [91])++(eX e++ [93]):=by
 unfold lT
 rw[yM]
 cases o<;>rfl
theorem K7{L:Y J}(m:cn.filter (λc=>L.contains c)=L)(o:ak):gn wS 0 (wrT (bitsOf L) o) (dv<|z (L,o,[])) 34 8:=by
 obtain ⟨r,e⟩:=Cr L o
 have h:=uC (P:=λb=>zX b=true) Mo r
 rw[←e]at h
 have A:=CZ m o
 unfold zX at h
 rw[show jy (if o then(bitsOf L).map not else bitsOf L)=hatL (bitsOf L) o from rfl,b_,b_,jj,jj,fC]at h
 obtain ⟨⟨l,f⟩,y⟩:=h
 have g:=C0 (w:=dZ<|dZ<|dZ lr) (k:=0+1) (n:=4) (s:=1) (nF<|hatL (bitsOf L) o) false λp j=>fB<|l p j
 have v:=DO (nF<|hatL (bitsOf L) o) (λ_=>false) λ_=>bR
 have B:(λx=>false||(nF<|hatL (bitsOf L) o).any λp=>eZ ((p.1:J),(p.2:J)) x)=dT (hatL (bitsOf L) o) false:=funext λx=>by
  rw[Bool.false_or]
  by_cases a:97≤x∧x≤104
  ·rw[jm a]
   exact dM.mp (y x<|by rcases let8 a with rfl|rfl|rfl|rfl|rfl|rfl|rfl|rfl<;>decide)
  ·rw[jT a,n_,List.any_eq_false]
   intro p j i
   have:=fB<|l p j
   unfold eZ at i
   rw[b_,fC,fC]at i
   have t:(p.1:J)≤x:=i.1
   have u:x≤(p.2:J):=i.2
   exact PD a this.1 this.2.2 t u
 rw[B]at v
 have C:nj o ((nF<|hatL (bitsOf L) o).map kp)<|dv<|z (L,o,[]):=by
  unfold nj
  rw[v]
  rw[A]
  cases o with
  |false=>exact(pW _ L false rfl).symm
  |true=>
   refine .inl ⟨λ_ h=>h,?_⟩
   have:=ya (cn.filter λc=> !(L.contains c)) false λ_=>bR
   refine Eq.trans ?_ this.symm
   have w:(cn.filter λc=> !((cn.filter λc=> !(L.contains c)).contains c))=L:=by
    refine Eq.trans (List.filter_congr λx a=> ?_) m
    rw[iF,eS,←Bool.not_eq_true,fg,fg,jS,eS,←Bool.not_eq_true,fg]
    exact⟨λh=>Classical.byContradiction λq=>h ⟨a,q⟩,λh q=>q.2 h⟩
   rw[w];rfl
 have S:=gn.list (o:=o) (ar':=0) (ws:=dZ<|dZ<|dZ lr) (n:=4) (s:=1) (by decide) (by decide) (by decide) (by rw[bc];exact PC f) (by rw[bc];exact PB f) (by rw[bc];exact PA f) g C
 rw[Oj,Mh]at S
 rw[bc]at S
 exact S.mono (by exact Pz f)<|by exact Py f
end
section
section
variable{loc l:aj}{H H1 H2:Y af}
theorem gB(h:a loc H= .ok (.next l) H1)(e:b l H1=Q):cg a b loc H=Q:=by unfold cg;rw[h];exact e
theorem ON(h:a loc H= .ok (.ret<|.p<|.bool Q) H1):cg a b loc H=Q:=by unfold cg;rw[h];rfl
theorem GC(h:t loc H= .ok Q H1)(e:a loc H1= .ok vs H2)(c:r vs H2=Q):i4 t a r b loc H=Q:=by
 unfold i4;rw[h]
 show (a loc H1).tt r=Q
 rw[e];exact c
theorem GD(h:t loc H= .ok N H1)(e:b loc H1=Q):i4 t a r b loc H=Q:=by unfold i4;rw[h];exact e
theorem Xr(h:loc[i]? =z (z v))(e:ny k 6 H v=z x)(a:(H.take k).all (lc k)=Q)(c:(loc.set i<|z<|.p x).all (zP k)=Q)(f:b (loc.set i<|z<|.p x) (H.take k)=Q):qo i k b loc H=Q:=by
 show loc[i]?.join.elim N _=Q
 rw[h]
 show (ny k 6 H v).elim N _=Q
 rw[e]
 exact bJ.mpr ⟨a,bJ.mpr ⟨c,f⟩⟩
theorem VM:nilP loc H= .ok [] H:=O
theorem Eg(h:a loc H= .ok k H1)(f:b loc H1= .ok v H2)(g:c loc H2= .ok r e):cQ a b c loc H= .ok ((k,v)::r) e:=by
 unfold cQ;rw[h];show R.bind (b loc H1) _=_;rw[f];show R.bind (c loc H2) _=_;rw[g];rfl
theorem OJ(h:m loc H= .ok c H1)(a:pO c=z e):dictM m loc H= .ok (.lbl H1.length) (H1++ [.dict e]):=by
 unfold dictM;rw[h]
 show (pO c).elim R.err _=_
 rw[a];rfl
end
noncomputable abbrev ie(l:Y J):Y J:=(l.take 40).map (· %1000000007)
theorem MW(h:l.length≤63):sV [.p<|iL l] []= .ok (.lbl 0) [dk (ie l) 0]:=by
 have g:jz (.p<|iL l) D (z 40) []= .ok (.p<|iL<|l.take 40) []:=by
  show (if(l.map P.int).length≤1000000 then R.ok (V.p<|P.list<|((l.map P.int).drop 0).take<|cq (l.map P.int).length 40-0) []else .err)=_
  rw[bc,aw (by exact Px h),iC,←List.map_take]
  have:l.take (cq l.length 40-0)=l.take 40:=by
   have c:cq l.length 40=min 40 l.length:=by unfold cq;rw[az<|by decide];exact Pw
   rw[c,Nat.sub_zero]
   rcases dh 40 l.length with q|q
   ·rw[kC q]
   ·rw[Nat.min_eq_right q,pB (bo _),pB q]
  rw[this]
 have hlen0':(l.take 40).length≤40:=by rw[mT];exact Nat.min_le_left _ _
 have b:=l8 (C:= .list<|.p<|iL<|l.take 40) (o:=bv 0) (t:=trueT) (m:=ag modS (ao sI<|ae (aa 0) nilA)<|kI 1000000007) ((l.take 40).map .int) (λa=> ∃o,a= [o]) (λ_=>Q) (λp=>match p with| .int i=> .int (i%1000000007)|_=> .none) [] (λi=>rfl)
  (λp f a t=>by
   obtain ⟨o,y⟩:=t
   subst y
   obtain ⟨c,m,rfl⟩:=cY.mp f
   exact⟨_,O,⟨_,O⟩,O,λ_=>br (bH (aI (aH<|sd O) a8) O) kE<|VK<|sd<|by decide⟩) 1000 0 [D] [] ⟨D,O⟩ (dc _) (by rw[bc];exact Pu hlen0') (by rw[bc,lR];exact Pt hlen0')
 rw[iC,pF.mpr λ_ _=>rfl,lQ,eu]at b
 have e:bW ["cell"] [] N (bT<|cR (aa 0) partN<|ct<|kI 40) (bv 0) trueT (ag modS (ao sI<|ae (aa 0) nilA)<|kI 1000000007) 1000 [z<|.p<|iL l] []= .ok (.p<|iL<|ie l) []:=by
  refine jZ (kj (NV (aH<|sd O) N4 (N5 kE) g)<|sd O) (sd O) ?_
  rw[show (ie l).map P.int=(l.take 40).map ((λp=>match p with| .int i=>P.int (i%1000000007)|_=> .none)∘P.int) by rw[eu];rfl]
  exact b
 refine jr (k:= []) (a:= [.p<|iL l]) (c:= []) (l:= .lbl 0) (b:= [dk (ie l) 0]) O rfl rfl rfl (b8 [z<|.p<|iL l] (sd O) O ?_) O rfl
 unfold Hi
 exact bA (sE<|OJ (Eg kE e<|Eg kE kE VM) O)<|nS O
noncomputable def zj(r:R V):Y af:=match r with
 | .ok _ (_::X)=>X
 |_=> []
noncomputable def HD:Y af:=zj<|k3 [] [dk [] 0]
noncomputable def tE:Y af:=zj<|lC [.lbl 1, .p<|.str [103,99], .p<|.int 97, .p<|.int 101, .p<|.str [76,108]]<|dk [] 0::HD
noncomputable def HM:Y af:=zj<|lC [.lbl 1, .p<|.str [103,99], .p<|.int 102, .p<|.int 104, .p<|.str [76,117]]<|dk [] 0::tE
theorem V1(cs:Y J):k3 [] [dk cs 0]= .ok (.lbl 1) (dk cs 0::HD):=by kernel_rfl
theorem Ly(cs:Y J):lC [.lbl 1, .p<|.str [103,99], .p<|.int 97, .p<|.int 101, .p<|.str [76,108]] (dk cs 0::HD)= .ok (.p .none) (dk cs 0::tE):=by kernel_rfl
theorem Lx(cs:Y J):lC [.lbl 1, .p<|.str [103,99], .p<|.int 102, .p<|.int 104, .p<|.str [76,117]] (dk cs 0::tE)= .ok (.p .none) (dk cs 0::HM):=by kernel_rfl
noncomputable def HH:Y<|M×V:=((f6 (.lbl 1)<|dk [] 0::HD).getD (0,[])).2
noncomputable def HG:Y<|M×V:=((f6 (.lbl 1)<|dk [] 0::tE).getD (0,[])).2
theorem KG(cs:Y J):f6 (.lbl 1) (dk cs 0::HD)=z (3,HH):=by kernel_rfl
theorem KE(cs:Y J):f6 (.lbl 1) (dk cs 0::tE)=z (3,HG):=by kernel_rfl
theorem Oz:mj 3 HH=Q:=by kernel_rfl
theorem Oy:mj 3 HG=Q:=by kernel_rfl
theorem Kg(cs:Y J):ny 1 6 (dk cs 0::HM) (.lbl 1)=z eg:=by kernel_rfl
end
section
noncomputable def tA:aj→Y af→ak:=cg (kO [3,4]<|ao wL<|ae (aa 1)<|ae (kI 2) nilA)<|i4 (aq<|ag isS (aa 4)<|kM .none) (ae (ao jC<|ae (aa 3) nilA)<|ae (aa 2) nilA) (kL fy)<|cg (aB 5<|ao fy<|ae (ao jC<|ae (ag addS (kS [32])<|aa 3) nilA)<|ae (aa 2) nilA)<|cg (ax (aq<|ag neS (iU oK<|aa 5)<|ag neS (ag aE (aa 4)<|kI 2)<|listF nilA) (ai (aK<|kM<|.bool N) nilM) nilM)<|cg (ax (a_ (aq<|ag neS (ag aE (aa 4)<|kI 2)<|listF nilA)<|a_ (aq<|ag neS (ao lW<|ae (aD (aF 10)<|aa 5) nilA)<|ao ol<|ae (ag aE (aa 4)<|kI 2) nilA)<|kT Q) (ai (aK<|kM<|.bool N) nilM) nilM)<|cg (aB 6<|ax (aq<|ag neS (ag aE (aa 4)<|kI 2)<|listF nilA) (aD (aF 9)<|aa 5)<|aa 5)<|cg (ax (aq<|ag neS (bW ["code"] [("codes",6)] N (bT<|kM eA) (bv 0) (aq<|aC 1 jG (aa 1)<|ae (aa 0) nilA) (aa 0) 1000)<|ag aE (aa 4)<|kI 0) (ai (aK<|kM<|.bool N) nilM) nilM)<|cg (ax (aq<|ag neS (bW ["code"] [("codes",6)] N (bT<|tupF<|ae (kI 0)<|ae (kI 96)<|ae (kI 105)<|ae (kI 945)<|ae (kI 1114111) nilA) (bv 0) trueT (aC 1 jG (aa 1)<|ae (aa 0) nilA) 1000)<|ag rD (listF<|ae (ag aE (aa 4)<|kI 1) nilA)<|kI 5) (ai (aK<|kM<|.bool N) nilM) nilM)<|cg (aB 7<|bW ["code"] [("due",4)] N (bT<|kM eA) (bv 0) (aq<|ag notInS (aa 0)<|ag aE (aa 1)<|kI 0) (aa 0) 1000)<|cg (aB 8<|ao jC<|ae (ax (aq<|ag aE (aa 4)<|kI 1) (ag addS (ag addS (kS [91,94])<|ao ke<|ae (aa 7) nilA)<|kS [93])<|ag addS (ag addS (kS [91])<|ao ke<|ae (ag aE (aa 4)<|kI 0) nilA)<|kS [93]) nilA)<|cg (aK<|kr (ag eqS (ao qA<|ae (aa 6) nilA)<|aa 8)<|ag eqS (aC 1 jF (ao fy<|ae (aa 8)<|ae (aa 2) nilA) nilA)<|aC 1 jF (aa 6) nilA) nilD
theorem LL:vT=(cg (iK [1,2]<|ae (ao sV<|ae (aa 0) nilA)<|ae (ao k3 nilA) nilA)<|cg (a7<|aC 3 lC (aa 2)<|ae (kS [103,99])<|ae (kI 97)<|ae (kI 101)<|ae (kS [76,108]) nilA)<|cg (a7<|aC 3 lC (aa 2)<|ae (kS [103,99])<|ae (kI 102)<|ae (kI 104)<|ae (kS [76,117]) nilA)<|qo 2 1<|i4 (aq<|ag eqS (ao b9<|ae (aa 1)<|ae (kI 5) nilA)<|kI 1) (ae (ag aE (ao sW nilA)<|ao b9<|ae (aa 1)<|ae (kI 12) nilA)<|ae (aa 2) nilA) (kL fy) tA):=O
theorem L_{k:M}(G:k<12)(cs:Y J)(a:J): ∃F,aE (.p<|.list [.bytes [91,97], .bytes [97], .bytes [91,98,45,97,93], .bytes [91,97,93,98], .bytes [91,97,38,98,93], .bytes [91,92,120,54,93], .bytes [91,92,112,123,122,122,61,76,108,125,93], .bytes [91,97,38,93], .bytes [], .bytes [91,123,97,98,93], .bytes [91,92,117,49,50,93], .bytes [91,92,112,123,103,99,61,76,108,125,45,97,93]]) (.p<|.int k) [dk cs a]= .ok (.p<|.bytes F) [dk cs a]∧kL fy [.p<|.bytes F, .p eg] [dk cs a]=Q:=by
 rcases (by exact zq566 G:k=0∨k=1∨k=2∨k=3∨k=4∨k=5∨k=6∨k=7∨k=8∨k=9∨k=10∨k=11)with rfl|rfl|rfl|rfl|rfl|rfl|rfl|rfl|rfl|rfl|rfl|rfl
 ·exact⟨[91,97],by kernel_rfl,by kernel_rfl⟩
 ·exact⟨[97],by kernel_rfl,by kernel_rfl⟩
 ·exact⟨[91,98,45,97,93],by kernel_rfl,by kernel_rfl⟩
 ·exact⟨[91,97,93,98],by kernel_rfl,by kernel_rfl⟩
 ·exact⟨[91,97,38,98,93],by kernel_rfl,by kernel_rfl⟩
 ·exact⟨[91,92,120,54,93],by kernel_rfl,by kernel_rfl⟩
 ·exact⟨[91,92,112,123,122,122,61,76,108,125,93],by kernel_rfl,by kernel_rfl⟩
 ·exact⟨[91,97,38,93],by kernel_rfl,by kernel_rfl⟩
 ·exact⟨[],by kernel_rfl,by kernel_rfl⟩
 ·exact⟨[91,123,97,98,93],by kernel_rfl,by kernel_rfl⟩
 ·exact⟨[91,92,117,49,50,93],by kernel_rfl,by kernel_rfl⟩
 ·exact⟨[91,92,112,123,103,99,61,76,108,125,45,97,93],by kernel_rfl,by kernel_rfl⟩
theorem Kc{l:Y J}(m:l.length≤63)(h: ∀a:M,a≤10→tA [z<|.p<|iL l,z<|.lbl 0,z<|.p eg,D,D,D,D,D,D] [dk (ie l) a]=Q):vT [z<|.p<|iL l,D,D,D,D,D,D,D,D] []=Q:=by
 have b:(ie l).length<900:=by rw[bc,mT];exact Ep
 rw[LL]
 refine gB (DQ (b:= [z<|.p<|iL l,z<|.lbl 0,z<|.lbl 1,D,D,D,D,D,D]) (aI (bH (aI (aH<|sd O) a8)<|MW m)<|aI (bH a8<|V1 _) a8) (sd ⟨O,by decide⟩) O) ?_
 refine gB (qh (iR (aH<|sd O) (sd<|KG _) (sd Oz) (aI kE<|aI kE<|aI kE<|aI kE a8)<|Ly _)<|sd O) ?_
 refine gB (qh (iR (aH<|sd O) (sd<|KE _) (sd Oy) (aI kE<|aI kE<|aI kE<|aI kE a8)<|Lx _)<|sd O) ?_
 refine Xr (v:= .lbl 1) O (Kg _) O rfl ?_
 show i4 _ _ _ tA [z<|.p<|iL l,z<|.lbl 0,z<|.p eg,D,D,D,D,D,D] [dk (ie l) (0:M)]=Q
 obtain ⟨k,B,H⟩:=iI (ie l) (n:=5) (a:=0) (by decide) (by decide) b
 have H:b9 [.lbl 0, .p<|.int 5] [dk (ie l) (0:M)]=_:=H
 by_cases G:k=1
 ·obtain ⟨e,f,g⟩:=iI (ie l) (n:=12) (a:=1) (by decide) (by decide) b
  have g:b9 [.lbl 0, .p<|.int 12] [dk (ie l) (0+1:M)]=_:=g
  obtain ⟨F,I,j⟩:=L_ f (ie l) ((1+1:M):J)
  have i:sW [] [dk (ie l) (0+1:M)]= .ok (.p<|.list [.bytes [91,97], .bytes [97], .bytes [91,98,45,97,93], .bytes [91,97,93,98], .bytes [91,97,38,98,93], .bytes [91,92,120,54,93], .bytes [91,92,112,123,122,122,61,76,108,125,93], .bytes [91,97,38,93], .bytes [], .bytes [91,123,97,98,93], .bytes [91,92,117,49,50,93], .bytes [91,92,112,123,103,99,61,76,108,125,45,97,93]]) [dk (ie l) (0+1:M)]:=by kernel_rfl
  exact GC (cO<|br (bH (aI (aH<|sd O)<|aI kE a8) H) kE<|md<|sd<|dM.mpr<|by rw[G];rfl) (aI (br (bH a8 i) (bH (aI (aH<|sd O)<|aI kE a8) g) I)<|aI (aH<|sd O) a8) j
 ·exact GD (cO<|br (bH (aI (aH<|sd O)<|aI kE a8) H) kE<|md<|sd<|cL.mpr<|by exact y4 G)<|h (0+1)<|by decide
end
section
theorem LH(a:Y J)(H:Y af):neS (.p<|iL a) (.p<|iL a) H= .ok (.p<|.bool N) H:=by
 have e:fZ (a.map .int) (a.map .int)=z Q:=by
  rw[yi,fD]
 show (fZ (a.map .int)<|a.map .int).elim R.err _=_
 rw[e];rfl
theorem Bv(a:Y bC):fZ (a.map bL) (a.map bL)=z Q:=by
 cases a with
 |nil=>rfl
 |cons r a=>
  show ((gX<|(r::a).map bL).bind λx=>(gX<|(r::a).map bL).bind λy=>z<|x==y).or _=_
  rw[oc]
  show z (_==_)=_
  rw[fD]
theorem LG(a:Y bC)(H:Y af):neS (.p<|tL a) (.p<|tL a) H= .ok (.p<|.bool N) H:=by
 show (fZ (a.map bL)<|a.map bL).elim R.err _=_
 rw[Bv];rfl
theorem OF(a:Y<|J×J)(H:Y af):eqS (.p<|.list<|a.map bO) (.p<|.list<|a.map bO) H= .ok (.p<|.bool Q) H:=by
 have e:=Bv<|a.map λr=> [r.1,r.2]
 rw[eu]at e
 show (fZ (a.map bO)<|a.map bO).elim R.err _=_
 rw[show a.map bO=a.map (bL∘λr=> [r.1,r.2])from rfl,e];rfl
theorem Xh{c:Y J}(h:bY c)(e:c.length<900){a:aj}(f:a[6]? =z (z<|.p<|Mine.cs c)){H:Y af}{B:Y an}:
  bW ["code"] [("codes",6)] N (bT<|tupF<|ae (kI 0)<|ae (kI 96)<|ae (kI 105)<|ae (kI 945)<|ae (kI 1114111) nilA) (bv 0) trueT (aC 1 jG (aa 1)<|ae (aa 0) nilA) 1000 a H= .ok (.p<|.list<|[0,96,105,945,1114111].map λx=> .bool<|bd c x) H:=by
 have b:=l8 (C:= .tup [.int 0, .int 96, .int 105, .int 945, .int 1114111]) (o:=bv 0) (t:=trueT) (m:=aC 1 jG (aa 1)<|ae (aa 0) nilA) ([0,96,105,945,1114111].map P.int) (λa=> ∃o,a= [o,z<|.p<|Mine.cs c]) (λ_=>Q) (λp=>match p with| .int x=> .bool (bd c x)|_=> .none) H (λi=>rfl)
  (λp g l t=>by
   obtain ⟨o,y⟩:=t
   subst y
   obtain ⟨x,k,rfl⟩:=cY.mp g
   exact⟨_,O,⟨_,O⟩,O,λ_=>iR (aH<|sd O) (sd O) (sd O) (aI (aH<|sd O) a8)<|DM h e x H⟩) 1000 0 [D,z<|.p<|Mine.cs c] [] ⟨D,O⟩ (dc _) (by decide) (by decide)
 refine jZ (kj (zi (aI kE<|aI kE<|aI kE<|aI kE<|aI kE a8) (sd O)<|sd<|by decide)<|sd O) (sd O) ?_
 have A:im ["code"] [("codes",6)] a= [D,z<|.p<|Mine.cs c]:=by
  show [D,(a[6]?).join]=_
  rw[f];rfl
 rw[A]
 rw[iC,pF.mpr λ_ _=>rfl,lQ,eu]at b
 exact b
noncomputable def tB:aj→Y af→ak:=cg (ax (aq<|ag neS (bW ["code"] [("codes",6)] N (bT<|kM eA) (bv 0) (aq<|aC 1 jG (aa 1)<|ae (aa 0) nilA) (aa 0) 1000)<|ag aE (aa 4)<|kI 0) (ai (aK<|kM<|.bool N) nilM) nilM)<|cg (ax (aq<|ag neS (bW ["code"] [("codes",6)] N (bT<|tupF<|ae (kI 0)<|ae (kI 96)<|ae (kI 105)<|ae (kI 945)<|ae (kI 1114111) nilA) (bv 0) trueT (aC 1 jG (aa 1)<|ae (aa 0) nilA) 1000)<|ag rD (listF<|ae (ag aE (aa 4)<|kI 1) nilA)<|kI 5) (ai (aK<|kM<|.bool N) nilM) nilM)<|cg (aB 7<|bW ["code"] [("due",4)] N (bT<|kM eA) (bv 0) (aq<|ag notInS (aa 0)<|ag aE (aa 1)<|kI 0) (aa 0) 1000)<|cg (aB 8<|ao jC<|ae (ax (aq<|ag aE (aa 4)<|kI 1) (ag addS (ag addS (kS [91,94])<|ao ke<|ae (aa 7) nilA)<|kS [93])<|ag addS (ag addS (kS [91])<|ao ke<|ae (ag aE (aa 4)<|kI 0) nilA)<|kS [93]) nilA)<|cg (aK<|kr (ag eqS (ao qA<|ae (aa 6) nilA)<|aa 8)<|ag eqS (aC 1 jF (ao fy<|ae (aa 8)<|ae (aa 2) nilA) nilA)<|aC 1 jF (aa 6) nilA) nilD
theorem VB:tA=(cg (kO [3,4]<|ao wL<|ae (aa 1)<|ae (kI 2) nilA)<|i4 (aq<|ag isS (aa 4)<|kM .none) (ae (ao jC<|ae (aa 3) nilA)<|ae (aa 2) nilA) (kL fy)<|cg (aB 5<|ao fy<|ae (ao jC<|ae (ag addS (kS [32])<|aa 3) nilA)<|ae (aa 2) nilA)<|cg (ax (aq<|ag neS (iU oK<|aa 5)<|ag neS (ag aE (aa 4)<|kI 2)<|listF nilA) (ai (aK<|kM<|.bool N) nilM) nilM)<|cg (ax (a_ (aq<|ag neS (ag aE (aa 4)<|kI 2)<|listF nilA)<|a_ (aq<|ag neS (ao lW<|ae (aD (aF 10)<|aa 5) nilA)<|ao ol<|ae (ag aE (aa 4)<|kI 2) nilA)<|kT Q) (ai (aK<|kM<|.bool N) nilM) nilM)<|cg (aB 6<|ax (aq<|ag neS (ag aE (aa 4)<|kI 2)<|listF nilA) (aD (aF 9)<|aa 5)<|aa 5) tB):=O
section
variable{L:Y J}{o:ak}{R:Y bC}{c:Y J}{o0 o1 o3 o5:d V}{H:Y af}{t:Y M}
theorem JL(L:Y J)(o:ak): [0,96,105,945,1114111].map (λx=>P.bool<|dT L o x)= [P.bool o, .bool o, .bool o, .bool o, .bool o]:=by
 show [P.bool<|Q&&o, .bool<|Q&&o, .bool<|Q&&o, .bool<|Q&&o, .bool<|Q&&o]=_
 rw[Bool.true_and]
theorem LJ(o:ak)(H:Y af):neS (.p<|.list [P.bool o, .bool o, .bool o, .bool o, .bool o]) (.p<|.list [P.bool o, .bool o, .bool o, .bool o, .bool o]) H= .ok (.p<|.bool N) H:=by cases o<;>rfl
theorem VA(y:cn.filter (λc=>L.contains c)=L)(A:bY c)(k: ∀x,bd c x=dT L o x)(hl:c.length≤134):tB [o0,o1,z<|.p eg,o3,z<|.p<|cC L o R,o5,z<|.p<|Mine.cs c,D,D] H=true:=by
 have h:=zB A k
 have I:=vr (o:= ["code"]) (c:= [("codes",6)]) (t:=aq<|aC 1 jG (aa 1)<|ae (aa 0) nilA) (q:=dT L o) (B:= [z<|.p<|Mine.cs c]) (l:= [o0,o1,z<|.p eg,o3,z<|.p<|cC L o R,o5,z<|.p<|Mine.cs c,D,D]) (H:=H) O (λx=>by
  have:=DM A (by exact Eo hl) x H
  rw[k]at this
  exact cO<|iR (aH<|sd O) (sd O) (sd O) (aI (aH<|sd O) a8) this)
 have hf:cn.filter (dT L o)=L:=Eq.trans (List.filter_congr λx hx=>jm<|(show ∀x∈cn,97≤x∧x≤104 by decide) x hx) y
 rw[hf]at I
 have U:=Xh (c:=c) A (by exact Eo hl) (a:= [o0,o1,z<|.p eg,o3,z<|.p<|cC L o R,o5,z<|.p<|Mine.cs c,D,D]) O (H:=H) (B:= ["code"])
 rw[show (λx=>P.bool<|bd c x)=λx=>P.bool<|dT L o x from funext λx=>by rw[k],JL]at U
 have e3:=vr (o:= ["code"]) (c:= [("due",4)]) (t:=aq<|ag notInS (aa 0)<|ag aE (aa 1)<|kI 0) (q:=λc=> !(L.contains c)) (B:= [z<|.p<|cC L o R]) (l:= [o0,o1,z<|.p eg,o3,z<|.p<|cC L o R,o5,z<|.p<|Mine.cs c,D,D]) (H:=H) O λx=>cO<|br (aH<|sd O) (br (aH<|sd O) kE<|qT L o R H)<|Bi x L H
 obtain ⟨m,r2,i⟩:=Lg (L:=L) o H
 have hM:=CZ y o
 have tl:(wrT (bitsOf L) o).length<900:=by
  unfold wrT
  rw[List.length_append,List.length_append]
  have:(if o then [91,94]else [91]:List M).length≤2:=by cases o<;>decide
  show _+(_+1)<_;exact Ps i this
 have t8: ∀c∈wrT (bitsOf L) o,c<128:=by
  intro c hc
  unfold wrT at hc
  have: ∀c∈(if o then [91,94]else [91]:List M),c<128:=by cases o<;>decide
  rcases List.mem_append.mp hc with hc|hc
  ·exact this c hc
  ·rcases List.mem_append.mp hc with hc|hc
   ·exact r2 c hc
   ·rw[List.mem_singleton.mp hc];decide
 have e4:ax (aq (ag aE (aa 4) (kI 1))) (ag addS (ag addS (kS [91,94]) (ao ke (ae (aa 7) nilA))) (kS [93])) (ag addS (ag addS (kS [91]) (ao ke (ae (ag aE (aa 4) (kI 0)) nilA))) (kS [93])) [o0,o1,z (.p eg),o3,z (.p (cC L o R)),o5,z (.p (Mine.cs c)),z (.p (iL (cn.filter λc=> !(L.contains c)))),D] H= .ok (.p (.str (wrT (bitsOf L) o))) H:=by
  unfold wrT
  generalize lrT (hatL (bitsOf L) o)=u at m i⊢
  generalize hatL (bitsOf L) o=a at m hM
  subst hM
  cases o with
  |false=>exact dq (cO<|br (aH<|sd O) kE<|qS L false R H) (fb (sd O)<|br (br kE (bH (aI (br (aH<|sd O) kE<|qT L false R H) a8) m)<|h_<|sd<|by show 1+_≤_;exact Pr i) kE<|h_<|sd<|by rw[List.length_append];show (1+_)+1≤_;exact Pq i)
  |true=>exact dq (cO<|br (aH<|sd O) kE<|qS L true R H) (fJ (sd O)<|br (br kE (bH (aI (aH<|sd O) a8) m)<|h_<|sd<|by show 2+_≤_;exact Po i) kE<|h_<|sd<|by rw[List.length_append];show (2+_)+1≤_;exact Pn i)
 have e5:=uR t8 tl H
 have v:=MZ (o:=o) (λx=>by rw[←h];exact k x) H
 rw[←h]at v
 obtain ⟨s,C,p,j⟩:=(yp (B:=wrT (bitsOf L) o) ⟨by exact iP tl,λc hc=>by have:=t8 c hc;exact En this⟩ (K7 y o) (.inl O) H).1 _ O
 obtain rfl:C= []:=by
  cases C with
  |nil=>rfl
  |cons r C=>exact nomatch (p.rw_ r).mp (.head _)
 obtain rfl:s=c:=(zB p.inc p.pm).trans h.symm
 have j:fy [.p<|.bytes<|wrT (bitsOf L) o, .p eg] H= .ok (.p<|Mine.cs s) H:=j
 have w:=uC (P:=λb=> ∀o,sM b o=true) Db L o
 unfold sM at w
 rw[b_,b_,←h]at w
 obtain ⟨n,n1,n2,_,_⟩:=yz w.1.1
 have e8:=yu n1 (by exact yS n2) H
 have e9:=OF (rngs s) H
 generalize wrT (bitsOf L) o=tt at e4 e5 v j
 unfold tB
 refine gB (dq (cO<|br I (br (aH<|sd O) kE<|qT L o R H)<|LH L H)<|fb (sd O) fx) ?_
 refine gB (dq (cO<|br U (br (nn (aI (br (aH<|sd O) kE<|qS L o R H) a8) (sd O)<|sd<|hY O) kE O)<|LJ o H)<|fb (sd O) fx) ?_
 refine gB (c9 e3 O) ?_
 refine gB (c9 (bH (aI e4 a8) e5) O) ?_
 exact ON<|sE<|We (br (bH (aI (aH<|sd O) a8) v) (aH<|sd O)<|VL<|sd<|fD tt)<|fJ (sd O)<|br (iR (bH (aI (aH<|sd O)<|aI (aH<|sd O) a8) j) (sd O) (sd O) a8 e8) (iR (aH<|sd O) (sd O) (sd O) a8 e8) e9
end
end
section
theorem Ix{R C:Y bC}(c:R.Nodup)(b:R.length<64)(a:SO C)(h: ∀r,r∈C↔r∈R)(H:Y af):ol [.p<|tL R] H= .ok (.p<|tL C) H:=by
 obtain ⟨f,U,s,e⟩:=Cy R b
 obtain rfl:f=C:=SO.ext ⟨s,U.nodup_iff.mpr c⟩ a λr=>U.mem_iff.trans (h r).symm
 show (ni<|R.map bL).elim Mine.R.err _=_
 rw[e];rfl
theorem Oi{cs:List J}(w:cs.length<900){a:M}(ha:a≤10)(l:List J):tA [some<|.p<|iL l,some<|.lbl 0,some<|.p eg,none,none,none,none,none,none] [dk cs a]=Q:=by
 obtain ⟨I,t,v,g1,ga,U,s,S,wd⟩:=Vm w a (by exact Pl ha)
 have n:t.length<900:=by exact Pk U
 have ob: ∀B:List M,(∀c∈B,c<128)→B.length<900→iu B:=λB h1 h2=>⟨by exact iP h2,λc hc=>by have:=h1 c hc;exact En this⟩
 rw[VB]
 refine gB (Ct (bH (aI (aH<|sd O)<|aI kE a8) g1) (sd O) O) ?_
 show i4 _ _ _ _ [some<|.p<|iL l,some<|.lbl 0,some<|.p eg,some<|.p<|.str t,some<|.p<|eB v,none,none,none,none] [dk cs (I:M)]=Q
 generalize [dk cs (I:M)]=H
 have p0:=AB v H
 cases v with
 |none=>
  obtain ⟨x,x1,x2,x3⟩:=(yp (ob t s n) S (.inl O) H).2 O
  refine GC (cO<|br (aH<|sd O) kE p0) (aI (bH (aI (aH<|sd O) a8)<|uR s n H)<|aI (aH<|sd O) a8) ?_
  exact Io x3 ⟨x1,x2,by exact iP n⟩
 |some u=>
  obtain ⟨L,o,R⟩:=u
  obtain ⟨hL,hN,hS⟩:=wd _ O
  have g: ∀c∈32::t,c<128:=λc hc=>by
   rcases List.mem_cons.mp hc with rfl|hc
   ·decide
   ·exact s c hc
  have h:(32::t).length<900:=by show t.length+1<_;exact Pj U
  obtain ⟨c,C,b,e⟩:=(yp (ob _ g h) S (.inr O) H).1 _ O
  have p1:addS (.p<|.str [32]) (.p<|.str t) H= .ok (.p<|.str<|32::t) H:=h_ (sd<|by show 1+_≤_;exact Ph n)
  have k:=wC L o R H
  have q:=yd R H
  refine GD (cO<|br (aH<|sd O) kE p0) ?_
  have tb:=λo3 o5=>VA (o:=o) (R:=R) (c:=c) (o0:=some<|.p<|iL l) (o1:=some<|.lbl 0) (o3:=o3) (o5:=o5) (H:=H) hL b.inc b.pm b.len
  have G: ∀r,r∈C↔r∈R:=b.rw_
  cases j:C with
  |nil=>
   obtain rfl:R= []:=by
    cases R with
    |nil=>rfl
    |cons r R=>exact nomatch j▸(G r).mpr (.head _)
   have m:iU oK (aa 5) [some<|.p<|iL l,some<|.lbl 0,some<|.p eg,some<|.p<|.str t,some<|.p<|cC L o [],some<|.p<|Mine.cs c,none,none,none] H= .ok (.p<|.bool N) H:=O
   rw[j]at e
   have e:fy [.p<|.bytes<|32::t, .p eg] H= .ok (.p<|Mine.cs c) H:=e
   refine gB (c9 (bH (aI (bH (aI (br kE (aH<|sd O) p1) a8)<|uR g h H)<|aI (aH<|sd O) a8) e) O) ?_
   refine gB (dq (t:=N) (cO<|br m (br (br (aH<|sd O) kE k) (nn a8 (sd O)<|sd<|by decide) q) O)<|fb (sd O) fx) ?_
   refine gB (dq (nB (cO<|br (br (aH<|sd O) kE k) (nn a8 (sd O)<|sd<|by decide) q)<|fb (sd O) O)<|fb (sd O) fx) ?_
   refine gB (c9 (dq (cO<|br (br (aH<|sd O) kE k) (nn a8 (sd O)<|sd<|by decide) q)<|fb (sd O)<|aH<|sd O) O) ?_
   exact tb _ _
  |cons r f=>
   have hR:R.isEmpty=N:=by
    cases R with
    |nil=>exact nomatch (G r).mp (j▸ .head _)
    |cons _ _=>rfl
   rw[hR]at q
   have y:=Ix hN (by exact Pf hS) b.so G H
   rw[j]at y
   rw[j]at e
   have e:fy [.p<|.bytes<|32::t, .p eg] H= .ok (.p<|bM c<|r::f) H:=e
   have m:iU oK (aa 5) [some<|.p<|iL l,some<|.lbl 0,some<|.p eg,some<|.p<|.str t,some<|.p<|cC L o R,some<|.p<|bM c<|r::f,none,none,none] H= .ok (.p<|.bool Q) H:=O
   have p6:aF 10 (.p<|bM c<|r::f) H= .ok (.p<|tL<|r::f) H:=O
   have p7:aF 9 (.p<|bM c<|r::f) H= .ok (.p<|Mine.cs c) H:=O
   have p9:(r::f).length≤27:=j▸b.rl
   have p8:lW [.p<|tL<|r::f] H= .ok (.p<|tL<|r::f) H:=aw (by rw[List.length_map];exact Pe p9)
   have p:=LG (r::f) H
   generalize r::f=C2 at e m y p6 p7 p8 p
   refine gB (c9 (bH (aI (bH (aI (br kE (aH<|sd O) p1) a8)<|uR g h H)<|aI (aH<|sd O) a8) e) O) ?_
   have A:=br (br (aH (loc:= [some<|.p<|iL l,some<|.lbl 0,some<|.p eg,some<|.p<|.str t,some<|.p<|cC L o R,some<|.p<|bM c C2,none,none,none]) (i:=4) (H:=H)<|sd O) kE k) (nn a8 (sd O)<|sd<|by decide) q
   refine gB (dq (t:=N) (cO<|br m A O)<|fb (sd O) fx) ?_
   refine gB (dq (nB (cO A)<|fJ (sd O)<|nB (cO<|br (bH (aI (sF (aH<|sd O) p6) a8) p8) (bH (aI (br (aH<|sd O) kE k) a8) y) p)<|fb (sd O) O)<|fb (sd O) fx) ?_
   refine gB (c9 (dq (cO A)<|fJ (sd O)<|sF (aH<|sd O) p7) O) ?_
   exact tb _ _
theorem Z4(l:Y J)(b:l.length≤63):zL [.p<|iL l] []=Q:=by
 show (decide (1=1)&&vT [z<|.p<|iL l,D,D,D,D,D,D,D,D] [])=Q
 rw[Kc b λa c=>Oi (by rw[bc,mT];exact Ep) c l];rfl
end
end
section
theorem jX{α β:Type}{l:Y α}{f g:α→β}(h:l.map f=l.map g){x:α}(a:x∈l):f x=g x:=List.map_inj_left.mp h x a
theorem V8(k:Y ay)(s:SharedT):(nV k s).In s.abs.heap:=by
 intro a o e
 obtain ⟨b,_,c⟩:=List.mem_filterMap.mp<|A2 e
 cases h:Nat.blt b s.n with
 |false=>rw[h]at c;cases c
 |true=>
  rw[h]at c
  obtain ⟨l,f,g⟩:=pu.mp c
  obtain ⟨m,i,j⟩:=fE.mp g
  cases j
  exact(abs_get (hY h) f).trans i
theorem sh{K:Frag}{h:bB}{n:ay}{x:an}{m:an→d T}{r:d T}(X:K.In h)(e:nsIn K n x=some r)(b:h.Ns n m):m x=r:=by
 obtain ⟨o,f,t,j,l,u,p⟩:=b
 delta nsIn at e
 cases g:K.lookup n with
 |none=>rw[g]at e;cases e
 |some s=>
  obtain rfl:=aY<|(X _ _ g).symm.trans j
  obtain ⟨c,k,q,v⟩:=s
  cases l
  rw[g]at e
  rw[←p]
  show (f.find? λe=>e.key.isStr x).map (·.val)=r
  rw[←Array.find?_toList]
  cases i:f.toList.find? λe=>e.key.isStr x with
  |some q=>exact aY ((aR (λa:d fe=>(match a with
   |some e=>some<|some e.val
   |none=>if f.toList.any (·.refKey)then none else some none:d<|d T)) i).symm.trans e)
  |none=>
   have e:(if f.toList.any (·.refKey)then none else some none:d<|d T)=some r:=(aR (λa:d fe=>(match a with
    |some e=>some<|some e.val
    |none=>if f.toList.any (·.refKey)then none else some none:d<|d T)) i).symm.trans e
   by_cases q:f.toList.any (·.refKey)=Q
   ·rw[aw q]at e;cases e
   ·rw[az q]at e;exact aY e
theorem OB{o:Obj}{f:FuncData}(h:AH o=z f):o.data= .func f:=by
 delta AH at h
 cases e:o.data<;>rw[e]at h<;>first|(cases h;done)|exact aR _ (aY h)
theorem OC{o:Obj}{vs:aQ T}(h:AI o=z vs):o.data= .fields vs:=by
 delta AI at h
 cases e:o.data<;>rw[e]at h<;>first|(cases h;done)|exact aR _ (aY h)
theorem N0{v:T}{a:ay}(h:G_ v=z a):v= .ref a:=by cases v<;>first|(cases h;done)|exact aR _ (aY h)
theorem NT{v:T}{a:an}(h:G9 v=z a): ∃t,v= .str a t:=by cases v<;>first|(cases h;done)|exact⟨_,aR (Value.str · _) (aY h)⟩
theorem VF:l_.all (λp=> !(fP p.1).isCoroutine&& !(fP p.1).isGenerator)=Q:=by kernel_rfl
theorem O_(i j:M)(h:atN i=atN j):i=j:=by
 have b: ∀k,17≤k→(atN k).cps.size=k:=λk I=>by
  unfold atN
  rw[n4 I]
  show (cX k 0).toArray.size=k
  rw[iA,wU]
 have s: ∀k,k<17→(atN k).cps.size<17:=by decide+kernel
 have c: ∀i,i<17→ ∀j,j<17→atN i=atN j→i=j:=by decide+kernel
 by_cases e:i<17
 ·by_cases a:j<17
  ·exact c i e j a h
  ·have:=b j (by exact vd a);have:=s i e;rw[h]at this;exact Pd a (by assumption) this
 ·by_cases a:j<17
  ·have:=b i (by exact vd e);have:=s j a;rw[←h]at this;exact Pc e (by assumption) this
  ·rw[←b i (by exact vd e),←b j (by exact vd a),h]
def AD(w:cH):P→J
 | .str s=>(strKind pwH w).hash<|cJ s
 | .int i=>(intKind pwH w).hash i
 |_=>0
def f0:Fz:=λa=>if a=729 then z nH else D
def mD(w:cH)(os:jb)(K:Frag)(a:bB)(m q:an→d T)(r:a.get? eJ≠D):Wd:=⟨pwH,w,⟨atN,fo,AD w,kQ⟩,a,os,f0,m,q,K,r⟩
section
variable{w:cH}{os:jb}{K:Frag}{base:bB}{mg mb:an→d T}{sm:base.get? eJ≠D}(c:AP K)(X:K.In base)
include c X
theorem vz{p:M×M}(hpH:p∈l_):kw (mD w os K base mg mb sm) (ir p.1) (lj p.1) (fP p.1) (fO p.1) p.2∧typeIn K (.ref<|ir p.1)=z (.type "function"):=by
 have e: ∀u S,vF K u S p=gF u p:=λu S=>jX (c.f u S) hpH
 have l:=jj.mp VF p hpH
 rw[b_,eS,eS]at l
 obtain ⟨U,k,f,m,j⟩: ∃c k f m,K.lookup (ir p.1)=z ⟨c,k, .func f,m⟩:=by
  obtain ⟨o,b,h⟩:=pu.mp<|e (λ_=> .none) ⟨pwH,w.params⟩
  obtain ⟨f,a,_⟩:=fE.mp h
  obtain ⟨c,k,q,m⟩:=o
  obtain rfl:q= .func f:=OB a
  exact⟨_,_,_,_,b⟩
 have g: ∀u S,(U,f.body,f.scope,f.globals,f.builtins,f.closure,Eh K f.code f.qualname,peek K S<|bindArgs f ⟨(dO p.2).map u,[]⟩)=(ra "function",FuncBody.stmts<|lj p.1,fP p.1,fU,nZ,([]:Y<|an×ay),Q,z<|(fO p.1).zip<|(dO p.2).map u++cX ((fO p.1).length-p.2) dN):=λu S=>by
  have:=e u S
  unfold vF at this
  rw[j]at this
  exact aY this
 have n:=g (λ_=> .none) ⟨pwH,w.params⟩
 simp only[pq]at n g
 obtain ⟨x,A,B,C,G,H,I,_⟩:=n
 have cr:base.CodeRec f.code f.qualname:=by
  obtain ⟨v,b,h⟩:=pu.mp<|eq_of_beq I
  obtain ⟨vs,a,h4⟩:=pu.mp b
  obtain ⟨o,h5,h6⟩:=pu.mp a
  obtain ⟨cc,h7,h8⟩:=pu.mp h5
  obtain ⟨t,rfl⟩:=NT h
  exact⟨cc,o,vs,t,N0 h7,X _ _ h8,OC h6,h4⟩
 refine⟨⟨f,_,X _ _ j,O,A,B,C,G,H,cr,l.1,l.2,λs r st hu=> ?_⟩,?_⟩
 ·have y:r=(dO p.2).map λi=>r.getD i .none:=by
   refine List.ext_getElem (by rw[bc,pE,hu]) λi b h=> ?_
   rw[List.getElem_map,List.getElem_range,gx,de b];rfl
  rw[y]
  exact kp_binds (X.keeps st) λS=>(g _ S).2.2.2.2.2.2.2
 ·show (K.lookup<|ir p.1).map (·.cls)=_
  rw[j,x];rfl
end
end
section
theorem De: ∀i,i<14→bootBuiltins (gu i)=z (tj i)∧gu i≠"__name__":=by
 iterate 14 refine jo ?_ ⟨by kernel_rfl,by decide⟩
 exact om
theorem Mx(h:ig C i=Q):C∈ [1,2,3,4,5,6]:=by
 have all: ∀C,C<7→ig C i=Q→C∈ [1,2,3,4,5,6]:=by
  iterate 6 refine jo ?_ (λ_=>by decide)
  exact jo om λh=>nomatch h
 exact(Nat.lt_or_ge C 7).elim (λq=>all C q h) λq=>by
  obtain ⟨k,rfl⟩: ∃k,C=k+7:=⟨C-7,(bk q).symm⟩
  exact nomatch h
section
variable{w:cH}{os:jb}{K:Frag}{base:bB}{mg mb:an→d T}{sm:base.get? eJ≠D}(c:AP K)(X:K.In base)
include c X
theorem JS(g:base.Ns fU mg)(a:i<17): ∃u,mg (qR i)=z u∧PR (⟨atN,fo,AD w,kQ⟩:Tb) f0 (ti i) u:=by
 have e:mg (qR i)=z (AL.getD i .none):=sh X (jX (eD (eD (eD (eD c.g).2).2).2).1<|jh.mpr a) g
 refine⟨_,e,?_⟩
 have all: ∀i,i<17→PR (⟨atN,fo,AD w,kQ⟩:Tb) f0 (ti i) (AL.getD i .none):=by
  refine jo ?_ ⟨729,0,_,O,O,_,_,O,⟨_,O⟩,_,_,O,⟨_,O⟩,_,_,O,⟨_,O⟩,_,_,O,⟨_,O⟩,_,_,O,⟨_,O⟩,_,_,O,⟨_,O⟩,_,_,O,⟨_,O⟩,_,_,O,⟨_,O⟩,O⟩
  iterate 16 refine jo ?_ (by first|exact⟨_,O⟩|exact⟨by decide,_,O⟩)
  exact om
 exact all i a
theorem OP(h:C∈ [1,2,3,4,5,6]):vC K C=gC C:=jX c.c h
theorem O3:sx<|mD w os K base mg mb sm:=by
 have e:=c.c0
 unfold wi g0 at e
 simp only[pq]at e
 obtain ⟨f,g,j,l,G,i,h,a⟩:=e
 refine⟨⟨"BadSet","BadSet",51,[.ref 39],[.ref 39, .type "Exception", .type "BaseException", .type "object"],Q,[],[],N,D,D,some<|.ref 43,D,some<|.str "BadSet" 231,some<|.str "BadSet" 239,some<|.bool Q,"Exception.__new__","Exception","Exception.__init__",_,X _ _ a,PySem.F.excBase_Exception,by decide,by decide,by decide,by decide⟩,?_,?_⟩
 ·exact⟨f,g,j,l,⟨_,52,39,by unfold clsIn;show (match K.lookup 52 with|some ⟨_,_, .cls b,_⟩=>some b|_=>D)=_;rw[a],O⟩,G⟩
 ·obtain ⟨k1,k2⟩:=vz (w:=w) (os:=os) (mg:=mg) (mb:=mb) (sm:=sm) c X (p:=(1,2)) (by decide+kernel)
  exact⟨36,_,_,_,_,_,_,fP 1,h,k2,k1,O,O,O,by decide,O,O⟩
theorem VG(g:base.Ns fU mg)(b:base.Ns nZ mb)(G:base.NoLimit)(U: ∀x:an,x≠"__name__"→mb x=bootBuiltins x):Pg (mD w os K base mg mb sm) ir:=by
 have a:dD<|mD w os K base mg mb sm:=⟨g,b,G,U,X,O_⟩
 have o:=c.g
 have f:=c.m
 have I:=c.k
 unfold vG gG at o
 unfold vM gM at f
 unfold vK gK at I
 obtain ⟨g1,o⟩:=eD o
 obtain ⟨g2,o⟩:=eD o
 obtain ⟨g3,o⟩:=eD o
 obtain ⟨g4,g5⟩:=eD o
 obtain ⟨m1,f⟩:=eD f
 obtain ⟨m2,f⟩:=eD f
 obtain ⟨m3,f⟩:=eD f
 obtain ⟨m4,f⟩:=eD f
 obtain ⟨m5,f⟩:=eD f
 obtain ⟨m6,m7⟩:=eD f
 obtain ⟨k1,I⟩:=eD I
 obtain ⟨k2,I⟩:=eD I
 obtain ⟨k3,I⟩:=eD I
 obtain ⟨k4,I⟩:=eD I
 obtain ⟨k5,I⟩:=eD I
 obtain ⟨k6,I⟩:=eD I
 obtain ⟨k7,I⟩:=eD I
 obtain ⟨k8,I⟩:=eD I
 obtain ⟨k9,I⟩:=eD I
 obtain ⟨k10',k11'⟩:=eD I
 have r: ∀i s,oZ i s=Q→(i,s)∈l_:=λi s h=>by
  unfold oZ at h
  rw[b_,Bool.or_eq_true,dM,b_,dM,dM]at h
  obtain ⟨u,h2⟩:=h
  have A:i<103:=by unfold f8 at u;rw[b_,fC]at u;exact u.1
  unfold l_
  rcases h2 with rfl|⟨rfl,rfl⟩
  ·exact List.mem_append_left _ (cY.mpr ⟨i,jS.mpr ⟨jh.mpr A,by rw[u];rfl⟩,rfl⟩)
  ·exact wO _ (.head _)
 have n: ∀i,f8 i=Q→(i,(fO i).length)∈l_:=λi h=>r i _ (by unfold oZ;rw[h,fD];rfl)
 have kf: ∀i,f8 i=Q→gE (mD w os K base mg mb sm) (.ref<|ir i):=λi h=>JN (vz c X<|n i h).1
 have ty: ∀i,f8 i=Q→typeIn K (.ref<|ir i)=z (.type "function"):=λi h=>(vz (w:=w) (os:=os) (mg:=mg) (mb:=mb) (sm:=sm) c X<|n i h).2
 have H: ∀C,C∈ [1,2,3,4,5,6]→_:=λC h=>by
  have:=OP c X h
  unfold vC gC at this
  simp only[pq]at this
  exact this
 have B: ∀C,C=1∨C=4→FV (mD w os K base mg mb sm) C:=λC h=>by
  have y:C∈ [1,4]:=by rcases h with rfl|rfl<;>decide
  have m:C∈ [1,2,3,4,5,6]:=by rcases h with rfl|rfl<;>decide
  have q:=jX k1 y
  simp only[pq]at q
  exact⟨q.1,(H C m).1,q.2.1,k2,k3,q.2.2⟩
 refine⟨a,λC i h=> ?_,⟨λ_=>rfl,λ_=>rfl⟩,O3 c X,λ_=>rfl,λi l=>JS c X g l,λi l=> ?_,λi h=> ?_,λi l=> ?_,kf,λi s h=>(vz c X<|r i s h).1,λC k h=> ?_,λC l=> ?_,λC k h=> ?_,?_,λt b' h=> ?_,λt b' h=> ?_,k9⟩
 ·have q:=H C (Mx h)
  exact⟨q.1,q.2.1,q.2.2.1,q.2.2.2.1,q.2.2.2.2.1,λj hj=>jX q.2.2.2.2.2.2.2<|fg.mp hj⟩
 ·exact .inr ⟨sh X (jX g3<|jh.mpr l) g,(U _ (De i l).2).trans (De i l).1⟩
 ·have A:i<103:=by
   unfold oG f8 at h
   rw[b_,b_,fC]at h;exact h.1.1
  exact .inl<|sh X (jX g1<|jS.mpr ⟨jh.mpr A,h⟩) g
 ·exact .inl<|sh X (jX g2<|jh.mpr l) g
 ·have v:(C,k)∈wt:=fg.mp h
  have m:C∈ [1,2,3,4,5,6]∧f8 k=Q:=(show ∀p∈wt,p.1∈ [1,2,3,4,5,6]∧f8 p.2=Q by decide+kernel) _ v
  exact⟨(H C m.1).2.2.2.2.2.2.1,jX m1 v,ty k m.2⟩
 ·by_cases h0:C=0
  ·subst h0
   have e:=c.c0
   unfold wi g0 at e
   simp only[pq]at e
   exact Ca a e.2.2.2.2.2.1
  ·have m:C∈ [1,2,3,4,5,6]:=by
    rcases (by exact zq585 l h0:C=1∨C=2∨C=3∨C=4∨C=5∨C=6)with rfl|rfl|rfl|rfl|rfl|rfl<;>decide
   exact Ca a (H C m).2.2.2.2.2.1
 ·have v:(C,k)∈wq:=fg.mp h
  have m:f8 k=Q∧ ∀i∈kQ C,atN i≠fG (eN k):=(show ∀p∈wq,f8 p.2=Q∧ ∀i∈kQ p.1,atN i≠fG (eN p.2) by decide+kernel) _ v
  exact⟨jX m2 v,ty k m.1,λi l=>m.2 i<|fg.mp l⟩
 ·exact⟨m3,⟨_,_,_,_,m4,m5,m6⟩,rfl⟩
 ·cases t with
  |none=>cases h;exact⟨trivial,k4⟩
  |bool=>cases h;exact⟨trivial,k5⟩
  |int=>cases h;exact⟨trivial,k6⟩
  |str=>cases h;exact⟨trivial,k7⟩
  |tup=>cases h;exact⟨trivial,k8⟩
  |inst C=>cases h
 ·cases t with
  |inst C=>
   have h:(if C=4 then z Q else if C=1 then z N else none)=z b':=h
   by_cases q:C=4
   ·subst q;cases h;exact⟨B 4<|.inr rfl,k10'⟩
   ·rw[az q]at h
    by_cases q1:C=1
    ·subst q1;cases h;exact⟨B 1<|.inl rfl,k11'⟩
    ·rw[az q1]at h;cases h
  |_=>cases h
end
end
section
noncomputable def wy(w:cH)(os:jb):au:=⟨boot_heap w.params,Array.mk [],boot_drawn,boot_toks,os⟩
theorem N3(w:cH)(os:jb):topGo mM pwH w 11 (z<|.ref 6) 12 (wy w os) (topStub pwH)=z ((th w os).abs,⟨denote mM<|.body (lJ pwH) ln, .body (lJ pwH) ln,hpH,[topFrame hpH]⟩):=by kernel_rfl
theorem Ln(P:Params):((boot_heap P).isNs fU&&(#[]:aQ GenState).size==0,(boot_heap P).objs.size,(boot_heap P).nsMap fU "__annotations__")=(Q,11,z<|.ref 6):=by kernel_rfl
theorem KW(w:cH)(os:jb):segRun mM pwH w 11 (z<|.ref 6) 1 1 (th w os).abs (blockOf (lJ pwH) ln (.body (lJ pwH) ln) hpH [topFrame hpH])=z (.next,(th w os).abs, .body (lJ pwH) ln,hpH):=by kernel_rfl
theorem Jw{b:i9→d hV}{p:dX}{w:cH}{n:M}{a:d T}(s:au)(c:Code)(q f:Pos):topRun b p w n a 2 s ⟨doneF .next,c,q,[topFrame f]⟩=z s:=by
 obtain ⟨h,g,k,t,o⟩:=s
 rfl
theorem LB(w:cH): ∃os,fencedOpening mM pwH w (12+(1+(5089+2)))=z (wy w os):=by
 have:=boot_open (p:=pwH) (N:=12+(1+(5089+2))) (by kernel_rfl) (by decide) (λs=>by rfl) w
 obtain ⟨⟨h,j,a,k,os⟩,e,c⟩:=fE.mp this
 obtain ⟨rfl,rfl,rfl,rfl⟩:h=boot_heap w.params∧j=Array.mk []∧a=boot_drawn∧k=boot_toks:=by simpa using c
 exact⟨os,e⟩
theorem IX{t:i9→d hV}{p:dX}{w:cH}{e:M}{c s:au}{m:M}{a:d T}(b:(c.heap.isNs fU&&c.gens.size==0)=true)(h:c.heap.objs.size=m)(f:c.heap.nsMap fU "__annotations__"=a)(g:topRun t p w m a e c (topStub p)=z s)
  (i:(staticsOk (importedModules p.main.body) c.heap s.heap&&namesBound p s.heap&&gensDone s&&laidKept c.heap s.heap)=true):topFrom t p w e c=z s:=by
 subst h f
 unfold topFrom
 rw[b,g]
 show (match _ with|true=>z s|false=>D)=_
 rw[i]
theorem Ku{p q:dX}{l:Y an}{a:au→ak}{α:Type}{f:au→α}{b:cH→α}{e:M}(h: ∀w,∃c s,fencedOpening mM p w e=z c∧topFrom mM p w e c=z s∧openSeen q l (importedModules p.main.body) a Q s=openGood q l∧f s=b w):LeftO p q l a f b e:=λw=>by
 obtain ⟨c,s,g,i,j,k⟩:=h w
 unfold openEnds
 rw[g]
 show (topFrom mM p w e c).map _=_
 rw[i]
 exact aR z<|Prod.ext j k
theorem Lm{α β:Type}{o:d α}{f:α→β}{b:β}(h:o.map f=z b){a:α}(c:o=z a):f a=b:=by subst c;exact aY h
theorem Lr{w:cH}{os:jb}{a:SharedT}{q:Pos}(b:zQ w os=z (.next,a, .body (lJ pwH) ln,q)):topRun mM pwH w 11 (z<|.ref 6) (12+(1+(5089+2))) (wy w os) (topStub pwH)=z a.abs:=by
 have s:segRun mM pwH w 11 (z<|.ref 6) 1 5089 (th w os).abs HE=z (.next,a.abs, .body (lJ pwH) ln,q):=by
  refine segRun_of ?_
  rw[Fast.te10110043849684766642,Fast.te14364793385576792824]
  exact b
 refine go_top (N3 w os)<|piece_block (KW w os) ?_
 have:=piece_app (rest:= []) s (piece_nil<|Jw (a.abs) _ q hpH)
 rwa [ft]at this
theorem LN:LeftO pwH qL yD (λ_=>Q) (λs=> ∃K,K.In s.heap∧AP K) (λ_=>True)<|12+(1+(5089+2)):=Ku λw=>by
 obtain ⟨os,e⟩:=LB w
 obtain ⟨r,h,all⟩:=fE.mp<|L4 w os
 have l:=λu S=>Lm (Ou w os u S) h
 obtain ⟨f,a,c,q⟩:=r
 simp only[pq]at all
 obtain ⟨rfl,rfl,g,i,k,m,H,I,j⟩:=all
 have b:=Ln w.params
 simp only[pq]at b
 exact⟨wy w os,a.abs,e,IX b.1 b.2.1 b.2.2 (Lr h) g,i,eq_true ⟨nV nA a,V8 nA a,l,k,m,H,I,j⟩⟩
end
end
section
theorem Ce{t:Tb}{F:Fz}: ∀{vs:Y T} {x:Y J},IntsAre vs x→be t F (x.map .int) vs
 |_,_, .nil=>rfl
 |_,_, .cons _ _ h=>⟨_,_,O,⟨_,O⟩,Ce h⟩
theorem Z2(law': ∀l:Y J,l.length≤63→zL [.p<|.list<|l.map .int] []=Q):qM.Holds:=by
 refine holds_law Lq λ_=>holds_openX LN (XP:=λ_ _=>True) (λ_ _=>trivial) (λ_ _ _ _ _=>trivial) ZQ ZP ZO (λs _=>recFacts_nil O) O ‹_› ZN ZM d6 ?_
 intro w s₀ f B mb G y a o pm cd doc' dV kV h1 h2 h3 h4 h5 hg args vals' as L u t hrd' hwl' hlo'
 obtain ⟨K,X,c⟩:=of_eq_true y
 have A:K.In f.heap:=X.keeps L.keeps
 wrow_args u t hrd' hwl' hlo'
 rename_i C _ _ _ _ _ _ _ g j _ hL _ _ _ hI _ hlen0' _
 have hlen0':C.length≤63:=by exact Pb hlen0'
 obtain ⟨hat',hsz'⟩:=PySem.W.X.script_at L
 have hob':=PySem.W.X.script_obj L hL
 have hm:(K.lookup eJ).isSome=Q:=aR (·.2.2.2.2.2.2) c.m
 have hg1':sA.map (λk=>nsIn K fU<|fG<|eN k)=sA.map λk=>z<|z<|.ref<|ir k:=aR Prod.fst c.g
 have n:K.lookup 729=z nH:=aR (·.2.2.2.2) c.g
 obtain ⟨so,hso'⟩:=mR.mp hm
 have x:f.heap.get? eJ≠D:=by rw[A _ _ hso'];intro q;cases q
 have P:=VG (w:=w) (os:=f.os) (sm:=x) c A G.T.g G.T.b G.T.nolimit G.T.builtins
 have r:B "law"=z (.ref<|ir 102):=sh A (jX hg1'<|show 102∈sA by decide+kernel) G.T.g
 have I:dL.name="law":=by kernel_rfl
 rw[I,r]at h5
 obtain rfl:ir 102=a:=ph<|aY h5
 have ne:g≠729:=by
  rw[hat']
  exact jQ<|cI<|X _ _ n
 let g0:Gh:=⟨λb=>if b=729 then z nH else if b=g then z {cls:= .type "list",data:= .seq j.toArray}else D,[]⟩
 have R:aN (mD w f.os K f.heap B mb x) g0 [] f:=by
  refine⟨λb o h=> ?_,λb o h=> ?_,O,λk cc p h=>(by cases h),jg,λb i=>(nomatch i),λb i=>(nomatch i),λb i=>(nomatch i),λb o h=>h,hg,O⟩
  ·have h:(if b=729 then z nH else D)=z o:=h
   show (if b=729 then z nH else _)=z o
   by_cases q:b=729
   ·rw[aw q]at h⊢;exact h
   ·rw[az q]at h;cases h
  ·have h:(if b=729 then z nH else if b=g then z {cls:= .type "list",data:= .seq j.toArray}else D)=z o:=h
   by_cases q:b=729
   ·rw[aw q]at h
    rw[q,←aY h]
    exact A _ _ n
   ·rw[az q]at h
    by_cases q2:b=g
    ·rw[aw q2]at h
     rw[q2,←aY h];exact hob'
    ·rw[az q2]at h;cases h
 have S:dK (mD w f.os K f.heap B mb x) 47 callerA [] g0 f:=⟨O,O,by decide,by decide,trivial,λenv0' he=>nomatch he⟩
 have V:eC (mD w f.os K f.heap B mb x).tb g0 [.p<|.list<|C.map .int] [.ref g]:=by
  refine⟨_,_,O,?_,O⟩
  show PR _ _ (.list<|C.map .int) (.ref g)
  exact⟨g,0,j.toArray,O,by show (if g=729 then z nH else if g=g then z _ else D)=_;rw[az ne,aw O],Ce hI⟩
 refine bq (Ld P callerA [] g0 [] f _ _ S R V<|law' C hlen0') (λv s' ⟨hv,U⟩=> ?_) λe s' h=>h.elim
 subst hv
 exact⟨.inl ⟨.bool Q, .bool Q,[],O,λ_=>rfl, .bool Q,by kernel_rfl,λ_=>⟨jg,λb i=>nomatch i⟩⟩, .of_keep U.st,U.os, .of_eq U.gens⟩
end
end
end
end Internal.Mine
theorem PySem.Challenge.cw_nt0074_01_holds : PySem.Challenge.rw_nt0074_01.Holds := by
  exact Internal.Mine.Z2 Internal.Mine.Z4
