import PyProof.Rows.All
import OpenK.KLine
import PyProof.AutoIntOpsIf
import PyProof.StrLawsIn
import PyProof.NeKinds
import PyProof.SliceMore
import PyProof.SliceStr2
import PyProof.StrLaws
import PyProof.StrBlockI
import OpenK.KExp
import OpenK.KMore
import KE.KPop
import PyProof.Rows.ExtendIn
import KE.KIsAll
import PyProof.CollectIter
import PyProof.Rows.StrJoinStr
import KE.KRevIter
import PyProof.DictDisplay
import PyProof.DictTable
import PyProof.TupleIter
import PyProof.StrWalks
import PyProof.RangeFor
import PyProof.Rows.Range3
import PyProof.Draws
import PyProof.EnumMake
import PyProof.EnumFor
import PyProof.CompFree
import PyProof.RulesMatch
import PyProof.CompMap
import PyProof.AssignAttr
import PyProof.CompUse
import PyProof.Rows.TupAssign
import PyProof.StationsW
import PyProof.Cells
import PyProof.DefCall
import PyProof.ExcBaseAll.Exception
import OpenK.KCls
import PyProof.RulesAs
import PyProof.ZipIter
import PyProof.ListNew
import OpenK.XOpen
import OpenK.KInv
import Lean
import PySem.Challenge.RW_pq1041_01
set_option linter.all false
set_option tactic.hygienic false
set_option compiler.extract_closed false
set_option genSizeOf false
set_option genInjectivity false
set_option bootstrap.genMatcherCode false
set_option autoImplicit true
set_option Elab.async false
set_option maxRecDepth 100000
namespace Mine.Internal
open Decidable renaming decide→cH
open PySem renaming Frame→HH,OsState→GQ,intKind→GL,Sem→GH,storeName→EY,seqIndex?→EN,updateSeq→EF,compareOp→EA,cellsFrom→DY,wpAny_typeOf→DQ,GenState→DO,BindsTo→DH,standAt→DA,Model→CI,cLine→CA,step→BW,wpAny_Name→BP,denote→BO,bltViewBooted→AV,wpAny_attempt→AR,swappedStores→AN,behindInMarks→AI,specialOf→zW,DictEntry→zO,newFunctionEnv→zN,loadIfAlive→zI,typeOf→zA,Const→yZ,backToKw→yX,cStatics→yV,constantsAlone→yT,bindArgs→yM,wpAny_isTrue_Compare1→yC,wpAny_allTrue_Or_cons→xX,wpAny_nextOf_list_end→xV,wpAny_allTrue_And_cons→wS,meets_dict_get_default→wP,wpAny_lookBehind→wJ,seqItems?→wF,pastItsLine_dict→vU,wpAny_list_append_plain→vT,noteFrame→vQ,wpAny_assignInOrder_more→vD,plainId_quiet→vA,assign→uS,wpAny_assignInOrder_none→uP,wpAny_newObj_type→uI,wpAny_Return_some→uH,valueAt→uG,wpAny_assign_Name→uE,intKeyPairs→uD,slot_list_getitem→uB,wpAny_setField→tM,typeLookup→sV,isInstance→sU,swapsWith→rZ,getMethod→rW,typeLookup_type→rF,pyIter→rE,wpAny_updateSeq→rC,wpAny_specialOf→qT,codeAny_call_builtin→qP,callWith→qN,strIterType→qJ,keywordEach→qF,Comprehension→qD,call_meets→pY,builtinsNs→pW,call→pN,pyNext→pM,IsPair→oZ,Builtin→oW,wpAny_pyIter_slot→oV,Scope→oP,wpAny_nextOf_list_item→oO,wpAny_seqItems→oN,code→oG,treeTable→oD,wpAny_callSpecial?_slot→nZ,wpAny_Constant_int→nX,assignEach→nR,Result→nP,letOwnedTupleGo→nI,codeAny_builtin→nH,wpAny_execs_nil→nG,Keyword→nF,sizeLine→nE,ZipApart→nA,backTo→mW,typeIs_str→mD,wpAny_call→lX,CmpOp→lS,getMethod_builtin→lP,foldedSetIterable→lN,builtinLookup_eq_fast→lG,ExceptHandler→lA,wpAny_Constant_str→kE,Thread→kB,isSubtype→jV,letTemporaryGo→jU,BoolOp→jO,wpAny_truthy_bool→jL,Operator→iX,wpAny_call_entry→iU,wpAny_execs_cons→iP,codeAny→iM,rawInt→iJ,clipAt→iF,compEnvC→iA,wpAny_Call_Name_kw→hJ,stack→hG,plainObj_wpAny_Assign_Attribute→gY,Obj→gV,recursionLimit→gR,wpAny_field→gD,sysModules→gC,FuncData→fY,Pos→fX,wpAny_standAt→fO,wpAny_items_nil→eW,Addr→eI,sizeLine_eq→eH,wpAny_mono→dY,Stmt→dW,wpAny_holding→dM,Env→dL,starEach→dJ,wpAny_items_cons→dH,mainGlobals→dG,NameKind→dA,Around→cW,Params→cQ,World→cK,again→bZ,Str→bP,Program→bK,Heap→bG,model→aY,wpAny→aU,Expr→aR,wpAny_pure→aM,Shared→aI,Value→aH,wpAny_bind→aE
open Prod.mk renaming inj→dU
open PySem.Builtin.Int renaming intBits→mX
open PySem.SeqAt.RcAt renaming lists→HR,lists_lengths→tE
open PySem.callAny renaming viaDunder→DJ
open LawfulMonad renaming pure_bind→rU
open PySem.SeqAt.RcNeAt renaming lists_lengths→yR
open PySem.Around renaming under_plainId→mH
open List.cons renaming inj→lB
open PySem.Code renaming quiet_builtin→BF
open PySem.Unicode renaming lowerOf→GD,lowerAt→kQ
open PySem.Keeper renaming frame→CH,machine→yS,boundFrame→uO
open PySem.Obj renaming isFreed_of_fields→pJ,mapFields→lD,data_mapFields→kN,mapSeq→iW,putName_eq→gM,putNameByArray→eS
open Nat renaming log2_lt→FV,lt_succ_of_le→CR,le_of_lt_succ→CO,sub_self→CJ,add_comm→BZ,lt_of_le_of_lt→BH,sub_le→BD,lt_or_eq_of_le→BC,add_sub_cancel'→AA,mul_le_mul_left→zY,sub_succ_lt_self→yO,sub_eq_zero_of_le→yB,le_of_sub_eq_zero→xS,le_add_left→xI,min_self→xF,succ_pos→wW,le_of_lt→wV,min_eq_right→vW,le_add_right→vS,le_of_pred_lt→uK,le_of_succ_le→uJ,le_succ_of_le→uC,add_le_add→tO,succ→sJ,beq_refl→rL,le_antisymm→rD,not_lt_zero→qY,sub_le_sub_right→qO,not_succ_le_self→qG,le_of_not_le→pV,lt_trans→oY,lt_of_succ_lt_succ→oQ,le_of_add_le_add_left→mU,le_succ→lW,lt_succ_of_lt→lR,lt_of_succ_lt→lM,zero_add→kO,ne_of_beq_eq_false→kM,ne_of_gt→kI,not_lt→kA,succ_le_succ→jT,sub_eq_of_eq_add→jK,lt_succ_self→iQ,ble→iL,lt_irrefl→hU,min_eq_left→gX,blt→gE,not_succ_le_zero→fM,ne_of_lt→eG,zero_le→dN,lt_of_lt_of_le→cO,beq→cB,le_trans→bN,le_of_eq→bM,eq_of_beq_eq_true→bI,le_refl→aZ,le_of_ble_eq_true→aO
open PySem.StrLaws renaming found_one→DL,glued_eq_join→yF
open PySem.F renaming entry_extend_loop→AG,slot_enumerate_iter→yD,slot_list_pop→xK,slot_range_iterator_iter→tP,slot_tuple_iterator_iter→sQ,slot_dict_get→rA,slot_str_join→qU,slot_zip_next→nO,plain_extend_loop→jS
open Option renaming map→HO,none→FR,any_eq_true→BM,bind_eq_some_iff→jX,isNone_iff_eq_none→jH,any→bR,map_eq_some_iff→bO,isSome_iff_exists→aS,none→aB,some→aA
open Iff renaming rfl→dO
open PySem.Pin renaming globalOf_eq→xJ
open PySem.Value renaming builtin→pZ,type→nQ,ref→iR,none→gO
open PySem.Builtin.Range renaming small→rI,rangeSize→jY
open PyProof renaming noPylong_of_log2→uV
open PySem.W.OpenLaw renaming wellSaid→EW
open PySem.W.WData renaming int→wH
open PySem.W.WShape renaming hasItems→GC
open PySem.Heap.SameBut renaming update→dQ
open ToString renaming toString→vN
open Pure renaming pure→iB
open Bool renaming eq_false_iff→uL,or_eq_true→nN,or_false→lC,or_eq_false_iff→jJ,not_eq_true'→fF,and_eq_true→fB,false_eq_true→eV,or_eq_true_iff→eK,and_eq_true_iff→dC,false_ne_true→cP,false→aG,true→aC
open List renaming range'→FD,map_reverse→EZ,map_fst_zip→DX,take_add_one→DV,find?_append→DU,length_range→DT,getElem?_nil→DI,nodup_append→DD,getElem?_set→DB,ext_getElem?→CP,reverse_cons→CG,any_eq_false→BX,getElem?_inj→BS,getElem?_drop→BN,forIn_toArray→BL,zip_nil_right→AY,any_cons→AT,sum_cons→AQ,length_reverse→AD,filterMap_cons→zZ,length_dropLast→zL,drop_take→yW,drop_zero→yL,getElem?_append→yK,contains_eq_mem→yH,getElem?_toArray→xZ,mem_iff_getElem?→xW,eq_nil_or_concat→xU,concat_eq_append→xO,nodup_cons→xM,zip_append→xL,find?_cons→xH,map_nil→xB,drop_eq_nil_of_le→wZ,any_eq_true→wD,getElem?_cons_zero→wC,getElem?_replicate→vV,set_comm→vF,getElem?_append_left→tX,nodup_nil→tI,zip_cons_cons→sR,mem_filterMap→sG,getElem?_concat_length→rR,flatten_append→rJ,of_mem_zip→qZ,forall_mem_cons→qR,mem_flatten→pQ,getElem_mem→pO,range_succ_eq_map→pE,flatMap_cons→oX,forIn_nil→oS,find?_cons_of_pos→oM,length→oB,length_nil→nL,map_cons→nB,not_mem_nil→mP,drop_length→mM,take_length→mI,mem_range→mF,take_append_drop→lF,all_cons→lE,mem_filter→kX,length_zip→kW,find?_cons_of_neg→kK,take_of_length_le→kG,eq_nil_of_length_eq_zero→jZ,cons_append→jW,find?_some→jI,getElem?_eq_none→iY,map_map→iN,forIn_cons→iI,length_eq_zero_iff→iH,drop_eq_getElem_cons→hB,getElem?_map→gF,length_take→fW,nil_append→fP,mem_of_getElem?→fL,isEmpty_iff→fC,map_append→eY,isEmpty_eq_false_iff→eR,range→eM,mem_append_right→eJ,size_toArray→eE,length_drop→eA,mem_map→dF,getElem?_eq_some_iff→dE,mem_of_find?_eq_some→dD,mem_append→cZ,mem_append_left→cX,lookup_cons→cM,replicate→cJ,getElem?_eq_getElem→cI,mem_cons→cD,mem_singleton→bU,append_assoc→bJ,length_map→bF,all_eq_true→bE,append_nil→bB,mem_cons_self→aW,mem_cons_of_mem→aV,length_cons→aN,length_append→aF
open Option.some renaming inj→bH
open PyProof.Rows renaming subscriptTail→AW,tail_any→zH,dflt→pG
open PySem.DictEntry renaming refKey→EG
open PySem.Calls renaming Name_function_global→tF
open PySem.NameKind renaming cell→mZ,free→gJ
open Array renaming mk→HZ,size_push→FY,size_mapIdx→DP,size_modify→CW,mem_toList_iff→yG,getElem?_eq_none→xA,toList_push→uN,getElem?_toList→lH,getElem?_eq_getElem→jE,getElem?_eq_some_iff→gN,length_toList→gB
open LawfulBEq renaming eq_of_beq→bC
open PySem.Builtin.List renaming listItems→wX,listLengthHint→rM,listSameRef→jP,listExtendWith→fG
open Eq renaming refl→rQ
open Nat.le renaming dest→yY
open PySem.W renaming Frag→IK,lookIn→GX,staticsOk→FA,peek→EU,typeIn→EK,specialIn→EB,instObj→DK,namesBound→BJ,boot_drawn→AZ,topFrame→yJ,emptyDict→vR,boot_o_0→sL,hasDictIn→rT,looks_findIn→rS,keepIn→qV,boot_heap→pP,Looks→lQ,behindTheImports→iS,callWith_of→iC,findIn→fK
open ForInStep renaming yield→kU
open PySem.W.Looks renaming of_peek→eZ
open Inhabited renaming default→qA
open Int renaming le_refl→FN,le_natAbs→AJ,toNat_of_nonneg→AH,not_lt→wT,eq_ofNat_of_zero_le→wE,fdiv_eq_ediv_of_nonneg→tL,fmod_eq_emod_of_nonneg→sY,lt_of_le_of_lt→sC,ofNat_lt→oK,natCast_add→nK,le_of_lt→mT,ne_of_gt→mR,ofNat_le→mQ,emod_nonneg→kZ,emod_lt_of_pos→kF,le_trans→hO,toNat_natCast→gP,natCast_nonneg→gL
open PySem.Builtin.Str renaming glued→DM,tooLong→AB,occurrences→oA,strSliceIndices→lO
open PySem.Heap renaming get?_push_ne→uM,size_push→iE,SameBut→fQ,get?_update_self→cY,get?_update_other→cS,lt_size→cN,get?_push_size→bQ,get?_push_of_some→aK
open Nat.succ renaming inj→mK
open PySem.Heap.Ns renaming of_isNs→GF
open PySem.Builtin.SmallTypes renaming nextOf→jD,ownedTupleIsFree→gI
open PySem.Heap.IsRevIter renaming typeIs→xP
open PySem.Shared renaming asleep_of_life→yE
open Ne renaming symm→jA
open PySem.Str renaming length→BG,empty→cG,ofString→aP
open Lean in def tN(k:String)(l:List Syntax):Syntax:=.node .none (if k=="n"then`null else if k=="g"then`group else match k.splitOn "."with
 |""::r=>r.foldl .str `Lean.Parser.Term|r=>r.foldl .str `Lean.Parser.Tactic) l.toArray
open Lean in def tA(s:String):Syntax:=.atom .none s
open Lean in def tH:Syntax:=tN ".hygienicLParen" [tA "(",.node .none `hygieneInfo #[.ident .none "".toRawSubstring .anonymous []]]
open Lean in def tS(l:List Syntax):Syntax:=tN "tacticSeq" [tN "tacticSeq1Indented" [tN "n" (l.intersperse (tA ";"))]]
open Lean in def tB(k:String)(l:List Syntax):Syntax:=if k=="S"then tS l else if k=="P"then tN "paren" [tA "(",tS l,tA ")"]else if k=="F"then tN "first" [tA "first",tN "n" (l.map λ x=>tN "g" [tA "|",tS [x]])]else if k=="R"then tN "refine" (tA "refine"::l)else if k=="E"then tN "exact" (tA "exact"::l)else if k=="I"then tN "intro" [tA "intro",tN "n" l]else if k=="L"then tN "clear" [tA "clear",tN "n" l]else if k=="X"then tN "tacticTry_" [tA "try",tS l]else if k=="B"then tN ".byTactic" [tA "by",tS l]else match l with
 |[]=>tN k l|x::r=>if k=="A"then tN ".app" [x,tN "n" r]else if k=="C"then tN "case" [tA "case",tN "n" [tN "caseArg" [.node .none `Lean.binderIdent #[x],tN "n" []]],tA "=>",tS r]else if k=="D"then tN "case'" [tA "case'",tN "n" [tN "caseArg" [.node .none `Lean.binderIdent #[x],tN "n" []]],tA "=>",tS r]else if k=="Y"then tN ".paren" [tH,x,tA ")"]else if k=="T"then tN ".typeAscription" [tH,x,tA ":",tN "n" r,tA ")"]else if k=="W"then tN "tactic_<;>_" [x,tA "<;>",r.headD x]else if k=="K"then tN "cases" [tA "cases",tN "n" [tN "elimTarget" [tN "n" [],x]],tN "n" [],tN "n" []]else if k=="Q"then tN "rcases" [tA "rcases",tN "n" [tN "elimTarget" [tN "n" [],x]],tN "n" (tA "with"::r)]else if k=="O"then tN "obtain" [tA "obtain",tN "n" r,tN "n" [],tN "n" [tA ":=",tN "n" [x]]]else tN k l
open Lean in def tG(sf:String)(as:List Syntax)(ws:List String):Syntax:=
 let st:=ws.foldl (λ(st:List (String×List Syntax))w=>let c:=w.front;let r:=(w.drop 1).toString;if c=='{' then(r,[])::st else match st with
 |(k,l)::st=>if c=='}' then match st with
 |(k',l')::st=>(k',tB k l.reverse::l')::st|[]=>[]else
 let x:Syntax:=if c=='$' then as.getD r.toNat! .missing else if c=='%' then mkIdent r.toName else if c=='&' then mkIdent (r++sf).toName else if w=="_"then tN ".hole" [tA "_"]else if w=="?_"then tN ".syntheticHole" [tA "?",tA "_"]else if c=='?' then tN ".syntheticHole" [tA "?",mkIdent (r++sf).toName]else tA w;(k,x::l)::st|[]=>[]) [("",[])];match st with
 |(_,x::_)::_=>x|_=>.missing
open Lean in def tpl(as:List Syntax)(s:String):MacroM Syntax:=do return tG (toString (<-read).currMacroScope) as (s.splitOn " ")
def tC(f:Nat->String)(n:Nat):String:=(eM n).foldl (λ s i=>s++f i) ""
open Lean in def tLoc(s:Syntax):MacroM Syntax:=do
 let n:=s.getNumArgs-1;if s[n].getNumArgs>0 then Macro.throwUnsupported
 tpl [s.setArg n (tN "n" [tN "location" [tA "at",tN "locationHyp" [tN "n" [mkIdent `t_]]]]),s.setArg n (<-`(tactic|unfold x at⊢)).raw[2]] "{F {tacticUnhygienic_ unhygienic {S $0 } } $1 }"
open Lean in def tIn(x:Syntax)(w:String):MacroM Syntax:=do
 let xs:=x[1].getSepArgs;let n:=xs.size;if !x.isOfKind `Lean.Parser.Term.anonymousCtor||n<2 then Macro.throwUnsupported
 let a(i m:Nat)(s:String):=tC (λ j=>(if j==0 then"$"else s++"$")++toString (i+j+1)++" ") m;tpl (x::xs.toList) ("{F "++tC (λ j=>let c:=n-j;let as:=if j==0 then a 0 n ""else a 0 (c-1) ""++"{.anonymousCtor ⟨ {n "++a (c-1) (j+1) ", "++"} ⟩ } ";tC (λ k=>if k>0&&c-k<=(if k<3 then 6 else 4)then"{"++w++" {A %i"++toString k++"_"++toString (c-k)++" "++as++"} } "else"") (min 5 c)) (n-1)++"{"++w++" {Y $0 } } }")
open Lean in def tW(l:List String)(a:String):String:=let r:=l.foldl (λ(r:Nat×String×String)x=>let n:=r.1;if x.front.isUpper&&x !="C"then let g(i:Nat):String:=let q:="q"++toString (n+i);let z:=(x.toList.drop i).headD ' ';" {C &"++q++" "++(if z=='R' then"{F {E {A %Eq.refl {Y {A %some _ } } } } {E %rfl } }"else if z=='O' then"$0"else if z=='A' then"{F {assumption assumption } {E %rfl } }"else"{F {assumption assumption } {omega omega {optConfig {n } } } }")++" }";(n+x.length,r.2.1++tC (λ i=>" ?q"++toString (n+i)) x.length,r.2.2++tC g x.length)else if x=="_"then(n,r.2.1++" _",r.2.2)else(n,r.2.1++" {.namedArgument ( %"++x++" := ?"++x++" ) }",r.2.2)) (0,a,"");" {P {withReducible with_reducible {S {R {A"++r.2.1++" ?_ } } } }"++r.2.2++" }"
/-! what is known of things, taken apart: printed by gen_e.py -/
theorem e0_2{A B:Prop}{G:Prop}(h:A/\B)(f:A->B->G):G:=by obtain⟨a,b⟩:=h;exact f a b
theorem e0_3{A B C:Prop}{G:Prop}(h:A/\B/\C)(f:A->B->C->G):G:=by obtain⟨a,b,c⟩:=h;exact f a b c
theorem e0_4{A B C D:Prop}{G:Prop}(h:A/\B/\C/\D)(f:A->B->C->D->G):G:=by obtain⟨a,b,c,d⟩:=h;exact f a b c d
theorem e0_5{A B C D E:Prop}{G:Prop}(h:A/\B/\C/\D/\E)(f:A->B->C->D->E->G):G:=by obtain⟨a,b,c,d,i⟩:=h;exact f a b c d i
theorem e0_6{A B C D E F:Prop}{G:Prop}(h:A/\B/\C/\D/\E/\F)(f:A->B->C->D->E->F->G):G:=by obtain⟨a,b,c,d,i,j⟩:=h;exact f a b c d i j
theorem e0_7{A B C D E F I:Prop}{G:Prop}(h:A/\B/\C/\D/\E/\F/\I)(f:A->B->C->D->E->F->I->G):G:=by obtain⟨a,b,c,d,i,j,k⟩:=h;exact f a b c d i j k
theorem e0_8{A B C D E F I J:Prop}{G:Prop}(h:A/\B/\C/\D/\E/\F/\I/\J)(f:A->B->C->D->E->F->I->J->G):G:=by obtain⟨a,b,c,d,i,j,k,l⟩:=h;exact f a b c d i j k l
theorem e1_1{A:b->Prop}{G:Prop}(h:∃x,A x)(f:∀x,A x->G):G:=by obtain⟨x,a⟩:=h;exact f x a
theorem e1_2{A B:c->Prop}{G:Prop}(h:∃x,A x/\B x)(f:∀x,A x->B x->G):G:=by obtain⟨x,a,b⟩:=h;exact f x a b
theorem e1_3{A B C:d->Prop}{G:Prop}(h:∃x,A x/\B x/\C x)(f:∀x,A x->B x->C x->G):G:=by obtain⟨x,a,b,c⟩:=h;exact f x a b c
theorem e1_4{A B C D:e->Prop}{G:Prop}(h:∃x,A x/\B x/\C x/\D x)(f:∀x,A x->B x->C x->D x->G):G:=by obtain⟨x,a,b,c,d⟩:=h;exact f x a b c d
theorem e1_5{A B C D E:e->Prop}{G:Prop}(h:∃x,A x/\B x/\C x/\D x/\E x)(f:∀x,A x->B x->C x->D x->E x->G):G:=by obtain⟨x,a,b,c,d,i⟩:=h;exact f x a b c d i
theorem e2_1{A:b->c->Prop}{G:Prop}(h:∃x y,A x y)(f:∀x y,A x y->G):G:=by obtain⟨x,y,a⟩:=h;exact f x y a
theorem e2_2{A B:c->d->Prop}{G:Prop}(h:∃x y,A x y/\B x y)(f:∀x y,A x y->B x y->G):G:=by obtain⟨x,y,a,b⟩:=h;exact f x y a b
theorem e2_3{A B C:d->e->Prop}{G:Prop}(h:∃x y,A x y/\B x y/\C x y)(f:∀x y,A x y->B x y->C x y->G):G:=by obtain⟨x,y,a,b,c⟩:=h;exact f x y a b c
theorem e2_4{A B C D:e->g->Prop}{G:Prop}(h:∃x y,A x y/\B x y/\C x y/\D x y)(f:∀x y,A x y->B x y->C x y->D x y->G):G:=by obtain⟨x,y,a,b,c,d⟩:=h;exact f x y a b c d
theorem e2_5{A B C D E:e->g->Prop}{G:Prop}(h:∃x y,A x y/\B x y/\C x y/\D x y/\E x y)(f:∀x y,A x y->B x y->C x y->D x y->E x y->G):G:=by obtain⟨x,y,a,b,c,d,i⟩:=h;exact f x y a b c d i
theorem e2_6{A B C D E F:e->g->Prop}{G:Prop}(h:∃x y,A x y/\B x y/\C x y/\D x y/\E x y/\F x y)(f:∀x y,A x y->B x y->C x y->D x y->E x y->F x y->G):G:=by obtain⟨x,y,a,b,c,d,i,j⟩:=h;exact f x y a b c d i j
theorem e2_7{A B C D E F I:e->g->Prop}{G:Prop}(h:∃x y,A x y/\B x y/\C x y/\D x y/\E x y/\F x y/\I x y)(f:∀x y,A x y->B x y->C x y->D x y->E x y->F x y->I x y->G):G:=by obtain⟨x,y,a,b,c,d,i,j,k⟩:=h;exact f x y a b c d i j k
theorem e3_1{A:b->d->c->Prop}{G:Prop}(h:∃x y z,A x y z)(f:∀x y z,A x y z->G):G:=by obtain⟨x,y,z,a⟩:=h;exact f x y z a
theorem e3_2{A B:c->e->d->Prop}{G:Prop}(h:∃x y z,A x y z/\B x y z)(f:∀x y z,A x y z->B x y z->G):G:=by obtain⟨x,y,z,a,b⟩:=h;exact f x y z a b
theorem e3_3{A B C:d->g->e->Prop}{G:Prop}(h:∃x y z,A x y z/\B x y z/\C x y z)(f:∀x y z,A x y z->B x y z->C x y z->G):G:=by obtain⟨x,y,z,a,b,c⟩:=h;exact f x y z a b c
theorem e3_4{A B C D:e->i->g->Prop}{G:Prop}(h:∃x y z,A x y z/\B x y z/\C x y z/\D x y z)(f:∀x y z,A x y z->B x y z->C x y z->D x y z->G):G:=by obtain⟨x,y,z,a,b,c,d⟩:=h;exact f x y z a b c d
theorem e3_5{A B C D E:e->j->g->Prop}{G:Prop}(h:∃x y z,A x y z/\B x y z/\C x y z/\D x y z/\E x y z)(f:∀x y z,A x y z->B x y z->C x y z->D x y z->E x y z->G):G:=by obtain⟨x,y,z,a,b,c,d,i⟩:=h;exact f x y z a b c d i
theorem e3_6{A B C D E F:e->k->g->Prop}{G:Prop}(h:∃x y z,A x y z/\B x y z/\C x y z/\D x y z/\E x y z/\F x y z)(f:∀x y z,A x y z->B x y z->C x y z->D x y z->E x y z->F x y z->G):G:=by obtain⟨x,y,z,a,b,c,d,i,j⟩:=h;exact f x y z a b c d i j
theorem e4_1{A:b->d->c->M->Prop}{G:Prop}(h:∃x y z u,A x y z u)(f:∀x y z u,A x y z u->G):G:=by obtain⟨x,y,z,u,a⟩:=h;exact f x y z u a
theorem e4_2{A B:c->e->d->M->Prop}{G:Prop}(h:∃x y z u,A x y z u/\B x y z u)(f:∀x y z u,A x y z u->B x y z u->G):G:=by obtain⟨x,y,z,u,a,b⟩:=h;exact f x y z u a b
theorem e4_3{A B C:d->g->e->M->Prop}{G:Prop}(h:∃x y z u,A x y z u/\B x y z u/\C x y z u)(f:∀x y z u,A x y z u->B x y z u->C x y z u->G):G:=by obtain⟨x,y,z,u,a,b,c⟩:=h;exact f x y z u a b c
theorem e4_4{A B C D:e->i->g->M->Prop}{G:Prop}(h:∃x y z u,A x y z u/\B x y z u/\C x y z u/\D x y z u)(f:∀x y z u,A x y z u->B x y z u->C x y z u->D x y z u->G):G:=by obtain⟨x,y,z,u,a,b,c,d⟩:=h;exact f x y z u a b c d
theorem e4_5{A B C D E:e->j->g->M->Prop}{G:Prop}(h:∃x y z u,A x y z u/\B x y z u/\C x y z u/\D x y z u/\E x y z u)(f:∀x y z u,A x y z u->B x y z u->C x y z u->D x y z u->E x y z u->G):G:=by obtain⟨x,y,z,u,a,b,c,d,i⟩:=h;exact f x y z u a b c d i
theorem e5_1{A:b->e->d->M->c->Prop}{G:Prop}(h:∃x y z u v,A x y z u v)(f:∀x y z u v,A x y z u v->G):G:=by obtain⟨x,y,z,u,v,a⟩:=h;exact f x y z u v a
theorem i1_1{A:b->Prop}(x:b)(a:A x):∃x,A x:=⟨x,a⟩
theorem i1_2{A B:c->Prop}(x:c)(a:A x)(b:B x):∃x,A x/\B x:=⟨x,a,b⟩
theorem i1_3{A B C:d->Prop}(x:d)(a:A x)(b:B x)(c:C x):∃x,A x/\B x/\C x:=⟨x,a,b,c⟩
theorem i1_4{A B C D:e->Prop}(x:e)(a:A x)(b:B x)(c:C x)(d:D x):∃x,A x/\B x/\C x/\D x:=⟨x,a,b,c,d⟩
theorem i1_5{A B C D E:e->Prop}(x:e)(a:A x)(b:B x)(c:C x)(d:D x)(i:E x):∃x,A x/\B x/\C x/\D x/\E x:=⟨x,a,b,c,d,i⟩
theorem i1_6{A B C D E F:e->Prop}(x:e)(a:A x)(b:B x)(c:C x)(d:D x)(i:E x)(j:F x):∃x,A x/\B x/\C x/\D x/\E x/\F x:=⟨x,a,b,c,d,i,j⟩
theorem i2_1{A:b->c->Prop}(x:b)(y:c)(a:A x y):∃x y,A x y:=⟨x,y,a⟩
theorem i2_2{A B:c->d->Prop}(x:c)(y:d)(a:A x y)(b:B x y):∃x y,A x y/\B x y:=⟨x,y,a,b⟩
theorem i2_3{A B C:d->e->Prop}(x:d)(y:e)(a:A x y)(b:B x y)(c:C x y):∃x y,A x y/\B x y/\C x y:=⟨x,y,a,b,c⟩
theorem i2_4{A B C D:e->f->Prop}(x:e)(y:f)(a:A x y)(b:B x y)(c:C x y)(d:D x y):∃x y,A x y/\B x y/\C x y/\D x y:=⟨x,y,a,b,c,d⟩
theorem i2_5{A B C D E:e->f->Prop}(x:e)(y:f)(a:A x y)(b:B x y)(c:C x y)(d:D x y)(i:E x y):∃x y,A x y/\B x y/\C x y/\D x y/\E x y:=⟨x,y,a,b,c,d,i⟩
theorem i2_6{A B C D E F:e->f->Prop}(x:e)(y:f)(a:A x y)(b:B x y)(c:C x y)(d:D x y)(i:E x y)(j:F x y):∃x y,A x y/\B x y/\C x y/\D x y/\E x y/\F x y:=⟨x,y,a,b,c,d,i,j⟩
theorem i3_1{A:b->d->c->Prop}(x:b)(y:d)(z:c)(a:A x y z):∃x y z,A x y z:=⟨x,y,z,a⟩
theorem i3_2{A B:c->e->d->Prop}(x:c)(y:e)(z:d)(a:A x y z)(b:B x y z):∃x y z,A x y z/\B x y z:=⟨x,y,z,a,b⟩
theorem i3_3{A B C:d->f->e->Prop}(x:d)(y:f)(z:e)(a:A x y z)(b:B x y z)(c:C x y z):∃x y z,A x y z/\B x y z/\C x y z:=⟨x,y,z,a,b,c⟩
theorem i3_4{A B C D:e->g->f->Prop}(x:e)(y:g)(z:f)(a:A x y z)(b:B x y z)(c:C x y z)(d:D x y z):∃x y z,A x y z/\B x y z/\C x y z/\D x y z:=⟨x,y,z,a,b,c,d⟩
theorem i4_1{A:b->d->c->M->Prop}(x:b)(y:d)(z:c)(u:M)(a:A x y z u):∃x y z u,A x y z u:=⟨x,y,z,u,a⟩
theorem i4_2{A B:c->e->d->M->Prop}(x:c)(y:e)(z:d)(u:M)(a:A x y z u)(b:B x y z u):∃x y z u,A x y z u/\B x y z u:=⟨x,y,z,u,a,b⟩
theorem i4_3{A B C:d->f->e->M->Prop}(x:d)(y:f)(z:e)(u:M)(a:A x y z u)(b:B x y z u)(c:C x y z u):∃x y z u,A x y z u/\B x y z u/\C x y z u:=⟨x,y,z,u,a,b,c⟩
theorem i4_4{A B C D:e->g->f->M->Prop}(x:e)(y:g)(z:f)(u:M)(a:A x y z u)(b:B x y z u)(c:C x y z u)(d:D x y z u):∃x y z u,A x y z u/\B x y z u/\C x y z u/\D x y z u:=⟨x,y,z,u,a,b,c,d⟩
@[elab_as_elim]theorem rwl{c:Sort _}{a b:c}{F:c->Prop}(h:a=b)(k:F b):F a:=by subst h;exact k
@[elab_as_elim]theorem rwr{c:Sort _}{a b:c}{F:c->Prop}(h:b=a)(k:F b):F a:=by subst h;exact k
theorem on1{b:Type _}{a:b}{G:Prop}(h:aB=aA a):G:=by injection h
theorem on2{b:Type _}{a:b}{G:Prop}(h:aA a=aB):G:=by injection h
theorem bft{G:Prop}(h:aG=aC):G:=by injection h
theorem btf{G:Prop}(h:aC=aG):G:=by injection h
noncomputable def Hn(_:Prop):Prop:=True
theorem tag{P:Prop}:Hn P:=trivial
noncomputable abbrev TK(G:Prop):Prop:=Hn G->G
noncomputable abbrev UU(P Q:Prop):Prop:=Hn P->P->Q
theorem nne{a b:Nat}{G:Prop}(h:a=b)(e:cB a b=aG):G:=absurd h (kM e)
theorem fy{d:Type}:∀{l:List d},l.length=3->∃a b c,l=[a,b,c]|[a,b,c],_=>⟨a,b,c,rfl⟩
theorem RB{c:Type}:∀{l:List c},l.length=2->∃a b,l=[a,b]|[a,b],_=>⟨a,b,rfl⟩
open Lean in
local macro_rules (kind:=Lean.Parser.Tactic.obtain)|s=>do
 let mut q:=s[1][0]for _ in[0:4]do if q.getKind !=`Lean.Parser.Tactic.rcasesPat.tuple&&q.getNumArgs==1 then q:=q[0]
 let ls:=q[1].getSepArgs;let n:=ls.size;if q.getKind !=`Lean.Parser.Tactic.rcasesPat.tuple||n<2||n>16||s[2].getNumArgs>0 then Macro.throwUnsupported
 let h:=s[3][1][0]let post(i:Nat):String:=let l:=ls[i]!;let b:=l[0][0][0];let one:=l[0][0].getNumArgs==1&&l[1].getNumArgs==0;let k:=b.getKind;if one&&k==`Lean.Parser.Tactic.rcasesPat.one&&b[0].getId !=`rfl then"{I $"++toString (3*i+3)++" }"else if one&&k==`Lean.Parser.Tactic.rcasesPat.ignore then"{I %y_ }"else if one&&k==`Lean.Parser.Tactic.rcasesPat.tuple then"{P {I %u_ } {O %u_ $"++toString (3*i+2)++" } }"else"{P {I %u_ } {Q %u_ $"++toString (3*i+1)++" } }"let as:=ls.foldr (fun l t=>l::l[0]::l[0][0][0][0]::t) []let rest(i:Nat):String:="{P {I %u_ } {O %u_ {rcasesPatMed {n {rcasesPat.tuple ⟨ {n "++tC (fun j=>(if j==0 then"$"else", $")++toString (3*(i+j)+1)++" ") (n-i)++"} ⟩ } } } } }"let alts:=tC (fun j=>let c:=n-j;if c>9 then""else let r:=tC (fun y_=>"{W ") c++(if h.isIdent then"{X {L $0 } }"else"{skip skip }")++tC (fun i=>" "++(if j>0&&i+1==c then rest i else post i)++" }") c;tC (fun k=>if k+c !=1&&c-k≤[8,5,7,6,5,1].getD k 0 then"{P {R {A %e"++toString k++"_"++toString (c-k)++" $0 ?_ } } "++r++" } "else"") (min 6 c)) (n-1)tpl (h::as++[s[1][0]]) ("{F "++alts++"{Q $0 {rcasesPatLo $"++toString (3*n+1)++" {n } } } }")
open Lean in
local macro_rules (kind:=Lean.Parser.Tactic.rwSeq)|s=>do
 let rs:=s[2][1].getSepArgs;let as:=rs.foldr (fun r t=>r::r[1]::t) []let rv(i:Nat):=rs[i]![0].getNumArgs>0;let lo:=s[3].getNumArgs;if s[1][0].getNumArgs>0||(lo>0&&!s[3][0][1].isOfKind `Lean.Parser.Tactic.locationHyp)then Macro.throwUnsupported
 if lo>0&&(s[3][0][1][0].getNumArgs !=1||!s[3][0][1][0][0].isIdent)then Macro.throwUnsupported
 let f(i:Nat):String:=let a:="$"++toString (2*i+2);let w:="{rewriteSeq rewrite {optConfig {n } } {rwRuleSeq [ {n $"++toString (2*i+1)++" } ] } $0 } } ; ";if lo==0 then"{F {R {A %"++(if rv i then"rwr "else"rwl ")++a++" ?_ } } "++w else"{F {P {tacticHaveI__ haveI {.letConfig {n } } {.letDecl {.letIdDecl {.letId %x_ } {n } {n } := {.subst "++(if rv i then"{Y {A %Eq.symm "++a++" } }"else a)++" ▸ {n $"++toString (2*rs.size+1)++" } } } } } {L $"++toString (2*rs.size+1)++" } {revert revert {n %x_ } } {I $"++toString (2*rs.size+1)++" } } "++w;tpl (s[3]::as++[s[3][0][1][0][0]]) ("{P "++(tC f rs.size).replace "; " ""++"{X {P {withReducible with_reducible {S {tacticRfl rfl } } } } } }")
open Lean in
local macro_rules (kind:=Lean.Parser.Tactic.cases)|s=>do
 let h:=s[1][0][1]if h.isOfKind `Lean.Parser.Term.paren||s[2].getNumArgs>0 then Macro.throwUnsupported
 if s[3].getNumArgs>0 then return tN "induction" [tA "induction",s[1],tN "n" [],tN "n" [],s[3]]
 if !h.isIdent then Macro.throwUnsupported
 tpl [h,tN "elimTarget" [tN "n" [],h]] "{F {P {failIfSuccess fail_if_success {S {R {A %absurd {T $0 {A %Eq _ _ } } ?_ } } } } {F {induction induction {n $1 } {n } {n } {n } } {K {Y $0 } } } } {E {A %on1 $0 } } {E {A %on2 $0 } } {E {A %bft $0 } } {E {A %btf $0 } } {P {tacticHaveI__ haveI {.letConfig {n } } {.letDecl {.letIdDecl {.letId %e_ } {n } {n } := {A %Option.some.inj $0 } } } } {L $0 } {K %e_ } } {subst subst {n $0 } } {E {A %nne $0 %rfl } } {P {injection injection $0 {n } } {done done } } {P {injection injection $0 {n with {n %e_ %f_ %g_ } } } {K %e_ } {K %f_ } {K %g_ } } {P {injection injection $0 {n with {n %e_ %f_ } } } {K %e_ } {K %f_ } } {P {injection injection $0 {n with {n %e_ } } } {K %e_ } } {K {Y $0 } } }"
open Lean in
local macro_rules (kind:=Lean.Parser.Tactic.show)|s=>tpl [s[1]] "{R {T ?_ $0 } }"
open Lean in
local macro_rules (kind:=Lean.Parser.Term.show)|s=>do
 let f(s:Syntax)(k:Name):=(s.find? (·.isOfKind k)).isSome;let e:=s[2][1]if s[2].isOfKind `Lean.Parser.Term.byTactic' then tpl [s[1],tN ".byTactic" [tA "by",e]] "{T $1 $0 }"else if f s[1] `Lean.Parser.Term.hole then tpl [s[1],e] "{Y {.have have {.letConfig {n } } {.letDecl {.letIdDecl {.letId %this } {n } {n {.typeSpec : $0 } } := $1 } } ; %this } }"else if f e `Lean.Parser.Term.syntheticHole then tpl [s[1],e] "{T $1 $0 }"else tpl [s[1],e] "{T {B {E $1 } } $0 }"
open Lean in
local macro_rules (kind:=Lean.Parser.Tactic.tacticUnhygienic_)|s=>tpl [tN "paren" [tA "(",s[1],tA ")"]] "{P {R {A {T ?k {A %TK _ } } %tag } } {I %t_ } $0 {R {A {T ?u {A %UU _ _ } } %t_ ?_ } } {C &u {E {.fun fun {.basicFun {n _ %h } {n } => %h } } } } {L %t_ } }"
open Lean in
local macro_rules (kind:=Lean.Parser.Tactic.unfold)|s=>tLoc s
open Lean in
local macro_rules (kind:=Lean.Parser.Tactic.delta)|s=>tLoc s
open Lean in
local macro_rules (kind:=Lean.Parser.Tactic.dsimp)|s=>if s[3].getNumArgs>0&&s[1][0].getNumArgs==0 then tLoc s else Macro.throwUnsupported
open Lean in
local macro_rules (kind:=Lean.Parser.Tactic.rcases)|s=>do
 let h:=s[1][0][1]let ps:=s[2][1][0][0].getSepArgs;let n:=ps.size;if n<2||s[1].getNumArgs !=1||h.isOfKind `Lean.Parser.Term.paren then Macro.throwUnsupported
 let cl:=if h.isIdent then"{X {L $0 } } "else""let f(i:Nat):String:=let b:=ps[i]!;let k:=b.getKind;if k==`Lean.Parser.Tactic.rcasesPat.one&&b[0].getId !=`rfl then"{P "++cl++"{I $"++toString (i+n+1)++" } }"else if k==`Lean.Parser.Tactic.rcasesPat.tuple then"{P "++cl++"{I %w_ } {O %w_ {rcasesPatMed {n $"++toString (i+1)++" } } } }"else"{P "++cl++"{I %w_ } {Q %w_ {rcasesPatLo {rcasesPatMed {n $"++toString (i+1)++" } } {n } } } }"let y:=if n==2 then f 1 else"{P "++cl++"{I %w_ } {Q %w_ {rcasesPatLo {rcasesPatMed {n "++tC (fun j=>(if j==0 then"$"else"| $")++toString (j+2)++" ") (n-1)++"} } {n } } } }"tpl (h::ps.toList++ps.toList.map (·[0])++[s[2][1]]) ("{F {P {R {A %Or.elim $0 ?a ?b } } {D &b "++y++" } {D &a "++f 0++" } } {Q {Y $0 } $"++toString (2*n+1)++" } }")
open Lean in
local macro_rules (kind:=Lean.Parser.Tactic.exact)|s=>tIn s[1] "E"
open Lean in
local macro_rules (kind:=Lean.Parser.Tactic.refine)|s=>do
 let t:=s[1]let f:=t[0].getId.toString;if t.isOfKind `Lean.Parser.Term.app&&f.startsWith "itP_"&&t[1].getNumArgs==2 then tpl [t[1][0],t[1][1],t] ("{F "++tC (fun i=>"{R {A %"++["q_ite","q_tur","q_it","q_bol"].getD i ""++(f.drop 4).toString++" $0 $1 } } ") 4++"{R {Y $2 } } }")else tIn t "R"
section
open PySem PySem.W PyProof.Rows
/-! whole numbers: sums of what is known -/
theorem F0{l r:Nat}(e:l<=r:=by simp+arith):l<=r:=e
theorem F1{l r a b:Nat}(h:a<=b)(e:l+b<=r+a:=by simp+arith):l<=r:=Nat.le_of_add_le_add_right (bN e (Nat.add_le_add_left h r))
theorem F2{l r a b c d:Nat}(h:a<=b)(g:c<=d)(e:l+(b+d)<=r+(a+c):=by simp+arith):l<=r:=F1 (tO h g) e
theorem F3{l r a b c d m n:Nat}(h:a<=b)(g:c<=d)(f:m<=n)(e:l+(b+d+n)<=r+(a+c+m):=by simp+arith):l<=r:=F1 (tO (tO h g) f) e
theorem aj{m d n:Nat}(y:m<=n)(K:n<=m+d):m+(d-(m+d-n))=n:=by
 obtain⟨k,rfl⟩:=yY y;rw[Nat.add_sub_add_left,Nat.sub_sub_self (mU K)]
theorem Jg(n:Nat):((n+1:Nat):Int)-1=n:=Int.add_sub_cancel (n:Int) 1
theorem Gr{x:Int}{n:Nat}(h:x.natAbs<=n):-(n:Int)<=x/\x<=n:=⟨Int.neg_le_of_neg_le (hO AJ (mQ.mpr ((Int.natAbs_neg x).symm▸h))),hO AJ (mQ.mpr h)⟩
theorem lm{a n m:Nat}(h:a<=n)(e:iL n m=aC:=by rfl):a<=m:=bN h (aO e)
/-! abstract values, abstract objects, and how a heap bears them -/
inductive MV where|none|bool(b:Bool)|int(i:Int)|str(s:List Nat)|ref(a:Nat)|tup(l:List MV)|cst(a:Nat)
noncomputable def aX:Nat:=1048576
noncomputable def jG:Nat:=1048577
mutual noncomputable def VR(h:bG):MV->aH->Prop
 |.none,v=>v=.none|.bool b,v=>v=.bool b|.int i,v=>∃t,v=.int i t|.str s,v=>s.length<=aX/\∃t,v=.str ⟨s.toArray⟩ t|.ref a,v=>v=.ref a|.cst a,v=>v=.ref a|.tup l,v=>l.length<=aX/\∃a o Z n,v=.ref a/\h.get? a=aA o/\o.cls=.type "tuple"/\o.data=.seq Z n/\dK h l Z.toList noncomputable def dK(h:bG):List MV->List aH->Prop
 |[],Z=>Z=[]|m::k,Z=>∃v r,Z=v::r/\VR h m v/\dK h k r end
noncomputable def iO:List String:=["title","number","text","rows","by_text","car","cdr","mark","code","codes","things","word","irritants","limit","top","bottom","is_exact","value","start","end","precision","place","is_folded","state","tail","lexer","table","frames","is_written","radix","pieces","length","waiting","reason"]
noncomputable def fn(i:Nat):bP:=aP (iO[i]?.getD "?")
inductive MO where|inst(C:Nat)(fs:List (Nat×MV))|list(l:List MV)|sdict(es:List (List Nat×MV))
noncomputable abbrev MH:=Nat->Option MO
noncomputable def upd(Y:MH)(a:Nat)(o:MO):MH:=λ b=>if b=a then aA o else Y b
@[simp]theorem upd_same(Y:MH)(a:Nat)(o:MO):upd Y a o a=aA o:=if_pos rfl
theorem cE(Y:MH){a b:Nat}(o:MO)(h:b≠a):upd Y a o b=Y b:=if_neg h
theorem upd_some(Y:MH){a b:Nat}{o A:MO}(G:Y b=aA A)(c:Y a=aB):upd Y a o b=aA A:=by
 rw[cE];·exact G
 ·rintro rfl;rw[c]at G;cases G
noncomputable def pX:List (Nat×MV)->Nat->Option MV
 |[],_=>aB|(g,v)::r,f=>if g=f then aA v else pX r f
noncomputable def xR:List (Nat×MV)->Nat->MV->List (Nat×MV)
 |[],f,v=>[(f,v)]|(g,u)::r,f,v=>if g=f then(f,v)::r else(g,u)::xR r f v
theorem zP:∀(N:List (Nat×MV))(f g:Nat)(v:MV),pX (xR N f v) g=if g=f then aA v else pX N g:=by
 intro b;induction b with
 |nil=>
    intro f g v;by_cases h:f=g;·subst h;simp[xR,pX]
    ·have :¬g=f:=λ e=>h e.symm;simp[xR,pX,h,this]|cons c r a=>
    intro f g v;obtain⟨k,u⟩:=c;unfold xR;by_cases h:k=f
    · subst h;rw[if_pos rfl];unfold pX;by_cases q:k=g;·subst q;simp
      ·haveI :¬g=k:=λ e=>q e.symm;simp[q,this]
    · rw[if_neg h];unfold pX;rw[a f g v];by_cases q:k=g;·subst q;simp[h]
      ·simp[q]
noncomputable def tK(h:bG)(d:Nat)(N:List (Nat×MV)):Prop:=∃m,h.Ns d m/\(∃o,h.get? d=aA o/\o.cls=.type "dict"/\∃X n,o.data=.dict X n/\X.size<=N.length)/\(∀f v,f<iO.length->pX N f=aA v->∃u,m (fn f)=aA u/\VR h v u)/\(∀x,(∀f,f<iO.length->(pX N f).isSome->fn f≠x)->m x=aB)/\∀f v,pX N f=aA v->f<iO.length
structure fN where
 n:Nat
 prog:bK
 w:cK
noncomputable def BB(h:bG):List (List Nat×MV)->List (bP×aH)->Prop
 |[],f=>f=[]|e::X,f=>∃v r,f=(⟨e.1.toArray⟩,v)::r/\VR h e.2 v/\BB h X r
noncomputable def uA(b:fN)(h:bG)(a:Nat)(X:List (List Nat×MV)):Prop:=∃f,h.DictOf (strKind b.prog b.w) a f/\BB h X f
theorem uA.obj{b:fN}{h:bG}{a:Nat}{X:List (List Nat×MV)}(x:uA b h a X):∃o Z n,h.get? a=aA o/\o.cls=.type "dict"/\o.data=.dict Z n:=by
 obtain⟨f,⟨o,Z,n,e,x,d,_⟩,_⟩:=x;exact⟨o,Z,n,e,x.1,d⟩
noncomputable def AP(b:fN)(M:Nat->Nat)(h:bG)(a:Nat):MO->Prop
 |.inst C N=>(∃j,h.get? a=aA {cls:=.ref C,dict:=aA (M a),data:=.plain,slots:=j})/\tK h (M a) N|.list l=>l.length<=jG/\∃Z,h.PlainList a Z/\dK h l Z.toList|.sdict X=>uA b h a X
noncomputable def de:MO->Bool|_=>aC
structure eB(N0:fN)(δ:Nat->Nat)(mh:MH)(h:bG):Prop where
 obj:∀a o,mh a=aA o->AP N0 δ h a o
 low:∀a o,mh a=aA o->de o=aC->N0.n<=a
 dlow:∀a C fs,mh a=aA (.inst C fs)->N0.n<=δ a/\mh (δ a)=aB
 dinj:∀a b C fs C' fs',mh a=aA (.inst C fs)->mh b=aA (.inst C' fs')->δ a=δ b->a=b
noncomputable def kS(Y:MH)(M:Nat->Nat)(a:Nat):Prop:=(∃o,Y a=aA o/\de o=aC)\/∃b C N,Y b=aA (.inst C N)/\M b=a
noncomputable def BI(o:gV):Prop:=o.cls=.type "tuple"/\∃Z n,o.data=.seq Z n
structure Ev(N0:fN)(D:Nat->Prop)(h h':bG):Prop where
 keep:∀a o,h.get? a=aA o->¬D a->∃sl,h'.get? a=aA {o with slots:=sl}/\(o.cls≠.type "frame"->sl=o.slots)low:∀a o,a<N0.n->h.get? a=aA o->h'.get? a=aA o
 tup:∀a o,h.get? a=aA o->BI o->h'.get? a=aA o
 live:∀a,h'.get? a=aB->h.get? a=aB
theorem Ev.refl(a:fN)(D:Nat->Prop)(h:bG):Ev a D h h:=⟨λ U o e U=>⟨o.slots,e,λ U=>rfl⟩,λ U U U e=>e,λ U U e U=>e,λ U e=>e⟩
theorem Ev.trans{k:fN}{D h:Nat->Prop}{b f g:bG}(x:Ev k D b f)(y:Ev k h f g)(s:∀a,h a->D a\/b.get? a=aB):Ev k D b g:=by
 refine⟨λ a o e n=>?_,λ a o l e=>y.low a o l (x.low a o l e),λ a o e c=>y.tup a o (x.tup a o e c) c,λ a e=>x.live a (y.live a e)⟩;obtain⟨j,p,m⟩:=x.keep a o e n;haveI S:¬h a:=λ d=>(s a d).elim n λ l=>by rw[l]at e;cases e
 obtain⟨i,q,N⟩:=y.keep a _ p S;exact⟨i,q,λ c=>(N c).trans (m c)⟩
theorem Ev.isSome{b:fN}{D:Nat->Prop}{h P:bG}(x:Ev b D h P){a:Nat}{o:gV}(e:h.get? a=aA o):(P.get? a).isSome:=by cases q:P.get? a with
 |none=>rw[x.live a q]at e;cases e|some _=>rfl
theorem Ev.keepEq{d:fN}{D:Nat->Prop}{h P:bG}(x:Ev d D h P){a:Nat}{o:gV}(e:h.get? a=aA o)(n:¬D a)(c:o.cls≠.type "frame"):P.get? a=aA o:=by
 obtain⟨j,b,f⟩:=x.keep a o e n;rw[f c]at b;exact b
mutual theorem VR.mono{h P:bG}(t:∀a o,h.get? a=aA o->BI o->P.get? a=aA o):∀(m:MV)(v:aH),VR h m v->VR P m v
 |.none,_,x=>by simpa only[VR]using x|.bool _,_,x=>by simpa only[VR]using x|.int _,_,x=>by simpa only[VR]using x|.str _,_,x=>by simpa only[VR]using x|.ref _,_,x=>by simpa only[VR]using x|.cst _,_,x=>by simpa only[VR]using x|.tup l,v,x=>by
  simp only[VR]at x⊢;obtain⟨g,a,o,Z,n,c,d,b,e,f⟩:=x;exact⟨g,a,o,Z,n,c,t a o d ⟨b,_,_,e⟩,b,e,dK.mono t l _ f⟩theorem dK.mono{h P:bG}(t:∀a o,h.get? a=aA o->BI o->P.get? a=aA o):∀(m:List MV)(v:List aH),dK h m v->dK P m v
 |[],_,x=>by simpa only[dK]using x|m::k,Z,x=>by
  simp only[dK]at x⊢;obtain⟨v,r,c,d,b⟩:=x;exact⟨v,r,c,VR.mono t m v d,dK.mono t k r b⟩end
theorem Ev.vr{a:fN}{D:Nat->Prop}{h P:bG}(x:Ev a D h P){m:MV}{v:aH}(r:VR h m v):VR P m v:=VR.mono x.tup m v r
theorem Ev.vrs{a:fN}{D:Nat->Prop}{h P:bG}(x:Ev a D h P){m:List MV}{v:List aH}(r:dK h m v):dK P m v:=dK.mono x.tup m v r
theorem dK.append{h:bG}:∀{l G:List MV}{Z I:List aH},dK h l Z->dK h G I->dK h (l++G) (Z++I):=by
 intro d;induction d with
 |nil=>
 intro G Z I x y;simp only[dK]at x;subst x;exact y|cons m k c=>
 intro G Z I x y;simp only[dK]at x;obtain⟨v,r,rfl,a,b⟩:=x;show dK h (m::(k++G)) (v::(r++I));simp only[dK];exact⟨v,_,rfl,a,c b y⟩
theorem dK.length{h:bG}:∀{l:List MV}{Z:List aH},dK h l Z->Z.length=l.length:=by
 intro d;induction d with
 |nil=>
 intro Z x;simp only[dK]at x;subst x;rfl|cons m k c=>
 intro Z x;simp only[dK]at x;obtain⟨v,r,rfl,a,b⟩:=x;simp[c b]
theorem dK.get{h:bG}:∀{l:List MV}{vs:List aH}{i:Nat}{m:MV},dK h l vs->l[i]?=aA m->∃v,vs[i]?=aA v/\VR h m v:=by
 intro l;induction l with
 |nil=>intro vs i m U e;cases e|cons m k c=>
 intro vs i J x e;obtain⟨v,r,rfl,a,b⟩:=x;cases i with
 |zero=>cases e;exact⟨v,rfl,a⟩|succ i=>exact c (vs:=r) (i:=i) b e
theorem dK.cons{h:bG}{m:MV}{k:List MV}{v:aH}{Z:List aH}(a:VR h m v)(b:dK h k Z):dK h (m::k) (v::Z):=by simp only[dK];exact⟨v,Z,rfl,a,b⟩
theorem dK.nil{h:bG}:dK h [] []:=by simp only[dK]
theorem dK.inv{h:bG}{m:MV}{k:List MV}{Z:List aH}(x:dK h (m::k) Z):∃v r,Z=v::r/\VR h m v/\dK h k r:=by simpa only[dK]using x
theorem dK.inv0{h:bG}{Z:List aH}(x:dK h [] Z):Z=[]:=by simpa only[dK]using x
structure cU(N0:fN)(δ:Nat->Nat)(mh:MH)(h:bG)(δ':Nat->Nat)(mh':MH)(h':bG):Prop where
 real:eB N0 δ' mh' h'
 ev:Ev N0 (kS mh δ) h h'
 grow:∀a,kS mh' δ' a->kS mh δ a\/h.get? a=aB
theorem cU.refl{a:fN}{M:Nat->Nat}{Y:MH}{h:bG}(r:eB a M Y h):cU a M Y h M Y h:=⟨r,.refl ..,λ U x=>.inl x⟩
theorem cU.trans{j:fN}{M d b:Nat->Nat}{Y c e:MH}{h i g:bG}(x:cU j M Y h d c i)(y:cU j d c i b e g):cU j M Y h b e g:=⟨y.real,x.ev.trans y.ev x.grow,λ a f=>(y.grow a f).elim (x.grow a) λ l=>.inr (x.ev.live a l)⟩
theorem eB.mhLt{b:fN}{M:Nat->Nat}{Y:MH}{h:bG}(r:eB b M Y h){a:Nat}{o:MO}(e:Y a=aA o):a<h.objs.size:=by
 have :=r.obj a o e;cases o with
 |inst C N=>obtain⟨⟨j,e⟩,_⟩:=this;exact cN e|list l=>obtain⟨_,Z,⟨n,e⟩,_⟩:=this;exact cN e|sdict X=>obtain⟨o,_,_,e,_⟩:=this.obj;exact cN e
theorem eB.dLt{b:fN}{M:Nat->Nat}{Y:MH}{h:bG}(r:eB b M Y h){a C:Nat}{N:List (Nat×MV)}(e:Y a=aA (.inst C N)):M a<h.objs.size:=by
 obtain⟨_,m,_,⟨o,e,_⟩,_⟩:=r.obj a _ e;exact cN e
theorem eB.footLt{c:fN}{M:Nat->Nat}{Y:MH}{h:bG}(r:eB c M Y h){a:Nat}(f:kS Y M a):a<h.objs.size:=by
 rcases f with⟨o,e,_⟩|⟨b,C,N,e,rfl⟩;·exact r.mhLt e
 ·exact r.dLt e
theorem eB.footLow{c:fN}{M:Nat->Nat}{Y:MH}{h:bG}(r:eB c M Y h){a:Nat}(f:kS Y M a):c.n<=a:=by
 rcases f with⟨o,e,w⟩|⟨b,C,N,e,rfl⟩;·exact r.low a o e w
 ·exact(r.dlow b C N e).1
theorem eB.mhLive{b:fN}{M:Nat->Nat}{Y:MH}{h:bG}(r:eB b M Y h){a:Nat}{o:MO}(e:Y a=aA o)(n:h.get? a=aB):False:=by
 have :=r.obj a o e;cases o with
 |inst C N=>obtain⟨⟨j,e⟩,_⟩:=this;rw[n]at e;cases e|list l=>obtain⟨_,Z,⟨c,e⟩,_⟩:=this;rw[n]at e;cases e|sdict X=>obtain⟨o,_,_,e,_⟩:=this.obj;rw[n]at e;cases e
theorem eB.dLive{b:fN}{M:Nat->Nat}{Y:MH}{h:bG}(r:eB b M Y h){a C:Nat}{N:List (Nat×MV)}(e:Y a=aA (.inst C N))(n:h.get? (M a)=aB):False:=by
 obtain⟨_,m,_,⟨o,e,_⟩,_⟩:=r.obj a _ e;rw[n]at e;cases e
theorem iZ(h:bG):h.get? h.objs.size=aB:=by cases e:h.get? h.objs.size with
 |none=>rfl|some o=>exact absurd (cN e) (hU _)
theorem pR{h P:bG}(k:∀b o,h.get? b=aA o->P.get? b=aA o)(a:Nat)(e:P.get? a=aB):h.get? a=aB:=by cases q:h.get? a with
 |none=>rfl|some o=>rw[k a o q]at e;cases e
theorem eB.footKind{g:fN}{M:Nat->Nat}{Y:MH}{h:bG}(r:eB g M Y h){a:Nat}(f:kS Y M a){o:gV}(e:h.get? a=aA o):o.cls≠.type "tuple"/\o.cls≠.type "frame"/\o.cls≠.type "cell":=by
 rcases f with⟨m,d,w⟩|⟨b,C,N,d,rfl⟩
 ·have :=r.obj a m d;cases m with
 |inst C N=>obtain⟨⟨j,E⟩,_⟩:=this;rw[e]at E;cases E;simp|list l=>obtain⟨_,Z,⟨n,E⟩,_⟩:=this;rw[e]at E;cases E;simp|sdict X=>obtain⟨A,_,_,E,c,_⟩:=this.obj;rw[e]at E;cases E;rw[c];simp
 ·obtain⟨_,m,_,⟨A,E,c,_⟩,_⟩:=r.obj b _ d;rw[e]at E;cases E;rw[c];simp
noncomputable abbrev xQ(h P:bG):Prop:=∀a o,h.get? a=aA o->BI o->P.get? a=aA o
theorem tK.same{h P:bG}{d:Nat}{N:List (Nat×MV)}(t:xQ h P)(k:∀o,h.get? d=aA o->P.get? d=aA o)(x:tK h d N):tK P d N:=by
 obtain⟨m,⟨o,X,c,e,q,r,i⟩,⟨A,s,n⟩,w,p,j⟩:=x;refine⟨m,⟨o,X,c,k _ e,q,r,i⟩,⟨A,k _ s,n⟩,λ f v l g=>?_,p,j⟩;obtain⟨u,a,b⟩:=w f v l g;exact⟨u,a,VR.mono t v u b⟩
theorem BB.mono{h P:bG}(t:xQ h P):∀(X:List (List Nat×MV))(f:List (bP×aH)),BB h X f->BB P X f:=by
 intro i;induction i with
 |nil=>
 intro U x;exact x|cons e X g=>
 intro f d;obtain⟨v,r,a,b,c⟩:=d;exact⟨v,r,a,VR.mono t _ _ b,g r c⟩
theorem uA.same{a:fN}{h P:bG}{d:Nat}{X:List (List Nat×MV)}(t:xQ h P)(k:∀o,h.get? d=aA o->P.get? d=aA o)(x:uA a h d X):uA a P d X:=by
 obtain⟨f,⟨o,Z,n,c,e⟩,b⟩:=x;exact⟨f,⟨o,Z,n,k _ c,e⟩,b.mono t⟩
theorem AP.same{b:fN}{M:Nat->Nat}{h P:bG}{a:Nat}{G:MO}(t:xQ h P)(k:∀o,h.get? a=aA o->P.get? a=aA o)(U:∀C N,G=.inst C N->∀o,h.get? (M a)=aA o->P.get? (M a)=aA o)(x:AP b M h a G):AP b M P a G:=by cases G with
 |inst C N=>
 obtain⟨⟨j,e⟩,f⟩:=x;exact⟨⟨j,k _ e⟩,f.same t (U C N rfl)⟩|list l=>obtain⟨c,Z,⟨n,e⟩,r⟩:=x;exact⟨c,Z,⟨n,k _ e⟩,dK.mono t _ _ r⟩|sdict X=>exact uA.same t k x
theorem eB.same{b:fN}{M:Nat->Nat}{Y:MH}{h P:bG}(r:eB b M Y h)(t:xQ h P)(k:∀a o,Y a=aA o->∀x,h.get? a=aA x->P.get? a=aA x)(U:∀a C N,Y a=aA (.inst C N)->∀x,h.get? (M a)=aA x->P.get? (M a)=aA x):eB b M Y P:=⟨λ a o e=>(r.obj a o e).same t (k a o e) (λ C N q=>U a C N (q▸e)),r.low,r.dlow,r.dinj⟩
theorem cU.off{c:fN}{M:Nat->Nat}{Y:MH}{h P:bG}(r:eB c M Y h)(e:Ev c (λ U=>False) h P):cU c M Y h M Y P:=by
  haveI d:Ev c (kS Y M) h P:=⟨λ a o q U=>e.keep a o q id,e.low,e.tup,e.live⟩;refine⟨r.same e.tup (λ a o q x b=>?_) (λ a C N q x b=>?_),d,λ U f=>.inl f⟩
  · by_cases w:de o=aC
    ·haveI k:=r.footKind (.inl ⟨o,q,w⟩) b;exact e.keepEq b id k.2.1
    ·cases o with|_=>exact absurd rfl w
  ·exact e.keepEq b id (r.footKind (.inr ⟨a,C,N,q,rfl⟩) b).2.1
theorem Ev.push{b:fN}{D:Nat->Prop}(h:bG)(o:gV):Ev b D h (h.push o):=⟨λ a A e U=>⟨A.slots,aK o e,λ U=>rfl⟩,λ U U U e=>aK o e,λ U U e U=>aK o e,pR λ U U e=>aK o e⟩
theorem eB.push{a:fN}{M:Nat->Nat}{Y:MH}{h:bG}(r:eB a M Y h)(o:gV):eB a M Y (h.push o):=r.same (λ U U e U=>aK o e) (λ U U U U e=>aK o e) (λ U U U U U e=>aK o e)
theorem cU.push{a:fN}{M:Nat->Nat}{Y:MH}{h:bG}(r:eB a M Y h)(o:gV):cU a M Y h M Y (h.push o):=⟨r.push o,.push h o,λ U f=>.inl f⟩
theorem eB.free{a:fN}{M:Nat->Nat}{Y:MH}{h:bG}(r:eB a M Y h):Y h.objs.size=aB:=by cases e:Y h.objs.size with
 |none=>rfl|some o=>exact absurd (r.mhLt e) (hU _)
noncomputable def CM:MO->Bool
 |.inst ..=>aG|_=>aC
theorem Ev.grown{c:fN}{D:Nat->Prop}{h P:bG}(k:∀b o,h.get? b=aA o->P.get? b=aA o):Ev c D h P:=⟨λ a A e U=>⟨A.slots,k _ _ e,λ U=>rfl⟩,λ U U U e=>k _ _ e,λ U U e U=>k _ _ e,pR k⟩
theorem eB.grown{a:fN}{M:Nat->Nat}{Y:MH}{h P:bG}(r:eB a M Y h)(k:∀b o,h.get? b=aA o->P.get? b=aA o):eB a M Y P:=r.same (λ U U e U=>k _ _ e) (λ U U U U e=>k _ _ e) (λ U U U U U e=>k _ _ e)
theorem cU.grown{a:fN}{M:Nat->Nat}{Y:MH}{h P:bG}(r:eB a M Y h)(k:∀b o,h.get? b=aA o->P.get? b=aA o):cU a M Y h M Y P:=⟨r.grown k,.grown k,λ U f=>.inl f⟩
theorem cU.newAt{d:fN}{M:Nat->Nat}{Y:MH}{h P:bG}(r:eB d M Y h){D:Nat}(j:d.n<=D)(i:h.get? D=aB)(k:∀b o,h.get? b=aA o->P.get? b=aA o)(G:MO)(g:CM G=aC)(l:∀c,AP d c P D G):cU d M Y h M (upd Y D G) P:=by
  haveI S:=r.grown k;refine⟨⟨λ a x e=>?_,λ a x e w=>?_,λ a C N e=>?_,λ a b C N B F e E q=>?_⟩,.grown k,λ a f=>?_⟩
  · unfold upd at e;split at e;·rename_i q;subst q;cases e;exact l M
    ·exact S.obj a x e
  · unfold upd at e;split at e;·rename_i q;subst q;exact j
    ·exact r.low a x e w
  · unfold upd at e;split at e;·cases e;cases g
    ·refine⟨(r.dlow a C N e).1,?_⟩;rw[cE _ _ (λ z=>r.dLive e (by rw[z];exact i))];exact(r.dlow a C N e).2
  · unfold upd at e E;split at e;·cases e;cases g
    · split at E;·cases E;cases g
      ·exact r.dinj a b C N B F e E q
  · rcases f with⟨x,e,w⟩|⟨b,C,N,e,q⟩
    · unfold upd at e;split at e;·rename_i z;subst z;exact .inr i
      ·exact .inl (.inl ⟨x,e,w⟩)
    · unfold upd at e;split at e;·cases e;cases g
      ·exact .inl (.inr ⟨b,C,N,e,q⟩)
theorem eB.freeAt{a:fN}{M:Nat->Nat}{Y:MH}{h:bG}(r:eB a M Y h){D:Nat}(b:h.get? D=aB):Y D=aB:=by cases e:Y D with
 |none=>rfl|some o=>exact(r.mhLive e b).elim
theorem cU.new1{a:fN}{M:Nat->Nat}{Y:MH}{h:bG}(r:eB a M Y h)(d:a.n<=h.objs.size)(o:gV)(G:MO)(f:CM G=aC)(b:∀c,AP a c (h.push o) h.objs.size G):cU a M Y h M (upd Y h.objs.size G) (h.push o):=.newAt r d (iZ h) (λ U U e=>aK o e) G f b
theorem cU.newList{a:fN}{M:Nat->Nat}{Y:MH}{h:bG}(r:eB a M Y h)(d:a.n<=h.objs.size){l:List MV}{vs:List aH}(b:dK h l vs)(c:l.length<=jG):cU a M Y h M (upd Y h.objs.size (.list l)) (h.push {cls:=.type "list",data:=.seq vs.toArray}):=cU.new1 r d _ _ rfl λ U=>⟨c,vs.toArray,⟨0,bQ h rfl⟩,by rw[List.toList_toArray];exact dK.mono (λ U U e U=>aK _ e) _ _ b⟩
theorem AP.live{b:fN}{M:Nat->Nat}{h:bG}{a:Nat}{G:MO}(x:AP b M h a G)(n:h.get? a=aB):False:=by cases G with
 |inst C N=>obtain⟨⟨j,e⟩,_⟩:=x;rw[n]at e;cases e|list l=>obtain⟨_,Z,⟨c,e⟩,_⟩:=x;rw[n]at e;cases e|sdict X=>obtain⟨o,_,_,e,_⟩:=uA.obj x;rw[n]at e;cases e
theorem cU.set1{j:fN}{M:Nat->Nat}{Y:MH}{h P:bG}(r:eB j M Y h){a:Nat}{G mo':MO}(i:Y a=aA G)(w:de G=aC)(u:de mo'=aC)(p:CM G=aC)(d:CM mo'=aC)(s:fQ a h P)(m:AP j M P a mo'):cU j M Y h M (upd Y a mo') P:=by
  have V:kS Y M a:=.inl ⟨G,i,w⟩;have k:=r.low a G i w;have g:xQ h P:=λ b o e c=>by
    have n:b≠a:=by rintro rfl;exact(r.footKind V e).1 c.1
    exact(s.2 b n).trans e
  have off:∀b C N,Y b=aA (.inst C N)->M b≠a:=λ b C N e q=>by
   have :=(r.dlow b C N e).2;rw[q,i]at this;cases this
  refine⟨⟨λ b x e=>?_,λ b x e z=>?_,λ b C N e=>?_,λ b c C N B F e E q=>?_⟩,⟨λ b o e n=>?_,λ b o l e=>?_,g,λ b e=>by
    by_cases z:b=a;·subst z;exact(m.live e).elim
    ·rw[<-s.2 b z];exact e⟩,λ b f=>?_⟩
  · unfold upd at e;split at e;·rename_i q;subst q;cases e;exact m
    ·rename_i q;exact(r.obj b x e).same g (λ o h=>(s.2 b q).trans h) λ C N z o h=>(s.2 _ (off b C N (z▸e))).trans h
  · unfold upd at e;split at e;·rename_i q;subst q;exact k
    ·exact r.low b x e z
  · unfold upd at e;split at e;·cases e;cases d
    ·refine⟨(r.dlow b C N e).1,?_⟩;rw[cE _ _ (off b C N e)];exact(r.dlow b C N e).2
  · unfold upd at e E;split at e;·cases e;cases d
    · split at E;·cases E;cases d
      ·exact r.dinj b c C N B F e E q
  · haveI :b≠a:=by rintro rfl;exact n V
    exact⟨o.slots,(s.2 b this).trans e,λ U=>rfl⟩
  ·exact(s.2 b (eG (cO l k))).trans e
  · rcases f with⟨x,e,z⟩|⟨t,C,N,e,q⟩
    · unfold upd at e;split at e;·rename_i q;subst q;exact .inl V
      ·exact .inl (.inl ⟨x,e,z⟩)
    · unfold upd at e;split at e;·cases e;cases d
      ·exact .inl (.inr ⟨t,C,N,e,q⟩)
theorem cU.setFld{y:fN}{M:Nat->Nat}{Y:MH}{h P:bG}(r:eB y M Y h){a C:Nat}{N F:List (Nat×MV)}(i:Y a=aA (.inst C N))(s:fQ (M a) h P)(x:tK P (M a) F):cU y M Y h M (upd Y a (.inst C F)) P:=by
  have V:kS Y M (M a):=.inr ⟨a,C,N,i,rfl⟩;have v:=(r.dlow a C N i).1;have g:xQ h P:=λ b o e c=>by
    have n:b≠M a:=by rintro rfl;exact(r.footKind V e).1 c.1
    exact(s.2 b n).trans e
  have off:∀b G,Y b=aA G->b≠M a:=λ b G e q=>by
   have :=(r.dlow a C N i).2;rw[<-q,e]at this;cases this
  refine⟨⟨λ b t e=>?_,λ b t e z=>?_,λ b B d e=>?_,λ b c k d p m e E q=>?_⟩,⟨λ b o e n=>?_,λ b o l e=>?_,g,λ b e=>by
    by_cases z:b=M a;·subst z;obtain⟨_,_,⟨o,q,_⟩,_⟩:=x;rw[e]at q;cases q
    ·rw[<-s.2 b z];exact e⟩,λ b f=>?_⟩
  · unfold upd at e;split at e
    ·rename_i q;subst q;cases e;obtain⟨⟨j,D⟩,_⟩:=r.obj b _ i;exact⟨⟨j,(s.2 b (off b _ i)).trans D⟩,x⟩
    ·rename_i q;exact(r.obj b t e).same g (λ o h=>(s.2 b (off b _ e)).trans h) λ k d z o h=>(s.2 _ λ w=>q (r.dinj b a k d C N (z▸e) i w)).trans h
  · unfold upd at e;split at e;·rename_i q;subst q;exact r.low b _ i rfl
    ·exact r.low b t e z
  · unfold upd at e;split at e
    ·rename_i q;subst q;refine⟨v,?_⟩;rw[cE _ _ (λ z=>off b _ i z.symm)];exact(r.dlow b C N i).2
    · refine⟨(r.dlow b B d e).1,?_⟩;have n:M b≠a:=λ z=>by have :=(r.dlow b B d e).2;rw[z,i]at this;cases this
      rw[cE _ _ n];exact(r.dlow b B d e).2
  · unfold upd at e E;split at e
    · rename_i z;subst z;split at E;·rename_i u;exact u.symm
      ·exact r.dinj b c C N p m i E q
    · split at E;·rename_i u;subst u;exact r.dinj b c k d C N e i q
      ·exact r.dinj b c k d p m e E q
  · haveI :b≠M a:=by rintro rfl;exact n V
    exact⟨o.slots,(s.2 b this).trans e,λ U=>rfl⟩
  ·exact(s.2 b (eG (cO l v))).trans e
  · rcases f with⟨t,e,z⟩|⟨A,B,d,e,q⟩
    · unfold upd at e;split at e;·rename_i q;subst q;exact .inl (.inl ⟨_,i,rfl⟩)
      ·exact .inl (.inl ⟨t,e,z⟩)
    · unfold upd at e;split at e;·rename_i z;subst z;exact .inl (.inr ⟨A,C,N,i,q⟩)
      ·exact .inl (.inr ⟨A,B,d,e,q⟩)
noncomputable def PX(M:Nat->Nat)(a d:Nat):Nat->Nat:=λ b=>if b=a then d else M b
theorem cU.newInst{u:fN}{M:Nat->Nat}{Y:MH}{h P:bG}(r:eB u M Y h){x dx C:Nat}(Q:u.n<=x)(y:u.n<=dx)(hk:∀b o,h.get? b=aA o->P.get? b=aA o)(t:h.get? dx=aB)(D:h.get? x=aB)(L:dx≠x)(O:P.get? x=aA (DK C dx))(I:P.get? dx=aA {cls:=.type "dict",data:=.dict #[]}):cU u M Y h (PX M x dx) (upd Y x (.inst C [])) P:=by
  have V:xQ h P:=λ b o e U=>hk b o e;have H:∀b G,Y b=aA G->b≠x:=λ b G e q=>r.mhLive e (by rw[q];exact D);have p:∀b C N,Y b=aA (.inst C N)->PX M x dx b=M b:=λ b C N e=>if_neg (H b _ e);have i:Y x=aB:=by cases e:Y x with
 |none=>rfl|some o=>exact absurd rfl (H x o e)
  haveI m:Y dx=aB:=by cases e:Y dx with
 |none=>rfl|some o=>exact(r.mhLive e t).elim
  haveI F:tK P dx []:=⟨λ U=>aB,⟨_,#[],0,I,rfl,λ U K=>by simp at K,λ U=>rfl⟩,⟨_,I,rfl,#[],0,rfl,aZ _⟩,λ f v U g=>(by cases g),λ U U=>rfl,λ f v g=>(by cases g)⟩;have s:PX M x dx x=dx:=if_pos rfl;refine⟨⟨λ b o e=>?_,λ b o e w=>?_,λ b B N e=>?_,λ b c l a k d e E q=>?_⟩,⟨λ b o e U=>⟨o.slots,hk b o e,λ U=>rfl⟩,λ b o U e=>hk b o e,V,pR hk⟩,λ b f=>?_⟩
  · unfold upd at e;split at e
    ·rename_i q;subst q;cases e;show(∃j,P.get? b=aA {cls:=.ref C,dict:=aA (PX M b dx b),data:=.plain,slots:=j})/\tK P (PX M b dx b) [];rw[s];exact⟨⟨#[],O⟩,F⟩
    ·have :=(r.obj b o e).same V (λ o h=>hk _ _ h) (λ U U U o h=>hk _ _ h);cases o with
 |inst B N=>
 show(∃j,P.get? b=aA {cls:=.ref B,dict:=aA (PX M x dx b),data:=.plain,slots:=j})/\tK P (PX M x dx b) N;rw[p b B N e];exact this|_=>exact this
  · unfold upd at e;split at e;·rename_i q;subst q;exact Q
    ·exact r.low b o e w
  · unfold upd at e;split at e
    ·rename_i q;subst q;rw[s];exact⟨y,by rw[cE _ _ L];exact m⟩
    ·rw[p b B N e];exact⟨(r.dlow b B N e).1,by rw[cE _ _ (λ z=>r.dLive e (by rw[z];exact D))];exact(r.dlow b B N e).2⟩
  · unfold upd at e E;split at e
    · rename_i z;subst z;split at E;·rename_i A;exact A.symm
      ·rw[s,p c k d E]at q;exact(r.dLive E (by rw[<-q];exact t)).elim
    · split at E
      ·rename_i A;subst A;rw[s,p b l a e]at q;exact(r.dLive e (by rw[q];exact t)).elim
      ·rw[p b l a e,p c k d E]at q;exact r.dinj b c l a k d e E q
  · rcases f with⟨o,e,w⟩|⟨J,B,N,e,q⟩
    · unfold upd at e;split at e;·rename_i q;subst q;exact .inr D
      ·exact .inl (.inl ⟨o,e,w⟩)
    · unfold upd at e;split at e;·rename_i z;subst z;rw[s]at q;subst q;exact .inr t
      ·rw[p J B N e]at q;exact .inl (.inr ⟨J,B,N,e,q⟩)
inductive MC where|nil|b(x:Bool)|i(x:Int)|s(l:List Nat)
inductive ME where|no|c(k:MC)|neg(n:Nat)|l(i:Nat)|g(i:Nat)|attr(e:ME)(f:Nat)|idx(e i:ME)|slc(e lo hi:ME)|call(f:Nat)(args:List ME)(kn:List Nat)|new(f:Nat)(args:List ME)|meth(e:ME)(m:Nat)(args:List ME)|bi(b:Nat)(args:List ME)|lst(es:List ME)|tup(es:List ME)|bin(op:iX)(a b:ME)|cmp(op:lS)(a b:ME)|cmpNil(op:lS)(a:ME)|bool(op:jO)(es:List ME)|not(a:ME)|ite(t a b:ME)|isin(e:ME)(cs:List Nat)(tuple:Bool)|comp(tn:List String)(cn:List Nat)(kind:Nat)(its:List ME)(elt:ME)(cond:List ME)|pick(ps:List (Nat×List Nat))(key pG:ME)|jrev(sep:List Nat)(e:ME)|lzip(a b:ME)|emp|dead
structure Gl where
 gv:Nat->Option MV
 ca:Nat->Nat
 fo:Nat->Nat->Bool
 ks:Nat->Bool
 ic:Nat->Bool
 ci:Nat->Bool
 kc:Nat->Option Nat
 kl:Nat->Option (List MV)
noncomputable abbrev Loc:=List (Option MV)
noncomputable abbrev KE:=MV->MH->Prop
noncomputable def OptK{b:Type}(o:Option b)(k:b->Prop):Prop:=match o with
 |aA a=>k a|aB=>False
theorem OptK.some{b:Type}{o:Option b}{a:b}{k:b->Prop}(e:o=.some a)(h:k a):OptK o k:=by subst e;exact h
structure kP where
 hc:Nat->Bool
 hn:Nat->Bool
 hm:Nat->Nat->Bool
 call:Nat->List MV->List Nat->MH->KE->KE->Prop
 new:Nat->List MV->MH->KE->KE->Prop
 meth:Nat->Nat->List MV->MH->KE->KE->Prop
noncomputable def zT:MC->MV
 |.nil=>.none|.b b=>.bool b|.i i=>.int i|.s s=>.str s
noncomputable def rB{a:Type}(l:List a)(i:Int):Option a:=if 0<=i then l[i.toNat]? else if 0<=i+l.length then l[(i+l.length).toNat]? else aB
noncomputable def listOf(Y:MH):MV->Option (List MV)
 |.ref a=>match Y a with
  |aA (.list l)=>aA l|_=>aB
 |_=>aB
/-! readings of values -/
noncomputable def xY:MV->Option Int
 |.int i=>aA i|_=>aB
noncomputable def UR:MV->Option (List Nat)
 |.str s=>aA s|_=>aB
noncomputable def zf:MV->Option (List MV)
 |.tup l=>aA l|_=>aB
noncomputable def Ay:MV->Option Nat
 |.ref a=>aA a|_=>aB
noncomputable def vK:MV->Bool
 |.none=>aC|_=>aG
noncomputable def GI:MV->Bool
 |.tup _=>aC|_=>aG
noncomputable def lU{b:Type}(l:List b):Option b:=match l with
 |[]=>aB|a::r=>match r with
 |[]=>aA a|_::_=>aB
noncomputable def NK{c:Type}(l:List c):Option (c×c):=match l with
 |[]=>aB|a::r=>(lU r).map λ b=>(a,b)
noncomputable def qe{b:Type}(l:List b):Option (b×b×b):=match l with
 |[]=>aB|a::r=>(NK r).map λ p=>(a,p)
noncomputable def B5(v:MV):Option Nat:=(UR v).bind lU
theorem jR{v:MV}{i:Int}(h:xY v=aA i):v=.int i:=by cases v with
 |int j=>cases h;rfl|_=>cases h
theorem tZ{v:MV}{i:List Nat}(h:UR v=aA i):v=.str i:=by cases v with
 |str j=>cases h;rfl|_=>cases h
theorem KH{v:MV}{i:List MV}(h:zf v=aA i):v=.tup i:=by cases v with
 |tup j=>cases h;rfl|_=>cases h
theorem KX{v:MV}{i:Nat}(h:Ay v=aA i):v=.ref i:=by cases v with
 |ref j=>cases h;rfl|_=>cases h
theorem gG{c:Type}{l:List c}{a:c}(h:lU l=aA a):l=[a]:=by cases l with
 |nil=>cases h|cons b r=>cases r with
 |nil=>cases h;rfl|cons _ _=>cases h
theorem rO{a:Type}{l:List a}{p:a×a}(h:NK l=aA p):l=[p.1,p.2]:=by cases l with
 |nil=>cases h|cons b r=>obtain⟨c,e,q⟩:=bO.mp h;rw[gG e,<-q]
theorem yU{a:Type}{l:List a}{p:a×a×a}(h:qe l=aA p):l=[p.1,p.2.1,p.2.2]:=by cases l with
 |nil=>cases h|cons b r=>obtain⟨c,e,q⟩:=bO.mp h;rw[rO e,<-q]
theorem CD{v:MV}{c:Nat}(h:B5 v=aA c):v=.str [c]:=by
 obtain⟨s,e,q⟩:=jX.mp h;rw[tZ e,gG q]
theorem gZ{a:Type}{c:Prop}[Decidable c]{x r:a}(h:(if c then aA x else aB)=aA r):c/\x=r:=by
 by_cases q:c;·rw[if_pos q]at h;exact⟨q,bH h⟩
 ·rw[if_neg q]at h;cases h
theorem LG{a:Type}{c:Prop}[Decidable c]{x r:a}(h:(if c then aB else aA x)=aA r):¬c/\x=r:=by
 by_cases q:c;·rw[if_pos q]at h;cases h
 ·rw[if_neg q]at h;exact⟨q,bH h⟩
theorem cA{b c:Type}{o:Option b}{f:b->Option c}{r:c}(h:o.bind f=aA r):∃a,o=aA a/\f a=aA r:=jX.mp h
theorem fR{b c:Type}{o:Option b}{f:b->c}{r:c}(h:o.map f=aA r):∃a,o=aA a/\f a=r:=bO.mp h
theorem gU{c:Type}{n m:Nat}{a b r:Option c}(h:(if n=m then a else b)=r):n=m/\a=r\/b=r:=by
 by_cases q:n=m;·rw[if_pos q]at h;exact .inl ⟨q,h⟩
 ·rw[if_neg q]at h;exact .inr h
noncomputable def GA(Y:MH)(v j:MV):Option MV:=(xY j).bind λ i=>match v with
 |.ref a=>(listOf Y (.ref a)).bind λ l=>rB l i|.str s=>(rB s i).map λ c=>.str [c]|.tup l=>rB l i|_=>aB
theorem JJ{mh:MH}{M:MV->MV->MV->Prop}(f:∀a l i r,listOf mh (.ref a)=aA l->rB l i=aA r->M (.ref a) (.int i) r)(d:∀s i c,rB s i=aA c->M (.str s) (.int i) (.str [c]))(g:∀l i r,rB l i=aA r->M (.tup l) (.int i) r){v j r:MV}(h:GA mh v j=aA r):M v j r:=by
 obtain⟨i,b,h⟩:=cA h;rw[jR b];cases v with
 |ref a=>obtain⟨l,e,h⟩:=cA h;exact f _ _ _ _ e h|str s=>obtain⟨c,e,h⟩:=fR h;rw[<-h];exact d _ _ _ e|tup l=>exact g _ _ _ h|_=>cases h
noncomputable def WT:MV->Option (Option Nat)
 |.none=>aA aB|.int i=>if 0<=i then aA (aA i.toNat)else aB|_=>aB
noncomputable def upTo{a:Type}(l:List a):Option Nat->List a
 |aB=>l|aA n=>l.take n
noncomputable def WG{c:Type}(l:List c)(a b:MV):Option (List c):=(WT a).bind λ p=>(WT b).map λ q=>(upTo l q).drop (p.getD 0)
noncomputable def kD:Nat:=4611686018427387904
noncomputable def CU(c:iX)(a b:MV):Option MV:=match c with
 |.Add=>(match a with
 |.int x=>(xY b).map λ y=>.int (x+y)|.str x=>(UR b).bind λ y=>if x.length+y.length<=aX then aA (.str (x++y))else aB|_=>aB)|.Sub=>(xY a).bind λ x=>(xY b).map λ y=>.int (x-y)|.Mult=>(xY a).bind λ x=>(xY b).bind λ y=>if x.natAbs<kD then aA (.int (x*y))else aB|.FloorDiv=>(xY a).bind λ x=>(xY b).bind λ y=>if 0<y/\y.natAbs<kD then aA (.int (x/y))else aB|.Mod=>(xY a).bind λ x=>(xY b).bind λ y=>if 0<y then aA (.int (x%y))else aB|.Pow=>(xY a).bind λ x=>(xY b).bind λ y=>if 2<=x/\x<=16/\0<=y/\y<=90 then aA (.int (x^y.toNat))else aB|_=>aB
theorem VK{a b:MV}{c:Type}{f:Int->Int->Option c}{r:c}(h:((xY a).bind λ x=>(xY b).bind λ y=>f x y)=aA r):∃x y,a=.int x/\b=.int y/\f x y=aA r:=by
 obtain⟨x,e,h⟩:=cA h;obtain⟨y,E,h⟩:=cA h;exact⟨x,y,jR e,jR E,h⟩
theorem VH{M:iX->MV->MV->MV->Prop}(j:∀x y,M .Add (.int x) (.int y) (.int (x+y)))(g:∀x y,x.length+y.length<=aX->M .Add (.str x) (.str y) (.str (x++y)))(l:∀x y,M .Sub (.int x) (.int y) (.int (x-y)))(i:∀x y,x.natAbs<kD->M .Mult (.int x) (.int y) (.int (x*y)))(f:∀x y,0<y/\y.natAbs<kD->M .FloorDiv (.int x) (.int y) (.int (x/y)))(m:∀x y,0<y->M .Mod (.int x) (.int y) (.int (x%y)))(k:∀x y,2<=x/\x<=16/\0<=y/\y<=90->M .Pow (.int x) (.int y) (.int (x^y.toNat))){d:iX}{a b r:MV}(h:CU d a b=aA r):M d a b r:=by cases d with
 |Add=>cases a with
  |int x=>obtain⟨y,e,h⟩:=fR h;rw[jR e,<-h];exact j _ _|str x=>obtain⟨y,e,h⟩:=cA h;obtain⟨c,h⟩:=gZ h;rw[tZ e,<-h];exact g _ _ c|_=>cases h
 |Sub=>obtain⟨x,e,h⟩:=cA h;obtain⟨y,E,h⟩:=fR h;rw[jR e,jR E,<-h];exact l _ _|Mult=>obtain⟨x,y,e,E,h⟩:=VK h;obtain⟨c,h⟩:=gZ h;rw[e,E,<-h];exact i _ _ c|FloorDiv=>obtain⟨x,y,e,E,h⟩:=VK h;obtain⟨c,h⟩:=gZ h;rw[e,E,<-h];exact f _ _ c|Mod=>obtain⟨x,y,e,E,h⟩:=VK h;obtain⟨c,h⟩:=gZ h;rw[e,E,<-h];exact m _ _ c|Pow=>obtain⟨x,y,e,E,h⟩:=VK h;obtain⟨c,h⟩:=gZ h;rw[e,E,<-h];exact k _ _ c|_=>cases h
noncomputable def mA(a b:MV):Option Bool:=match a with
 |.int x=>(xY b).map λ y=>cH (x=y)|.str x=>(UR b).map λ y=>cH (x=y)|.bool x=>(match b with
 |.bool y=>aA (cH (x=y))|_=>aB)|_=>aB
theorem FJ{M:MV->MV->Bool->Prop}(f:∀x y,M (.int x) (.int y) (cH (x=y)))(d:∀x y,M (.str x) (.str y) (cH (x=y)))(c:∀x y,M (.bool x) (.bool y) (cH (x=y))){a b:MV}{r:Bool}(h:mA a b=aA r):M a b r:=by cases a with
 |int x=>obtain⟨y,e,h⟩:=fR h;rw[jR e,<-h];exact f _ _|str x=>obtain⟨y,e,h⟩:=fR h;rw[tZ e,<-h];exact d _ _|bool x=>cases b with
  |bool y=>cases h;exact c _ _|_=>cases h
 |_=>cases h
noncomputable def RW(f:MV->MV->Option Bool)(l r:List MV):Option Bool:=match l with
 |[]=>(match r with
 |[]=>aA aC|_::_=>aB)|a::l=>(match r with
 |[]=>aB|b::r=>(f a b).bind λ x=>(RW f l r).map (x&&·))
noncomputable def H2(Y:MH)(a b:MV):Option Bool:=match Ay a with
 |aA x=>(Ay b).bind λ y=>if x=y then aB else(listOf Y (.ref x)).bind λ l=>(listOf Y (.ref y)).bind λ r=>if l.length=r.length then RW mA l r else aA aG|aB=>mA a b
noncomputable def w5(Y:MH)(a b:MV):Option Bool:=match zf a with
 |aA l=>(zf b).bind λ r=>RW (H2 Y) l r|aB=>H2 Y a b
noncomputable def adr:MV->Option (Bool×Nat)
 |.ref a=>aA (aC,a)|.cst a=>aA (aG,a)|_=>aB
noncomputable def pL(G:Gl)(Y:MH)(p:Bool×Nat):Bool:=match p.1 with
 |aC=>(Y p.2).isSome|aG=>G.ks p.2
noncomputable def IY(G:Gl)(Y:MH)(a b:MV):Option Bool:=match b with
 |.none=>aA (vK a)|_=>(adr b).bind λ y=>match adr a with
 |aA x=>if x=y then aA aC else if pL G Y x=aC/\pL G Y y=aC then aA aG else aB|aB=>if GI a then aB else aA aG
theorem ak{G:Gl}{Y:MH}{M:MV->MV->Bool->Prop}(j:∀a,M a .none (vK a))(i:∀a b x,adr a=aA x->adr b=aA x->M a b aC)(g:∀a b x y,adr a=aA x->adr b=aA y->x≠y->pL G Y x=aC->pL G Y y=aC->M a b aG)(k:∀a b y,adr a=aB->GI a=aG->adr b=aA y->M a b aG){a b:MV}{r:Bool}(h:IY G Y a b=aA r):M a b r:=by
 have f:∀b,((adr b).bind λ y=>match adr a with
 |aA x=>if x=y then aA aC else if pL G Y x=aC/\pL G Y y=aC then aA aG else aB|aB=>if GI a then aB else aA aG)=aA r->M a b r:=by
  intro b h;obtain⟨y,e,h⟩:=cA h;cases d:adr a with
 |none=>rw[d]at h;obtain⟨c,h⟩:=LG h;rw[<-h];exact k _ _ _ d (uL.mpr c) e|some x=>
  rw[d]at h;dsimp only at h;by_cases q:x=y;·rw[if_pos q]at h;rw[<-bH h];exact i _ _ _ (q▸d) e
  ·rw[if_neg q]at h;obtain⟨c,h⟩:=gZ h;rw[<-h];exact g _ _ _ _ d e q c.1 c.2
 cases b with
 |none=>cases h;exact j _|_=>exact f _ h
noncomputable def YL(a:MV):List MV->Option Bool
 |[]=>aA aG|b::r=>(mA b a).bind λ x=>(YL a r).map (x||·)
noncomputable def Ho(a b:MV):Option Bool:=match b with
 |.str s=>(B5 a).map λ c=>s.elem c|.tup l=>YL a l|_=>aB
noncomputable def f7(f:Int->Int->Bool)(a b:MV):Option Bool:=(xY a).bind λ x=>(xY b).bind λ y=>aA (f x y)
noncomputable def IP(G:Gl)(c:lS)(Y:MH)(a b:MV):Option Bool:=match c with
 |.Lt=>f7 (λ x y=>cH (x<y)) a b|.LtE=>f7 (λ x y=>cH (x<=y)) a b|.Gt=>f7 (λ x y=>cH (x>y)) a b|.GtE=>f7 (λ x y=>cH (x>=y)) a b|.Eq=>w5 Y a b|.NotEq=>(w5 Y a b).map (!·)|.Is=>IY G Y a b|.IsNot=>(IY G Y a b).map (!·)|.In=>Ho a b|.NotIn=>(Ho a b).map (!·)
noncomputable def uv:List String:=["len","ord","chr","abs","sum","str","list","all","divmod","isinstance","range","enumerate","zip","reversed","min","max"]
noncomputable def NU:List MV->Option Int
 |[]=>aA 0|v::r=>(xY v).bind λ i=>(NU r).map (i+·)
noncomputable def FM:MV->Option Bool
 |.bool b=>aA b|_=>aB
theorem GV{v:MV}{i:Bool}(h:FM v=aA i):v=.bool i:=by cases v with
 |bool j=>cases h;rfl|_=>cases h
noncomputable def allB:List MV->Option Bool
 |[]=>aA aC|v::r=>(FM v).bind λ b=>(allB r).map (b&&·)
noncomputable def KT(i:Int):List Nat:=(aP (vN i)).cps.toList
noncomputable def rp(Y:MH)(b:Nat)(v:MV):Option MV:=if b=0 then(match v with
 |.str s=>aA (.int s.length)|v=>(listOf Y v).map λ l=>.int l.length)else if b=1 then(B5 v).map λ(c:Nat)=>MV.int (c:Int)else if b=2 then(xY v).bind λ i=>if 0<=i/\i<1114112 then aA (.str [i.toNat])else aB else if b=3 then(xY v).map λ i=>.int i.natAbs else if b=4 then(listOf Y v).bind λ l=>(NU l).map .int else if b=5 then(match v with
 |.int i=>if i.natAbs<10^20/\(KT i).length<=aX then aA (.str (KT i))else aB|v=>(UR v).map .str)else if b=7 then(listOf Y v).bind λ l=>(allB l).map .bool else aB
noncomputable def Gv(Y:MH)(b:Nat)(Z:List MV):Option MV:=if b=8 then(NK Z).bind λ p=>(xY p.1).bind λ x=>(xY p.2).bind λ y=>if 0<y/\y.natAbs<kD then aA (.tup [.int (x/y),.int (x%y)])else aB else(lU Z).bind λ v=>rp Y b v
noncomputable def MK(G:Gl)(Y:MH)(v:MV):Option (List MV):=match v with
 |.cst a=>G.kl a|_=>listOf Y v
theorem wA{Y:MH}{v:MV}{l:List MV}(h:listOf Y v=aA l):∃a,v=.ref a:=by cases v with
 |ref a=>exact⟨a,rfl⟩|_=>cases h
theorem cr{mh:MH}{M:Nat->MV->MV->Prop}(x:∀s,M 0 (.str s) (.int s.length))(j:∀a l,listOf mh (.ref a)=aA l->M 0 (.ref a) (.int l.length))(u:∀c,M 1 (.str [c]) (.int c))(m:∀i,0<=i/\i<1114112->M 2 (.int i) (.str [i.toNat]))(w:∀i,M 3 (.int i) (.int i.natAbs))(o:∀a l t,listOf mh (.ref a)=aA l->NU l=aA t->M 4 (.ref a) (.int t))(n:∀i,i.natAbs<10^20/\(KT i).length<=aX->M 5 (.int i) (.str (KT i)))(k:∀s,M 5 (.str s) (.str s))(p:∀a l t,listOf mh (.ref a)=aA l->allB l=aA t->M 7 (.ref a) (.bool t)){b:Nat}{v r:MV}(h:rp mh b v=aA r):M b v r:=by
  rcases gU h with⟨q,h⟩|h
  · rw[q];have f:∀v,((listOf mh v).map λ l=>MV.int l.length)=aA r->M 0 v r:=λ v h=>by obtain⟨l,e,h⟩:=fR h;obtain⟨a,g⟩:=wA e;rw[g]at e⊢;rw[<-h];exact j _ _ e
    cases v with
 |str s=>cases h;exact x _|_=>exact f _ h
  rcases gU h with⟨q,h⟩|h;·obtain⟨c,e,h⟩:=fR h;rw[q,CD e,<-h];exact u _
  rcases gU h with⟨q,h⟩|h;·obtain⟨c,e,h⟩:=cA h;obtain⟨d,h⟩:=gZ h;rw[q,jR e,<-h];exact m _ d
  rcases gU h with⟨q,h⟩|h;·obtain⟨c,e,h⟩:=fR h;rw[q,jR e,<-h];exact w _
  rcases gU h with⟨q,h⟩|h;·obtain⟨l,e,h⟩:=cA h;obtain⟨t,E,h⟩:=fR h;obtain⟨a,g⟩:=wA e;rw[g]at e;rw[q,g,<-h];exact o _ _ _ e E
  rcases gU h with⟨q,h⟩|h
  · rw[q];have f:∀v,((UR v).map MV.str)=aA r->M 5 v r:=λ v h=>by obtain⟨l,e,h⟩:=fR h;rw[tZ e,<-h];exact k _
    cases v with
 |int i=>obtain⟨d,h⟩:=gZ h;rw[<-h];exact n _ d|_=>exact f _ h
  rcases gU h with⟨q,h⟩|h;·obtain⟨l,e,h⟩:=cA h;obtain⟨t,E,h⟩:=fR h;obtain⟨a,g⟩:=wA e;rw[g]at e;rw[q,g,<-h];exact p _ _ _ e E
  ·cases h
noncomputable def Cz(Y:MH)(b:Nat)(Z:List MV):Option (List MV):=if b=6 then(lU Z).bind λ v=>listOf Y v else aB
noncomputable def Af:List String:=["put","atom","pair","datum","tail","told","symbol","find","token","skip","found","word_end","string","sharp","sign_token","word_token","number_in","opens","dot","closed","delivered","last","quoted","read","place","join","lower","rstrip","split","append","pop","extend","get","index","size","replace"]
noncomputable def mn(i:Nat):bP:=aP (Af[i]?.getD "?")
noncomputable def qE(a:List Nat):List MV->Option (List Nat)
 |[]=>aA []|v::r=>(UR v).bind λ s=>match r with
 |[]=>aA s|_::_=>(qE a r).map λ t=>s++(a++t)
noncomputable def dictOf(Y:MH)(a:Nat):Option (List (List Nat×MV)):=match Y a with
 |aA (.sdict X)=>aA X|_=>aB
noncomputable def WJ(Y:MH)(m:Nat)(s:List Nat)(Z:List MV):Option MV:=if m=25 then(lU Z).bind λ v=>(listOf Y v).bind λ l=>(qE s l).bind λ t=>if t.length<=aX then aA (.str t)else aB else if m=7 then(lU Z).bind λ v=>(B5 v).bind λ c=>if s.contains c=aC then aB else aA (.int (-1))else if m=26 then(match Z with
 |[]=>if s.all (λ c=>c==43||c==45||c==46||(48<=c&&c<=57))=aC then aA (.str s)else aB|_::_=>aB)else if m=27 then(lU Z).bind λ v=>(B5 v).bind λ c=>if s.getLast?=aA c then aB else aA (.str s)else if m=33 then(lU Z).bind λ v=>(B5 v).bind λ c=>if s=[48,49,50,51,52,53,54,55,56,57,97,98,99,100,101,102]/\48<=c/\c<=57 then aA (.int (c-48))else aB else aB
theorem WL{mh:MH}{M:Nat->List Nat->List MV->MV->Prop}(k:∀s a l t,listOf mh (.ref a)=aA l->qE s l=aA t->t.length<=aX->M 25 s [.ref a] (.str t))(f:∀s c,¬s.contains c=aC->M 7 s [.str [c]] (.int (-1)))(n:∀s,s.all (λ c=>c==43||c==45||c==46||(48<=c&&c<=57))=aC->M 26 s [] (.str s))(i:∀s c,¬s.getLast?=aA c->M 27 s [.str [c]] (.str s))(o:∀s c,s=[48,49,50,51,52,53,54,55,56,57,97,98,99,100,101,102]/\48<=c/\c<=57->M 33 s [.str [c]] (.int (c-48))){m:Nat}{s:List Nat}{Z:List MV}{r:MV}(h:WJ mh m s Z=aA r):M m s Z r:=by
 rcases gU h with⟨q,h⟩|h
 ·obtain⟨v,e,h⟩:=cA h;obtain⟨l,b,h⟩:=cA h;obtain⟨t,g,h⟩:=cA h;obtain⟨c,h⟩:=gZ h;obtain⟨a,j⟩:=wA b;rw[j]at e b;rw[q,gG e,<-h];exact k _ _ _ _ b g c
 rcases gU h with⟨q,h⟩|h
 ·obtain⟨v,e,h⟩:=cA h;obtain⟨c,b,h⟩:=cA h;obtain⟨d,h⟩:=LG h;rw[CD b]at e;rw[q,gG e,<-h];exact f _ _ d
 rcases gU h with⟨q,h⟩|h;·cases Z with
 |nil=>obtain⟨d,h⟩:=gZ h;rw[q,<-h];exact n _ d|cons _ _=>cases h
 rcases gU h with⟨q,h⟩|h
 ·obtain⟨v,e,h⟩:=cA h;obtain⟨c,b,h⟩:=cA h;obtain⟨d,h⟩:=LG h;rw[CD b]at e;rw[q,gG e,<-h];exact i _ _ d
 rcases gU h with⟨q,h⟩|h
 ·obtain⟨v,e,h⟩:=cA h;obtain⟨c,b,h⟩:=cA h;obtain⟨d,h⟩:=gZ h;rw[CD b]at e;rw[q,gG e,<-h];exact o _ _ d
 ·cases h
noncomputable def Ax(Y:MH)(a:Nat)(Z:List MV):Option MV:=(NK Z).bind λ p=>(UR p.1).bind λ k=>if vK p.2=aC then(dictOf Y a).map λ X=>(match X.find? (·.1==k)with
 |aA e=>e.2|aB=>.none)else aB
noncomputable def IZ(m:Nat):Bool:=m==29||m==30||m==31
noncomputable def JK(m:Nat):Bool:=m==25||m==7||m==26||m==27||m==33
noncomputable def g9(Y:MH)(m a:Nat)(Z:List MV):Option (MV×List MV):=(listOf Y (.ref a)).bind λ l=>if m=29 then(lU Z).bind λ v=>if l.length<=aX then aA (.none,l++[v])else aB else if m=30 then(match Z with
 |[]=>l.getLast?.map λ v=>(v,l.dropLast)|_::_=>(lU Z).bind λ v=>(xY v).bind λ i=>if i=0 then(match l with
 |[]=>aB|v::l=>aA (v,l))else aB)else if m=31 then(lU Z).bind λ v=>(Ay v).bind λ b=>(listOf Y (.ref b)).bind λ r=>if a≠b/\l.length+r.length<=aX then aA (.none,l++r)else aB else aB
inductive TC where|bool|int|str|none|own(C:Nat)
noncomputable def BQ(G:Gl)(Y:MH):MV->Option TC
 |.bool _=>aA .bool|.int _=>aA .int|.str _=>aA .str|.none=>aA .none|.ref a=>match Y a with
  |aA (.inst C _)=>if G.ic C then aA (.own C)else FR|_=>FR
 |.cst b=>(G.kc b).map TC.own|.tup _=>FR
noncomputable def BE:TC->Nat->Bool
 |.bool,0=>aC|.bool,1=>aC|.int,1=>aC|.own C,c=>C==c|_,_=>aG
noncomputable def AO(C:Option (Nat×List MV))(Y:MH):Prop:=match C with
 |aB=>True|aA (a,l)=>listOf Y (.ref a)=aA l
noncomputable def ag(n:Nat)(v:MV)(B:Loc):Option Loc:=if n=1 then aA (B.set 0 (aA v))else if n=2 then(zf v).bind λ l=>(NK l).map λ p=>(B.set 0 (aA p.1)).set 1 (aA p.2)else aB
noncomputable def pI(S:Loc->MH->KE->Prop)(cond:Loc->MH->(Bool->MH->Prop)->Prop)(p:Nat)(C:Option (Nat×List MV)):List MV->List MV->Loc->MH->KE->Prop
 |[],G,_,Y,k=>AO C Y/\G.length<=aX/\∀a,Y a=aB->k (.ref a) (upd Y a (.list G))|v::i,G,B,Y,k=>AO C Y/\G.length<=aX/\OptK (ag p v B) λ X=>cond X Y λ b I=>match b with
 |aC=>S X I λ Z U=>pI S cond p C i (G++[Z]) X U k|aG=>pI S cond p C i G X I k
noncomputable def kJ(n:Int):List MV:=(eM n.toNat).map λ(i:Nat)=>.int i
noncomputable def vC(a b:Int):List MV:=(eM (a-b).toNat).map λ(i:Nat)=>.int (a-i)
noncomputable def FK(s:List Nat):List MV:=s.zipIdx.map λ p=>.tup [.int p.2,.str [p.1]]
noncomputable def lZ(Y:MH)(kind:Nat)(Z:List MV):Option (Option (Nat×List MV)×List MV):=if kind=0 then(lU Z).bind λ v=>(match v with
 |.str s=>aA (aB,s.map λ c=>.str [c])|.tup l=>aA (aB,l)|v=>(Ay v).bind λ a=>(listOf Y (.ref a)).map λ l=>(aA (a,l),l))else if kind=1 then(lU Z).bind λ v=>(xY v).bind λ n=>if n.natAbs<=aX then aA (aB,kJ n)else aB else if kind=2 then(lU Z).bind λ v=>(UR v).map λ s=>(aB,FK s)else if kind=3 then(qe Z).bind λ p=>(xY p.1).bind λ x=>(xY p.2.1).bind λ y=>(xY p.2.2).bind λ z=>if z=-1/\x.natAbs<=aX/\y.natAbs<=aX then aA (aB,vC x y)else aB else aB
theorem iu{Y:MH}{Z:List MV}{r:Option (Nat×List MV)×List MV}(h:lZ Y 1 Z=aA r):∃n,Z=[.int n]/\n.natAbs<=aX/\r=(aB,kJ n):=by
 unfold lZ at h;rw[if_neg (by decide),if_pos rfl]at h;obtain⟨c,a,h⟩:=cA h;obtain⟨n,b,h⟩:=cA h;obtain⟨G,h⟩:=gZ h;exact⟨n,by rw[gG a,jR b],G,h.symm⟩
theorem qi{Y:MH}{Z:List MV}{r:Option (Nat×List MV)×List MV}(h:lZ Y 2 Z=aA r):∃s,Z=[.str s]/\r=(aB,FK s):=by
 unfold lZ at h;rw[if_neg (by decide),if_neg (by decide),if_pos rfl]at h;obtain⟨c,a,h⟩:=cA h;obtain⟨n,b,h⟩:=fR h;exact⟨n,by rw[gG a,tZ b],h.symm⟩
theorem j4{Y:MH}{Z:List MV}{r:Option (Nat×List MV)×List MV}(h:lZ Y 3 Z=aA r):∃x y,Z=[.int x,.int y,.int (-1)]/\x.natAbs<=aX/\y.natAbs<=aX/\r=(aB,vC x y):=by
 unfold lZ at h;rw[if_neg (by decide),if_neg (by decide),if_neg (by decide),if_pos rfl]at h;obtain⟨i,a,h⟩:=cA h;obtain⟨c,e,h⟩:=cA h;obtain⟨f,d,h⟩:=cA h;obtain⟨g,b,h⟩:=cA h;obtain⟨G,h⟩:=gZ h;exact⟨c,f,by rw[yU a,jR e,jR d,jR b,G.1],G.2.1,G.2.2,h.symm⟩
noncomputable def FF(G:Gl)(Y:MH)(v:MV)(f:Nat):Option MV:=match v with
 |.ref a=>match Y a with
  |aA (.inst C N)=>if G.fo C f then pX N f else aB|_=>aB
 |_=>aB
noncomputable def mf:Nat->Nat
 |4=>24|24=>21|_=>1000
noncomputable def rb{a:Type}(b:lS)(l:List a):Option Bool:=match b with
 |.Eq=>aA l.isEmpty|.NotEq=>aA (!l.isEmpty)|_=>aB
noncomputable def AK(u:List (Nat×List Nat))(i:Int)(d:MV):MV:=match u.find? (λ p=>(p.1:Int)==i)with
 |aA p=>.str p.2|aB=>d
noncomputable def yI(a:jO)(b:Bool):Bool:=match a with
 |.And=>!b|.Or=>b
section
variable(h:kP)(G:Gl)
mutual noncomputable def bX:ME->Loc->MH->KE->KE->Prop
 |.no,_,Y,k,_=>k .none Y|.c q,_,Y,k,_=>k (zT q) Y|.neg n,_,Y,k,_=>k (.int (-(n:Int))) Y|.l i,B,Y,k,_=>OptK (B[i]?.join) λ v=>k v Y|.g i,_,Y,k,_=>OptK (G.gv i) λ v=>k v Y|.attr e f,B,Y,k,x=>bX e B Y (λ v Y=>OptK (FF G Y v f) λ u=>k u Y) x|.idx e i,B,Y,k,x=>bX e B Y (λ v Y=>bX i B Y (λ j Y=>OptK (GA Y v j) λ u=>k u Y) x) x|.slc e lo H,B,Y,k,x=>bX e B Y (λ v Y=>bX lo B Y (λ a Y=>bX H B Y (λ b Y=>match UR v with
 |aA s=>OptK (WG s a b) λ t=>k (.str t) Y|aB=>OptK (MK G Y v) λ l=>OptK (WG l a b) λ t=>∀n,Y n=aB->k (.ref n) (upd Y n (.list t))) x) x) x|.call f w V,B,Y,k,x=>h.hc f=aC/\dP w B Y (λ Z Y=>h.call f Z V Y k x) x|.new f w,B,Y,k,x=>h.hn f=aC/\dP w B Y (λ Z Y=>h.new f Z Y k x) x|.meth e m w,B,Y,k,x=>bX e B Y (λ v Y=>match v with
 |.ref a=>(match Y a with
 |aA (.inst C N)=>pX N (mf m)=aB/\h.hm C m=aC/\dP w B Y (λ Z Y=>h.meth C m (.ref a::Z) Y k x) x|aA (.list _)=>IZ m=aC/\dP w B Y (λ Z Y=>OptK (g9 Y m a Z) λ r=>k r.1 (upd Y a (.list r.2))) x|aA (.sdict _)=>m=32/\a≠gC/\dP w B Y (λ Z Y=>OptK (Ax Y a Z) λ r=>k r Y) x|_=>False)|.str s=>JK m=aC/\dP w B Y (λ Z Y=>OptK (WJ Y m s Z) λ r=>k r Y) x|_=>False) x|.bi b w,B,Y,k,x=>dP w B Y (λ Z Y=>match Cz Y b Z with
 |aA l=>∀n,Y n=aB->k (.ref n) (upd Y n (.list l))|aB=>OptK (Gv Y b Z) λ r=>k r Y) x|.lst X,B,Y,k,x=>dP X B Y (λ Z Y=>Z.length<=aX/\∀n,Y n=aB->k (.ref n) (upd Y n (.list Z))) x|.tup X,B,Y,k,x=>dP X B Y (λ Z Y=>Z.length<=aX/\k (.tup Z) Y) x|.bin y a b,B,Y,k,x=>bX a B Y (λ u Y=>bX b B Y (λ v Y=>OptK (CU y u v) λ r=>k r Y) x) x|.cmp y a b,B,Y,k,x=>bX a B Y (λ u Y=>bX b B Y (λ v Y=>OptK (IP G y Y u v) λ r=>k (.bool r) Y) x) x|.cmpNil y a,B,Y,k,x=>bX a B Y (λ u Y=>OptK (listOf Y u) λ l=>OptK (rb y l) λ b=>k (.bool b) Y) x|.bool y X,B,Y,k,x=>JV y X B Y k x|.not a,B,Y,k,x=>bX a B Y (λ v Y=>OptK (FM v) λ b=>k (.bool !b) Y) x|.ite t a b,B,Y,k,x=>bX t B Y (λ v Y=>OptK (FM v) λ c=>match c with
 |aC=>bX a B Y k x|aG=>bX b B Y k x) x|.isin e P _,B,Y,k,x=>P.all G.ci=aC/\bX e B Y (λ v Y=>OptK (BQ G Y v) λ t=>k (.bool (P.any λ c=>BE t (G.ca c))) Y) x|.comp K E kind o S cond,B,Y,k,x=>dP o B Y (λ Z Y=>OptK (lZ Y kind Z) λ D=>pI (λ B Y k=>bX S B Y k λ U U=>False) (λ B Y k=>AE cond B Y k) K.length D.1 D.2 [] (cJ K.length aB++E.map λ i=>B[i]?.join) Y k) x|.pick z F pG,B,Y,k,x=>bX F B Y (λ I Y=>bX pG B Y (λ d Y=>OptK (xY I) λ i=>k (AK z i d) Y) x) x|.jrev A e,B,Y,k,x=>bX e B Y (λ v Y=>OptK (listOf Y v) λ l=>OptK (qE A l.reverse) λ s=>s.length<=aX/\k (.str s) Y) x|.lzip a b,B,Y,k,x=>bX a B Y (λ u Y=>bX b B Y (λ v Y=>OptK (listOf Y u) λ l=>OptK (listOf Y v) λ r=>∀n,Y n=aB->k (.ref n) (upd Y n (.list ((l.zip r).map λ p=>.tup [p.1,p.2])))) x) x|.emp,_,Y,k,_=>∀n,n≠gC->Y n=aB->k (.ref n) (upd Y n (.sdict []))|.dead,_,_,_,_=>False noncomputable def dP:List ME->Loc->MH->(List MV->MH->Prop)->KE->Prop
 |[],_,Y,k,_=>k [] Y|e::X,B,Y,k,x=>bX e B Y (λ v Y=>dP X B Y (λ Z Y=>k (v::Z) Y) x) x noncomputable def AE:List ME->Loc->MH->(Bool->MH->Prop)->Prop
 |[],_,Y,k=>k aC Y|e::X,B,Y,k=>bX e B Y (λ v Y=>OptK (FM v) λ c=>match c with
 |aC=>AE X B Y k|aG=>k aG Y) λ U U=>False noncomputable def JV(y:jO):List ME->Loc->MH->KE->KE->Prop
 |[],_,_,_,_=>False|e::X,B,Y,k,x=>bX e B Y (λ v Y=>OptK (FM v) λ b=>match X.isEmpty||yI y b with
 |aC=>k (.bool b) Y|aG=>JV y X B Y k x) x end
end
section
variable{h:kP}{G:Gl}
theorem Lk{B:Loc}{Y:MH}{k x:KE}:bX h G (.no) B Y k x↔k .none Y:=dO
theorem Ie{q:MC}{B:Loc}{Y:MH}{k x:KE}:bX h G (.c q) B Y k x↔k (zT q) Y:=dO
theorem wz{n:Nat}{B:Loc}{Y:MH}{k x:KE}:bX h G (.neg n) B Y k x↔k (.int (-(n:Int))) Y:=dO
theorem Jt{i:Nat}{B:Loc}{Y:MH}{k x:KE}:bX h G (.l i) B Y k x↔OptK (B[i]?.join) λ v=>k v Y:=dO
theorem Hj{i:Nat}{B:Loc}{Y:MH}{k x:KE}:bX h G (.g i) B Y k x↔OptK (G.gv i) λ v=>k v Y:=dO
theorem ki{e:ME}{f:Nat}{B:Loc}{Y:MH}{k x:KE}:bX h G (.attr e f) B Y k x↔bX h G e B Y (λ v Y=>OptK (FF G Y v f) λ u=>k u Y) x:=dO
theorem ZP{e:ME}{i:ME}{B:Loc}{Y:MH}{k x:KE}:bX h G (.idx e i) B Y k x↔bX h G e B Y (λ v Y=>bX h G i B Y (λ j Y=>OptK (GA Y v j) λ u=>k u Y) x) x:=dO
theorem w6{e:ME}{lo:ME}{c:ME}{B:Loc}{Y:MH}{k x:KE}:bX h G (.slc e lo c) B Y k x↔bX h G e B Y (λ v Y=>bX h G lo B Y (λ a Y=>bX h G c B Y (λ b Y=>match UR v with
 |aA s=>OptK (WG s a b) λ t=>k (.str t) Y|aB=>OptK (MK G Y v) λ l=>OptK (WG l a b) λ t=>∀n,Y n=aB->k (.ref n) (upd Y n (.list t))) x) x) x:=dO
theorem qd{f:Nat}{a:List ME}{o:List Nat}{B:Loc}{Y:MH}{k x:KE}:bX h G (.call f a o) B Y k x↔h.hc f=aC/\dP h G a B Y (λ Z Y=>h.call f Z o Y k x) x:=dO
theorem wm{f:Nat}{a:List ME}{B:Loc}{Y:MH}{k x:KE}:bX h G (.new f a) B Y k x↔h.hn f=aC/\dP h G a B Y (λ Z Y=>h.new f Z Y k x) x:=dO
theorem jf{e:ME}{m:Nat}{b:List ME}{B:Loc}{Y:MH}{k x:KE}:bX h G (.meth e m b) B Y k x↔bX h G e B Y (λ v Y=>match v with
 |.ref a=>(match Y a with
 |aA (.inst C N)=>pX N (mf m)=aB/\h.hm C m=aC/\dP h G b B Y (λ Z Y=>h.meth C m (.ref a::Z) Y k x) x|aA (.list _)=>IZ m=aC/\dP h G b B Y (λ Z Y=>OptK (g9 Y m a Z) λ r=>k r.1 (upd Y a (.list r.2))) x|aA (.sdict _)=>m=32/\a≠gC/\dP h G b B Y (λ Z Y=>OptK (Ax Y a Z) λ r=>k r Y) x|_=>False)|.str s=>JK m=aC/\dP h G b B Y (λ Z Y=>OptK (WJ Y m s Z) λ r=>k r Y) x|_=>False) x:=dO
theorem Ez{b:Nat}{a:List ME}{B:Loc}{Y:MH}{k x:KE}:bX h G (.bi b a) B Y k x↔dP h G a B Y (λ Z Y=>match Cz Y b Z with
 |aA l=>∀n,Y n=aB->k (.ref n) (upd Y n (.list l))|aB=>OptK (Gv Y b Z) λ r=>k r Y) x:=dO
theorem xr{X:List ME}{B:Loc}{Y:MH}{k x:KE}:bX h G (.lst X) B Y k x↔dP h G X B Y (λ Z Y=>Z.length<=aX/\∀n,Y n=aB->k (.ref n) (upd Y n (.list Z))) x:=dO
theorem yz{X:List ME}{B:Loc}{Y:MH}{k x:KE}:bX h G (.tup X) B Y k x↔dP h G X B Y (λ Z Y=>Z.length<=aX/\k (.tup Z) Y) x:=dO
theorem au{c:iX}{a:ME}{b:ME}{B:Loc}{Y:MH}{k x:KE}:bX h G (.bin c a b) B Y k x↔bX h G a B Y (λ u Y=>bX h G b B Y (λ v Y=>OptK (CU c u v) λ r=>k r Y) x) x:=dO
theorem cb{c:lS}{a:ME}{b:ME}{B:Loc}{Y:MH}{k x:KE}:bX h G (.cmp c a b) B Y k x↔bX h G a B Y (λ u Y=>bX h G b B Y (λ v Y=>OptK (IP G c Y u v) λ r=>k (.bool r) Y) x) x:=dO
theorem WD{c:lS}{a:ME}{B:Loc}{Y:MH}{k x:KE}:bX h G (.cmpNil c a) B Y k x↔bX h G a B Y (λ u Y=>OptK (listOf Y u) λ l=>OptK (rb c l) λ b=>k (.bool b) Y) x:=dO
theorem TF{a:jO}{X:List ME}{B:Loc}{Y:MH}{k x:KE}:bX h G (.bool a X) B Y k x↔JV h G a X B Y k x:=dO
theorem ZV{a:ME}{B:Loc}{Y:MH}{k x:KE}:bX h G (.not a) B Y k x↔bX h G a B Y (λ v Y=>OptK (FM v) λ b=>k (.bool !b) Y) x:=dO
theorem cg{t:ME}{a:ME}{b:ME}{B:Loc}{Y:MH}{k x:KE}:bX h G (.ite t a b) B Y k x↔bX h G t B Y (λ v Y=>OptK (FM v) λ c=>match c with
 |aC=>bX h G a B Y k x|aG=>bX h G b B Y k x) x:=dO
theorem mx{e:ME}{f:List Nat}{tp:Bool}{B:Loc}{Y:MH}{k x:KE}:bX h G (.isin e f tp) B Y k x↔f.all G.ci=aC/\bX h G e B Y (λ v Y=>OptK (BQ G Y v) λ t=>k (.bool (f.any λ c=>BE t (G.ca c))) Y) x:=dO
theorem RQ{p:List String}{K:List Nat}{kind:Nat}{a:List ME}{S:ME}{cond:List ME}{B:Loc}{Y:MH}{k x:KE}:bX h G (.comp p K kind a S cond) B Y k x↔dP h G a B Y (λ Z Y=>OptK (lZ Y kind Z) λ q=>pI (λ B Y k=>bX h G S B Y k λ U U=>False) (λ B Y k=>AE h G cond B Y k) p.length q.1 q.2 [] (cJ p.length aB++K.map λ i=>B[i]?.join) Y k) x:=dO
theorem nk{u:List (Nat×List Nat)}{a:ME}{pG:ME}{B:Loc}{Y:MH}{k x:KE}:bX h G (.pick u a pG) B Y k x↔bX h G a B Y (λ V Y=>bX h G pG B Y (λ d Y=>OptK (xY V) λ i=>k (AK u i d) Y) x) x:=dO
theorem RV{a:List Nat}{e:ME}{B:Loc}{Y:MH}{k x:KE}:bX h G (.jrev a e) B Y k x↔bX h G e B Y (λ v Y=>OptK (listOf Y v) λ l=>OptK (qE a l.reverse) λ s=>s.length<=aX/\k (.str s) Y) x:=dO
theorem SD{a:ME}{b:ME}{B:Loc}{Y:MH}{k x:KE}:bX h G (.lzip a b) B Y k x↔bX h G a B Y (λ u Y=>bX h G b B Y (λ v Y=>OptK (listOf Y u) λ l=>OptK (listOf Y v) λ r=>∀n,Y n=aB->k (.ref n) (upd Y n (.list ((l.zip r).map λ p=>.tup [p.1,p.2])))) x) x:=dO
theorem Iw{B:Loc}{Y:MH}{k x:KE}:bX h G (.emp) B Y k x↔∀n,n≠gC->Y n=aB->k (.ref n) (upd Y n (.sdict [])):=dO
theorem CQ{e:ME}{X:List ME}{B:Loc}{Y:MH}{k:List MV->MH->Prop}{x:KE}:dP h G (e::X) B Y k x↔bX h G e B Y (λ v Y=>dP h G X B Y (λ Z Y=>k (v::Z) Y) x) x:=dO
theorem kr{B:Loc}{Y:MH}{k:List MV->MH->Prop}{x:KE}:dP h G [] B Y k x↔k [] Y:=dO
end
inductive MT where|l(i:Nat)|ls(is:List Nat)|attr(e:ME)(f:Nat)|sub(e i:ME)
inductive MS where|asg(t:MT)(e:ME)|ex(e:ME)|ite(t:ME)(a b:List MS)|whl(t:ME)(b:List MS)|for_(ts:List Nat)(kind:Nat)(its:List ME)(b:List MS)|ret(e:ME)|raiseLim(e:ME)|tryLim(e:ME)|cont|dead
structure MF where
 names:List String
 np:Nat
 dflts:List MV
 body:List MS
 kws:List ((Nat×List Nat)×List (Bool×Nat)):=[]
noncomputable abbrev KL:=Loc->MH->Prop
noncomputable def NB(G:Gl)(Y:MH)(v:MV)(f:Nat)(u:MV)(k:MH->Prop):Prop:=∃a C N,v=.ref a/\Y a=aA (.inst C N)/\G.fo C f=aC/\f<iO.length/\N.length<100/\k (upd Y a (.inst C (xR N f u)))
noncomputable def YZ(Y:MH)(v i u:MV)(k:MH->Prop):Prop:=∃a,v=.ref a/\((∃j l,i=.int j/\Y a=aA (.list l)/\0<=j/\j.toNat<l.length/\k (upd Y a (.list (l.set j.toNat u))))\/(∃s X,i=.str s/\Y a=aA (.sdict X)/\X.find? (·.1==s)=aB/\X.length<=aX/\k (upd Y a (.sdict (X++[(s,u)])))))
noncomputable def wN(g:List Nat)(v:MV)(B:Loc):Option Loc:=match lU g with
 |aA i=>aA (B.set i (aA v))|aB=>(zf v).bind λ l=>match NK g with
 |aA t=>(NK l).map λ p=>(B.set t.1 (aA p.1)).set t.2 (aA p.2)|aB=>(qe g).bind λ t=>(qe l).map λ p=>((B.set t.1 (aA p.1)).set t.2.1 (aA p.2.1)).set t.2.2 (aA p.2.2)
noncomputable def tT(t:Loc->MH->KL->Prop)(g:List Nat)(C:Option (Nat×List MV)):List MV->Loc->MH->KL->Prop
 |[],B,Y,next=>AO C Y/\next B Y|v::i,B,Y,next=>AO C Y/\OptK (wN g v B) λ X=>t X Y λ B Y=>tT t g C i B Y next
noncomputable def lT(a:Loc->MH->KL->Prop):Nat->Loc->MH->Prop
 |0,_,_=>False|n+1,B,Y=>a B Y (lT a n)
section
variable(d:kP)(G:Gl)
mutual noncomputable def BY:MS->Loc->MH->KL->KE->KL->KE->Prop
 |.asg t e,B,Y,H,_,_,x=>bX d G e B Y (λ v Y=>match t with
 |.l i=>H (B.set i (aA v)) Y|.ls k=>OptK (wN k v B) λ X=>H X Y|.attr e f=>bX d G e B Y (λ o Y=>NB G Y o f v λ Y=>H B Y) x|.sub e i=>bX d G e B Y (λ o Y=>bX d G i B Y (λ j Y=>YZ Y o j v λ Y=>H B Y) x) x) x|.ex e,B,Y,H,_,_,x=>bX d G e B Y (λ U Y=>H B Y) x|.ite t a b,B,Y,H,F,y,x=>bX d G t B Y (λ v Y=>OptK (FM v) λ c=>match c with
 |aC=>cF a B Y H F y x|aG=>cF b B Y H F y x) x|.whl t b,B,Y,H,F,_,x=>∃n,lT (λ B Y bZ=>bX d G t B Y (λ v Y=>OptK (FM v) λ c=>match c with
 |aC=>cF b B Y bZ F bZ x|aG=>H B Y) x) n B Y|.for_ g kind C b,B,Y,H,F,_,x=>dP d G C B Y (λ Z Y=>OptK (lZ Y kind Z) λ q=>tT (λ B Y bZ=>cF b B Y bZ F bZ λ U U=>False) g q.1 q.2 B Y H) x|.ret e,B,Y,_,F,_,x=>bX d G e B Y F x|.raiseLim e,B,Y,_,_,_,x=>bX d G e B Y (λ v Y=>OptK (xY v) λ i=>x (.int i) Y) x|.tryLim e,B,Y,_,F,_,_=>bX d G e B Y F F|.cont,B,Y,_,_,y,_=>y B Y|.dead,_,_,_,_,_,_=>False noncomputable def cF:List MS->Loc->MH->KL->KE->KL->KE->Prop
 |[],B,Y,H,_,_,_=>H B Y|s::z,B,Y,H,F,y,x=>BY s B Y (λ B Y=>cF z B Y H F y x) F y x end
end
section
variable{d:kP}{G:Gl}{e:ME}{B:Loc}{Y:MH}{H:KL}{F:KE}{y:KL}{x:KE}
theorem Fi{i:Nat}:BY d G (.asg (.l i) e) B Y H F y x↔bX d G e B Y (λ v Y=>H (B.set i (aA v)) Y) x:=dO
theorem Fd{n:List Nat}:BY d G (.asg (.ls n) e) B Y H F y x↔bX d G e B Y (λ v Y=>OptK (wN n v B) λ X=>H X Y) x:=dO
theorem kf{o:ME}{f:Nat}:BY d G (.asg (.attr o f) e) B Y H F y x↔bX d G e B Y (λ v Y=>bX d G o B Y (λ o Y=>NB G Y o f v λ Y=>H B Y) x) x:=dO
theorem yn{o i:ME}:BY d G (.asg (.sub o i) e) B Y H F y x↔bX d G e B Y (λ v Y=>bX d G o B Y (λ o Y=>bX d G i B Y (λ j Y=>YZ Y o j v λ Y=>H B Y) x) x) x:=dO
theorem Em:BY d G (.ex e) B Y H F y x↔bX d G e B Y (λ U Y=>H B Y) x:=dO
theorem y5{a b:List MS}:BY d G (.ite e a b) B Y H F y x↔bX d G e B Y (λ v Y=>OptK (FM v) λ c=>match c with
 |aC=>cF d G a B Y H F y x|aG=>cF d G b B Y H F y x) x:=dO
noncomputable def zG(d:kP)(G:Gl)(e:ME)(b:List MS)(H:KL)(F:KE)(x:KE)(B:Loc)(Y:MH)(bZ:KL):Prop:=bX d G e B Y (λ v Y=>OptK (FM v) λ c=>match c with
 |aC=>cF d G b B Y bZ F bZ x|aG=>H B Y) x
noncomputable def uU(d:kP)(G:Gl)(b:List MS)(F:KE)(B:Loc)(Y:MH)(bZ:KL):Prop:=cF d G b B Y bZ F bZ λ U U=>False
theorem ya{b:List MS}:BY d G (.whl e b) B Y H F y x↔∃n,lT (zG d G e b H F x) n B Y:=dO
theorem xe{g:List Nat}{kind:Nat}{a:List ME}{b:List MS}:BY d G (.for_ g kind a b) B Y H F y x↔dP d G a B Y (λ Z Y=>OptK (lZ Y kind Z) λ q=>tT (uU d G b F) g q.1 q.2 B Y H) x:=dO
theorem zh:BY d G (.ret e) B Y H F y x↔bX d G e B Y F x:=dO
theorem YC:BY d G (.raiseLim e) B Y H F y x↔bX d G e B Y (λ v Y=>OptK (xY v) λ i=>x (.int i) Y) x:=dO
theorem uf:BY d G (.tryLim e) B Y H F y x↔bX d G e B Y F F:=dO
theorem Gq:cF d G [] B Y H F y x↔H B Y:=dO
theorem d6{s:MS}{z:List MS}:cF d G (s::z) B Y H F y x↔BY d G s B Y (λ B Y=>cF d G z B Y H F y x) F y x:=dO
end
noncomputable def bindM(F:MF)(Z:List MV)(o:List Nat):Option Loc:=let fill(l:List MV):Loc:=l.map aA++cJ (F.names.length-F.np) aB;match o with
 |[]=>if Z.length<=F.np/\F.np<=Z.length+F.dflts.length then aA (fill (Z++F.dflts.drop (Z.length+F.dflts.length-F.np)))else aB|o=>if o.length<=Z.length then(F.kws.lookup (Z.length-o.length,o)).bind λ C=>(C.mapM λ(p:Bool×Nat)=>if p.1 then Z[p.2]? else F.dflts[p.2]?).map fill else aB
structure i6 where
 fn:Nat->Option MF
 ini:Nat->Option MF
 mth:Nat->Nat->Option MF
noncomputable def TJ(a:kP)(G:Gl)(F:MF)(Z:List MV)(o:List Nat)(Y:MH)(k x:KE):Prop:=OptK (bindM F Z o) λ B=>cF a G F.body B Y (λ U Y=>k .none Y) k (λ U U=>False) x
noncomputable def bY(T:i6)(G:Gl):Nat->kP
 |0=>⟨λ U=>aG,λ U=>aG,λ U U=>aG,λ U U U U U U=>False,λ U U U U U=>False,λ U U U U U U=>False⟩|d+1=>
    { hc:=λ f=>(T.fn f).isSome
      hn:=λ C=>(T.ini C).isSome
      hm:=λ C m=>(T.mth C m).isSome
      call:=λ f Z o Y k x=>OptK (T.fn f) λ F=>TJ (bY T G d) G F Z o Y k x
      new:=λ C Z Y k x=>OptK (T.ini C) λ F=>∀a,Y a=aB->TJ (bY T G d) G F (.ref a::Z) [] (upd Y a (.inst (G.ca C) [])) (λ v Y=>v=.none/\k (.ref a) Y) x
      meth:=λ C m Z Y k x=>OptK (T.mth C m) λ F=>TJ (bY T G d) G F Z [] Y k x}
/-! the names -/
noncomputable def Ft(b:Nat):bP:=aP (uv[b]?.getD "?")
noncomputable def MP{b:Type}(o:Option b)(P:b->Prop):Prop:=match o with
 |aA a=>P a|aB=>True
theorem PZ{b:Type}{o:Option b}{P:b->Prop}{f:b->Bool}(s:MP o P)(h:o.any f=aC):∃a,P a/\f a=aC:=by cases o with
 |none=>cases h|some a=>exact⟨a,s,h⟩
theorem bl{a b:Bool}(h:(a&&b)=aC):a=aC:=(dC.mp h).1
theorem br{a b:Bool}(h:(a&&b)=aC):b=aC:=(dC.mp h).2
theorem aD{a:Type}{f:a->Bool}{X:Prop}(h:bR f aB=aC):X:=absurd h cP
theorem eX{b:Type}{f:b->Bool}{a:b}(h:bR f (aA a)=aC):f a=aC:=h
noncomputable def eF{a:Type}(o:a)(u:bP->fX->a)(k:yZ->Nat->fX->a)(h:aR->bP->fX->a)(sub:aR->aR->fX->a)(d:(Option aR)->(Option aR)->(Option aR)->fX->a)(l:aR->(List aR)->(List nF)->fX->a)(bin:aR->iX->aR->fX->a)(p:UnaryOp->aR->fX->a)(c:aR->aR->aR->fX->a)(i:aR->(List lS)->(List aR)->fX->a)(f:jO->(List aR)->fX->a)(b:(List aR)->Nat->fX->a)(g:(List aR)->fX->a)(e:aR->(List qD)->oP->fX->a)(j:(List (Option aR))->(List aR)->fX->a):aR->a
 |.Name m Z=>u m Z|.Constant n t Z=>k n t Z|.Attribute B y Z=>h B y Z|.Subscript B q Z=>sub B q Z|.Slice y A D Z=>d y A D Z|.Call I s v Z=>l I s v Z|.BinOp y w A Z=>bin y w A Z|.UnaryOp w y Z=>p w y Z|.IfExp C y A Z=>c C y A Z|.Compare y E F Z=>i y E F Z|.BoolOp w x Z=>f w x Z|.Tuple x t Z=>b x t Z|.List x Z=>g x Z|.ListComp B G H Z=>e B G H Z|.Dict v r Z=>j v r Z|_=>o
theorem kL{a:Type}{o:a}{u:bP->fX->a}{i:yZ->Nat->fX->a}{j:aR->bP->fX->a}{sub:aR->aR->fX->a}{c:(Option aR)->(Option aR)->(Option aR)->fX->a}{z:aR->(List aR)->(List nF)->fX->a}{bin:aR->iX->aR->fX->a}{O:UnaryOp->aR->fX->a}{e:aR->aR->aR->fX->a}{h:aR->(List lS)->(List aR)->fX->a}{f:jO->(List aR)->fX->a}{b:(List aR)->Nat->fX->a}{d:(List aR)->fX->a}{g:aR->(List qD)->oP->fX->a}{l:(List (Option aR))->(List aR)->fX->a}{P:a->aR->Prop}(k:∀p,P o p)(U:∀(m:bP)Z,P (u m Z) (.Name m Z))(W:∀(n:yZ)(t:Nat)Z,P (i n t Z) (.Constant n t Z))(Q:∀(B:aR)(y:bP)Z,P (j B y Z) (.Attribute B y Z))(Y:∀(B:aR)(q:aR)Z,P (sub B q Z) (.Subscript B q Z))(k4:∀(y:Option aR)(A:Option aR)(D:Option aR)Z,P (c y A D Z) (.Slice y A D Z))(X:∀(I:aR)(s:List aR)(v:List nF)Z,P (z I s v Z) (.Call I s v Z))(V:∀(y:aR)(w:iX)(A:aR)Z,P (bin y w A Z) (.BinOp y w A Z))(R:∀(w:UnaryOp)(y:aR)Z,P (O w y Z) (.UnaryOp w y Z))(k8:∀(C:aR)(y:aR)(A:aR)Z,P (e C y A Z) (.IfExp C y A Z))(S:∀(y:aR)(E:List lS)(F:List aR)Z,P (h y E F Z) (.Compare y E F Z))(L:∀(w:jO)(x:List aR)Z,P (f w x Z) (.BoolOp w x Z))(M:∀(x:List aR)(t:Nat)Z,P (b x t Z) (.Tuple x t Z))(J:∀(x:List aR)Z,P (d x Z) (.List x Z))(K:∀(B:aR)(G:List qD)(H:oP)Z,P (g B G H Z) (.ListComp B G H Z))(N:∀(v:List (Option aR))(r:List aR)Z,P (l v r Z) (.Dict v r Z))(p:aR):P (eF o u i j sub c z bin O e h f b d g l p) p:=by cases p with
 |Name=>exact U _ _|Constant=>exact W _ _ _|Attribute=>exact Q _ _ _|Subscript=>exact Y _ _ _|Slice=>exact k4 _ _ _ _|Call=>exact X _ _ _ _|BinOp=>exact V _ _ _ _|UnaryOp=>exact R _ _ _|IfExp=>exact k8 _ _ _ _|Compare=>exact S _ _ _ _|BoolOp=>exact L _ _ _|Tuple=>exact M _ _ _|List=>exact J _ _|ListComp=>exact K _ _ _ _|Dict=>exact N _ _ _|_=>exact k _
noncomputable def zF:aR->Option (bP):=eF aB (λ m U=>aA (m)) (λ U U U=>aB) (λ U U U=>aB) (λ U U U=>aB) (λ U U U U=>aB) (λ U U U U=>aB) (λ U U U U=>aB) (λ U U U=>aB) (λ U U U U=>aB) (λ U U U U=>aB) (λ U U U=>aB) (λ U U U=>aB) (λ U U=>aB) (λ U U U U=>aB) (λ U U U=>aB)
noncomputable def OT:aR->Option (yZ):=eF aB (λ U U=>aB) (λ n U U=>aA (n)) (λ U U U=>aB) (λ U U U=>aB) (λ U U U U=>aB) (λ U U U U=>aB) (λ U U U U=>aB) (λ U U U=>aB) (λ U U U U=>aB) (λ U U U U=>aB) (λ U U U=>aB) (λ U U U=>aB) (λ U U=>aB) (λ U U U U=>aB) (λ U U U=>aB)
noncomputable def FH:aR->Option (aR×bP×fX):=eF aB (λ U U=>aB) (λ U U U=>aB) (λ B y Z=>aA (B,y,Z)) (λ U U U=>aB) (λ U U U U=>aB) (λ U U U U=>aB) (λ U U U U=>aB) (λ U U U=>aB) (λ U U U U=>aB) (λ U U U U=>aB) (λ U U U=>aB) (λ U U U=>aB) (λ U U=>aB) (λ U U U U=>aB) (λ U U U=>aB)
noncomputable def ZG:aR->Option (aR×aR):=eF aB (λ U U=>aB) (λ U U U=>aB) (λ U U U=>aB) (λ B q U=>aA (B,q)) (λ U U U U=>aB) (λ U U U U=>aB) (λ U U U U=>aB) (λ U U U=>aB) (λ U U U U=>aB) (λ U U U U=>aB) (λ U U U=>aB) (λ U U U=>aB) (λ U U=>aB) (λ U U U U=>aB) (λ U U U=>aB)
noncomputable def QL:aR->Option (Option aR×Option aR×Option aR):=eF aB (λ U U=>aB) (λ U U U=>aB) (λ U U U=>aB) (λ U U U=>aB) (λ y A D U=>aA (y,A,D)) (λ U U U U=>aB) (λ U U U U=>aB) (λ U U U=>aB) (λ U U U U=>aB) (λ U U U U=>aB) (λ U U U=>aB) (λ U U U=>aB) (λ U U=>aB) (λ U U U U=>aB) (λ U U U=>aB)
noncomputable def pH:aR->Option (aR×List aR×List nF×fX):=eF aB (λ U U=>aB) (λ U U U=>aB) (λ U U U=>aB) (λ U U U=>aB) (λ U U U U=>aB) (λ I s v Z=>aA (I,s,v,Z)) (λ U U U U=>aB) (λ U U U=>aB) (λ U U U U=>aB) (λ U U U U=>aB) (λ U U U=>aB) (λ U U U=>aB) (λ U U=>aB) (λ U U U U=>aB) (λ U U U=>aB)
noncomputable def zp:aR->Option (aR×iX×aR):=eF aB (λ U U=>aB) (λ U U U=>aB) (λ U U U=>aB) (λ U U U=>aB) (λ U U U U=>aB) (λ U U U U=>aB) (λ y w A U=>aA (y,w,A)) (λ U U U=>aB) (λ U U U U=>aB) (λ U U U U=>aB) (λ U U U=>aB) (λ U U U=>aB) (λ U U=>aB) (λ U U U U=>aB) (λ U U U=>aB)
noncomputable def H1:aR->Option (UnaryOp×aR):=eF aB (λ U U=>aB) (λ U U U=>aB) (λ U U U=>aB) (λ U U U=>aB) (λ U U U U=>aB) (λ U U U U=>aB) (λ U U U U=>aB) (λ w y U=>aA (w,y)) (λ U U U U=>aB) (λ U U U U=>aB) (λ U U U=>aB) (λ U U U=>aB) (λ U U=>aB) (λ U U U U=>aB) (λ U U U=>aB)
noncomputable def Ip:aR->Option (aR×aR×aR):=eF aB (λ U U=>aB) (λ U U U=>aB) (λ U U U=>aB) (λ U U U=>aB) (λ U U U U=>aB) (λ U U U U=>aB) (λ U U U U=>aB) (λ U U U=>aB) (λ C y A U=>aA (C,y,A)) (λ U U U U=>aB) (λ U U U=>aB) (λ U U U=>aB) (λ U U=>aB) (λ U U U U=>aB) (λ U U U=>aB)
noncomputable def q9:aR->Option (aR×List lS×List aR):=eF aB (λ U U=>aB) (λ U U U=>aB) (λ U U U=>aB) (λ U U U=>aB) (λ U U U U=>aB) (λ U U U U=>aB) (λ U U U U=>aB) (λ U U U=>aB) (λ U U U U=>aB) (λ y E F U=>aA (y,E,F)) (λ U U U=>aB) (λ U U U=>aB) (λ U U=>aB) (λ U U U U=>aB) (λ U U U=>aB)
noncomputable def XA:aR->Option (jO×List aR):=eF aB (λ U U=>aB) (λ U U U=>aB) (λ U U U=>aB) (λ U U U=>aB) (λ U U U U=>aB) (λ U U U U=>aB) (λ U U U U=>aB) (λ U U U=>aB) (λ U U U U=>aB) (λ U U U U=>aB) (λ w x U=>aA (w,x)) (λ U U U=>aB) (λ U U=>aB) (λ U U U U=>aB) (λ U U U=>aB)
noncomputable def TY:aR->Option (List aR):=eF aB (λ U U=>aB) (λ U U U=>aB) (λ U U U=>aB) (λ U U U=>aB) (λ U U U U=>aB) (λ U U U U=>aB) (λ U U U U=>aB) (λ U U U=>aB) (λ U U U U=>aB) (λ U U U U=>aB) (λ U U U=>aB) (λ x U U=>aA (x)) (λ U U=>aB) (λ U U U U=>aB) (λ U U U=>aB)
noncomputable def SJ:aR->Option (List aR):=eF aB (λ U U=>aB) (λ U U U=>aB) (λ U U U=>aB) (λ U U U=>aB) (λ U U U U=>aB) (λ U U U U=>aB) (λ U U U U=>aB) (λ U U U=>aB) (λ U U U U=>aB) (λ U U U U=>aB) (λ U U U=>aB) (λ U U U=>aB) (λ x U=>aA (x)) (λ U U U U=>aB) (λ U U U=>aB)
noncomputable def fw:aR->Option (aR×List qD×oP):=eF aB (λ U U=>aB) (λ U U U=>aB) (λ U U U=>aB) (λ U U U=>aB) (λ U U U U=>aB) (λ U U U U=>aB) (λ U U U U=>aB) (λ U U U=>aB) (λ U U U U=>aB) (λ U U U U=>aB) (λ U U U=>aB) (λ U U U=>aB) (λ U U=>aB) (λ B G H U=>aA (B,G,H)) (λ U U U=>aB)
noncomputable def QZ:aR->Option (List (Option aR)×List aR):=eF aB (λ U U=>aB) (λ U U U=>aB) (λ U U U=>aB) (λ U U U=>aB) (λ U U U U=>aB) (λ U U U U=>aB) (λ U U U U=>aB) (λ U U U=>aB) (λ U U U U=>aB) (λ U U U U=>aB) (λ U U U=>aB) (λ U U U=>aB) (λ U U=>aB) (λ U U U U=>aB) (λ v r U=>aA (v,r))
section
variable{M:Expr->Prop}{p:Expr}
theorem qK{f}(h:(zF p).any f=aC)(k:∀m Z,f (m)=aC->M (.Name m Z)):M p:=(kL (P:=λ o p=>bR f o=aC->M p) (λ U=>aD) (λ m Z h=>k m Z (eX h)) (λ U U U=>aD) (λ U U U=>aD) (λ U U U=>aD) (λ U U U U=>aD) (λ U U U U=>aD) (λ U U U U=>aD) (λ U U U=>aD) (λ U U U U=>aD) (λ U U U U=>aD) (λ U U U=>aD) (λ U U U=>aD) (λ U U=>aD) (λ U U U U=>aD) (λ U U U=>aD) p:bR f (zF p)=aC->M p) h
theorem VX{f}(h:(OT p).any f=aC)(k:∀n t Z,f (n)=aC->M (.Constant n t Z)):M p:=(kL (P:=λ o p=>bR f o=aC->M p) (λ U=>aD) (λ U U=>aD) (λ n t Z h=>k n t Z (eX h)) (λ U U U=>aD) (λ U U U=>aD) (λ U U U U=>aD) (λ U U U U=>aD) (λ U U U U=>aD) (λ U U U=>aD) (λ U U U U=>aD) (λ U U U U=>aD) (λ U U U=>aD) (λ U U U=>aD) (λ U U=>aD) (λ U U U U=>aD) (λ U U U=>aD) p:bR f (OT p)=aC->M p) h
theorem vO{f}(h:(FH p).any f=aC)(k:∀B y Z,f (B,y,Z)=aC->M (.Attribute B y Z)):M p:=(kL (P:=λ o p=>bR f o=aC->M p) (λ U=>aD) (λ U U=>aD) (λ U U U=>aD) (λ B y Z h=>k B y Z (eX h)) (λ U U U=>aD) (λ U U U U=>aD) (λ U U U U=>aD) (λ U U U U=>aD) (λ U U U=>aD) (λ U U U U=>aD) (λ U U U U=>aD) (λ U U U=>aD) (λ U U U=>aD) (λ U U=>aD) (λ U U U U=>aD) (λ U U U=>aD) p:bR f (FH p)=aC->M p) h
theorem KR{f}(h:(ZG p).any f=aC)(k:∀B q Z,f (B,q)=aC->M (.Subscript B q Z)):M p:=(kL (P:=λ o p=>bR f o=aC->M p) (λ U=>aD) (λ U U=>aD) (λ U U U=>aD) (λ U U U=>aD) (λ B q Z h=>k B q Z (eX h)) (λ U U U U=>aD) (λ U U U U=>aD) (λ U U U U=>aD) (λ U U U=>aD) (λ U U U U=>aD) (λ U U U U=>aD) (λ U U U=>aD) (λ U U U=>aD) (λ U U=>aD) (λ U U U U=>aD) (λ U U U=>aD) p:bR f (ZG p)=aC->M p) h
theorem VE{f}(h:(QL p).any f=aC)(k:∀y A D Z,f (y,A,D)=aC->M (.Slice y A D Z)):M p:=(kL (P:=λ o p=>bR f o=aC->M p) (λ U=>aD) (λ U U=>aD) (λ U U U=>aD) (λ U U U=>aD) (λ U U U=>aD) (λ y A D Z h=>k y A D Z (eX h)) (λ U U U U=>aD) (λ U U U U=>aD) (λ U U U=>aD) (λ U U U U=>aD) (λ U U U U=>aD) (λ U U U=>aD) (λ U U U=>aD) (λ U U=>aD) (λ U U U U=>aD) (λ U U U=>aD) p:bR f (QL p)=aC->M p) h
theorem kT{f}(h:(pH p).any f=aC)(k:∀I s v Z,f (I,s,v,Z)=aC->M (.Call I s v Z)):M p:=(kL (P:=λ o p=>bR f o=aC->M p) (λ U=>aD) (λ U U=>aD) (λ U U U=>aD) (λ U U U=>aD) (λ U U U=>aD) (λ U U U U=>aD) (λ I s v Z h=>k I s v Z (eX h)) (λ U U U U=>aD) (λ U U U=>aD) (λ U U U U=>aD) (λ U U U U=>aD) (λ U U U=>aD) (λ U U U=>aD) (λ U U=>aD) (λ U U U U=>aD) (λ U U U=>aD) p:bR f (pH p)=aC->M p) h
theorem ju{f}(h:(zp p).any f=aC)(k:∀y w A Z,f (y,w,A)=aC->M (.BinOp y w A Z)):M p:=(kL (P:=λ o p=>bR f o=aC->M p) (λ U=>aD) (λ U U=>aD) (λ U U U=>aD) (λ U U U=>aD) (λ U U U=>aD) (λ U U U U=>aD) (λ U U U U=>aD) (λ y w A Z h=>k y w A Z (eX h)) (λ U U U=>aD) (λ U U U U=>aD) (λ U U U U=>aD) (λ U U U=>aD) (λ U U U=>aD) (λ U U=>aD) (λ U U U U=>aD) (λ U U U=>aD) p:bR f (zp p)=aC->M p) h
theorem ar{f}(h:(H1 p).any f=aC)(k:∀w y Z,f (w,y)=aC->M (.UnaryOp w y Z)):M p:=(kL (P:=λ o p=>bR f o=aC->M p) (λ U=>aD) (λ U U=>aD) (λ U U U=>aD) (λ U U U=>aD) (λ U U U=>aD) (λ U U U U=>aD) (λ U U U U=>aD) (λ U U U U=>aD) (λ w y Z h=>k w y Z (eX h)) (λ U U U U=>aD) (λ U U U U=>aD) (λ U U U=>aD) (λ U U U=>aD) (λ U U=>aD) (λ U U U U=>aD) (λ U U U=>aD) p:bR f (H1 p)=aC->M p) h
theorem y0{f}(h:(Ip p).any f=aC)(k:∀C y A Z,f (C,y,A)=aC->M (.IfExp C y A Z)):M p:=(kL (P:=λ o p=>bR f o=aC->M p) (λ U=>aD) (λ U U=>aD) (λ U U U=>aD) (λ U U U=>aD) (λ U U U=>aD) (λ U U U U=>aD) (λ U U U U=>aD) (λ U U U U=>aD) (λ U U U=>aD) (λ C y A Z h=>k C y A Z (eX h)) (λ U U U U=>aD) (λ U U U=>aD) (λ U U U=>aD) (λ U U=>aD) (λ U U U U=>aD) (λ U U U=>aD) p:bR f (Ip p)=aC->M p) h
theorem QQ{f}(h:(q9 p).any f=aC)(k:∀y E F Z,f (y,E,F)=aC->M (.Compare y E F Z)):M p:=(kL (P:=λ o p=>bR f o=aC->M p) (λ U=>aD) (λ U U=>aD) (λ U U U=>aD) (λ U U U=>aD) (λ U U U=>aD) (λ U U U U=>aD) (λ U U U U=>aD) (λ U U U U=>aD) (λ U U U=>aD) (λ U U U U=>aD) (λ y E F Z h=>k y E F Z (eX h)) (λ U U U=>aD) (λ U U U=>aD) (λ U U=>aD) (λ U U U U=>aD) (λ U U U=>aD) p:bR f (q9 p)=aC->M p) h
theorem bb{f}(h:(XA p).any f=aC)(k:∀w x Z,f (w,x)=aC->M (.BoolOp w x Z)):M p:=(kL (P:=λ o p=>bR f o=aC->M p) (λ U=>aD) (λ U U=>aD) (λ U U U=>aD) (λ U U U=>aD) (λ U U U=>aD) (λ U U U U=>aD) (λ U U U U=>aD) (λ U U U U=>aD) (λ U U U=>aD) (λ U U U U=>aD) (λ U U U U=>aD) (λ w x Z h=>k w x Z (eX h)) (λ U U U=>aD) (λ U U=>aD) (λ U U U U=>aD) (λ U U U=>aD) p:bR f (XA p)=aC->M p) h
theorem DC{f}(h:(TY p).any f=aC)(k:∀x t Z,f (x)=aC->M (.Tuple x t Z)):M p:=(kL (P:=λ o p=>bR f o=aC->M p) (λ U=>aD) (λ U U=>aD) (λ U U U=>aD) (λ U U U=>aD) (λ U U U=>aD) (λ U U U U=>aD) (λ U U U U=>aD) (λ U U U U=>aD) (λ U U U=>aD) (λ U U U U=>aD) (λ U U U U=>aD) (λ U U U=>aD) (λ x t Z h=>k x t Z (eX h)) (λ U U=>aD) (λ U U U U=>aD) (λ U U U=>aD) p:bR f (TY p)=aC->M p) h
theorem MJ{f}(h:(SJ p).any f=aC)(k:∀x Z,f (x)=aC->M (.List x Z)):M p:=(kL (P:=λ o p=>bR f o=aC->M p) (λ U=>aD) (λ U U=>aD) (λ U U U=>aD) (λ U U U=>aD) (λ U U U=>aD) (λ U U U U=>aD) (λ U U U U=>aD) (λ U U U U=>aD) (λ U U U=>aD) (λ U U U U=>aD) (λ U U U U=>aD) (λ U U U=>aD) (λ U U U=>aD) (λ x Z h=>k x Z (eX h)) (λ U U U U=>aD) (λ U U U=>aD) p:bR f (SJ p)=aC->M p) h
theorem WO{f}(h:(fw p).any f=aC)(k:∀B G H Z,f (B,G,H)=aC->M (.ListComp B G H Z)):M p:=(kL (P:=λ o p=>bR f o=aC->M p) (λ U=>aD) (λ U U=>aD) (λ U U U=>aD) (λ U U U=>aD) (λ U U U=>aD) (λ U U U U=>aD) (λ U U U U=>aD) (λ U U U U=>aD) (λ U U U=>aD) (λ U U U U=>aD) (λ U U U U=>aD) (λ U U U=>aD) (λ U U U=>aD) (λ U U=>aD) (λ B G H Z h=>k B G H Z (eX h)) (λ U U U=>aD) p:bR f (fw p)=aC->M p) h
theorem NV{f}(h:(QZ p).any f=aC)(k:∀v r Z,f (v,r)=aC->M (.Dict v r Z)):M p:=(kL (P:=λ o p=>bR f o=aC->M p) (λ U=>aD) (λ U U=>aD) (λ U U U=>aD) (λ U U U=>aD) (λ U U U=>aD) (λ U U U U=>aD) (λ U U U U=>aD) (λ U U U U=>aD) (λ U U U=>aD) (λ U U U U=>aD) (λ U U U U=>aD) (λ U U U=>aD) (λ U U U=>aD) (λ U U=>aD) (λ U U U U=>aD) (λ v r Z h=>k v r Z (eX h)) p:bR f (QZ p)=aC->M p) h
end
theorem i4{p:aR}{c:aR×List aR×List nF×fX}(h:pH p=aA c):p=.Call c.1 c.2.1 c.2.2.1 c.2.2.2:=by
 haveI K:(pH p).any (λ d=>aC)=aC:=by rw[h];rfl
 exact kT (M:=λ p=>pH p=aA c->p=.Call c.1 c.2.1 c.2.2.1 c.2.2.2) K (λ U U U U U h=>by rw[<-bH h]) h
section
variable(gn:Nat->Str)(pn:Nat->Nat->Str)
noncomputable def lY(x:Str)(p:aR):Bool:=(zF p).any (x==·)
theorem gW{x:Str}{p:aR}{M:aR->Prop}(h:lY x p=aC)(k:∀F,M (.Name x F)):M p:=qK h λ y F q=>by rw[<-bC q];exact k _
noncomputable def kY:List Str->List aR->Bool
 |[],X=>X.isEmpty|x::B,X=>(match X with
 |[]=>aG|e::X=>lY x e&&kY B X)
noncomputable def GR:List Str->List nF->Bool
 |[],X=>X.isEmpty|x::B,X=>(match X with
 |[]=>aG|e::X=>e.arg==aA x&&GR B X)
noncomputable def glb(Z:List (Str×dA))(x:Str):Bool:=Z.lookup x==aA .globalImplicit&&!(x==("__debug__":Str))
noncomputable def kindOf(kind:Nat)(x:Str)(n:Nat):Bool:=(kind==1&&x==("range":Str)&&n==1)||(kind==2&&x==("enumerate":Str)&&n==1)||(kind==3&&x==("range":Str)&&n==3)
noncomputable def gH(Z:List (Str×dA))(kind:Nat)(p:aR):Option (List aR):=if kind=0 then aA [p]else(pH p).bind λ c=>if(zF c.1).any (λ x=>kindOf kind x c.2.1.length&&glb Z x)&&c.2.2.1.isEmpty then aA c.2.1 else aB
theorem uR{Z:List (Str×dA)}{M:Nat->aR->List aR->Prop}(l:∀p,M 0 p [p])(k:∀kind x Y F p2,gH Z kind (.Call (.Name x p2) Y [] F)=aA Y->kindOf kind x Y.length=aC->glb Z x=aC->M kind (.Call (.Name x p2) Y [] F) Y){kind:Nat}{p:aR}{u:List aR}(h:gH Z kind p=aA u):M kind p u:=by
 have a:=h;unfold gH at h;by_cases q:kind=0;·rw[if_pos q]at h;rw[q,<-bH h];exact l _
 ·rw[if_neg q]at h;obtain⟨c,e,h⟩:=cA h;obtain⟨d,h⟩:=gZ h;have i:=i4 e;haveI j:c.2.2.1=[]:=fC.mp (br d);rw[h,j]at i;rw[i]at a⊢;have b:=bl d;rw[h]at b;exact qK (M:=λ g=>gH Z kind (.Call g u [] c.2.2.2)=aA u->M kind (.Call g u [] c.2.2.2) u) b (λ x p2 f a=>k _ _ _ _ _ a (bl f) (br f)) a
noncomputable def rX(p:aR):Bool:=!((pH p).any λ c=>(zF c.1).any λ U=>c.2.1.isEmpty&&c.2.2.1.isEmpty)
noncomputable def sD(B:List Str)(e:aR):Bool:=match lU B with
 |aA x=>lY x e|aB=>(TY e).any (kY B)
noncomputable def Fu:yZ->Bool
 |.none=>aC|_=>aG
noncomputable def rq:yZ->Option Bool
 |.bool b=>aA b|_=>aB
noncomputable def Eo:yZ->Option Int
 |.int i=>aA i|_=>aB
noncomputable def Gg:yZ->Option Str
 |.str s=>aA s|_=>aB
noncomputable def Ek(q:MC)(c:yZ):Bool:=match q with
 |.nil=>Fu c|.b x=>(rq c).any (x==·)|.i x=>(Eo c).any (x==·)|.s l=>(Gg c).any λ t=>t==⟨l.toArray⟩&&cH (l.length<=aX)
noncomputable def constOf:MC->yZ
 |.nil=>.none|.b x=>.bool x|.i x=>.int x|.s l=>.str ⟨l.toArray⟩
noncomputable def Al:MC->Prop
 |.s l=>l.length<=aX|_=>True
theorem WE{q:MC}{c:yZ}{M:yZ->Prop}(h:Ek q c=aC)(k:Al q->M (constOf q)):M c:=by cases q with
 |nil=>exact(show Fu c=aC->M c by cases c with|none=>exact λ U=>k trivial|_=>exact λ h=>absurd h cP) h|b x=>
 obtain⟨y,e,h⟩:=PZ (show MP (rq c) λ b=>c=.bool b by cases c with|bool=>rfl|_=>trivial) h;rw[e,<-bC h];exact k trivial|i x=>
 obtain⟨y,e,h⟩:=PZ (show MP (Eo c) λ b=>c=.int b by cases c with|int=>rfl|_=>trivial) h;rw[e,<-bC h];exact k trivial|s x=>
 obtain⟨y,e,h⟩:=PZ (show MP (Gg c) λ b=>c=.str b by cases c with|str=>rfl|_=>trivial) h;rw[e,bC (bl h)];exact k (show x.length<=aX from of_decide_eq_true (br h))
noncomputable def UY(q:MC)(p:aR):Bool:=(OT p).any (Ek q)
theorem vH{q:MC}{p:aR}{M:aR->Prop}(h:UY q p=aC)(k:∀m F,Al q->M (.Constant (constOf q) m F)):M p:=VX h λ c m F h=>WE (M:=λ c=>M (.Constant c m F)) h (k m F)
noncomputable def HL:List (Nat×List Nat)->List (Option aR)->List aR->Bool
 |[],E,Z=>E.isEmpty&&Z.isEmpty|q::u,E,Z=>(match E with
 |[]=>aG|k::E=>(match Z with
 |[]=>aG|v::Z=>k.any (UY (.i q.1))&&UY (.s q.2) v&&HL u E Z))
noncomputable def QB(j:List Str)(Z:List (Str×dA))(s:oP)(p:List Str)(K:List Str):Bool:=(match s.kind with|.function=>aC|_=>aG)&&s.names.all (λ x=>match x.2 with
 |.cell=>aG|.local=>s.names.lookup x.1==aA .local|.free=>K.contains x.1|_=>aC)&&p.all (λ x=>s.names.lookup x==aA .local&&!(x==("__debug__":Str)))&&K.all (λ x=>s.names.lookup x==aA .free&&Z.lookup x==aA .cell&&j.contains x&&!(x==("__debug__":Str))&&!(x==("__classdict__":Str)))&&cH ((p++K).Nodup)
noncomputable def DW:aR->Bool
 |.Starred ..=>aG|.Set ..=>aG|_=>aC
noncomputable def WU:ME->Bool
 |.no=>aC|_=>aG
theorem EH{e:ME}{M:ME->Prop}(h:WU e=aC)(k:M .no):M e:=(show WU e=aC->M e by cases e with|no=>exact λ U=>k|_=>exact λ h=>absurd h cP) h
noncomputable def jp(b:Bool)(f:aR->Bool):Option aR->Bool
 |aB=>b|aA p=>f p
mutual noncomputable def fH(j:List Str)(Z:List (Str×dA)):ME->aR->Bool
 |.no,_=>aG|.c q,p=>UY q p|.neg n,p=>(H1 p).any λ u=>u.1==.USub&&UY (.i n) u.2|.l i,p=>(zF p).any λ x=>j[i]?==aA x|.g i,p=>(zF p).any λ x=>gn i==x&&glb Z x|.attr e f,p=>(FH p).any λ c=>c.2.1==fn f&&rX c.1&&fH j Z e c.1|.slc e lo w,p=>(ZG p).any λ c=>fH j Z e c.1&&(QL c.2).any λ s=>jp (WU lo) (fH j Z lo) s.1&&jp (WU w) (fH j Z w) s.2.1&&s.2.2.isNone|.idx e i,p=>(ZG p).any λ c=>fH j Z e c.1&&fH j Z i c.2|.call f d V,p=>(pH p).any λ c=>(zF c.1).any λ x=>(c.2.2.1.isEmpty||!c.2.1.isEmpty)&&gn f==x&&glb Z x&&GR (V.map (pn f)) c.2.2.1&&mV j Z d (c.2.1++c.2.2.1.map (·.value))|.new f d,p=>(pH p).any λ c=>(zF c.1).any λ x=>c.2.2.1.isEmpty&&gn f==x&&glb Z x&&mV j Z d c.2.1|.meth e m d,p=>(pH p).any λ c=>(FH c.1).any λ a=>c.2.2.1.isEmpty&&a.2.1==mn m&&rX a.1&&(a.2.2.endLine==c.2.2.2.line)&&cH (c.2.1.length<30)&&fH j Z e a.1&&mV j Z d c.2.1|.bi b d,p=>(pH p).any λ c=>(zF c.1).any λ x=>c.2.2.1.isEmpty&&cH (b<9)&&Ft b==x&&glb Z x&&mV j Z d c.2.1|.lst X,p=>(SJ p).any (mV j Z X)|.tup X,p=>(TY p).any (mV j Z X)|.bin h a b,p=>(zp p).any λ c=>h==c.2.1&&fH j Z a c.1&&fH j Z b c.2.2|.cmpNil h a,p=>(q9 p).any λ c=>c.2.1==[h]&&fH j Z a c.1&&(lU c.2.2).any λ q=>(SJ q).any List.isEmpty|.cmp h a b,p=>(q9 p).any λ c=>c.2.1==[h]&&fH j Z a c.1&&(lU c.2.2).any λ q=>DW q&&fH j Z b q|.bool h X,p=>(XA p).any λ c=>h==c.1&&mV j Z X c.2|.not a,p=>(H1 p).any λ u=>u.1==.Not&&fH j Z a u.2|.ite t a b,p=>(Ip p).any λ c=>fH j Z t c.1&&fH j Z a c.2.1&&fH j Z b c.2.2|.isin e P tp,p=>(pH p).any λ c=>lY "isinstance" c.1&&c.2.2.1.isEmpty&&glb Z "isinstance"&&(P.map gn).all (glb Z)&&(NK c.2.1).any λ q=>DW q.1&&fH j Z e q.1&&(match tp with
 |aG=>kY (P.map gn) [q.2]|aC=>cH (P.length<=1000)&&(TY q.2).any (kY (P.map gn)))|.comp K E kind o S cond,p=>(fw p).any λ c=>(lU c.2.1).any λ g=>g.is_async==0&&(!(kind==2)||K.length==2)&&sD (K.map Str.ofString) g.target&&(gH Z kind g.iter).any (mV j Z o)&&fH (K.map Str.ofString++E.map λ i=>j[i]?.getD Str.empty) c.2.2.names S c.1&&mV (K.map Str.ofString++E.map λ i=>j[i]?.getD Str.empty) c.2.2.names cond g.ifs&&QB j Z c.2.2 (K.map Str.ofString) (E.map λ i=>j[i]?.getD Str.empty)&&E.all (λ i=>cH (i<j.length))|.pick z v pG,p=>(pH p).any λ c=>(FH c.1).any λ a=>c.2.2.1.isEmpty&&a.2.1==("get":Str)&&(a.2.2.endLine==c.2.2.2.line)&&(NK z).any (λ q=>!(q.1.1==q.2.1))&&(QZ a.1).any (λ q=>HL z q.1 q.2)&&(NK c.2.1).any λ q=>DW q.1&&DW q.2&&fH j Z v q.1&&fH j Z pG q.2|.jrev k e,p=>(pH p).any λ c=>(FH c.1).any λ a=>c.2.2.1.isEmpty&&a.2.1==("join":Str)&&UY (.s k) a.1&&(a.2.2.endLine==c.2.2.2.line)&&glb Z "reversed"&&(lU c.2.1).any λ q=>(pH q).any λ N=>lY "reversed" N.1&&N.2.2.1.isEmpty&&(lU N.2.1).any λ r=>DW r&&fH j Z e r|.lzip a b,p=>(pH p).any λ c=>lY "list" c.1&&c.2.2.1.isEmpty&&glb Z "list"&&glb Z "zip"&&(lU c.2.1).any λ q=>(pH q).any λ N=>lY "zip" N.1&&N.2.2.1.isEmpty&&(NK N.2.1).any λ r=>DW r.1&&DW r.2&&fH j Z a r.1&&fH j Z b r.2|.emp,p=>(QZ p).any λ q=>q.1.isEmpty&&q.2.isEmpty|.dead,_=>aC noncomputable def mV(j:List Str)(Z:List (Str×dA)):List ME->List aR->Bool
 |[],z=>z.isEmpty|e::X,z=>(match z with|p::z=>DW p&&fH j Z e p&&mV j Z X z|[]=>aG)end
noncomputable def Ka(j:List Str)(Z:List (Str×dA)):MT->aR->Bool
 |.l i,p=>(zF p).any λ x=>j[i]?==aA x|.ls n,p=>(TY p).any λ X=>n.all (λ i=>cH (i<j.length))&&cH (2<=n.length)&&cH n.Nodup&&kY (n.map λ i=>j[i]?.getD Str.empty) X|.attr e f,p=>(FH p).any λ c=>c.2.1==fn f&&fH gn pn j Z e c.1|.sub e i,p=>(ZG p).any λ c=>fH gn pn j Z e c.1&&fH gn pn j Z i c.2
noncomputable def gq:aR->Bool
 |.ListComp ..=>aC|.SetComp ..=>aC|.DictComp ..=>aC|_=>aG
noncomputable def Gw:ME->Bool
 |.comp ..=>aC|_=>aG
noncomputable def ze:aR->Bool
 |.Tuple Z _ _=>Z.all (foldedForSure 8)||!Z.all (yT 8)|_=>aC
noncomputable def rV(x:aR):Bool:=lY "TooLong" x
noncomputable def sF{a:Type}(o:a)(d:(List aR)->aR->fX->a)(g:aR->fX->a)(e:aR->(List dW)->(List dW)->fX->a)(b:aR->(List dW)->(List dW)->fX->a)(i:aR->aR->(List dW)->(List dW)->fX->a)(ret:(Option aR)->fX->a)(c:(Option aR)->(Option aR)->fX->a)(f:(List dW)->(List lA)->(List dW)->(List dW)->fX->a)(h:fX->a):dW->a
 |.Assign w B Z=>d w B Z|.Expr B Z=>g B Z|.If C y A Z=>e C y A Z|.While C y A Z=>b C y A Z|.For C q y A Z=>i C q y A Z|.Return B Z=>ret B Z|.Raise B D Z=>c B D Z|.Try y A D x Z=>f y A D x Z|.Continue Z=>h Z|_=>o
theorem rK{a:Type}{o:a}{c:(List aR)->aR->fX->a}{h:aR->fX->a}{d:aR->(List dW)->(List dW)->fX->a}{b:aR->(List dW)->(List dW)->fX->a}{i:aR->aR->(List dW)->(List dW)->fX->a}{ret:(Option aR)->fX->a}{e:(Option aR)->(Option aR)->fX->a}{f:(List dW)->(List lA)->(List dW)->(List dW)->fX->a}{g:fX->a}{P:a->dW->Prop}(k:∀p,P o p)(u:∀(w:List aR)(B:aR)Z,P (c w B Z) (.Assign w B Z))(s:∀(B:aR)Z,P (h B Z) (.Expr B Z))(j:∀(C:aR)(y:List dW)(A:List dW)Z,P (d C y A Z) (.If C y A Z))(t:∀(C:aR)(y:List dW)(A:List dW)Z,P (b C y A Z) (.While C y A Z))(l:∀(C:aR)(q:aR)(y:List dW)(A:List dW)Z,P (i C q y A Z) (.For C q y A Z))(m:∀(B:Option aR)Z,P (ret B Z) (.Return B Z))(n:∀(B:Option aR)(D:Option aR)Z,P (e B D Z) (.Raise B D Z))(r:∀(y:List dW)(A:List lA)(D:List dW)(x:List dW)Z,P (f y A D x Z) (.Try y A D x Z))(v:∀Z,P (g Z) (.Continue Z))(p:dW):P (sF o c h d b i ret e f g p) p:=by cases p with
 |Assign=>exact u _ _ _|Expr=>exact s _ _|If=>exact j _ _ _ _|While=>exact t _ _ _ _|For=>exact l _ _ _ _ _|Return=>exact m _ _|Raise=>exact n _ _ _|Try=>exact r _ _ _ _ _|Continue=>exact v _|_=>exact k _
noncomputable def KM:dW->Option (List aR×aR):=sF aB (λ w B U=>aA (w,B)) (λ U U=>aB) (λ U U U U=>aB) (λ U U U U=>aB) (λ U U U U U=>aB) (λ U U=>aB) (λ U U U=>aB) (λ U U U U U=>aB) (λ U=>aB)
noncomputable def ZQ:dW->Option (aR):=sF aB (λ U U U=>aB) (λ B U=>aA (B)) (λ U U U U=>aB) (λ U U U U=>aB) (λ U U U U U=>aB) (λ U U=>aB) (λ U U U=>aB) (λ U U U U U=>aB) (λ U=>aB)
noncomputable def ux:dW->Option (aR×List dW×List dW):=sF aB (λ U U U=>aB) (λ U U=>aB) (λ C y A U=>aA (C,y,A)) (λ U U U U=>aB) (λ U U U U U=>aB) (λ U U=>aB) (λ U U U=>aB) (λ U U U U U=>aB) (λ U=>aB)
noncomputable def OS:dW->Option (aR×List dW×List dW):=sF aB (λ U U U=>aB) (λ U U=>aB) (λ U U U U=>aB) (λ C y A U=>aA (C,y,A)) (λ U U U U U=>aB) (λ U U=>aB) (λ U U U=>aB) (λ U U U U U=>aB) (λ U=>aB)
noncomputable def Av:dW->Option (aR×aR×List dW×List dW):=sF aB (λ U U U=>aB) (λ U U=>aB) (λ U U U U=>aB) (λ U U U U=>aB) (λ C q y A U=>aA (C,q,y,A)) (λ U U=>aB) (λ U U U=>aB) (λ U U U U U=>aB) (λ U=>aB)
noncomputable def IF:dW->Option (Option aR):=sF aB (λ U U U=>aB) (λ U U=>aB) (λ U U U U=>aB) (λ U U U U=>aB) (λ U U U U U=>aB) (λ B U=>aA (B)) (λ U U U=>aB) (λ U U U U U=>aB) (λ U=>aB)
noncomputable def QA:dW->Option (Option aR×Option aR):=sF aB (λ U U U=>aB) (λ U U=>aB) (λ U U U U=>aB) (λ U U U U=>aB) (λ U U U U U=>aB) (λ U U=>aB) (λ B D U=>aA (B,D)) (λ U U U U U=>aB) (λ U=>aB)
noncomputable def yr:dW->Option (List dW×List lA×List dW×List dW):=sF aB (λ U U U=>aB) (λ U U=>aB) (λ U U U U=>aB) (λ U U U U=>aB) (λ U U U U U=>aB) (λ U U=>aB) (λ U U U=>aB) (λ y A D x U=>aA (y,A,D,x)) (λ U=>aB)
noncomputable def XJ:dW->Option (Unit):=sF aB (λ U U U=>aB) (λ U U=>aB) (λ U U U U=>aB) (λ U U U U=>aB) (λ U U U U U=>aB) (λ U U=>aB) (λ U U U=>aB) (λ U U U U U=>aB) (λ U=>aA ())
section
variable{M:Stmt->Prop}{p:Stmt}
theorem OE{f}(h:(KM p).any f=aC)(k:∀w B Z,f (w,B)=aC->M (.Assign w B Z)):M p:=(rK (P:=λ o p=>bR f o=aC->M p) (λ U=>aD) (λ w B Z h=>k w B Z (eX h)) (λ U U=>aD) (λ U U U U=>aD) (λ U U U U=>aD) (λ U U U U U=>aD) (λ U U=>aD) (λ U U U=>aD) (λ U U U U U=>aD) (λ U=>aD) p:bR f (KM p)=aC->M p) h
theorem ZH{f}(h:(ZQ p).any f=aC)(k:∀B Z,f (B)=aC->M (.Expr B Z)):M p:=(rK (P:=λ o p=>bR f o=aC->M p) (λ U=>aD) (λ U U U=>aD) (λ B Z h=>k B Z (eX h)) (λ U U U U=>aD) (λ U U U U=>aD) (λ U U U U U=>aD) (λ U U=>aD) (λ U U U=>aD) (λ U U U U U=>aD) (λ U=>aD) p:bR f (ZQ p)=aC->M p) h
theorem jc{f}(h:(ux p).any f=aC)(k:∀C y A Z,f (C,y,A)=aC->M (.If C y A Z)):M p:=(rK (P:=λ o p=>bR f o=aC->M p) (λ U=>aD) (λ U U U=>aD) (λ U U=>aD) (λ C y A Z h=>k C y A Z (eX h)) (λ U U U U=>aD) (λ U U U U U=>aD) (λ U U=>aD) (λ U U U=>aD) (λ U U U U U=>aD) (λ U=>aD) p:bR f (ux p)=aC->M p) h
theorem TZ{f}(h:(OS p).any f=aC)(k:∀C y A Z,f (C,y,A)=aC->M (.While C y A Z)):M p:=(rK (P:=λ o p=>bR f o=aC->M p) (λ U=>aD) (λ U U U=>aD) (λ U U=>aD) (λ U U U U=>aD) (λ C y A Z h=>k C y A Z (eX h)) (λ U U U U U=>aD) (λ U U=>aD) (λ U U U=>aD) (λ U U U U U=>aD) (λ U=>aD) p:bR f (OS p)=aC->M p) h
theorem io{f}(h:(Av p).any f=aC)(k:∀C q y A Z,f (C,q,y,A)=aC->M (.For C q y A Z)):M p:=(rK (P:=λ o p=>bR f o=aC->M p) (λ U=>aD) (λ U U U=>aD) (λ U U=>aD) (λ U U U U=>aD) (λ U U U U=>aD) (λ C q y A Z h=>k C q y A Z (eX h)) (λ U U=>aD) (λ U U U=>aD) (λ U U U U U=>aD) (λ U=>aD) p:bR f (Av p)=aC->M p) h
theorem TD{f}(h:(IF p).any f=aC)(k:∀B Z,f (B)=aC->M (.Return B Z)):M p:=(rK (P:=λ o p=>bR f o=aC->M p) (λ U=>aD) (λ U U U=>aD) (λ U U=>aD) (λ U U U U=>aD) (λ U U U U=>aD) (λ U U U U U=>aD) (λ B Z h=>k B Z (eX h)) (λ U U U=>aD) (λ U U U U U=>aD) (λ U=>aD) p:bR f (IF p)=aC->M p) h
theorem VC{f}(h:(QA p).any f=aC)(k:∀B D Z,f (B,D)=aC->M (.Raise B D Z)):M p:=(rK (P:=λ o p=>bR f o=aC->M p) (λ U=>aD) (λ U U U=>aD) (λ U U=>aD) (λ U U U U=>aD) (λ U U U U=>aD) (λ U U U U U=>aD) (λ U U=>aD) (λ B D Z h=>k B D Z (eX h)) (λ U U U U U=>aD) (λ U=>aD) p:bR f (QA p)=aC->M p) h
theorem qx{f}(h:(yr p).any f=aC)(k:∀y A D x Z,f (y,A,D,x)=aC->M (.Try y A D x Z)):M p:=(rK (P:=λ o p=>bR f o=aC->M p) (λ U=>aD) (λ U U U=>aD) (λ U U=>aD) (λ U U U U=>aD) (λ U U U U=>aD) (λ U U U U U=>aD) (λ U U=>aD) (λ U U U=>aD) (λ y A D x Z h=>k y A D x Z (eX h)) (λ U=>aD) p:bR f (yr p)=aC->M p) h
theorem XB{f}(h:(XJ p).any f=aC)(k:∀Z,f ()=aC->M (.Continue Z)):M p:=(rK (P:=λ o p=>bR f o=aC->M p) (λ U=>aD) (λ U U U=>aD) (λ U U=>aD) (λ U U U U=>aD) (λ U U U U=>aD) (λ U U U U U=>aD) (λ U U=>aD) (λ U U U=>aD) (λ U U U U U=>aD) (λ Z h=>k Z (eX h)) p:bR f (XJ p)=aC->M p) h
end
noncomputable def QV(l:List dW):Option aR:=(lU l).bind λ s=>(IF s).bind λ e=>e
structure NA where
 pc:aR
 y:Str
 body:List dW
noncomputable def Ig(l:List lA):Option NA:=(lU l).bind λ h=>match h with|.ExceptHandler c y b _=>c.bind λ c=>y.map λ y=>⟨c,y,b⟩
mutual noncomputable def PB(j:List Str)(Z:List (Str×dA)):MS->dW->Bool
 |.asg t e,p=>(KM p).any λ c=>(Gw e||!gq c.2)&&ze c.2&&fH gn pn j Z e c.2&&(lU c.1).any (Ka gn pn j Z t)|.ex e,p=>(ZQ p).any λ c=>!gq c&&fH gn pn j Z e c|.ite t a b,p=>(ux p).any λ c=>fH gn pn j Z t c.1&&CK j Z a c.2.1&&CK j Z b c.2.2|.whl t b,p=>(OS p).any λ c=>fH gn pn j Z t c.1&&CK j Z b c.2.1&&c.2.2.isEmpty|.for_ g kind o b,p=>(Av p).any λ c=>!(kind==2)&&g.all (λ i=>cH (i<j.length))&&sD (g.map λ i=>j[i]?.getD Str.empty) c.1&&(gH Z kind c.2.1).any (mV gn pn j Z o)&&CK j Z b c.2.2.1&&c.2.2.2.isEmpty|.ret e,p=>(IF p).any (jp (WU e) (fH gn pn j Z e))|.raiseLim e,p=>(QA p).any λ c=>c.2.isNone&&c.1.any λ c=>(pH c).any λ c=>c.2.2.1.isEmpty&&rV c.1&&glb Z "TooLong"&&(lU c.2.1).any λ q=>DW q&&fH gn pn j Z e q|.tryLim e,p=>(yr p).any λ c=>c.2.2.1.isEmpty&&c.2.2.2.isEmpty&&(QV c.1).any (fH gn pn j Z e)&&(Ig c.2.1).any λ h=>rV h.pc&&glb Z "TooLong"&&Z.lookup h.y==aA .local&&!j.contains h.y&&!(h.y==("__debug__":Str))&&(QV h.body).any λ r=>(FH r).any λ a=>lY h.y a.1&&a.2.1==("limit":Str)|.cont,p=>(XJ p).any λ U=>aC|.dead,_=>aC noncomputable def CK(j:List Str)(Z:List (Str×dA)):List MS->List dW->Bool
 |[],u=>u.isEmpty|s::z,u=>(match u with|p::u=>PB j Z s p&&CK j Z z u|[]=>aG)end
end
structure iK where
 K:IK
 N0:fN
 mG:bP->Option aH
 mB:bP->Option aH
 gA:Nat
 bA:Nat
 TL:Nat
structure cR(R:iK):Prop where
 klow:∀a o,R.K.lookup a=aA o->a<R.N0.n/\o.cls≠.type "frame"glob:∀h:bG,R.K.In h->h.Ns R.gA R.mG
 bld:∀h:bG,R.K.In h->h.Ns R.bA R.mB
 lim:∀h:bG,R.K.In h->h.NoLimit
noncomputable def jN(a:Nat)(h:bG):List dL->Prop
 |[]=>True|e::l=>((e.scope.kind≠.module/\∀L,e.frame=aA L->a<=L)/\∃L o,e.frame=aA L/\h.get? L=aA o/\o.cls=.type "frame"/\∃X n,o.data=.dict X n)/\jN a h l
noncomputable def jF(N:dL)(h:bG)(m:bP->Option aH)(x:bP)(o:Option MV):Prop:=match N.kindOf x with
 |aA .local=>∀L,o=aA L->∃v,m x=aA v/\VR h L v|aA .cell=>∃c u,N.cells.lookup x=aA c/\h.IsCell c u/\∀L,o=aA L->∃v,u=aA v/\VR h L v|aA .free=>(x==("__classdict__":bP))=aG/\∃c u,N.cells.lookup x=aA c/\h.IsCell c u/\∀L,o=aA L->∃v,u=aA v/\VR h L v|_=>False
noncomputable def Dy(N:dL)(j:List bP)(B:Loc)(h:bG):Prop:=∃m,h.Ns N.locals m/\∀(i:Nat)(x:bP),j[i]?=aA x->jF N h m x (B[i]?.join)
structure dZ(R:iK)(env:dL)(ns:List bP):Prop where
 kind:env.scope.kind=.function
 glob:env.globals=R.gA
 bld:env.builtins=R.bA
 nodbg:∀x∈ns,(x==("__debug__":bP))=aG
 nodup:ns.Nodup
 cinj:∀x y c,env.cells.lookup x=aA c->env.cells.lookup y=aA c->x=y
 clow:∀x c,env.cells.lookup x=aA c->R.N0.n<=c
structure St(R:iK)(env:dL)(l:List dL)(ns:List bP)(δ:Nat->Nat)(loc:Loc)(mh:MH)(h:bG):Prop where
 X:R.K.In h
 last:(h.get? (R.N0.n-1)).isSome/\0<R.N0.n
 real:eB R.N0 δ mh h
 loc:Dy env ns loc h
 off:¬kS mh δ env.locals
 llow:R.N0.n<=env.locals
 fr:jN R.N0.n h l
theorem cU.at{b:fN}{M c:Nat->Nat}{Y I:MH}{h P:bG}(x:cU b M Y h c I P){a:Nat}{o:gV}(e:h.get? a=aA o)(n:¬kS Y M a):∃j,P.get? a=aA {o with slots:=j}:=by
 obtain⟨j,k,_⟩:=x.ev.keep a o e n;exact⟨j,k⟩
theorem cU.ns{g:fN}{M c:Nat->Nat}{Y I:MH}{h P:bG}(x:cU g M Y h c I P){a:Nat}{m:bP->Option aH}(e:h.Ns a m)(n:¬kS Y M a):P.Ns a m:=by
 obtain⟨o,X,b,d,f,r⟩:=e;obtain⟨j,k⟩:=x.at d n;exact⟨_,X,b,k,f,r⟩
theorem eB.notCell{g:fN}{M:Nat->Nat}{Y:MH}{h:bG}(r:eB g M Y h){c:Nat}{u:Option aH}(e:h.IsCell c u):¬kS Y M c:=by
 obtain⟨o,d,a⟩:=e;rintro(⟨G,f,w⟩|⟨b,C,N,f,rfl⟩)
 ·have :=r.obj c G f;cases G with
 |inst C N=>obtain⟨⟨j,E⟩,_⟩:=this;rw[d]at E;cases E;cases a|list l=>obtain⟨_,Z,⟨n,E⟩,_⟩:=this;rw[d]at E;cases E;cases a|sdict X=>obtain⟨A,_,_,E,_,q⟩:=this.obj;rw[d]at E;cases E;rw[a]at q;cases q
 ·obtain⟨_,m,⟨A,_,_,E,q,_⟩,_⟩:=r.obj b _ f;rw[d]at E;cases E;rw[a]at q;cases q
theorem cU.cell{b:fN}{M c:Nat->Nat}{Y I:MH}{h P:bG}(x:cU b M Y h c I P)(r:eB b M Y h){a:Nat}{u:Option aH}(e:h.IsCell a u):P.IsCell a u:=by
 have n:=r.notCell e;obtain⟨o,f,d⟩:=e;obtain⟨j,k⟩:=x.at f n;exact⟨_,k,d⟩
theorem cU.alive{m:fN}{a:Nat}{M C:Nat->Nat}{Y I:MH}{h P:bG}(x:cU m M Y h C I P)(r:eB m M Y h):∀{l:List dL},jN a h l->jN a P l:=by
 intro s;induction s with
 |nil=>
 intro U;exact trivial|cons e l b=>
 intro i;obtain⟨⟨k,L,o,f,g,c,d⟩,t⟩:=i;have n:¬kS Y M L:=λ q=>(r.footKind q g).2.1 c;obtain⟨j,p⟩:=x.at g n;exact⟨⟨k,L,_,f,p,c,d⟩,b t⟩
theorem jF.mono{f:fN}{M C:Nat->Nat}{Y I:MH}{h P:bG}(x:cU f M Y h C I P)(r:eB f M Y h){N:dL}{m:bP->Option aH}{y:bP}{o:Option MV}(e:jF N h m y o):jF N P m y o:=by
 unfold jF at e⊢;split at e;·intro L q;obtain⟨v,a,b⟩:=e L q;exact⟨v,a,x.ev.vr b⟩
 ·obtain⟨c,u,a,b,d⟩:=e;exact⟨c,u,a,x.cell r b,λ L q=>by obtain⟨v,a,b⟩:=d L q;exact⟨v,a,x.ev.vr b⟩⟩
 ·obtain⟨z,c,u,a,b,d⟩:=e;exact⟨z,c,u,a,x.cell r b,λ L q=>by obtain⟨v,a,b⟩:=d L q;exact⟨v,a,x.ev.vr b⟩⟩
 ·exact e
theorem St.sz{R:iK}{N:dL}{l:List dL}{j:List bP}{M:Nat->Nat}{B:Loc}{Y:MH}{h:bG}(S:St R N l j M B Y h):R.N0.n<=h.objs.size:=by
 obtain⟨o,a⟩:=aS.mp S.last.1;exact uK (cN a)
theorem St.post{R:iK}(n:cR R){N:dL}{l:List dL}{j:List bP}{M c:Nat->Nat}{B:Loc}{Y I:MH}{h P:bG}(S:St R N l j M B Y h)(x:cU R.N0 M Y h c I P):St R N l j c B I P:=by
  refine⟨λ a o e=>x.ev.low a o (n.klow a o e).1 (S.X a o e),⟨?_,S.last.2⟩,x.real,?_,?_,S.llow,x.alive S.real S.fr⟩
  ·obtain⟨o,b⟩:=aS.mp S.last.1;exact x.ev.isSome b
  ·obtain⟨m,d,q⟩:=S.loc;exact⟨m,x.ns d S.off,λ i y e=>(q i y e).mono x S.real⟩
  · intro f;obtain⟨m,d,_⟩:=S.loc;rcases x.grow _ f with g|g;·exact S.off g
    ·obtain⟨o,_,_,b,_⟩:=d;rw[g]at b;cases b
noncomputable def jv(h a:bG)(e i:eI)(b m:aH):Prop:=∃R Z,h.get? e=aA R/\(R.cls=b/\R.dict=aA i)/\R.data=.fields Z/\((Z[1]?=aA .none/\m=.none)\/∃T oT g,Z[1]?=aA (.ref T)/\a.get? T=aB/\T≠e/\h.get? T=aA oT/\oT.data=.fields g/\g[3]?=aA m)
noncomputable def uX(a:bG)(l:List dL)(e i:eI)(b m:aH)(h:bG):Prop:=a.StaysIn h/\a.get? e=aB/\h.FunFrames a l/\jv h a e i b m
noncomputable def Keeps(b:Nat)(h B:bG)(e:eI):Prop:=∀a o,h.get? a=aA o->(o.cls=.type "frame"->(∃Z,o.data=.fields Z)\/a<b)->a≠e->B.get? a=aA o
noncomputable def ZE(h:bG)(e i:eI)(r:Int):Prop:=i≠e/\(∃m t,h.Ns i m/\m "limit"=aA (.int r t))/\∃o,h.get? i=aA o/\o.cls=.type "dict"
noncomputable def XE(R:iK)(l:List dL)(m:aH)(M:Nat->Nat)(Y:MH)(x:KE)(E:aH->aI->Prop)(s:aI):Prop:=∀c I y B K g e i r,cU R.N0 M Y s.heap c I y->s.heap.get? e=aB->Keeps R.N0.n y B e->ZE y e i r->uX B l e i (.ref R.TL) m K->y.UpToSlots K->x (.int r) I->E (.ref e) {s with heap:=K,toks:=g}
theorem XE.post{R:iK}{l:List dL}{m:aH}{M a:Nat->Nat}{Y b:MH}{x:KE}{E:aH->aI->Prop}{s:aI}{h₁:bG}{tk:Nat}(X:XE R l m M Y x E s)(p:cU R.N0 M Y s.heap a b h₁):XE R l m a b x E {s with heap:=h₁,toks:=tk}:=λ c I y B K d e i r o g k h f u q=>X c I y B K d e i r (p.trans o) (p.ev.live e g) k h f u q
structure xN(A:cW)(l:List dL)(d:Nat):Prop where
 hand:A.handled=aB
 frs:A.frames=aA l
 dep:A.depth+3*d+10<gR
 un:A.units+30*d+100<CA
structure Io(R:iK)(G:Gl)(gn:Nat->bP):Prop where val:∀i mv,G.gv i=aA mv->∃v,R.mG (gn i)=aA v/\∀h:bG,R.K.In h->VR h mv v
noncomputable def QE(R:iK)(M:Nat->Nat)(Y:MH)(k:KE)(Q:aH->aI->Prop)(s:aI):Prop:=∀c I P g L v,cU R.N0 M Y s.heap c I P->VR P L v->k L I->Q v {s with heap:=P,toks:=g}
theorem QE.post{R:iK}{M a:Nat->Nat}{Y b:MH}{k:KE}{Q:aH->aI->Prop}{s:aI}{h₁:bG}{tk:Nat}(X:QE R M Y k Q s)(p:cU R.N0 M Y s.heap a b h₁):QE R a b k Q {s with heap:=h₁,toks:=tk}:=λ c I P d L v o r q=>X c I P d L v (p.trans o) r q
section
variable(a:Program)(w:World)(R:iK)(b:kP)(G:Gl)(d:Nat)(N:Env)(l:List Env)(j:List Str)
noncomputable def SE(C:ME)(r:aR):Prop:=∀A s M B Y k x Q E,xN A l d->St R N l j M B Y s.heap->bX b G C B Y k x->QE R M Y k Q s->XE R l .none M Y x E s->aU (aY a w) A (eval r N) Q E s
noncomputable def GS(V:List ME)(n:List aR):Prop:=∀A s M B Y k x Q E F,xN A l d->St R N l j M B Y s.heap->dP b G V B Y k x->(∀c I P g D Z,cU R.N0 M Y s.heap c I P->dK P D Z->k D I->Q Z {s with heap:=P,toks:=g})->XE R l .none M Y x E s->aU (aY a w) A (spliced (mW F (dJ n N))) Q E s
end
theorem PU{o:aR}{a:bP}{N:dL}{Z:GH aH}(h:rX o=aC):attributeBase o a N Z=Z:=by cases o with
 |Call f b L F=>cases f with
  |Name id p=>cases b with
   |nil=>cases L with
    |nil=>exact bft h|cons=>exact rQ Z
   |cons=>exact rQ Z
  |_=>exact rQ Z
 |_=>exact rQ Z
section
variable{f:Program}{w:World}{R:iK}{C:kP}{G:Gl}{gn:Nat->Str}{d:Nat}{N:Env}{l:List Env}{j:List Str}
variable{A:Around}{E:Value->Shared->Prop}{s:Shared}{M:Nat->Nat}{Y:MH}{B:Loc}{k:KE}{Q:Value->Shared->Prop}
theorem Be{Q:Unit->Shared->Prop}{b c:aR}{o r:Value}(e:jU b o r=jU c o r)(q:aU (aY f w) A (jU c o r) Q E s):aU (aY f w) A (jU b o r) Q E s:=by rw[e];exact q
theorem letGo{Q:Unit->Shared->Prop}{b:aR}{o r:Value}(h:Q () s):aU (aY f w) A (jU b o r) Q E s:=by
 have q:aU (aY f w) A (jU (.List [] qA) o r) Q E s:=by cases o with
 |ref a=>
 show aU _ _ (_>>=_) _ _ _;refine aE (dM (wpAny_runValue (nH entry_let_go ?_)));exact aM (aM h)|_=>exact aM h
 cases b with
 |Name _ _=>exact aM h|_=>exact Be (by kernel_rfl) q
theorem QE.here(X:QE R M Y k Q s)(r:eB R.N0 M Y s.heap){L:MV}{v:Value}{tk:Nat}(a:VR s.heap L v)(q:k L Y):Q v {s with toks:=tk}:=X M Y s.heap tk L v (.refl r) a q
theorem wq{n:Nat}{D:Nat}{p o:fX}:SE f w R C G d N l j (.neg n) (.UnaryOp .USub (.Constant (.int (n:Int)) D p) o):=by
 intro A s M B Y k x Q E b S m a c;refine wpAny_UnaryOp (nX (P.neg_int ?_));replace m:=wz.mp m;exact a.here S.real (by delta VR;exact⟨_,rfl⟩) m
theorem Hb{q:MC}{D:Nat}{p:fX}(e:Al q):SE f w R C G d N l j (.c q) (.Constant (constOf q) D p):=by
 intro A s M B Y k x Q E g S m a h;replace m:=Ie.mp m;cases q with
 |nil=>exact wpAny_Constant_none (a.here S.real (by simp only[zT,VR]) m)|b y=>exact wpAny_Constant_bool (a.here S.real (by simp only[zT,VR]) m)|i y=>exact nX (a.here S.real (by simp only[zT,VR];exact⟨_,rfl⟩) m)|s y=>exact kE (a.here S.real (by simp only[zT,VR];exact⟨e,_,rfl⟩) m)
theorem mS{i:Nat}{x:Str}{F:fX}{mv:MV}(I:dZ R N j)(S:St R N l j M B Y s.heap)(p:j[i]?=aA x)(o:B[i]?.join=aA mv)(h:∀v,VR s.heap mv v->Q v s):aU (aY f w) A (eval (.Name x F) N) Q E s:=by
 obtain⟨m,t,q⟩:=S.loc;have :=q i x p;have n:=I.nodbg x (List.mem_of_getElem? p);unfold jF at this;split at this
 ·rename_i hk;obtain⟨v,e,r⟩:=this mv o;exact BP (wpAny_loadName_local I.kind hk t e (h v r)) n
 ·rename_i hk;obtain⟨c,u,g,a,b⟩:=this;obtain⟨v,rfl,r⟩:=b mv o;exact BP (wpAny_loadName_cell I.kind hk g a (h v r)) n
 ·rename_i hk;obtain⟨z,c,u,g,a,b⟩:=this;obtain⟨v,rfl,r⟩:=b mv o;exact BP (wpAny_loadName_free I.kind hk g a (h v r) z) n
 ·exact this.elim
theorem fJ{b:Type}{o:Option b}{k:b->Prop}(h:OptK o k):∃a,o=aA a/\k a:=by cases o with
 |none=>exact h.elim|some a=>exact⟨a,rfl,h⟩
theorem Hx{i:Nat}{x:Str}{F:fX}(I:dZ R N j)(b:j[i]?=aA x):SE f w R C G d N l j (.l i) (.Name x F):=by
 intro A s M B Y k x Q E g S m a c;replace m:=Jt.mp m;obtain⟨L,e,m⟩:=fJ m;exact mS I S b e λ v r=>a.here S.real r m
theorem VR.handed{h:bG}{L:MV}{v:Value}(r:VR h L v):handedIn v=aC:=by cases L<;>simp only[VR]at r<;>first|(subst r;rfl)|(obtain⟨t,rfl⟩:=r;rfl)|(obtain⟨_,t,rfl⟩:=r;rfl)|(obtain⟨_,_,_,_,_,rfl,_⟩:=r;rfl)
theorem RZ{Z:List (Str×dA)}{x:Str}(h:glb Z x=aC):Z.lookup x=aA .globalImplicit/\(x==("__debug__":Str))=aG:=by
 delta glb at h;simp only[fB,beq_iff_eq,fF]at h;exact h
theorem pU{x:Str}{F:fX}{v:Value}(c:cR R)(I:dZ R N j)(X:R.K.In s.heap)(g:glb N.scope.names x=aC)(e:R.mG x=aA v)(h:Q v s):aU (aY f w) A (eval (.Name x F) N) Q E s:=by
 obtain⟨a,b⟩:=RZ g;exact tF I.kind a (Calls.loadGlobal_global (by rw[I.glob];exact c.glob _ X) e h) b
theorem pT{x:Str}{F:fX}{v:Value}(c:cR R)(I:dZ R N j)(X:R.K.In s.heap)(g:glb N.scope.names x=aC)(i:R.mG x=aB)(e:R.mB x=aA v)(h:Q v s):aU (aY f w) A (eval (.Name x F) N) Q E s:=by
 obtain⟨a,b⟩:=RZ g;exact tF I.kind a (Calls.loadGlobal_builtin (by rw[I.glob];exact c.glob _ X) i (by rw[I.bld];exact c.bld _ X) e h) b
theorem H8{i:Nat}{x:Str}{F:fX}(n:cR R)(p:Io R G gn)(I:dZ R N j)(o:gn i=x)(h:glb N.scope.names x=aC):SE f w R C G d N l j (.g i) (.Name x F):=by
 intro A s M B Y k x Q E r S m a q;replace m:=Hj.mp m;obtain⟨L,e,m⟩:=fJ m;subst o;obtain⟨v,c,b⟩:=p.val i L e;exact pU n I S.X h c (a.here S.real (b _ S.X) m)
end
structure IR(R:iK)(G:Gl):Prop where
 fld:∀C f,G.fo C f=aC->rT R.K C=aC/\fK R.K (.ref C) (fn f)=aA aB/\fK R.K (.ref C) "__getattribute__"=aA (aA (.builtin "object.__getattribute__"))/\fK R.K (.ref C) "__setattr__"=aA (aA (.builtin "object.__setattr__"))/\plainOver R.K C=aC
theorem EC{h:bG}{a:Nat}{m:bP->Option aH}{o:gV}(n:h.Ns a m)(e:h.get? a=aA o)(u:bP):GX u o=aA (m u):=by
 obtain⟨A,X,j,E,f,hk,g⟩:=n;rw[e]at E;cases E;delta GX;rw[f];dsimp only;have :=g u;unfold nsFind findBy at this;rw[<-Array.find?_toList]at this;cases q:List.find? (λ x=>x.key.isStr u) X.toList with
 |some i=>rw[q]at this;simpa using this|none=>
 rw[q]at this;have b:(X.toList.any λ x=>x.refKey)=aG:=by
  rw[BX];intro x c;obtain⟨n,t,d⟩:=hk x (by simpa using c);simp[EG,d]
 simp only[b];simpa using this
theorem eB.inst{d:fN}{M:Nat->Nat}{Y:MH}{h:bG}(r:eB d M Y h){a C:Nat}{N:List (Nat×MV)}(e:Y a=aA (.inst C N)):∃l L,InstAt h a l C (aA L)/\l.dict=aA (M a)/\h.get? (M a)=aA L/\(∀f v,pX N f=aA v->∃u,GX (fn f) L=aA (aA u)/\VR h v u)/\(∀x,(∀f,f<iO.length->(pX N f).isSome->fn f≠x)->GX x L=aA aB):=by
 obtain⟨⟨j,g⟩,m,c,⟨L,b,o⟩,y,K,i⟩:=r.obj a _ e;refine⟨_,L,⟨g,rfl,rfl,b⟩,rfl,b,λ f v q=>?_,λ x q=>?_⟩
 ·obtain⟨u,n,k⟩:=y f v (i f v q) q;exact⟨u,by rw[EC c b,n],k⟩
 ·rw[EC c b,K x q]
theorem IS(a:aR)(b:bP)(F:fX)(N:dL):eval (.Attribute a b F) N=(do
 let o<-attributeBase a b N (eval a N)DA F.atName;let r<-holding [o] (getAttr o b aC)jU a o r;iB r):=rfl
section
variable{b:Program}{w:World}{R:iK}{c:kP}{G:Gl}{gn:Nat->Str}{d:Nat}{N:Env}{l:List Env}{j:List Str}
variable{A:Around}{E:Value->Shared->Prop}{s:Shared}{M:Nat->Nat}{Y:MH}{B:Loc}{k:KE}{Q:Value->Shared->Prop}
set_option tactic.hygienic true in theorem om(ck:IR R G)(X:R.K.In s.heap)(r:eB R.N0 M Y s.heap){v:MV}{u:Value}{f:Nat}{mv:MV}(vr:VR s.heap v u)(e:FF G Y v f=aA mv)(h:∀y,VR s.heap mv y->Q y {s with toks:=s.toks+1}):aU (aY b w) A (getAttr u (fn f) aC) Q E s:=by
  delta FF at e;split at e
  · rename_i a;split at e
    · rename_i C fs ea;split at e
      ·rename_i hf;delta VR at vr;subst vr;obtain⟨ox,od,I,e1,e2,e3,e4⟩:=r.inst ea;obtain⟨y,e5,e6⟩:=e3 f mv e;obtain⟨k1,k2,k3,k4,k5⟩:=ck.fld C f hf;refine get_value X I k3 (findObj_own k1 k2 rfl e5) e6.handed (h y e6)
      ·cases e
    ·cases e
  ·cases e
theorem lu(i:cR R)(H:IR R G){a:ME}{r:aR}{f:Nat}{F:fX}(J:SE b w R c G d N l j a r)(z:rX r=aC):SE b w R c G d N l j (.attr a f) (.Attribute r (fn f) F):=by
 intro A s M B Y k x Q E o S m h D;replace m:=ki.mp m;rw[IS,PU z];refine aE (J A s M B Y _ x _ E o S m ?_ D);intro C I P g L v p n q;obtain⟨u,e,q⟩:=fJ q;refine aE (fO (aE (dM (om H (s:={s with heap:=P,toks:=g}) (S.post i p).X p.real n e λ y t=>aE (letGo (aM ?_))))));exact h _ _ _ _ _ _ p t q
end
theorem KD(d:aR)(o i:aH):∃S,subscripted d aG o i=operate S (getItem o i):=by
 have q:∃S,operate [o,i] (getItem o i)=operate S (getItem o i):=⟨_,rfl⟩;cases d with
 |Slice a b c p=>cases c with
  |none=>exact⟨_,rfl⟩|some _=>exact q
 |_=>exact q
set_option tactic.hygienic true in theorem eB.list{N0:fN}{δ:Nat->Nat}{mh:MH}{h:bG}(r:eB N0 δ mh h){v:MV}{u:aH}{l:List MV}(vr:VR h v u)(e:listOf mh v=aA l):l.length<=jG/\∃a vs,v=.ref a/\u=.ref a/\mh a=aA (.list l)/\h.IsList a vs/\dK h l vs.toList:=by
  delta listOf at e;split at e
  · rename_i a;split at e
    ·rename_i ea;cases e;obtain⟨hl,vs,x,y⟩:=r.obj a _ ea;exact⟨hl,a,vs,rfl,vr,ea,x.isList,y⟩
    ·cases e
  ·cases e
theorem eB.plist{b:fN}{M:Nat->Nat}{Y:MH}{h:bG}(r:eB b M Y h){a:Nat}{l:List MV}(e:Y a=aA (.list l)):l.length<=jG/\∃Z,h.PlainList a Z/\dK h l Z.toList:=r.obj a _ e
theorem dK.size{h:bG}{l:List MV}{vs:Array aH}(r:dK h l vs.toList):vs.size=l.length:=by rw[<-r.length];simp
section
variable{b:Program}{w:World}{R:iK}{f:kP}{G:Gl}{gn:Nat->Str}{d:Nat}{N:Env}{l:List Env}{K:List Str}
variable{A:Around}{E:Value->Shared->Prop}{s:Shared}{g:Nat->Nat}{Y:MH}{B:Loc}{k:KE}{Q:Value->Shared->Prop}
theorem one(n:cR R){i:ME}{p1:aR}(e:SE b w R f G d N l K i p1)(r:xN A l d)(S:St R N l K g B Y s.heap){x:KE}{KK:MV->MH->Prop}{T:Value->Shared->Prop}(m:bX f G i B Y (λ u Y=>KK u Y) x)(o:XE R l .none g Y x E s)(a:∀c I P V h u,cU R.N0 g Y s.heap c I P->St R N l K c B I P->VR P h u->KK h I->T u {s with heap:=P,toks:=V}):aU (aY b w) A (eval p1 N) T E s:=e A s g B Y _ x _ E r S m (λ c I P V L v p j q=>a c I P V L v p (S.post n p) j q) o
theorem VP(F:cR R){t z:ME}{p1 p2:aR}(r:SE b w R f G d N l K t p1)(n:SE b w R f G d N l K z p2)(C:xN A l d)(S:St R N l K g B Y s.heap){x:KE}{KK:MV->MV->MH->Prop}{T:Value->Value->Shared->Prop}(m:bX f G t B Y (λ u Y=>bX f G z B Y (λ v Y=>KK u v Y) x) x)(y:XE R l .none g Y x E s)(a:∀c I P V h u L v,cU R.N0 g Y s.heap c I P->St R N l K c B I P->VR P h u->VR P L v->KK h L I->T u v {s with heap:=P,toks:=V}):aU (aY b w) A (eval p1 N) (λ u D=>aU (aY b w) A (eval p2 N) (T u) E D) E s:=by
 refine one F r C S m y λ c I P V h u p J M q=>?_;exact one F (s:={s with heap:=P,toks:=V}) n C J q (y.post p) λ H U O W L v o j e i=>a _ _ _ _ _ _ _ _ (p.trans o) j (o.ev.vr M) e i
theorem JC{a:Type}{l:List a}{i:Int}{x:a}(e:rB l i=aA x):(0<=i/\i.toNat<l.length/\l[i.toNat]?=aA x)\/(i<0/\0<=i+l.length/\l[(i+l.length).toNat]?=aA x):=by
  delta rB at e;split at e
  ·rename_i q;exact .inl ⟨q,(List.getElem?_eq_some_iff.mp e).1,e⟩
  · rename_i q;split at e;·rename_i c;exact .inr ⟨by lia,c,e⟩
    ·cases e
theorem XQ{i:Int}{n:Nat}(h:i.toNat<n)(a:n<=4294967296):i<2^63:=sC (Int.self_le_toNat i) (Int.lt_of_lt_of_le (oK.mpr (Nat.lt_of_lt_of_le h a)) (by decide))
theorem dn{i:Int}{n:Nat}(h:0<=i+n):-(n:Int)<=i:=by lia
theorem dj{i:Int}{n:Nat}(h:0<=i+n)(a:n<=4294967296):-(2^63:Int)<=i:=hO (hO (by decide) (Int.neg_le_neg (mQ.mpr a))) (dn h)
theorem NP{c:Type}{l:List c}{i:Int}{x:c}(h:l.length<=jG)(e:rB l i=aA x):∃n,EN i l.length=aA n/\l[n]?=aA x/\-(2^63:Int)<=i/\i<2^63:=by
 rcases JC e with⟨a,y,C⟩|⟨a,y,C⟩
 ·refine⟨i.toNat,?_,C,hO (by decide) a,XQ y (lm h)⟩;unfold EN;rw[if_neg (wT.mpr a)];exact if_pos (by rw[fB,decide_eq_true_eq,decide_eq_true_eq];exact⟨a,(Int.toNat_lt a).mp y⟩)
 ·exact⟨_,seqIndex_neg a (dn y),C,dj y (lm h),Int.lt_trans a (by decide)⟩
theorem bm{r q:aR}(I:eB R.N0 g Y s.heap){v j L:MV}{u i:Value}(H:VR s.heap v u)(D:VR s.heap j i)(e:GA Y v j=aA L)(h:∀y V,VR s.heap L y->Q y {s with toks:=V}):aU (aY b w) A (AW r q u i) Q E s:=by
  refine JJ (M:=λ v j L=>∀u i,VR s.heap v u->VR s.heap j i->(∀y V,VR s.heap L y->Q y {s with toks:=V})->aU (aY b w) A (AW r q u i) Q E s) ?_ ?_ ?_ e u i H D h
  · intro a p k' L e1 e2 u i H D h;obtain⟨O,U,Z,q1,rfl,-,hL,X⟩:=I.list H e1;obtain⟨t,rfl⟩:=D;obtain⟨x,J⟩:=KD q (.ref U) (.int k' t);have a1:=X.size;rcases JC e2 with⟨h0,C,W⟩|⟨h0,C,W⟩
    ·obtain⟨y,y1,y2⟩:=X.get W;exact zH hL.typeIs uB.lookup (wpAny_getItem_list hL h0 (XQ C (lm O)) (by rw[<-lH];exact y1) (h y s.toks y2)) J
    ·obtain⟨y,y1,y2⟩:=X.get W;exact zH hL.typeIs uB.lookup (wpAny_getItem_list_neg hL h0 (by rw[a1];exact dn C) (dj C (lm O)) (by rw[<-lH,a1];exact y1) (h y s.toks y2)) J
  · intro z k' c e1 u i H D h;obtain⟨O,t,rfl⟩:=H;obtain⟨S,rfl⟩:=D;obtain⟨x,J⟩:=KD q (.str ⟨z.toArray⟩ t) (.int k' S);obtain⟨n,e2,e3,e4,e5⟩:=NP (Nat.le_trans O (by decide)) e1;have hh:VR s.heap (.str [c]) (.str ⟨#[c]⟩ s.toks):=by exact⟨show 1<=aX by decide,_,rfl⟩
    refine zH (mD s _ t) F.slot_str_getitem.lookup (P.getItem_str (c:=c) ?_ ?_ (h _ _ hh)) J;·rw[jJ,decide_eq_false_iff_not,decide_eq_false_iff_not];exact⟨wT.mpr e4,Int.not_le.mpr e5⟩
    ·rw[show(⟨z.toArray⟩:Str).length=z.length from List.size_toArray,e2];show z.toArray[n]?=aA c;rw[List.getElem?_toArray];exact e3
  ·intro p k' L e u i H D h;obtain⟨O,a,o,Z,n,rfl,a2,hc,hd,X⟩:=H;obtain⟨S,rfl⟩:=D;obtain⟨x,J⟩:=KD q (.ref a) (.int k' S);have ht:IsTup s.heap a Z:=⟨o,a2,hc,n,hd⟩;obtain⟨m,e2,e3,e4,e5⟩:=NP (Nat.le_trans O (by decide)) e;obtain⟨y,y1,y2⟩:=X.get e3;exact zH ht.typeIs slot_tuple_getitem.lookup (getItem_tuple ht e4 e5 (X.size▸e2) (by rw[<-lH];exact y1) (h y s.toks y2)) J
theorem tq(t:cR R){n j:ME}{p1 p2:aR}{F:fX}(i:SE b w R f G d N l K n p1)(a:SE b w R f G d N l K j p2):SE b w R f G d N l K (.idx n j) (.Subscript p1 p2 F):=by
 intro A s g B Y k x Q E D S m r H;replace m:=ZP.mp m;refine Subscript_ (VP t i a D S m H λ c I P V h u L v p O J C q=>?_);obtain⟨y,e,q⟩:=fJ q;exact bm (s:={s with heap:=P,toks:=V}) p.real J C e λ z M o=>r _ _ _ _ _ _ p o q
end
theorem HA{a:Int}(h:a.natAbs<kD):mX a<=64:=by
  delta mX;split;·exact F0
  · rename_i q;haveI i:a.natAbs≠0:=by intro z;apply q;simp;lia
    haveI :=(FV (k:=62) i).mpr h;exact F1 this
section
variable{c:Program}{w:World}{R:iK}{f:kP}{G:Gl}{gn:Nat->Str}{d:Nat}{N:Env}{l:List Env}{j:List Str}
variable{A:Around}{E:Value->Shared->Prop}{s:Shared}{g:Nat->Nat}{Y:MH}{B:Loc}{k:KE}{Q:Value->Shared->Prop}
theorem VR.int{h:bG}{i:Int}{t:Nat}:VR h (.int i) (.int i t):=by exact⟨t,rfl⟩
theorem VR.bool{h:bG}{b:Bool}:VR h (.bool b) (.bool b):=by rfl
theorem VR.str{h:bG}{x:List Nat}{t:Nat}(a:x.length<=aX):VR h (.str x) (.str ⟨x.toArray⟩ t):=by exact⟨a,t,rfl⟩
theorem VR.str'{h:bG}{x:Str}{t:Nat}(a:x.length<=aX):VR h (.str x.cps.toList) (.str x t):=by exact⟨by simpa[Str.length]using a,t,by cases x;rfl⟩
theorem VR.str_inv{h:bG}{x:List Nat}{v:Value}(r:VR h (.str x) v):x.length<=aX/\∃t,v=.str ⟨x.toArray⟩ t:=by exact r
theorem VR.int_inv{h:bG}{x:Int}{v:Value}(r:VR h (.int x) v):∃t,v=.int x t:=by exact r
theorem VR.bool_inv{h:bG}{x:Bool}{v:Value}(r:VR h (.bool x) v):v=.bool x:=by exact r
theorem CV{b:Int}(z:0<b)(h:b.natAbs<kD):b.natAbs.log2<62:=(Nat.log2_lt (k:=62) (Int.natAbs_ne_zero.mpr (mR z))).mpr h
theorem zb{o:iX}{a b L:MV}{u v:Value}(n:VR s.heap a u)(m:VR s.heap b v)(e:CU o a b=aA L)(h:∀y V,VR s.heap L y->Q y {s with toks:=V}):aU (aY c w) A (binaryOp o u v) Q E s:=by
  refine VH (M:=λ o a b L=>∀u v,VR s.heap a u->VR s.heap b v->(∀y V,VR s.heap L y->Q y {s with toks:=V})->aU (aY c w) A (binaryOp o u v) Q E s) ?_ ?_ ?_ ?_ ?_ ?_ ?_ e u v n m h
  ·intro a b u v n m h;obtain⟨t,rfl⟩:=n.int_inv;obtain⟨I,rfl⟩:=m.int_inv;exact P.add_int (h _ _ VR.int)
  · intro a b i u v n m h;obtain⟨x,t,rfl⟩:=n.str_inv;obtain⟨z,I,rfl⟩:=m.str_inv;refine SB.add (λ t k=>?_) ?_
    ·haveI e:(⟨a.toArray⟩:Str)++(⟨b.toArray⟩:Str)=⟨(a++b).toArray⟩:=congrArg Str.mk (List.append_toArray ..);rw[e];exact h _ _ (VR.str (by rw[List.length_append];exact i))
    ·show a.toArray.size+b.toArray.size<=_;rw[List.size_toArray,List.size_toArray,eH];exact lm i
  ·intro a b u v n m h;obtain⟨t,rfl⟩:=n.int_inv;obtain⟨I,rfl⟩:=m.int_inv;exact P.sub_int (h _ _ VR.int)
  ·intro a b i u v n m h;obtain⟨t,rfl⟩:=n.int_inv;obtain⟨I,rfl⟩:=m.int_inv;exact P.mul_int (h _ _ VR.int) (IntMulOk.of_left (HA i))
  ·intro a b i u v n m h;obtain⟨t,rfl⟩:=n.int_inv;obtain⟨I,rfl⟩:=m.int_inv;refine floordiv_int (mR i.1) ?_ (.inl (uV (Nat.lt_trans (CV i.1 i.2) (by decide))));rw[tL _ (mT i.1)];exact h _ _ VR.int
  ·intro a b i u v n m h;obtain⟨t,rfl⟩:=n.int_inv;obtain⟨I,rfl⟩:=m.int_inv;refine mod_int' (mR i) ?_;rw[sY _ (mT i)];exact h _ _ VR.int
  · intro a b i u v n m h;obtain⟨t,rfl⟩:=n.int_inv;obtain⟨I,rfl⟩:=m.int_inv;obtain⟨K,C,p,q⟩:=i;by_cases z:b=0
    ·rw[z]at h⊢;exact AutoIntOps.pow_0 (by lia) (by decide) (h _ _ (by rw[Int.toNat_zero,Int.pow_zero];exact VR.int))
    · refine AutoIntOps.pow_4 p (by simpa using z) (by simp;lia) (by simp;lia) ?_ (h _ _ VR.int);have :mX a<=64:=HA (by delta kD;lia);delta oW.Int.intTooBig;have i:(100000:Int)<=bitsLine:=by decide
      have r:((mX a:Nat):Int)*b<=64*90:=Int.mul_le_mul (mQ.mpr this) q p (by decide);simp only[decide_eq_true_eq,wT,gt_iff_lt];exact hO r (hO (by decide) i)
theorem xv(D:cR R){n:iX}{r o:ME}{p1 p2:aR}{F:fX}(i:SE c w R f G d N l j r p1)(a:SE c w R f G d N l j o p2):SE c w R f G d N l j (.bin n r o) (.BinOp p1 n p2 F):=by
 intro A s g B Y k x Q E H S m K J;replace m:=au.mp m;refine wpAny_BinOp (VP D i a H S m J λ C I P V h u L v p U O b q=>?_);obtain⟨y,e,q⟩:=fJ q;exact zb (s:={s with heap:=P,toks:=V}) O b e λ z M t=>K _ _ _ _ _ _ p t q
theorem yl(v:cR R){i:ME}{p1:aR}{F:fX}(a:SE c w R f G d N l j i p1):SE c w R f G d N l j (.not i) (.UnaryOp .Not p1 F):=by
 intro A s g B Y k x Q E o S m r t;replace m:=ZV.mp m;refine wpAny_UnaryOp (one v a o S m t λ C I P V h u p y n q=>?_);obtain⟨b,e,q⟩:=fJ q;rw[GV e]at n;rw[n.bool_inv];exact not_value (jL (r _ _ _ _ _ _ p VR.bool q))
end
end
section
open PySem PySem.W PyProof.Rows PySem.SeqAt
set_option autoImplicit false
structure UJ(R:iK)(G:Gl):Prop where ks:∀b,G.ks b=aC->∃o,R.K.lookup b=aA o/\o.cls≠.type "tuple"
section
variable{i:Program}{w:World}{R:iK}{m:kP}{G:Gl}{gn:Nat->Str}{d:Nat}{N:Env}{l:List Env}{F:List Str}
variable{A:Around}{E:Value->Shared->Prop}{s:Shared}{g:Nat->Nat}{Y:MH}{B:Loc}{k:KE}{Q:Value->Shared->Prop}
theorem str_beq(a b:List Nat):((⟨a.toArray⟩:Str)==⟨b.toArray⟩)=cH (a=b):=by
 rw[Bool.eq_iff_iff,beq_iff_eq,decide_eq_true_eq];constructor
 ·intro h;haveI :=congrArg (λ x:Str=>x.cps.toList) h;simpa using this
 ·rintro rfl;rfl
theorem JX{a b:MV}{u v:Value}{r:Bool}{h:bG}(f:VR h a u)(c:VR h b v)(e:mA a b=aA r)(A:Around)(s:Shared):EqAt A s u v r/\RcAt A s u v r/\RcNeAt A s u v (!r):=by
 refine FJ (M:=λ a b r=>∀u v,VR h a u->VR h b v->EqAt A s u v r/\RcAt A s u v r/\RcNeAt A s u v (!r)) ?_ ?_ ?_ e u v f c
 ·intro a b u v f c;obtain⟨t,rfl⟩:=f.int_inv;obtain⟨I,rfl⟩:=c.int_inv;exact⟨EqAt.int_int _ _ _ _,RcAt.int_int _ _ _ _,RcNeAt.int_int _ _ _ _⟩
 ·intro a b u v f c;obtain⟨_,t,rfl⟩:=f.str_inv;obtain⟨_,I,rfl⟩:=c.str_inv;rw[<-str_beq a b];exact⟨EqAt.str_str _ _ _ _,RcAt.str_str _ _ _ _,RcNeAt.str_str _ _ _ _⟩
 ·intro a b u v f c;rw[f.bool_inv,c.bool_inv,<-show(a==b)=cH (a=b)by cases a<;>cases b<;>rfl];exact⟨EqAt.bool_bool _ _,RcAt.bool_bool _ _,RcNeAt.bool_bool _ _⟩
theorem MX{f:MV->MV->Option Bool}{h:bG}{P:Value->Value->Bool->Prop}(q:∀a b u v x,VR h a u->VR h b v->f a b=aA x->P u v x):∀(l r:List MV)(o Z:List Value)(b:Bool),dK h l o->dK h r Z->RW f l r=aA b->o.length=Z.length/\∃e:Nat->Bool,(∀j(K:j<o.length)(C:j<Z.length),P o[j] Z[j] (e j))/\b=(List.range o.length).all e:=by
 intro l;induction l with
 |nil=>
  intro r o Z b n p e;cases r with
  |nil=>
 rw[n.inv0,p.inv0];exact⟨rfl,λ U=>aC,λ j K=>absurd K (Nat.not_lt_zero _),(bH e).symm⟩|cons _ _=>cases e
 |cons a l H=>
 intro r o Z b n p e;cases r with
 |nil=>cases e|cons c r=>
 obtain⟨u,o,rfl,L,I⟩:=n.inv;obtain⟨v,Z,rfl,M,J⟩:=p.inv;obtain⟨x,t,e⟩:=cA e;obtain⟨y,z,e⟩:=fR e;obtain⟨len,E,O,D⟩:=H r o Z y I J z;refine⟨congrArg Nat.succ len,λ j=>match j with|0=>x|j+1=>E j,?_,?_⟩
 ·intro j K C;cases j with
 |zero=>exact q _ _ _ _ _ L M t|succ j=>exact O j (Nat.lt_of_succ_lt_succ K) (Nat.lt_of_succ_lt_succ C)
 ·rw[List.length_cons,List.range_succ_eq_map,List.all_cons,List.all_map,<-e,D];rfl
theorem VR.list{c:fN}{h:bG}(r:eB c g Y h){x:Nat}{v:Value}{l:List MV}(b:VR h (.ref x) v)(e:listOf Y (.ref x)=aA l):∃Z,v=.ref x/\h.IsList x Z/\dK h l Z.toList:=by
 obtain⟨_,a,Z,q,rfl,_,y,z⟩:=r.list b e;cases q;exact⟨Z,rfl,y,z⟩
theorem YD{a b:MV}{u v:Value}{r:Bool}(I:eB R.N0 g Y s.heap)(U:VR s.heap a u)(L:VR s.heap b v)(e:H2 Y a b=aA r)(hu:A.units+1<CA):EqAt A s u v r/\RcAt A s u v r/\RcNeAt A s u v (!r):=by
 unfold H2 at e;cases M:Ay a with
 |none=>rw[M]at e;exact JX U L e _ _|some x=>
 rw[M]at e;obtain⟨y,X,e⟩:=cA e;rw[KX M]at U;rw[KX X]at L;obtain⟨V,e⟩:x≠y/\((listOf Y (.ref x)).bind λ l=>(listOf Y (.ref y)).bind λ r=>if l.length=r.length then RW mA l r else aA aG)=aA r:=by
  by_cases q:x=y;·rw[if_pos q]at e;cases e
  ·rw[if_neg q]at e;exact⟨q,e⟩
 obtain⟨l,e1,e⟩:=cA e;obtain⟨S,e2,e⟩:=cA e;obtain⟨Z,rfl,o,J⟩:=VR.list I U e1;obtain⟨t,rfl,h,H⟩:=VR.list I L e2;have D:=J.size;have s2:=H.size;have f:A.units<CA:=Nat.lt_of_succ_lt hu;by_cases n:l.length=S.length
 ·rw[if_pos n]at e;obtain⟨len,E,hE,W⟩:=MX (P:=λ u v x=>EqAt A.in1 s u v x) (λ a b u v x p q z=>(JX p q z _ _).1) _ _ _ _ _ J H e;rw[gB]at W;have c:Z.size=t.size:=len;have O:∀j(K:j<Z.size)(C:j<t.size),EqAt A.in1 s Z[j] t[j] (E j):=λ j K C=>hE j K C;rw[W];exact⟨EqAt.of_refs V (HR o h c f O),HR o h c f O,RcNeAt.lists o h c f O⟩
 ·rw[if_neg n]at e;rw[<-bH e];have c:(Z.size !=t.size)=aC:=bne_iff_ne.mpr (by lia);exact⟨EqAt.of_refs V (tE o h c f),tE o h c f,yR o h c f⟩
end
section
variable{g:Program}{w:World}{R:iK}{i:kP}{G:Gl}{gn:Nat->Str}{d:Nat}{N:Env}{l:List Env}{F:List Str}
variable{A:Around}{E:Value->Shared->Prop}{s:Shared}{L:Nat->Nat}{Y:MH}{B:Loc}{k:KE}{Q:Value->Shared->Prop}
theorem VR.tup_inv{h:bG}{x:List MV}{v:Value}(r:VR h (.tup x) v):x.length<=aX/\∃a Z,v=.ref a/\h.IsTuple a Z/\IsTup h a Z/\dK h x Z.toList:=by
 obtain⟨j,a,o,Z,n,rfl,c,e,b,f⟩:=r;exact⟨j,a,Z,rfl,⟨o,c,e,n,b⟩,⟨o,c,e,n,b⟩,f⟩
theorem WS{a b:MV}{u v:Value}{r:Bool}(I:eB R.N0 L Y s.heap)(D:VR s.heap a u)(h:VR s.heap b v)(e:w5 Y a b=aA r)(o:A.units+2<CA):RcAt A s u v r/\RcNeAt A s u v (!r):=by
 unfold w5 at e;cases H:zf a with
 |none=>rw[H]at e;exact(YD I D h e (Nat.lt_of_succ_lt o)).2|some l=>
 rw[H]at e;obtain⟨S,U,e⟩:=cA e;rw[KH H]at D;rw[KH U]at h;obtain⟨_,x,Z,rfl,O,_,m⟩:=D.tup_inv;obtain⟨_,y,t,rfl,c,_,J⟩:=h.tup_inv;have f:A.units<CA:=Nat.lt_of_succ_lt (Nat.lt_of_succ_lt o);obtain⟨len,E,W,V⟩:=MX (P:=λ u v x=>EqAt A.in1 s u v x) (λ a b u v x p q z=>(YD (A:=A.in1) I p q z o).1) _ _ _ _ _ m J e;haveI n:Z.size=t.size:=len;have M:∀j(K:j<Z.size)(C:j<t.size),EqAt A.in1 s Z[j] t[j] (E j):=λ j K C=>W j K C;have q:((List.range (min Z.size t.size)).all E&&Z.size==t.size)=r:=by rw[<-n,Nat.min_self,beq_self_eq_true,Bool.and_true,V];rfl
 exact⟨q▸RcAt.tuples O c f M,q▸RcNeAt.tuples O c f M⟩
theorem VR.notNone{h:bG}{a:MV}{u:Value}(r:VR h a u):(u==Value.none)=vK a:=by cases a<;>simp only[VR]at r<;>first|(subst r;rfl)|(obtain⟨t,rfl⟩:=r;rfl)|(obtain⟨_,t,rfl⟩:=r;rfl)|(obtain⟨_,_,_,_,_,rfl,_⟩:=r;rfl)
theorem VR.adr{h:bG}{a:MV}{u:Value}(r:VR h a u){x:Bool×Nat}(e:adr a=aA x):u=.ref x.2:=by cases a<;>first|(cases e;done)|(simp only[VR]at r;cases e;exact r)
theorem VR.plain{h:bG}{a:MV}{u:Value}(r:VR h a u)(e:Internal.adr a=aB)(t:GI a=aG)(y:Nat):PySem.plainIs u (.ref y)=aC/\(u==Value.ref y)=aG:=by cases a<;>first|(cases e;done)|(cases t;done)|(simp only[VR]at r;first|(subst r;exact⟨rfl,rfl⟩)|(obtain⟨t,rfl⟩:=r;exact⟨rfl,rfl⟩)|(obtain⟨_,t,rfl⟩:=r;exact⟨rfl,rfl⟩))
theorem eB.own{p:fN}{h:bG}(r:eB p L Y h){a:Nat}(e:(Y a).isSome=aC):∃o,h.get? a=aA o/\o.cls≠.type "tuple"/\p.n<=a:=by
 obtain⟨y,b⟩:=aS.mp e;have :∃o,h.get? a=aA o:=by
  have :=r.obj a y b;cases y with
 |inst C j=>obtain⟨⟨S,I⟩,_⟩:=this;exact⟨_,I⟩|list l=>obtain⟨_,Z,⟨n,I⟩,_⟩:=this;exact⟨_,I⟩|sdict X=>obtain⟨K,_,_,I,c,_⟩:=this.obj;exact⟨_,I⟩
 obtain⟨o,m⟩:=this;have f:kS Y L a:=.inl ⟨y,b,by cases y<;>rfl⟩;exact⟨o,m,(r.footKind f m).1,r.footLow f⟩
theorem JM(V:cR R)(m:UJ R G)(X:R.K.In s.heap){a b:MV}{u v:Value}{r:Bool}(C:eB R.N0 L Y s.heap)(f:VR s.heap a u)(c:VR s.heap b v)(e:IY G Y a b=aA r){Q:Bool->Shared->Prop}(h:Q r s):aU (aY g w) A (isSame u v) Q E s:=by
 have t:∀x:Bool×Nat,pL G Y x=aC->∃o,s.heap.get? x.2=aA o/\o.cls≠.type "tuple"/\(match x.1 with|aC=>R.N0.n<=x.2|aG=>x.2<R.N0.n):=by
  intro x H;obtain⟨U,x⟩:=x;cases U with
 |true=>exact C.own H|false=>
  obtain⟨o,I,hc⟩:=m.ks x H;exact⟨o,X _ _ I,hc,(V.klow _ _ I).1⟩
 refine ak (M:=λ a b r=>∀u v,VR s.heap a u->VR s.heap b v->Q r s->aU (aY g w) A (isSame u v) Q E s) ?_ ?_ ?_ ?_ e u v f c h
 ·intro a u v f c h;simp only[VR]at c;rw[c,isSame_none,f.notNone];exact aM h
 ·intro a b x j p u v f c h;rw[f.adr j,c.adr p];exact wpAny_isSame_ref_self h
 ·intro a b x y j p ne W k2 u v f c h;rw[f.adr j,c.adr p];obtain⟨Z,D,S,z⟩:=t x W;obtain⟨oy,o2,P,J⟩:=t y k2;refine wpAny_isSame_ref_other (λ q=>ne ?_) D o2 S h;obtain⟨kx,x⟩:=x;obtain⟨ky,y⟩:=y;dsimp only at q;rw[q]at z⊢;cases kx<;>cases ky<;>first|rfl|exact absurd z (Nat.not_lt.mpr J)|exact absurd J (Nat.not_lt.mpr z)
 ·intro a b y j O p u v f c h;rw[c.adr p];obtain⟨p1,p2⟩:=f.plain j O y.2;exact wpAny_isSame_plain p1 (by rw[p2];exact h)
noncomputable def ww:Value->Value->Bool
 |.int a _,.int b _=>a==b|.str a _,.str b _=>a==b|.bool a,.bool b=>a==b|_,_=>aG
theorem ug{a b:MV}{u v:Value}{r:Bool}{h:bG}(f:VR h a u)(c:VR h b v)(e:mA a b=aA r):ww u v=r:=by
 refine FJ (M:=λ a b r=>∀u v,VR h a u->VR h b v->ww u v=r) ?_ ?_ ?_ e u v f c
 ·intro a b u v f c;obtain⟨t,rfl⟩:=f.int_inv;obtain⟨I,rfl⟩:=c.int_inv;rfl
 ·intro a b u v f c;obtain⟨_,t,rfl⟩:=f.str_inv;obtain⟨_,I,rfl⟩:=c.str_inv;exact str_beq _ _
 ·intro a b u v f c;rw[f.bool_inv,c.bool_inv];cases a<;>cases b<;>rfl
theorem f8{h:bG}(A:Around)(s:Shared){a:MV}{u:Value}(o:VR h a u):∀(l:List MV)(Z:List Value)(r:Bool),dK h l Z->YL a l=aA r->(∀y,y∈Z->EqAt A s y u (ww y u))/\Z.any (λ y=>ww y u)=r:=by
 intro H;induction H with
 |nil=>
 intro Z r c e;obtain rfl:=c.inv0;cases e;exact⟨λ y D=>by simp at D,rfl⟩|cons b l j=>
 intro Z r c e;obtain⟨v,Z,rfl,n,p⟩:=c.inv;obtain⟨x,m,e⟩:=jX.mp e;obtain⟨y,t,rfl⟩:=bO.mp e;obtain⟨C,I⟩:=j Z y p t;have q:=ug n o m;refine⟨λ z f=>?_,by rw[List.any_cons,q,I]⟩;rcases List.mem_cons.mp f with rfl|f;·rw[q];exact(JX n o m A s).1
 ·exact C z f
theorem cj{a b:MV}{u v:Value}{r:Bool}(f:VR s.heap a u)(m:VR s.heap b v)(e:Ho a b=aA r):(Q (.bool r) s->aU (aY g w) A (EA .In u v) Q E s)/\(Q (.bool !r) s->aU (aY g w) A (EA .NotIn u v) Q E s):=by cases b with
 |str x=>
 obtain⟨c,C,rfl⟩:=fR e;rw[CD C]at f;obtain⟨_,t,rfl⟩:=f.str_inv;obtain⟨_,I,rfl⟩:=m.str_inv;have q:(!(oA ⟨x.toArray⟩ ⟨#[c]⟩ 0 (⟨x.toArray⟩:Str).length 1).isEmpty)=x.elem c:=by rw[DL,Bool.eq_iff_iff];simp
 exact⟨λ h=>P.in_str (q.symm▸h),λ h=>P.notIn_str (q.symm▸h)⟩|tup l=>
 obtain⟨_,V,Z,rfl,p,_,z⟩:=m.tup_inv;obtain⟨n,D⟩:=f8 A.in1 s f l _ r z e;have o:Z.any (λ y=>ww y u)=r:=by rw[<-Array.any_toList];exact D
 exact⟨λ h=>in_tupleAt (λ y=>ww y u) p (λ y j=>n y (yG.mpr j)) (o▸h),λ h=>notIn_tupleAt (λ y=>ww y u) p (λ y j=>n y (yG.mpr j)) (o▸h)⟩|_=>cases e
theorem a8(z:cR R)(m:UJ R G)(X:R.K.In s.heap){p:lS}{a b:MV}{u v:Value}{r:Bool}(D:A.units+2<CA)(C:eB R.N0 L Y s.heap)(o:VR s.heap a u)(n:VR s.heap b v)(e:IP G p Y a b=aA r)(h:Q (.bool r) s):aU (aY g w) A (EA p u v) Q E s:=by
 have c:∀f,f7 f a b=aA r->∃x y t I,u=.int x t/\v=.int y I/\f x y=r:=λ f e=>by
  obtain⟨x,y,rfl,rfl,e⟩:=VK e;obtain⟨t,rfl⟩:=o.int_inv;obtain⟨I,rfl⟩:=n.int_inv;exact⟨x,y,t,I,rfl,rfl,bH e⟩
 cases p with
 |Lt=>obtain⟨x,y,t,I,rfl,rfl,rfl⟩:=c _ e;exact P.lt_int h|LtE=>obtain⟨x,y,t,I,rfl,rfl,rfl⟩:=c _ e;exact P.le_int h|Gt=>obtain⟨x,y,t,I,rfl,rfl,rfl⟩:=c _ e;exact P.gt_int h|GtE=>obtain⟨x,y,t,I,rfl,rfl,rfl⟩:=c _ e;exact P.ge_int h|Eq=>exact cmp_ofEq ((WS C o n e D).1 _ _ _ _ h)|NotEq=>
 obtain⟨q,j,rfl⟩:=fR e;exact cmp_ofNotEq ((WS C o n j D).2 _ _ _ _ h)|Is=>exact aE (JM z m X C o n e (aM h))|IsNot=>
 obtain⟨q,j,rfl⟩:=fR e;exact aE (JM z m X C o n j (aM h))|In=>exact(cj o n e).1 h|NotIn=>
 obtain⟨q,j,rfl⟩:=fR e;exact(cj o n j).2 h
theorem IU{a:lS}{r:aR}(h:DW r=aC):AI a r=aG:=by cases r with
 |Set=>exact bft h|_=>exact rQ aG
theorem we(H:cR R)(r:UJ R G){b:lS}{t z:ME}{p1 p2:aR}{K:fX}(n:SE g w R i G d N l F t p1)(a:SE g w R i G d N l F z p2)(j:AI b p2=aG):SE g w R i G d N l F (.cmp b t z) (.Compare p1 [b] [p2] K):=by
 intro A s L B Y k x Q E o S m M J;replace m:=cb.mp m;refine wpAny_Compare1 (VP H n a o S m J λ c I P f h u D v p O U C q=>?_) j;obtain⟨y,e,q⟩:=fJ q;haveI :=o.un;exact a8 (s:={s with heap:=P,toks:=f}) H r O.X (F1 this) p.real U C e (M _ _ _ _ _ _ p VR.bool q)
noncomputable def QT(R:iK)(L:Nat->Nat)(Y:MH)(k:Bool->MH->Prop)(Q:Bool->Shared->Prop)(s:Shared):Prop:=∀c I P f b,cU R.N0 L Y s.heap c I P->k b I->Q b {s with heap:=P,toks:=f}
noncomputable def ST(g:Program)(w:World)(R:iK)(i:kP)(G:Gl)(d:Nat)(N:Env)(l:List Env)(F:List Str)(C:ME)(r:aR):Prop:=∀A s L B Y k x Q E,xN A l d->St R N l F L B Y s.heap->bX i G C B Y (λ v Y=>OptK (FM v) λ b=>k b Y) x->QT R L Y k Q s->XE R l .none L Y x E s->aU (aY g w) A (isTrue r N (eval r N)) Q E s
theorem XG(z:cR R){C:ME}{r:aR}(o:SE g w R i G d N l F C r)(n:∀Z,isTrue r N Z=(do let v<-Z;DA r.pos;holding [v] (truthy v))):ST g w R i G d N l F C r:=by
 intro A s L B Y k x Q E j S m t y;refine wpAny_isTrue_value (one z o j S m y λ c I P f h u p D a q=>?_) (n _);obtain⟨b,e,q⟩:=fJ q;rw[GV e]at a;rw[a.bool_inv];exact jL (t _ _ _ _ _ p q)
theorem xh(H:cR R)(r:UJ R G){b:lS}{t z:ME}{p1 p2:aR}{K:fX}(n:SE g w R i G d N l F t p1)(a:SE g w R i G d N l F z p2)(j:AI b p2=aG):ST g w R i G d N l F (.cmp b t z) (.Compare p1 [b] [p2] K):=by
 intro A s L B Y k x Q E o S m M J;refine yC (VP H n a o S (cb.mp m) J λ c I P f h u D v p O U C q=>?_) j;obtain⟨y,e,q⟩:=fJ q;exact a8 (s:={s with heap:=P,toks:=f}) H r O.X (by haveI :=o.un;exact F1 this) p.real U C e (jL (M _ _ _ _ _ p q))
theorem Aw{C:ME}{r:aR}{K:fX}(h:ST g w R i G d N l F C r):ST g w R i G d N l F (.not C) (.UnaryOp .Not r K):=λ A s L B Y k x Q E a S m e j=>wpAny_isTrue_Not (h A s L B Y (λ b Y=>k (!b) Y) x _ E a S (ZV.mp m) (λ c I P f b p q=>e _ _ _ _ _ p q) j)
theorem v8(y:cR R){t a b:ME}{u n D:aR}{K:fX}(h:ST g w R i G d N l F t u)(j:SE g w R i G d N l F a n)(r:SE g w R i G d N l F b D):SE g w R i G d N l F (.ite t a b) (.IfExp u n D K):=by
 intro A s L B Y k x Q E e S m v o;refine wpAny_IfExp (h A s L B Y _ x _ E e S (cg.mp m) ?_ o);intro c I P f z p q;cases z with
 |false=>exact r A {s with heap:=P,toks:=f} c B I k x Q E e (S.post y p) q (v.post p) (o.post p)|true=>exact j A {s with heap:=P,toks:=f} c B I k x Q E e (S.post y p) q (v.post p) (o.post p)
theorem zj(z:cR R){t a b:ME}{e n D:aR}{K:fX}(r:ST g w R i G d N l F t e)(j:ST g w R i G d N l F a n)(v:ST g w R i G d N l F b D):ST g w R i G d N l F (.ite t a b) (.IfExp e n D K):=by
 intro A s L B Y k x Q E u S m y h;haveI H:isTrue (.IfExp e n D K) N (eval (.IfExp e n D K) N)=(do if<-isTrue e N (eval e N)then isTrue n N (eval n N)else isTrue D N (eval D N)):=rfl;rw[H];refine aE (r A s L B Y _ x _ E u S (cg.mp m) ?_ h);intro c I P f C p q;cases C with
 |false=>exact v A {s with heap:=P,toks:=f} c B I k x Q E u (S.post z p) q (λ U U U U U o X=>y _ _ _ _ _ (p.trans o) X) (h.post p)|true=>exact j A {s with heap:=P,toks:=f} c B I k x Q E u (S.post z p) q (λ U U U U U o X=>y _ _ _ _ _ (p.trans o) X) (h.post p)
end
noncomputable def KO:MV->Option (Option Int)
 |.none=>aA aB|.int i=>aA (aA i)|_=>aB
theorem LN{v:MV}{o:Option Nat}(h:WT v=aA o):KO v=aA (o.map λ(n:Nat)=>(n:Int)):=by cases v with
 |none=>cases h;rfl|int i=>obtain⟨c,h⟩:=gZ h;rw[<-h];exact congrArg (λ x=>aA (aA x)) (AH c).symm|_=>cases h
theorem SM(n:Nat)(i:Int):iF n i<=n:=mQ.mp ((clipAt_cast n i).symm▸Int.max_le.mpr ⟨gL n,Int.min_le_right _ _⟩)
theorem av(n:Nat)(q:Option Int):q.elim n (iF n)<=n:=match q with
 |aB=>aZ _|aA i=>SM n i
theorem ZS(n:Nat)(q:Option Int):q.elim 0 (iF n)<=n:=match q with
 |aB=>dN _|aA i=>SM n i
theorem zv{p q n:Nat}(y:q<=n)(K:p<=n):p+(q-p)<=n:=(Nat.le_total p q).elim (λ h=>(Nat.add_sub_of_le h).symm▸y) λ h=>(yB h).symm▸K
theorem b9{c:Type}{l:List c}{a b n:Nat}(h:l.length<=n):((l.drop a).take b).length<=n:=by rw[fW,eA];exact bN (Nat.min_le_right ..) (bN (BD ..) h)
theorem bf{b:Type}(l:List b)(m n:Nat):(l.take n).drop m=(l.drop (min m l.length)).take (min n l.length-min m l.length):=by
  rw[yW];by_cases q:m<=l.length
  · rw[gX q];by_cases a:n<=l.length;·rw[gX a]
    ·rw[vW (pV a),kG (by rw[eA];exact qO (pV a) m),kG (by rw[eA];exact F0)]
  ·rw[wZ (pV q),vW (pV q),wZ (aZ _),List.take_nil,List.take_nil]
theorem NL{b:Type}{l:List b}{lo a:MV}{r:List b}(h:WG l lo a=aA r):∃p q,KO lo=aA p/\KO a=aA q/\r=(l.drop (p.elim 0 (iF l.length))).take (q.elim l.length (iF l.length)-p.elim 0 (iF l.length)):=by
 obtain⟨p,f,h⟩:=cA h;obtain⟨q,c,h⟩:=fR h;refine⟨_,_,LN f,LN c,?_⟩;have e:(p.map λ(n:Nat)=>(n:Int)).elim 0 (iF l.length)=min (p.getD 0) l.length:=by cases p with
 |none=>exact(Nat.zero_min _).symm|some n=>exact clipAt_nat ..
 have g:∃n,upTo l q=l.take n/\(q.map λ(n:Nat)=>(n:Int)).elim l.length (iF l.length)=min n l.length:=by cases q with
 |none=>exact⟨l.length,mI.symm,(xF _).symm⟩|some n=>exact⟨n,rfl,clipAt_nat ..⟩
 obtain⟨n,i,d⟩:=g;rw[<-h,e,d,i];exact bf l _ n
theorem RM(p q:Option Int)(n:Nat):lO p q 1 n=(eM (q.elim n (iF n)-p.elim 0 (iF n))).map (p.elim 0 (iF n)+·):=by
 have c:∀a b:Nat,sliceRange (a:Int) (b:Int) 1=(eM (b-a)).map (a+·):=sliceRange_one;rw[<-c];delta lO;cases p<;>cases q<;>simp[clipAt_cast]
theorem WQ(x:List Nat)(p q:Option Int):(lO p q 1 x.length).filterMap (x.toArray[·]?)=(x.drop (p.elim 0 (iF x.length))).take (q.elim x.length (iF x.length)-p.elim 0 (iF x.length)):=by
 rw[RM];have :=StrLaws.picks x (q.elim x.length (iF x.length)-p.elim 0 (iF x.length)) (p.elim 0 (iF x.length)) (zv (av ..) (ZS ..));simpa using this
theorem dK.drop{h:bG}:∀(n:Nat)(l:List MV)(vs:List aH),dK h l vs->dK h (l.drop n) (vs.drop n):=by
 intro n;induction n with
 |zero=>intro y_ y_ r;exact r|succ n a=>
 intro l vs r;cases l with
 |nil=>obtain rfl:=r.inv0;exact dK.nil|cons m l=>
 obtain⟨v,vs,rfl,_,b⟩:=r.inv;exact a l vs b
theorem dK.take{h:bG}:∀(n:Nat)(l:List MV)(Z:List aH),dK h l Z->dK h (l.take n) (Z.take n):=by
 intro n;induction n with
 |zero=>intro U U U;exact dK.nil|succ n c=>
 intro l Z r;cases l with
 |nil=>obtain rfl:=r.inv0;exact dK.nil|cons m l=>
 obtain⟨v,Z,rfl,a,b⟩:=r.inv;exact dK.cons a (c l Z b)
theorem TW(x:List Nat)(b d:Option Int):Txt.slice ⟨x.toArray⟩ b d=⟨((x.drop (b.elim 0 (iF x.length))).take (d.elim x.length (iF x.length)-b.elim 0 (iF x.length))).toArray⟩:=by
  delta Txt.slice;have a:(⟨x.toArray⟩:bP).length=x.length:=by simp[BG]
  rw[a];split
  · rename_i c;simp only[fB,beq_iff_eq]at c;have N:=c.2;rw[RM]at N;simp only[bF,DT]at N;have y:=av x.length d;have K:=ZS x.length b;by_cases z:x.length=0
    ·have :x=[]:=iH.mp z;subst this;simp
    · have e:b.elim 0 (iF x.length)=0:=by omega
      rw[N,e];simp
  ·rw[WQ]
section
variable{c:Program}{w:World}{R:iK}{f:kP}{G:Gl}{gn:Nat->Str}{d:Nat}{N:Env}{l:List Env}{j:List Str}
variable{A:Around}{E:Value->Shared->Prop}{s:Shared}{M:Nat->Nat}{Y:MH}{B:Loc}{k:KE}{Q:Value->Shared->Prop}
theorem VR.part{h:bG}{m:MV}{v:Value}{p:Option Int}(r:VR h m v)(e:KO m=aA p):∃o:Option (Int×Tok),v=partValue o/\o.map (·.1)=p/\IsPart v p:=by cases m with
 |none=>cases e;delta VR at r;subst r;exact⟨aB,rfl,rfl,.none⟩|int i=>cases e;obtain⟨t,rfl⟩:=r.int_inv;exact⟨aA (_,t),rfl,rfl,.int _ _⟩|_=>cases e
noncomputable def SO(c:Program)(w:World)(R:iK)(f:kP)(G:Gl)(d:Nat)(N:Env)(l:List Env)(j:List Str)(C:ME)(a:Option aR):Prop:=∀A s M B Y k x Q E,xN A l d->St R N l j M B Y s.heap->bX f G C B Y k x->QE R M Y k Q s->XE R l .none M Y x E s->aU (aY c w) A (evalPart a N) Q E s
theorem SZ:SO c w R f G d N l j .no aB:=by
 intro A s M B Y k x Q E b S m a e;rw[evalPart_none];exact aM (a.here S.real (tk:=s.toks) (by simp only[VR]) m)
theorem SQ{C:ME}{r:aR}(b:SE c w R f G d N l j C r):SO c w R f G d N l j C (aA r):=by
 intro A s M B Y k x Q E a S m g e;rw[evalPart_some];exact b A s M B Y k x Q E a S m g e
noncomputable def ph(R:iK)(G:Gl):Prop:=∀a L,G.kl a=aA L->L.length<=jG/\∀h:bG,R.K.In h->∃Z,h.IsList a Z/\dK h L Z.toList
theorem XH{h:bG}(p:ph R G)(X:R.K.In h)(C:eB R.N0 M Y h){v:MV}{u:Value}{L:List MV}(g:VR h v u)(e:MK G Y v=aA L):L.length<=jG/\∃a Z,u=.ref a/\h.IsList a Z/\dK h L Z.toList:=by
 have i:listOf Y v=aA L->L.length<=jG/\∃a Z,u=.ref a/\h.IsList a Z/\dK h L Z.toList:=λ e=>by
  obtain⟨m,a,Z,_,b,_,o,n⟩:=C.list g e;exact⟨m,a,Z,b,o,n⟩
 cases v with
 |cst a=>
 delta VR at g;obtain⟨m,q⟩:=p a L e;obtain⟨Z,r,b⟩:=q h X;exact⟨m,a,Z,g,r,b⟩|_=>exact i e
theorem tz(rk:cR R)(kl:ph R G){e lo hi:ME}{r:aR}{a1 v:Option aR}{K p:fX}(ih:SE c w R f G d N l j e r)(b3:SO c w R f G d N l j lo a1)(b1:SO c w R f G d N l j hi v):SE c w R f G d N l j (.slc e lo hi) (.Subscript r (.Slice a1 v aB p) K):=by
 intro A s M B Y k x Q E ao S m hq hx;replace m:=w6.mp m;refine Subscript_ (one rk ih ao S m hx λ h P C D O u p1 S1 vu q1=>?_);refine wpAny_Slice (b3 A {s with heap:=C,toks:=D} h B P _ x _ E ao S1 q1 ?_ (hx.post p1));intro H Z W b0 ma a p2 z q2;refine b1 A {s with heap:=W,toks:=b0} H B Z _ x _ E ao (S1.post rk p2) q2 ?_ (hx.post (p1.trans p2));intro b5 a3 h3 b4 mb b p3 vb q3;rw[evalPart_none];refine aM ?_;dsimp only at p2 p3⊢;have P3:=(p1.trans p2).trans p3;have a4:=p3.ev.vr (p2.ev.vr vu);have al:=p3.ev.vr z;have S3:=(S1.post rk p2).post rk p3;have PP:=P3.trans (cU.push S3.real {cls:=.type "slice",data:=.fields #[a,b,.none]});have a2:subscripted (.Slice a1 v aB p) aG u (.ref h3.objs.size)=operate [.ref h3.objs.size,u] (getItem u (.ref h3.objs.size)):=rfl;have as:∀L,MK G a3 O=aA L->OptK (WG L ma mb) (λ t=>∀n,a3 n=aB->k (.ref n) (upd a3 n (.list t)))->aU (aY c w) A (AW r (.Slice a1 v aB p) u (.ref h3.objs.size)) Q E {s with heap:=h3.push {cls:=.type "slice",data:=.fields #[a,b,.none]},toks:=b4}:=by
  intro L eL q;obtain⟨t,e2,q⟩:=fJ q;obtain⟨pp,qq,c1,g,rfl⟩:=NL e2;obtain⟨hl,J,vs,rfl,hL,hr⟩:=XH kl S3.X S3.real a4 eL;obtain⟨oa,_,_,b2⟩:=al.part c1;obtain⟨ob,_,_,ap⟩:=vb.part g;have a5:=hr.size;unfold jG at hl;have a6:=hL.push {cls:=.type "slice",data:=.fields #[a,b,.none]};refine zH a6.typeIs uB.lookup (wpAny_getItem_list_slice a6 (bG.IsSliceOf.new ..) b2 ap .none (by simp) ?_ (by rw[eH];exact(F2 hl (Nat.le_of_eq a5)))) a2;dsimp only;rw[slicePick_plain,a5];have Sp:=S3.post rk (cU.push S3.real {cls:=.type "slice",data:=.fields #[a,b,.none]});have pn:=cU.newList Sp.real Sp.sz (l:=(L.drop (pp.elim 0 (iF L.length))).take (qq.elim L.length (iF L.length)-pp.elim 0 (iF L.length))) (vs:=(vs.toList.drop (pp.elim 0 (iF L.length))).take (qq.elim L.length (iF L.length)-pp.elim 0 (iF L.length))) (dK.mono (λ b o e U=>aK _ e) _ _ (dK.take _ _ _ (dK.drop _ _ _ hr))) (b9 hl);refine hq _ _ _ _ _ _ (PP.trans pn) ?_ (q _ ?_);·simp only[VR]
  ·have :=Sp.real.free;exact this
 cases y:UR O with
 |some x=>
 rw[y]at q3;rw[tZ y]at a4;obtain⟨t,e2,q⟩:=fJ q3;obtain⟨pp,qq,c1,g,rfl⟩:=NL e2;obtain⟨hl,tt,rfl⟩:=a4.str_inv;obtain⟨oa,rfl,V,_⟩:=al.part c1;obtain⟨ob,rfl,i,_⟩:=vb.part g;unfold aX at hl;refine zH (mD _ _ _) F.slot_str_getitem.lookup (wpAny_getItem_str_slice (l:=oa) (u:=ob) (st:=aB) ⟨_,bQ _ rfl,rfl,rfl⟩ rfl ?_) a2;rw[<-V,<-i]at q;refine post_val_or_str ⟨Nat.le_trans (Txt.slice_le ⟨x.toArray⟩ _ _) (by rw[eH];show x.toArray.size<=_;rw[List.size_toArray];exact lm hl),λ I k'=>?_⟩;show Q (.str (Txt.slice ⟨x.toArray⟩ (oa.map (·.1)) (ob.map (·.1))) I) _;rw[TW];exact hq _ _ _ _ _ _ PP (VR.str (b9 hl)) q|none=>
 rw[y]at q3;obtain⟨L,eL,q⟩:=fJ q3;exact as L eL q
end
section
variable{c:Program}{w:World}{R:iK}{f:kP}{G:Gl}{gn:Nat->Str}{d:Nat}{N:Env}{l:List Env}{F:List Str}
variable{A:Around}{E:Value->Shared->Prop}{s:Shared}{M:Nat->Nat}{Y:MH}{B:Loc}{k:KE}{Q:Value->Shared->Prop}
theorem nJ{r:aR}(h:DW r=aC)(i:List aR)(N:Env):dJ (r::i) N=(aG,eval r N)::dJ i N:=by cases r<;>first|rfl|cases h
theorem kz:GS c w R f G d N l F [] []:=by
 intro A s M B Y k x Q E K b S m a e;exact eW (a M Y s.heap s.toks [] [] (.refl S.real) dK.nil m)
theorem bg(U:cR R){a:ME}{r:aR}{V:List ME}{n:List aR}(o:SE c w R f G d N l F a r)(b:GS c w R f G d N l F V n)(q:dJ (r::n) N=(aG,eval r N)::dJ n N):GS c w R f G d N l F (a::V) (r::n):=by
 intro A s M B Y k x Q E K e S m j g;replace m:=CQ.mp m;refine dH (one U o e S m g λ L P y p h u p1 t J v=>?_) q;refine b A {s with heap:=y,toks:=p} L B P _ x _ E K e t v ?_ (g.post p1);intro i H C I D Z p2 z O;exact j _ _ _ _ _ _ (p1.trans p2) (dK.cons (p2.ev.vr J) z) O
theorem zk(o:cR R){V:List ME}{n:List aR}{K:fX}(i:GS c w R f G d N l F V n):SE c w R f G d N l F (.lst V) (.List n K):=by
 intro A s M B Y k x Q E t S m j r;replace m:=xr.mp m;refine wpAny_List (i A s M B Y _ x _ E K t S m ?_ r);intro C I P g D Z p e q;obtain⟨h,q⟩:=q;haveI a:=e.length;have b:=S.post o p;refine⟨by rw[a,eH];exact lm h,?_⟩;haveI pn:=cU.newList b.real b.sz e (by exact lm h);exact j _ _ _ _ _ _ (p.trans pn) (by simp only[VR]) (q _ b.real.free)
theorem VR.newTup{h:bG}{mvs:List MV}{vs:List Value}(a:mvs.length<=aX)(b:dK h mvs vs):VR (h.push {cls:=.type "tuple",data:=.seq vs.toArray}) (.tup mvs) (.ref h.objs.size):=by
 refine⟨a,_,_,vs.toArray,0,rfl,bQ h rfl,rfl,rfl,?_⟩;exact dK.mono (λ U U e U=>aK _ e) _ _ b
theorem ym(o:cR R){V:List ME}{n:List aR}{r:Nat}{K:fX}(i:GS c w R f G d N l F V n):SE c w R f G d N l F (.tup V) (.Tuple n r K):=by
 intro A s M B Y k x Q E u S m j h;replace m:=yz.mp m;refine wpAny_Tuple (i A s M B Y _ x _ E K u S m ?_ h);intro C I P g D Z p b q;obtain⟨e,q⟩:=q;haveI a:=b.length;haveI t:=S.post o p;refine⟨by rw[a,eH];exact lm e,?_⟩;exact j _ _ _ _ _ _ (p.trans (cU.push t.real _)) (VR.newTup e b) q
noncomputable def SB(c:Program)(w:World)(R:iK)(f:kP)(G:Gl)(d:Nat)(N:Env)(l:List Env)(F:List Str)(a:jO)(V:List ME)(n:List aR):Prop:=(∀A s M B Y k x Q E K,xN A l d->St R N l F M B Y s.heap->JV f G a V B Y k x->QE R M Y k Q s->XE R l .none M Y x E s->aU (aY c w) A (boolOp K a (evalEach n N)) Q E s)/\(∀A s M B Y k x Q E,xN A l d->St R N l F M B Y s.heap->JV f G a V B Y (λ v Y=>OptK (FM v) λ b=>k b Y) x->QT R M Y k Q s->XE R l .none M Y x E s->aU (aY c w) A (allTrue a n N) Q E s)
theorem OptK.bool{v:MV}{k:Bool->Prop}(h:OptK (FM v) k):∃b,v=.bool b/\k b:=by
 obtain⟨b,e,h⟩:=fJ h;exact⟨b,GV e,h⟩
theorem u9(I:cR R){t:jO}{a:ME}{r:aR}(H:SE c w R f G d N l F a r)(X:ST c w R f G d N l F a r):SB c w R f G d N l F t [a] [r]:=by
  constructor
  ·intro A s M B Y k x Q E K o S m p n;show aU _ A (eval r N) Q E s;refine one I H o S (KK:=λ v Y=>OptK (FM v) λ b=>k (.bool b) Y) m n λ L P y C h u p1 O D J=>?_;obtain⟨b,e,q⟩:=J.bool;rw[e]at D;exact p _ _ _ _ _ _ p1 D q
  · intro A s M B Y k x Q E o S m p n;have j:aU (aY c w) A (isTrue r N (eval r N)) Q E s:=X A s M B Y k x Q E o S m p n;cases t
    · refine wS (dY j (λ b i g=>?_) λ U U z=>z);cases b;·exact g
      ·exact wpAny_allTrue_And_nil g
    · refine xX (dY j (λ b i g=>?_) λ U U z=>z);cases b;·exact wpAny_allTrue_Or_nil g
      ·exact g
theorem j6(W:cR R){j:jO}{a g:ME}{r p:aR}{V:List ME}{n:List aR}(ih:SE c w R f G d N l F a r)(X:ST c w R f G d N l F a r)(I:SB c w R f G d N l F j (g::V) (p::n)):SB c w R f G d N l F j (a::g::V) (r::p::n):=by
  constructor
  · intro A s M B Y k x Q E K J S m t H;refine aE (one W ih J S (KK:=λ v Y=>OptK (FM v) λ b=>match yI j b with
 |aC=>k (.bool b) Y|aG=>JV f G j (g::V) B Y k x) m H λ L P y C h u p1 S1 Z z=>?_);obtain⟨b,e,q⟩:=z.bool;rw[e]at Z;rw[Z.bool_inv];refine aE (fO (aE (dM (jL ?_))));have i:JV f G j (g::V) B P k x->aU (aY c w) A (boolOp K j (evalEach (p::n) N)) Q E {s with heap:=y,toks:=C}:=λ q=>I.1 A {s with heap:=y,toks:=C} L B P k x Q E K J S1 q (t.post p1) (H.post p1);cases j<;>cases b;·exact aM (t _ _ _ _ _ _ p1 VR.bool q)
    ·exact i q
    ·exact i q
    ·exact aM (t _ _ _ _ _ _ p1 VR.bool q)
  · intro A s M B Y k x Q E J S m t H;have i:∀L P y C,cU R.N0 M Y s.heap L P y->JV f G j (g::V) B P (λ v Y=>OptK (FM v) λ b=>k b Y) x->aU (aY c w) A (allTrue j (p::n) N) Q E {s with heap:=y,toks:=C}:=λ L P y C p1 q=>I.2 A {s with heap:=y,toks:=C} L B P k x Q E J (S.post W p1) q (λ U U U U U o D=>t _ _ _ _ _ (p1.trans o) D) (H.post p1);have O:=λ T=>X A s M B Y (λ b Y=>match yI j b with
 |aC=>k b Y|aG=>JV f G j (g::V) B Y (λ v Y=>OptK (FM v) λ b=>k b Y) x) x T E J S m;cases j
    · refine wS (O _ (λ L P y C b p1 z=>?_) H);cases b;·exact t _ _ _ _ _ p1 z
      ·exact i _ _ _ _ p1 z
    · refine xX (O _ (λ L P y C b p1 z=>?_) H);cases b;·exact i _ _ _ _ p1 z
      ·exact t _ _ _ _ _ p1 z
theorem jw{a:jO}{V:List ME}{n:List aR}{K:fX}(g:SB c w R f G d N l F a V n):SE c w R f G d N l F (.bool a V) (.BoolOp a n K):=by
 intro A s M B Y k x Q E b S m e h;replace m:=TF.mp m;exact g.1 A s M B Y k x Q E K b S m e h
theorem rf{a:jO}{V:List ME}{n:List aR}{K:fX}(g:SB c w R f G d N l F a V n):ST c w R f G d N l F (.bool a V) (.BoolOp a n K):=by
 intro A s M B Y k x Q E b S m e h;replace m:=TF.mp m;exact wpAny_isTrue_BoolOp (g.2 A s M B Y k x Q E b S m e h)
theorem TP(rk:cR R){op:lS}{e1:ME}{p1:aR}{K H:fX}(a3:SE c w R f G d N l F e1 p1):SE c w R f G d N l F (.cmpNil op e1) (.Compare p1 [op] [.List [] H] K)/\ST c w R f G d N l F (.cmpNil op e1) (.Compare p1 [op] [.List [] H] K):=by
 have O:∀{A:Around}{s:Shared}{M:Nat->Nat}{B:Loc}{Y:MH}{k:KE}{x:KE}{E:Value->Shared->Prop}{T:Value->Shared->Prop},xN A l d->St R N l F M B Y s.heap->bX f G (.cmpNil op e1) B Y k x->XE R l .none M Y x E s->(∀i I P g b,cU R.N0 M Y s.heap i I P->k (.bool b) I->T (.bool b) {s with heap:=P,toks:=g})->aU (aY c w) A (eval p1 N) (λ a X=>aU (aY c w) A (eval (.List [] H) N) (λ b r=>aU (aY c w) A (EA op a b) T E r) E X) E s:=by
  intro A s M B Y k x E T ao S m hx hT;replace m:=WD.mp m;refine one rk a3 ao S m hx λ h V C D n u p1 S1 vu q1=>?_;obtain⟨L,e,q⟩:=fJ q1;refine wpAny_List (eW ⟨Nat.zero_le _,?_⟩);dsimp only;obtain⟨hl,o,Z,rfl,rfl,em,hL,hr⟩:=S1.real.list vu e;have J:=hL.push {cls:=.type "list",data:=.seq ([]:List Value).toArray};have hN:(C.push {cls:=.type "list",data:=.seq ([]:List Value).toArray}).IsList C.objs.size #[]:=⟨_,bQ C rfl,rfl,0,rfl⟩;have a1:=hr.size;have hu:A.units<CA:=by have :=ao.un;exact F1 this
  have PP:=p1.trans (cU.push S1.real {cls:=.type "list",data:=.seq ([]:List Value).toArray});have a2:∀v:Around,v.units<CA->RcAt v {s with heap:=C.push {cls:=.type "list",data:=.seq ([]:List Value).toArray},toks:=D} (.ref o) (.ref C.objs.size) L.isEmpty/\RcNeAt v {s with heap:=C.push {cls:=.type "list",data:=.seq ([]:List Value).toArray},toks:=D} (.ref o) (.ref C.objs.size) (!L.isEmpty):=by
   intro v hu;cases L with
 |nil=>
 have :Z.size=(#[]:Array Value).size:=a1;have z:=HR (A:=v) (s:={s with heap:=C.push {cls:=.type "list",data:=.seq ([]:List Value).toArray},toks:=D}) (e:=λ U=>aC) J hN this hu (λ j C W=>absurd W (Nat.not_lt_zero _));have z':=RcNeAt.lists (A:=v) (s:={s with heap:=C.push {cls:=.type "list",data:=.seq ([]:List Value).toArray},toks:=D}) (e:=λ U=>aC) J hN this hu (λ j C W=>absurd W (Nat.not_lt_zero _));haveI e0:Z.size=0:=a1;rw[e0]at z z';exact⟨z,z'⟩|cons y t=>
   have :(Z.size !=(#[]:Array Value).size)=aC:=by rw[a1];simp
   exact⟨tE J hN this hu,yR J hN this hu⟩
  obtain⟨b,eb,q⟩:=fJ q;cases op<;>cases eb;·exact cmp_ofEq ((a2 A hu).1 _ _ _ _ (hT _ _ _ _ _ PP q))
  ·exact cmp_ofNotEq ((a2 A hu).2 _ _ _ _ (hT _ _ _ _ _ PP q))
 constructor
 ·intro A s M B Y k x Q E ao S m hq hx;exact wpAny_Compare1 (O ao S m hx λ i I P g b p q=>hq _ _ _ _ _ _ p VR.bool q) rfl
 ·intro A s M B Y k x Q E ao S m hq hx;exact yC (O ao S m hx λ i I P g b p q=>jL (hq _ _ _ _ _ p q)) rfl
theorem vg(b:gC<R.N0.n){K:fX}:SE c w R f G d N l F .emp (.Dict [] [] K):=by
 intro A s M B Y k x Q E h S m g i;refine wpAny_Dict_empty ?_;haveI p:=cU.new1 S.real S.sz {cls:=.type "dict",data:=.dict #[]} (.sdict []) rfl λ C=>⟨[],⟨_,#[],0,bQ _ rfl,⟨rfl,rfl,rfl⟩,rfl,λ e a=>by simp at a,.nil,List.nodup_nil⟩,rfl⟩;exact g _ _ _ _ _ _ p (by simp only[VR]) (m _ (Nat.ne_of_gt (Nat.lt_of_lt_of_le b S.sz)) S.real.free)
end
noncomputable def bV:Nat->aH
 |0=>.builtin "len"|1=>.builtin "ord"|2=>.builtin "chr"|3=>.builtin "abs"|4=>.builtin "sum"|5=>.type "str"|6=>.type "list"|7=>.builtin "all"|8=>.builtin "divmod"|_=>.none
structure ES(R:iK):Prop where
 at_:∀b,b<9->R.mG (Ft b)=aB/\R.mB (Ft b)=aA (bV b)isi:R.mG "isinstance"=aB/\R.mB "isinstance"=aA (.builtin "isinstance")range:R.mG "range"=aB/\R.mB "range"=aA (.type "range")enum:R.mG "enumerate"=aB/\R.mB "enumerate"=aA (.type "enumerate")zip:R.mG "zip"=aB/\R.mB "zip"=aA (.type "zip")rev:R.mG "reversed"=aB/\R.mB "reversed"=aA (.type "reversed")lst:R.mG "list"=aB/\R.mB "list"=aA (.type "list")
section
variable{f:Program}{w:World}{R:iK}{p:kP}{G:Gl}{gn:Nat->Str}{d:Nat}{N:Env}{l:List Env}{j:List Str}
variable{A:Around}{E:Value->Shared->Prop}{s:Shared}{g:Nat->Nat}{Y:MH}{B:Loc}{k:KE}{Q:Value->Shared->Prop}
theorem ew{h:bG}:∀(l:List MV)(Z:List Value)(t:Int),dK h l Z->NU l=aA t->∃j,IntsAre Z j/\j.sum=t:=by
 intro l;induction l with
 |nil=>intro Z t r e;rw[r.inv0,<-bH e];exact⟨[],.nil,rfl⟩|cons m l q=>
 intro Z t r e;obtain⟨v,Z,rfl,a,b⟩:=r.inv;obtain⟨i,c,e⟩:=cA e;obtain⟨y,o,e⟩:=fR e;rw[jR c]at a;obtain⟨x,rfl⟩:=a.int_inv;obtain⟨j,n,u⟩:=q Z y b o;exact⟨i::j,.cons _ _ n,by rw[List.sum_cons,u];exact e⟩
theorem VM{h:bG}:∀(l:List MV)(Z:List Value)(t:Bool),dK h l Z->allB l=aA t->∃n:Nat->Bool,(∀(i:Nat)(v:Value),Z[i]?=aA v->v=Value.bool (n i))/\(List.range Z.length).all n=t:=by
 intro l;induction l with
 |nil=>intro Z t r e;rw[r.inv0,<-bH e];exact⟨λ U=>aC,(λ i v q=>by rw[List.getElem?_nil]at q;cases q),rfl⟩|cons m l o=>
 intro Z t r e;obtain⟨v,Z,rfl,a,b⟩:=r.inv;obtain⟨x,c,e⟩:=cA e;obtain⟨y,u,e⟩:=fR e;rw[GV c]at a;obtain⟨n,z,C⟩:=o Z y b u;refine⟨λ i=>match i with|0=>x|i+1=>n i,λ i v q=>?_,?_⟩;·cases i with
 |zero=>rw[List.getElem?_cons_zero]at q;rw[<-bH q];exact a.bool_inv|succ i=>exact z i v q
 ·rw[List.length_cons,List.range_succ_eq_map,List.all_cons,List.all_map,<-e,<-C];rfl
theorem St.mono{R:iK}(a:cR R){u:bG}(S:St R N l j g B Y s.heap)(hk:∀b o,s.heap.get? b=aA o->u.get? b=aA o):St R N l j g B Y u:=S.post a (.grown S.real hk)
theorem z7(ao:xN A l d)(I:eB R.N0 g Y s.heap){b:Nat}{mvs:List MV}{vs:List Value}{r:MV}(vr:dK s.heap mvs vs)(e:Gv Y b mvs=aA r)(h:∀K V v,(∀b o,s.heap.get? b=aA o->K.get? b=aA o)->VR K r v->Q v {s with heap:=K,toks:=V}):aU (aY f w) A (pN (bV b) vs []) Q E s:=by
  have D:∀b o,s.heap.get? b=aA o->s.heap.get? b=aA o:=λ U U e=>e;rcases gU e with⟨q,e⟩|e
  ·obtain⟨⟨a,b⟩,J,e⟩:=cA e;obtain⟨x,y,ex,ey,e⟩:=VK e;obtain⟨S,e⟩:=gZ e;dsimp only at ex ey;rw[rO J,ex,ey]at vr;rw[<-e]at h;rw[q];obtain⟨v,_,rfl,a,b⟩:=vr.inv;obtain⟨W,_,rfl,a2,b⟩:=b.inv;obtain rfl:=b.inv0;obtain⟨t,rfl⟩:=a.int_inv;obtain⟨n,rfl⟩:=a2.int_inv;refine divmod_int (mR S.1) ?_ (.inl (uV (Nat.lt_trans (CV S.1 S.2) (by decide))));have q:=VR.newTup (h:=s.heap) (mvs:=[.int (x/y),.int (x%y)]) (vs:=[.int (x/y) s.toks,.int (x%y) (s.toks+1)]) (show 2<=aX by decide) (dK.cons VR.int (dK.cons VR.int dK.nil));rw[tL _ (mT S.1),sY _ (mT S.1)];exact h _ _ _ (λ b o e=>aK _ e) q
  obtain⟨m,J,e⟩:=cA e;rw[gG J]at vr;obtain⟨v,_,rfl,a,b0⟩:=vr.inv;obtain rfl:=b0.inv0;refine cr (mh:=Y) (M:=λ b m r=>∀v,VR s.heap m v->(∀K V v,(∀b o,s.heap.get? b=aA o->K.get? b=aA o)->VR K r v->Q v {s with heap:=K,toks:=V})->aU (aY f w) A (pN (bV b) [v] []) Q E s) ?_ ?_ ?_ ?_ ?_ ?_ ?_ ?_ ?_ e v a h
  ·intro x v a h;obtain⟨hl,t,rfl⟩:=a.str_inv;have O:(⟨x.toArray⟩:Str).length=x.length:=List.size_toArray;unfold aX at hl;refine P.len_str (by rw[O];lia) ?_;rw[O];exact h s.heap _ _ D VR.int
  ·intro Z L J v a h;obtain⟨hl,_,F,q,rfl,em,hL,hr⟩:=I.list a J;cases q;haveI a4:=hr.size;unfold jG at hl;refine Calls.call_len_list hL (by lia) ?_;rw[a4];exact h s.heap _ _ D VR.int
  ·intro c v a h;obtain⟨hl,t,rfl⟩:=a.str_inv;exact P.ord_of_char (h s.heap _ _ D VR.int)
  ·intro i hi v a h;obtain⟨t,rfl⟩:=a.int_inv;exact P.chr_of_int (by rw[jJ,decide_eq_false_iff_not,decide_eq_false_iff_not];lia) (h s.heap _ _ D (VR.str (show 1<=aX by decide)))
  ·intro i v a h;obtain⟨t,rfl⟩:=a.int_inv;refine call_abs_int λ u V=>?_;rw[show(if i<0 then-i else i)=(i.natAbs:Int)by split<;>lia];exact h s.heap _ _ D VR.int
  ·intro Z L t J e2 v a h;obtain⟨hl,_,F,q,rfl,em,hL,hr⟩:=I.list a J;cases q;obtain⟨a1,hi,rfl⟩:=ew _ _ _ hr e2;obtain⟨C,hx⟩:=hi.allInts.items;haveI a3:F=intItems C:=hx;have hn:numsOf F.toList=a1:=hi.numsOf;rw[a3]at hL hn;rw[nums_intItems]at hn;refine sum_intListG ao.hand hL λ K V n hk=>h K V _ hk ?_;rw[preSum_eq,List.take_of_length_le (by simp),hn];exact VR.int
  · intro i hi v a h;obtain⟨t,rfl⟩:=a.int_inv;refine P.str_of_int ?_ (h s.heap _ _ D (VR.str' hi.2));by_cases z:i.natAbs=0;·rw[z];decide
    ·have :=(Nat.log2_lt (k:=70) z).mpr (Nat.lt_trans hi.1 (by decide));exact lm this
  ·intro x v a h;obtain⟨hl,t,rfl⟩:=a.str_inv;exact P.str_of_str (h s.heap s.toks _ D a)
  · intro Z L t J e2 v a h;obtain⟨hl,_,F,q,rfl,em,hL,hr⟩:=I.list a J;cases q;obtain⟨H,q1,rfl⟩:=VM _ _ _ hr e2;refine call_all_walk (wpAny_pyIter_list hL ?_);haveI a5:Z<s.heap.objs.size:=by obtain⟨_,e,_⟩:=hL;exact cN e
    refine⟨_,_,_,_,_,_,H,rfl,Walks.list (A:=A.in1) ao.hand _ Z (Nat.ne_of_lt a5) F,⟨⟨_,bQ _ rfl,rfl,rfl⟩,hL.push _⟩,?_,?_⟩
    ·intro i v X Q' E' hv hq;obtain rfl:=q1 i v (by rw[lH];exact hv);exact jL hq
    ·intro K V hk;refine h K V _ (λ b o e=>hk b o (λ z=>?_) (aK _ e)) VR.bool;have :=cN e;rw[List.mem_singleton.mp z]at this;exact absurd this (Nat.lt_irrefl _)
theorem wd(C:eB R.N0 g Y s.heap){b:Nat}{D:List MV}{Z:List Value}{r:List MV}(i:dK s.heap D Z)(e:Cz Y b D=aA r)(h:∀P t,(∀b o,s.heap.get? b=aA o->P.get? b=aA o)->r.length<=jG->P.PlainList s.heap.objs.size t->dK P r t.toList->Q (.ref s.heap.objs.size) {s with heap:=P}):aU (aY f w) A (pN (bV b) Z []) Q E s:=by
 rcases gU e with⟨q,e⟩|e
 ·obtain⟨m,y,e⟩:=cA e;rw[gG y]at i;rw[q];obtain⟨v,_,rfl,a,b⟩:=i.inv;obtain rfl:=b.inv0;obtain⟨V,z⟩:=wA e;rw[z]at a e;obtain⟨c,_,t,q,rfl,L,K,u⟩:=C.list a e;have hsz:=u.size;obtain⟨o,F,J,n,H⟩:=K;exact call_list_seq (hsz:=by rw[eH];unfold jG at c;exact(F2 c (Nat.le_of_eq hsz))) _ (.inl rfl) F J H λ P I hk x=>h P t hk c ⟨I,x⟩ (dK.mono (λ b o e U=>hk b o e) _ _ u)
 ·cases e
end
noncomputable def iD(N:dL):List aR->Prop
 |[]=>True|e::X=>(∀i,dJ (e::i) N=(aG,eval e N)::dJ i N)/\iD N X
theorem Er{gn:Nat->bP}{pn:Nat->Nat->bP}{j:List bP}{Z:List (bP×dA)}{N:dL}:∀{V:List ME}{n:List aR},mV gn pn j Z V n=aC->iD N n:=by
 intro V;induction V with
 |nil=>intro n h;cases n with|nil=>trivial|cons _ _=>exact bft h
 |cons C V a=>
 intro n h;cases n with
 |nil=>exact bft h|cons r n=>exact⟨λ i=>nJ (dC.mp (dC.mp h).1).1 i N,a (dC.mp h).2⟩
theorem fU{N:dL}{pos:fX}:∀{n:List aR},iD N n->(mW pos (dJ n N)).any (·.1)=aG:=by
 intro b;induction b with
 |nil=>
 intro U;exact rfl|cons e X a=>
 intro h;rw[h.1 X];show((aG:Bool)||(mW pos (dJ X N)).any (·.1))=aG;rw[a h.2];rfl
section
variable{M:Model}{A:Around}{E:Value->Shared->Prop}{s:Shared}{N:Env}
theorem gK{f:Value}{F:fX}{n:List aR}(a:iD N n){Q:Args->Shared->Prop}(h:aU M A (spliced (mW F (dJ n N))) (λ Z i=>Q ⟨Z,[]⟩ i) E s):aU M A (evalArgs f aC (mW F (dJ n N)) []) Q E s:=by cases n with
 |nil=>
 unfold evalArgs;show aU M A (spliced []>>=_) Q E s;refine aE (dY h (λ Z u P=>?_) λ U U x=>x);refine aE (aM ?_);refine dM ?_;exact aE (aM (aM P))|cons e X=>
 rw[a.1 X]at h⊢;exact Calls.evalArgs_plain h
theorem kV(id:String)(h:bG):∃k,(k=CH\/k=yS\/k=uO)/\lQ M h (keeperOf (.builtin id)) k:=⟨.machine,.inr (.inl rfl),lQ.now⟩
theorem kC(id:String)(h:bG):∃k,(k=CH\/k=yS\/k=uO)/\lQ M h (keeperOf (.type id)) k:=⟨.machine,.inr (.inl rfl),lQ.now⟩
end
section
variable{a:Program}{w:World}{R:iK}{c:kP}{G:Gl}{gn:Nat->Str}{d:Nat}{N:Env}{l:List Env}{j:List Str}
variable{A:Around}{E:Value->Shared->Prop}{s:Shared}{M:Nat->Nat}{Y:MH}{B:Loc}{k:KE}{Q:Value->Shared->Prop}
theorem wO(t:cR R)(n:dZ R N j){x:Str}{f:Value}{p F:fX}{o:List ME}{W:List aR}(u:glb N.scope.names x=aC)(hf:R.mG x=aB/\R.mB x=aA f)(hk:∀h:bG,∃k,(k=CH\/k=yS\/k=uO)/\lQ (aY a w) h (keeperOf f) k)(r:iD N W)(z:GS a w R c G d N l j o W)(y:xN A l d)(S:St R N l j M B Y s.heap){e:KE}{KK:List MV->MH->Prop}(m:dP c G o B Y KK e)(H:XE R l .none M Y e E s)(b:∀C I g V D Z,cU R.N0 M Y s.heap C I g->St R N l j C B I g->dK g D Z->KK D I->aU (aY a w) A (pN f Z []) Q E {s with heap:=g,toks:=V}):aU (aY a w) A (eval (.Call (.Name x p) W [] F) N) Q E s:=by
 refine hJ (pT t n S.X u hf.1 hf.2 ?_);refine iC (P:=λ U=>True) (by rw[fU r];rfl) (λ h U=>hk h) (gK r ?_);refine z A s M B Y KK e _ E F y S m (λ C I g V D Z i v q=>⟨trivial,?_⟩) H;exact b C I g V D Z i (S.post t i) v q
set_option tactic.hygienic true in theorem Ce(rk:cR R)(bk:ES R)(ok:dZ R N j){b:Nat}{x:Str}{p pos:fX}{mes:List ME}{pes:List aR}(h9:b<9)(hb:Ft b=x)(hg:glb N.scope.names x=aC)(hp:iD N pes)(ih:GS a w R c G d N l j mes pes):SE a w R c G d N l j (.bi b mes) (.Call (.Name x p) pes [] pos):=by
  intro A s M B Y k x' Q E ao S m hq hx;replace m:=Ez.mp m;subst hb;refine wO (hf:=bk.at_ b h9) rk ok hg (λ h=>?_) hp ih ao S m hx ?_;·rcases b with _|_|_|_|_|_|_|_|_|b<;>first|exact kV _ h|exact kC _ h|lia
  · intro δ' mh' h' tk mvs vs p' S' vr q;split at q
    ·rename_i L eL;refine wd (s:={s with heap:=h',toks:=tk}) p'.real vr eL λ h'' ws hk hl hL hr=>?_;haveI pn:=cU.newAt p'.real S'.sz (iZ h') hk (.list L) rfl λ δ''=>⟨hl,ws,hL,hr⟩;exact hq _ _ _ _ _ _ (p'.trans pn) (by simp only[VR]) (q _ (p'.real.freeAt (iZ h')))
    ·obtain⟨r,e,q⟩:=fJ q;refine z7 (s:={s with heap:=h',toks:=tk}) ao p'.real vr e λ h'' tk' v hk vr'=>?_;exact hq _ _ _ _ _ _ (p'.trans (.grown p'.real hk)) vr' q
end
section
variable{M:Model}{A:Around}{E:Value->Shared->Prop}{s:Shared}{N:Env}
theorem mN{o:aR}{u:bP}{b pos:fX}{a:List aR}{Q:Value->Shared->Prop}(G:rX o=aC)(m:iD N a)(l:a.length<30)(c:(b.endLine==pos.line)=aC)(h:aU M A (eval o N) (λ k i=>∀pl:GH Bool,aU M A (rW k u pl) (λ P r=>aU M A (qN pos P.1 P.2 (mW pos (dJ a N)) []) Q E r) E i) E s):aU M A (eval (.Call (.Attribute o u b) a [] pos) N) Q E s:=by
 rw[arm_eval_Call,PU G];refine aE (dY h (λ k i g=>?_) λ U U e=>e);refine aE (fO ?_);haveI d:methodCallForm (a.length+([]:List nF).length) (mW pos (dJ a N)) (yX pos (qF [] N))=aC:=by
  unfold methodCallForm;haveI y:(mW pos (dJ a N)).all (λ x=>!x.1)=aC:=by
   have :=fU (pos:=pos) m;rw[BX]at this;rw[bE];intro x n;have :=this x n;simpa using this
  rw[y];show(aC&&aC&&cH (a.length+0+0<30))=aC;simpa using l
 haveI j:methodCallPos aC o N b pos=iB pos:=by unfold methodCallPos;simp[c]
 unfold methodCall;rw[d];refine aE (dM (dY (g _) (λ P r f=>?_) λ U U e=>e));exact aE (wpAny_of_eq j f)
end
section
variable{f:Program}{w:World}{R:iK}{g:kP}{G:Gl}{gn:Nat->Str}{d:Nat}{N:Env}{l:List Env}{j:List Str}
variable{A:Around}{E:Value->Shared->Prop}{s:Shared}{M:Nat->Nat}{Y:MH}{B:Loc}{k:KE}{Q:Value->Shared->Prop}
theorem wM(u:cR R){id:String}{b:Value}{F:fX}{o:List ME}{n:List aR}(p:iD N n)(r:GS f w R g G d N l j o n)(x:xN A l d)(S:St R N l j M B Y s.heap){e:KE}{KK:List MV->MH->Prop}(m:dP g G o B Y KK e)(v:XE R l .none M Y e E s)(a:∀c I K V D Z,cU R.N0 M Y s.heap c I K->St R N l j c B I K->dK K D Z->KK D I->aU (aY f w) A (pN (.builtin id) ([b]++Z) []) Q E {s with heap:=K,toks:=V}):aU (aY f w) A (qN F (.builtin id) [b] (mW F (dJ n N)) []) Q E s:=by
 refine iC (P:=λ U=>True) (by rw[fU p];rfl) (λ h U=>kV _ h) (gK p ?_);refine r A s M B Y KK e _ E F x S m (λ c I K V D Z i t q=>⟨trivial,?_⟩) v;exact a c I K V D Z i (S.post u i) t q
theorem EP{u:Str}{id:String}{pl:GH Bool}{a:Nat}{Z:Array Value}{Q:Value×List Value->Shared->Prop}(m:s.heap.PlainList a Z)(o:Slot "list" u id)(i:zA (.builtin id)=iB (.type "method_descriptor"))(h:Q (.builtin id,[.ref a]) s):aU (aY f w) A (rW (.ref a) u pl) Q E s:=by
 obtain⟨n,c⟩:=m;exact lP ⟨_,c,rfl⟩ PySem.F.plainAttrs_list o i (λ b e=>by cases e;exact⟨_,c,rfl⟩) h
theorem wI(C:eB R.N0 M Y s.heap){a:Nat}{l i:List MV}{P:bG}{I:Array Value}(e:Y a=aA (.list l))(h:fQ a s.heap P)(m:i.length<=jG)(b:P.PlainList a I)(c:dK P i I.toList):cU R.N0 M Y s.heap M (upd Y a (.list i)) P:=cU.set1 C e rfl rfl rfl rfl h ⟨m,I,b,c⟩
theorem oR.vrs{h P:bG}{a n:Nat}{Z:Array Value}(i:fQ a h P)(m:h.get? a=aA {cls:=.type "list",data:=.seq Z n}){F:List MV}{C:List Value}(r:dK h F C):dK P F C:=by
 refine dK.mono (λ b o e c=>?_) _ _ r;have :b≠a:=by rintro rfl;rw[m]at e;cases e;have :=c.1;simp at this
 exact(i.2 b this).trans e
theorem append_at(C:eB R.N0 M Y s.heap){a:Nat}{l:List MV}{L:MV}{v:Value}(i:Y a=aA (.list l))(b:l.length<=aX)(q:VR s.heap L v)(h:∀P,cU R.N0 M Y s.heap M (upd Y a (.list (l++[L]))) P->Q .none {s with heap:=P}):aU (aY f w) A (pN (.builtin "list.append") [.ref a,v] []) Q E s:=by
 obtain⟨_,Z,o,m⟩:=C.plist i;haveI e:=m.size;refine vT o (λ P r c=>h P (wI C i c (by simp[jG];unfold aX at b;exact b) r ?_)) (by rw[eH];unfold aX at b;exact(F2 b (Nat.le_of_eq e)));obtain⟨n,p⟩:=o;rw[uN];exact dK.append (oR.vrs c p m) (oR.vrs c p (dK.cons q dK.nil))
end
theorem dK.split{h:bG}:∀(g L:List MV)(Z:List aH),dK h (g++L) Z->∃F z,Z=F++z/\dK h g F/\dK h L z:=by
 intro f;induction f with
 |nil=>
 intro L Z r;exact⟨[],Z,rfl,dK.nil,r⟩|cons m g e=>
 intro L Z r;obtain⟨v,Z,rfl,a,b⟩:=dK.inv r;obtain⟨F,z,rfl,c,d⟩:=e L Z b;exact⟨v::F,z,rfl,dK.cons a c,d⟩
theorem HE{Y:MH}{b:Nat}{r:List MV}(e:listOf Y (.ref b)=aA r):Y b=aA (.list r):=by
 unfold listOf at e;dsimp only at e;cases q:Y b with
 |none=>rw[q]at e;cases e|some o=>rw[q]at e;cases o<;>cases e;rfl
section
variable{c:Program}{w:World}{R:iK}{g:kP}{G:Gl}{gn:Nat->Str}{d:Nat}{N:Env}{l:List Env}{j:List Str}
variable{A:Around}{E:Value->Shared->Prop}{s:Shared}{M:Nat->Nat}{Y:MH}{B:Loc}{k:KE}{Q:Value->Shared->Prop}
theorem pD{h:bG}{a n:Nat}{Z I:Array Value}(b:h.get? a=aA {cls:=.type "list",data:=.seq Z n})(f:Array Value->Array Value)(e:f Z=I):(h.update a (iW f)).PlainList a I:=by
 have q:=IsL.update (h:=h) b f;rw[e]at q;exact⟨_,q⟩
theorem LM(C:eB R.N0 M Y s.heap){a:Nat}{l:List MV}{L:MV}(o:Y a=aA (.list l))(e:l.getLast?=aA L)(h:∀P v,cU R.N0 M Y s.heap M (upd Y a (.list l.dropLast)) P->VR P L v->Q v {s with heap:=P}):aU (aY c w) A (pN (.builtin "list.pop") [.ref a] []) Q E s:=by
 obtain⟨i,Z,⟨n,b⟩,m⟩:=C.plist o;have f:=m.size;have D:l=l.dropLast++[L]:=by
  obtain⟨X,rfl⟩:=List.getLast?_eq_some_iff.mp e;simp
 rw[D]at m;obtain⟨p,q,I,z,r⟩:=dK.split _ _ _ m;obtain⟨y,_,rfl,S,K⟩:=dK.inv r;obtain rfl:=dK.inv0 K;have u:Z=(p++[y]).toArray:=by rw[<-I]
 subst u;have hk:(p++[y]).toArray.size-1=p.length:=by rw[List.size_toArray,List.length_append];rfl
 have H:(p++[y]).toArray[(p++[y]).toArray.size-1]?=aA y:=by rw[hk];simp
 have O:(λ t:Array Value=>t.eraseIdxIfInBounds ((p++[y]).toArray.size-1)) (p++[y]).toArray=p.toArray:=by
  show(p++[y]).toArray.eraseIdxIfInBounds ((p++[y]).toArray.size-1)=p.toArray;rw[hk,W.kl_erase,List.append_nil]
 refine pY xK ⟨_,b,rfl⟩ F.entry_list_pop (F.args_list_pop_1 _) (MeetsSeq.list_pop_last a _ n y H (by rw[eH];unfold jG at i;exact(F2 i (Nat.le_of_eq f)))) ⟨b,h _ _ ?_ ?_⟩
 ·refine wI C o (dQ ..) (by simp[List.length_dropLast];exact F1 i) (pD b _ O) ?_;exact oR.vrs (dQ ..) b z
 ·have :=oR.vrs (dQ s.heap a (iW λ t=>t.eraseIdxIfInBounds ((p++[y]).toArray.size-1))) b r;obtain⟨_,_,J,x,_⟩:=dK.inv this;cases J;exact x
theorem KG(z:eB R.N0 M Y s.heap){a t:Nat}{l:List MV}{L:MV}(i:Y a=aA (.list (L::l)))(h:∀P v,cU R.N0 M Y s.heap M (upd Y a (.list l)) P->VR P L v->Q v {s with heap:=P}):aU (aY c w) A (pN (.builtin "list.pop") [.ref a,.int 0 t] []) Q E s:=by
 obtain⟨e,Z,⟨n,b⟩,m⟩:=z.plist i;have f:=m.size;obtain⟨y,q,r,H,o⟩:=dK.inv m;have p:Z=([]++y::q).toArray:=by rw[List.nil_append,<-r]
 subst p;have I:(λ C:Array Value=>C.eraseIdxIfInBounds 0) ([]++y::q).toArray=q.toArray:=W.kl_erase [] q y;have x:EN 0 ([]++y::q).toArray.size=aA 0:=by
  unfold EN;simp
 refine pY xK ⟨_,b,rfl⟩ F.entry_list_pop (F.args_list_pop_2 _ _) (MeetsSeq.list_pop_at a _ n 0 t 0 y (by decide) x (by simp) (by rw[eH];unfold jG at e;exact(F2 e (Nat.le_of_eq f)))) ⟨b,h _ _ ?_ ?_⟩
 ·refine wI z i (dQ ..) (by simp at e;exact F1 e) (pD b _ I) ?_;exact oR.vrs (dQ ..) b o
 ·have :=oR.vrs (dQ s.heap a (iW λ C=>C.eraseIdxIfInBounds 0)) b (dK.cons H o);obtain⟨_,_,D,u,_⟩:=dK.inv this;cases D;exact u
theorem VD(C:eB R.N0 M Y s.heap){a b:Nat}{l r:List MV}(p:Y a=aA (.list l))(v:Y b=aA (.list r))(o:l.length+r.length<=aX)(h:∀P,cU R.N0 M Y s.heap M (upd Y a (.list (l++r))) P->Q .none {s with heap:=P}):aU (aY c w) A (pN (.builtin "list.extend") [.ref a,.ref b] []) Q E s:=by
 obtain⟨x,Z,⟨n,i⟩,q⟩:=C.plist p;obtain⟨u,t,⟨S,m⟩,f⟩:=C.plist v;have y:=q.size;have K:=f.size;unfold aX at o;have e:Z.size+t.size<=nE:=by rw[eH];exact(F3 o (Nat.le_of_eq y) (Nat.le_of_eq K))
 refine pY F.slot_list_extend ⟨_,i,rfl⟩ F.entry_list_extend (F.args_list_extend_2 _ _) (AutoSeq1.list_extend_list_list_0 a Z n b t S (extend_door e) (Nat.le_trans (Nat.le_add_right _ _) e) (F1 e)) ⟨i,m,h _ ?_⟩;refine wI C p (dQ ..) (by simp[jG];exact lm o) (pD i _ rfl) ?_;rw[Array.toList_append];exact dK.append (oR.vrs (dQ ..) i q) (oR.vrs (dQ ..) i f)
theorem A4(C:eB R.N0 M Y s.heap){m a:Nat}{D:List MV}{Z:List Value}{r:MV×List MV}(o:dK s.heap D Z)(e:g9 Y m a D=aA r){id:String}(z:m=29/\id="list.append"\/m=30/\id="list.pop"\/m=31/\id="list.extend")(h:∀P v,cU R.N0 M Y s.heap M (upd Y a (.list r.2)) P->VR P r.1 v->Q v {s with heap:=P}):aU (aY c w) A (pN (.builtin id) ([.ref a]++Z) []) Q E s:=by
 obtain⟨l,I,e⟩:=cA e;have u:=HE I;rcases z with⟨rfl,rfl⟩|⟨rfl,rfl⟩|⟨rfl,rfl⟩
 ·obtain⟨v,f,e⟩:=cA e;obtain⟨J,e⟩:=gZ e;rw[gG f]at o;rw[<-e]at h;obtain⟨v,_,rfl,x,y⟩:=o.inv;obtain rfl:=y.inv0;exact append_at C u J x λ P p=>h P _ p (by simp only[VR])
 ·cases D with
 |nil=>
 obtain⟨L,f,e⟩:=fR e;rw[<-e]at h;obtain rfl:=o.inv0;exact LM C u f h|cons m n=>
  obtain⟨v,f,e⟩:=cA e;obtain⟨i,F,e⟩:=cA e;rw[gG f,jR F]at o;obtain⟨v,_,rfl,x,y⟩:=o.inv;obtain rfl:=y.inv0;obtain⟨t,rfl⟩:=x.int_inv;by_cases q:i=0
  ·rw[if_pos q]at e;rw[q];cases l with
 |nil=>cases e|cons L l=>
   rw[<-bH e]at h;exact KG C u h
  ·rw[if_neg q]at e;cases e
 ·obtain⟨v,f,e⟩:=cA e;obtain⟨b,F,e⟩:=cA e;obtain⟨S,K,e⟩:=cA e;obtain⟨H,e⟩:=gZ e;rw[gG f,KX F]at o;rw[<-e]at h;obtain⟨v,_,rfl,x,y⟩:=o.inv;obtain rfl:=y.inv0;simp only[VR]at x;subst x;exact VD C u (HE K) H.2 λ P p=>h P _ p (by simp only[VR])
end
theorem HQ{h:bG}(c:List Nat):∀(l:List MV)(Z:List aH)(r:List Nat),dK h l Z->qE c l=aA r->∃X:List bP,StrsAre Z X/\bP.join ⟨c.toArray⟩ X=⟨r.toArray⟩/\(X.map (·.length)).sum+X.length*c.length<=r.length+c.length/\(l≠[]->X≠[]):=by
 intro l;induction l with
 |nil=>intro Z r d e;rw[d.inv0,<-bH e];exact⟨[],.nil,rfl,by simp,λ h=>absurd rfl h⟩|cons m l j=>
 intro Z r d e;obtain⟨v,I,rfl,a,b⟩:=d.inv;obtain⟨x,g,e⟩:=cA e;rw[tZ g]at a;obtain⟨_,t,rfl⟩:=a.str_inv;cases l with
 |nil=>
 rw[b.inv0,<-bH e];refine⟨[⟨x.toArray⟩],.cons _ _ .nil,rfl,?_,λ U h=>by cases h⟩;show x.toArray.size+0+1*c.length<=_;rw[eE,Nat.one_mul];exact aZ _|cons J l=>
 obtain⟨q,f,e⟩:=fR e;obtain⟨X,K,C,i,k⟩:=j I q b f;refine⟨⟨x.toArray⟩::X,.cons _ _ K,?_,?_,λ U h=>by cases h⟩;·cases X with
 |nil=>exact absurd rfl (k (λ h=>by cases h))|cons y X=>
  show(⟨x.toArray⟩:bP)++(⟨c.toArray⟩:bP)++bP.join ⟨c.toArray⟩ (y::X)=_;rw[C,<-e];exact bP.ext' (by simp only[bP.cps_append];simp)
 ·rw[<-e,aF,aF,nB,AQ,aN,Nat.succ_mul];show x.toArray.size+_+_<=_;rw[eE];exact F1 i
section
variable{b:Program}{w:World}{R:iK}{f:kP}{G:Gl}{gn:Nat->Str}{d:Nat}{N:Env}{l:List Env}{K:List Str}
variable{A:Around}{E:Value->Shared->Prop}{s:Shared}{g:Nat->Nat}{Y:MH}{B:Loc}{k:KE}{Q:Value->Shared->Prop}
theorem qa(z:eB R.N0 g Y s.heap){c r:List Nat}{a:Nat}{t:Nat}{L:List MV}(j:c.length<=aX)(p:listOf Y (.ref a)=aA L)(e:qE c L=aA r)(i:r.length<=aX)(h:∀V v,VR s.heap (.str r) v->Q v {s with toks:=V}):aU (aY b w) A (pN (.builtin "str.join") [.str ⟨c.toArray⟩ t,.ref a] []) Q E s:=by
  obtain⟨F,_,Z,q,_,D,m,x⟩:=z.list (v:=.ref a) (u:=.ref a) (by simp only[VR]) p;obtain⟨X,y,C,o,_⟩:=HQ c L _ r x e;delta aX at j i;cases q;refine join_list m y ?_ λ I k=>?_
  · have :(⟨c.toArray⟩:Str).length=c.length:=by simp[Str.length]
    rw[this];exact F3 j i o
  · have n:Txt.join ⟨c.toArray⟩ X=⟨r.toArray⟩:=by
     show DM _ _=_;rw[yF];exact C
    rw[n];exact h k _ (VR.str (by delta aX;exact i))
theorem NC(c:Nat)(h:(c==43||c==45||c==46||(48<=c&&c<=57))=aC):GD c=[c]/\(c==0x3A3)=aG:=by
 have a:∀c,c<58->(c==43||c==45||c==46||(48<=c&&c<=57))=aC->GD c=[c]/\(c==0x3A3)=aG:=by decide+kernel
 refine a c (Nat.lt_of_not_le λ q=>?_) h;have C:(c==43||c==45||c==46||(48<=c&&c<=57))=aG:=by
  rw[jJ,jJ,jJ,beq_eq_false_iff_ne,beq_eq_false_iff_ne,beq_eq_false_iff_ne,Bool.and_eq_false_iff,decide_eq_false_iff_not,decide_eq_false_iff_not];exact⟨⟨⟨Nat.ne_of_gt (Nat.lt_of_lt_of_le (by decide) q),Nat.ne_of_gt (Nat.lt_of_lt_of_le (by decide) q)⟩,Nat.ne_of_gt (Nat.lt_of_lt_of_le (by decide) q)⟩,.inr (Nat.not_le_of_lt q)⟩
 rw[C]at h;cases h
theorem VY(x:List Nat):((x.map λ c=>#[c]).toArray).flatten=x.toArray:=by
 apply Array.toList_inj.mp;induction x with
 |nil=>rfl|cons a x e=>simp at e⊢;exact e
theorem OH(x:List Nat)(h:x.all (λ c=>c==43||c==45||c==46||(48<=c&&c<=57))=aC):placed ⟨x.toArray⟩ (λ i U=>kQ x.toArray i)=x.toArray:=by
 delta placed;have e:(x.toArray.mapIdx λ i c=>(kQ x.toArray i).toArray)=(x.map λ c=>#[c]).toArray:=by
    apply Array.ext;·rw[DP,List.size_toArray,List.size_toArray,List.length_map]
    · intro i y C;rw[DP,List.size_toArray]at y;have a:=NC _ (List.all_eq_true.mp h x[i] (List.getElem_mem y));have j:kQ x.toArray i=[x[i]]:=by
       delta kQ;rw[List.getElem?_toArray,List.getElem?_eq_getElem y];simp only[a.2,Bool.false_and,eV,if_false];exact a.1
      rw[Array.getElem_mapIdx,j,List.getElem_toArray,List.getElem_map]
 show Array.flatten _=_;rw[e];exact VY x
theorem UF:∀c∈List.range' 48 10,oA ⟨#[48,49,50,51,52,53,54,55,56,57,97,98,99,100,101,102]⟩ ⟨#[c]⟩ 0 16 1=[c-48]:=by decide+kernel
noncomputable def tc(m:Nat)(id:String):Prop:=m=25/\id="str.join"\/m=7/\id="str.find"\/m=26/\id="str.lower"\/m=27/\id="str.rstrip"\/m=33/\id="str.index"
theorem NR(x:List Nat)(c:Nat)(a:¬x.getLast?=aA c):stripSame (⟨#[c]⟩:Str).cps.contains aG aC ⟨x.toArray⟩=aC:=by
 delta stripSame stripLo stripHi;simp only[eV,if_false,if_true,beq_self_eq_true,Bool.true_and,List.drop_zero,beq_iff_eq];have :(x.reverse.takeWhile (⟨#[c]⟩:Str).cps.contains)=[]:=by cases e:x.reverse with
 |nil=>rfl|cons y X=>
  rw[<-List.head?_reverse,e]at a;rw[List.takeWhile_cons,show(⟨#[c]⟩:Str).cps.contains y=aG by simp;exact λ z=>a (congrArg aA z)];rfl
 rw[this];simp
theorem za(I:eB R.N0 g Y s.heap){m:Nat}{x:List Nat}{W:Value}{D:List MV}{Z:List Value}{r:MV}(vo:VR s.heap (.str x) W)(u:dK s.heap D Z)(e:WJ Y m x D=aA r){id:String}(n:tc m id)(h:∀V v,VR s.heap r v->Q v {s with toks:=V}):aU (aY b w) A (pN (.builtin id) ([W]++Z) []) Q E s:=by
  obtain⟨o,t,rfl⟩:=vo.str_inv;have a1:VR s.heap (.str x) (.str ⟨x.toArray⟩ t):=VR.str o;refine WL (mh:=Y) (M:=λ m x D r=>∀Z,x.length<=aX->tc m id->dK s.heap D Z->(∀V v,VR s.heap r v->Q v {s with toks:=V})->aU (aY b w) A (pN (.builtin id) ([.str ⟨x.toArray⟩ t]++Z) []) Q E s) ?_ ?_ ?_ ?_ ?_ e Z o n u h
  · intro x a l j X O P Z o n u h;have :id="str.join":=by simpa[tc]using n
    obtain⟨v,_,rfl,p,q⟩:=u.inv;obtain rfl:=q.inv0;simp only[VR]at p;rw[p,this];exact qa I o X O P h
  · intro x c J Z o n u h;have :id="str.find":=by simpa[tc]using n
    obtain⟨v,_,rfl,p,q⟩:=u.inv;obtain rfl:=q.inv0;obtain⟨_,S,rfl⟩:=p.str_inv;rw[this];have H:oA ⟨x.toArray⟩ ⟨#[c]⟩ 0 (⟨x.toArray⟩:Str).length 1=[]:=by
     have :=DL ⟨x.toArray⟩ c;rw[show cH (c∈(⟨x.toArray⟩:Str).cps.toList)=aG from decide_eq_false λ z=>J (List.contains_iff_mem.mpr z)]at this;simpa using this
    refine pY F.slot_str_find (mD _ _ _) F.entry_str_find (F.args_str_find_2 _ _) (gives_str_find ⟨x.toArray⟩ ⟨#[c]⟩ t S).meets ?_;rw[H];exact h _ _ VR.int
  · intro x J Z o n u h;have :id="str.lower":=by simpa[tc]using n
    obtain rfl:=u.inv0;rw[this];have O:=OH x J;have L:x.toArray.size<=nE:=by rw[List.size_toArray,eH];delta aX at o;exact lm o
    refine pY F.slot_str_lower (mD _ _ _) F.entry_str_lower (F.args_str_lower_1 _) (gives_str_lower ⟨x.toArray⟩ t ?_).meets ?_
    ·show AB (placed ⟨x.toArray⟩ (λ i U=>kQ x.toArray i)).size=aG;rw[O];delta AB;exact decide_eq_false (Nat.not_lt.mpr L)
    ·show Made.post (.str ⟨placed ⟨x.toArray⟩ (λ i U=>kQ x.toArray i)⟩) _ _;rw[O];exact⟨L,h _ _ (VR.str o)⟩
  · intro x c J Z o n u h;have :id="str.rstrip":=by simpa[tc]using n
    obtain⟨v,_,rfl,p,q⟩:=u.inv;obtain rfl:=q.inv0;obtain⟨_,S,rfl⟩:=p.str_inv;rw[this];refine pY F.slot_str_rstrip (mD _ _ _) F.entry_str_rstrip (F.args_str_rstrip_2 _ _) (gives_str_rstrip_chars ⟨x.toArray⟩ ⟨#[c]⟩ t S).meets ?_;rw[NR x c J];exact h s.toks _ (VR.str o)
  · intro x c J Z o n u h;have :id="str.index":=by simpa[tc]using n
    obtain⟨v,_,rfl,p,q⟩:=u.inv;obtain rfl:=q.inv0;obtain⟨_,S,rfl⟩:=p.str_inv;obtain⟨rfl,y,C⟩:=J;rw[this];have H:=UF c (by rw[List.mem_range'];exact⟨c-48,Nat.lt_succ_of_le (Nat.sub_le_sub_right C 48),by rw[Nat.one_mul,Nat.add_sub_cancel' y]⟩);refine pY F.slot_str_index (mD _ _ _) F.entry_str_index (F.args_str_index_2 _ _) (gives_str_index _ ⟨#[c]⟩ t S (c-48) [] H).meets ?_;show Q (.int ((c-48:Nat):Int) s.toks) _;rw[show((c-48:Nat):Int)=(c:Int)-48 from Int.ofNat_sub y];exact h _ _ VR.int
theorem BB.mapOf{h:bG}:∀{X:List (List Nat×MV)}{C:List (Str×Value)},BB h X C->∀k:List Nat,(match X.find? (·.1==k)with
 |aA e=>∃v,uG C ⟨k.toArray⟩=aA v/\VR h e.2 v|aB=>uG C ⟨k.toArray⟩=aB):=by
 intro o;induction o with
 |nil=>
 intro U r k;have :_=([]:List (Str×Value)):=r;subst this;rfl|cons e X c=>
    intro C r k;obtain⟨v,S,rfl,m,j⟩:=r;have n:=c j k;rw[List.find?_cons];by_cases q:e.1=k
    · have :(e.1==k)=aC:=by simp[q]
      rw[this];subst q;exact⟨v,by simp[uG],m⟩
    · have :(e.1==k)=aG:=by simp[q]
      rw[this];have a:¬((⟨e.1.toArray⟩:Str)=⟨k.toArray⟩):=λ z=>q (by
 have :=congrArg (λ x:Str=>x.cps.toList) z;simpa using this);have i:uG ((⟨e.1.toArray⟩,v)::S) (⟨k.toArray⟩:Str)=uG S ⟨k.toArray⟩:=by
       delta uG;rw[List.find?_cons];simp[a]
      rw[i];exact n
set_option tactic.hygienic true in theorem ku(hP:R.N0.prog=b)(hW:R.N0.w=w)(rl:eB R.N0 g Y s.heap){a:Nat}{kx:List Nat}{t:Nat}{es:List (List Nat×MV)}(em:Y a=aA (.sdict es))(ha:a≠gC)(h:∀tk v,VR s.heap (match es.find? (·.1==kx)with|aA e=>e.2|aB=>.none) v->Q v {s with toks:=tk}):aU (aY b w) A (pN (.builtin "dict.get") [.ref a,.str ⟨kx.toArray⟩ t,.none] []) Q E s:=by
 obtain⟨kvs,hd,hr⟩:=rl.obj a _ em;subst hP hW;have hm:=hd.mapOf;refine call_meetsIn rA hm.typeIs F.entry_dict_get (F.args_dict_get_3 _ _ _) (wP (strKind R.N0.prog R.N0.w) a (k:=⟨kx.toArray⟩) (strKind_is _ _ _ _) (by simpa using ha) .none) ⟨_,hm,?_⟩;have :=hr.mapOf kx;split at this
 ·rename_i e he;obtain⟨v,e1,e2⟩:=this;rw[e1];refine h _ _ ?_;rw[he];exact e2
 ·rename_i he;rw[this];refine h _ _ ?_;rw[he];simp only[VR];rfl
end
structure Sb(R:iK)(l:List dL)(δ:Nat->Nat)(mh:MH)(h:bG):Prop where
 X:R.K.In h
 last:(h.get? (R.N0.n-1)).isSome/\0<R.N0.n
 real:eB R.N0 δ mh h
 fr:jN R.N0.n h l
theorem St.sb{R:iK}{N:dL}{l:List dL}{j:List bP}{M:Nat->Nat}{B:Loc}{Y:MH}{h:bG}(S:St R N l j M B Y h):Sb R l M Y h:=⟨S.X,S.last,S.real,S.fr⟩
structure NI(R:iK)(C m fA:Nat):Prop where
 ga:fK R.K (.ref C) "__getattribute__"=aA (aA (.builtin "object.__getattribute__"))gt:fK R.K (.ref C) "__getattr__"=aA aB
 fd:fK R.K (.ref C) (mn m)=aA (aA (.ref fA))ty:EK R.K (.ref fA)=aA (.type "function")kp:qV R.K (.ref fA)=aC
section
variable(a:Program)(w:World)(R:iK)(b:kP)(G:Gl)(gn:Nat->Str)(pn:Nat->Nat->Str)(d:Nat)
structure qL:Prop where
 call:∀f,b.hc f=aC->∃fA,R.mG (gn f)=aA (.ref fA)/\qV R.K (.ref fA)=aC/\∀(A:cW)(l:List dL)(s:aI)(δ:Nat->Nat)(mh:MH)(mvs:List MV)(vs:List aH)(kn:List Nat)(k x:KE)(Q E:aH->aI->Prop),xN A l d->Sb R l δ mh s.heap->dK s.heap mvs vs->b.call f mvs kn mh k x->QE R δ mh k Q s->XE R l .none δ mh x E s->aU (aY a w) A (PySem.call (.ref fA) (vs.take (vs.length-kn.length)) ((kn.map (pn f)).zip (vs.drop (vs.length-kn.length)))) Q E s
 new:∀f,b.hn f=aC->R.mG (gn f)=aA (.ref (G.ca f))/\qV R.K (.ref (G.ca f))=aC/\∀(A:cW)(l:List dL)(s:aI)(δ:Nat->Nat)(mh:MH)(mvs:List MV)(vs:List aH)(k x:KE)(Q E:aH->aI->Prop),xN A l d->Sb R l δ mh s.heap->dK s.heap mvs vs->b.new f mvs mh k x->QE R δ mh k Q s->XE R l .none δ mh x E s->aU (aY a w) A (PySem.call (.ref (G.ca f)) vs []) Q E s
 meth:∀C m,b.hm C m=aC->∃fA,NI R C m fA/\∀(A:cW)(l:List dL)(s:aI)(δ:Nat->Nat)(mh:MH)(mvs:List MV)(vs:List aH)(k x:KE)(Q E:aH->aI->Prop),xN A l d->Sb R l δ mh s.heap->dK s.heap mvs vs->b.meth C m mvs mh k x->QE R δ mh k Q s->XE R l .none δ mh x E s->aU (aY a w) A (PySem.call (.ref fA) vs []) Q E s
end
theorem Iv:mn 25=aP "join":=by decide+kernel
theorem Mx:mn 7=aP "find":=by decide+kernel
theorem Jr:mn 26=aP "lower":=by decide+kernel
theorem J3:mn 27=aP "rstrip":=by decide+kernel
theorem K1:mn 33=aP "index":=by decide+kernel
theorem K9:mn 29=aP "append":=by decide+kernel
theorem I3:mn 30=aP "pop":=by decide+kernel
theorem I4:mn 31=aP "extend":=by decide+kernel
theorem Iz:mn 32=aP "get":=by decide+kernel
noncomputable def ou:Prop:=∀m f,f<iO.length->fn f=mn m->f=mf m
section
variable{g:Program}{w:World}{R:iK}{i:kP}{G:Gl}{gn:Nat->Str}{pn:Nat->Nat->Str}{d:Nat}{N:Env}{l:List Env}{j:List Str}
variable{A:Around}{E:Value->Shared->Prop}{s:Shared}{M:Nat->Nat}{Y:MH}{B:Loc}{k:KE}{Q:Value->Shared->Prop}
theorem d7(e:cR R){f:Value}{first:List Value}{L:fX}{o:List ME}{n:List aR}(hk:qV R.K f=aC)(p:iD N n)(u:GS g w R i G d N l j o n)(v:xN A l d)(S:St R N l j M B Y s.heap){b:KE}{KK:List MV->MH->Prop}(m:dP i G o B Y KK b)(r:XE R l .none M Y b E s)(a:∀c I F V D Z,cU R.N0 M Y s.heap c I F->St R N l j c B I F->dK F D Z->KK D I->aU (aY g w) A (pN f (first++Z) []) Q E {s with heap:=F,toks:=V}):aU (aY g w) A (qN L f first (mW L (dJ n N)) []) Q E s:=by
 refine iC (P:=λ h=>R.K.In h) (by rw[fU p];rfl) (keeps_K hk) (gK p ?_);refine u A s M B Y KK b _ E L v S m (λ c I F V D Z U t q=>⟨(S.post e U).X,?_⟩) r;exact a c I F V D Z U (S.post e U) t q
theorem cu(rk:cR R){m:Nat}{y:List Nat}{u:Value}{V:List ME}{n:List aR}{K:fX}{pl:GH Bool}{x:KE}(hm:JK m=aC)(hp:iD N n)(J:GS g w R i G d N l j V n)(ao:xN A l d)(S:St R N l j M B Y s.heap)(vu:VR s.heap (.str y) u)(q:dP i G V B Y (λ Z Y=>OptK (WJ Y m y Z) λ r=>k r Y) x)(hq:QE R M Y k Q s)(hx:XE R l .none M Y x E s):aU (aY g w) A (rW u (mn m) pl) (λ P X=>aU (aY g w) A (qN K P.1 P.2 (mW K (dJ n N)) []) Q E X) E s:=by
 haveI I:=vu;obtain⟨_,t,rfl⟩:=vu.str_inv;have b:∀(L:Str)(id:String)(o:Slot "str" L id)(c:zA (.builtin id)=iB (.type "method_descriptor")),mn m=L->tc m id->aU (aY g w) A (rW (.str ⟨y.toArray⟩ t) (mn m) pl) (λ P X=>aU (aY g w) A (qN K P.1 P.2 (mW K (dJ n N)) []) Q E X) E s:=by
  intro L id o c hn z;rw[hn];refine lP (mD _ _ _) F.plainAttrs_str o c (λ a e=>by cases e) ?_;refine wM rk hp J ao S q hx λ U H C O D Z p2 S2 vr W=>?_;obtain⟨r,er,W⟩:=fJ W;exact za (s:={s with heap:=C,toks:=O}) p2.real (p2.ev.vr I) vr er z λ f v h=>hq _ _ _ _ _ _ p2 h W
 haveI p:((((m=25\/m=7)\/m=26)\/m=27)\/m=33):=by simpa only[JK,nN,beq_iff_eq]using hm
 rcases p with(((rfl|rfl)|rfl)|rfl)|rfl;·exact b _ _ qU F.type_str_join Iv (.inl ⟨rfl,rfl⟩)
 ·exact b _ _ F.slot_str_find F.type_str_find Mx (.inr (.inl ⟨rfl,rfl⟩))
 ·exact b _ _ F.slot_str_lower F.type_str_lower Jr (.inr (.inr (.inl ⟨rfl,rfl⟩)))
 ·exact b _ _ F.slot_str_rstrip F.type_str_rstrip J3 (.inr (.inr (.inr (.inl ⟨rfl,rfl⟩))))
 ·exact b _ _ F.slot_str_index F.type_str_index K1 (.inr (.inr (.inr (.inr ⟨rfl,rfl⟩))))
theorem TG(W:cR R){m a:Nat}{L:List MV}{V:List ME}{n:List aR}{K:fX}{pl:GH Bool}{x:KE}(hm:IZ m=aC)(hp:iD N n)(p:GS g w R i G d N l j V n)(u:xN A l d)(S:St R N l j M B Y s.heap)(em:Y a=aA (.list L))(q:dP i G V B Y (λ Z Y=>OptK (g9 Y m a Z) λ r=>k r.1 (upd Y a (.list r.2))) x)(y:QE R M Y k Q s)(z:XE R l .none M Y x E s):aU (aY g w) A (rW (.ref a) (mn m) pl) (λ P X=>aU (aY g w) A (qN K P.1 P.2 (mW K (dJ n N)) []) Q E X) E s:=by
 obtain⟨a1,I,e,J⟩:=S.real.plist em;have b:∀id,(m=29/\id="list.append"\/m=30/\id="list.pop"\/m=31/\id="list.extend")->aU (aY g w) A (qN K (.builtin id) [.ref a] (mW K (dJ n N)) []) Q E s:=by
  intro id f;refine wM W hp p u S q z λ U H C o D Z p2 S2 vr t=>?_;obtain⟨r,O,t⟩:=fJ t;exact A4 (s:={s with heap:=C,toks:=o}) p2.real vr O f λ h3 v p3 h=>y _ _ _ _ _ _ (p2.trans p3) h t
 haveI c:((m=29\/m=30)\/m=31):=by simpa only[IZ,nN,beq_iff_eq]using hm
 rcases c with(rfl|rfl)|rfl;·rw[K9];exact EP e F.slot_list_append F.type_list_append (b "list.append" (.inl ⟨rfl,rfl⟩))
 ·rw[I3];exact EP e xK F.type_list_pop (b "list.pop" (.inr (.inl ⟨rfl,rfl⟩)))
 ·rw[I4];exact EP e F.slot_list_extend F.type_list_extend (b "list.extend" (.inr (.inr ⟨rfl,rfl⟩)))
theorem UO(rk:cR R)(hP:R.N0.prog=g)(hW:R.N0.w=w){a:Nat}{X:List (List Nat×MV)}{V:List ME}{n:List aR}{K:fX}{pl:GH Bool}{x:KE}(ha:a≠gC)(hp:iD N n)(a2:GS g w R i G d N l j V n)(ao:xN A l d)(S:St R N l j M B Y s.heap)(em:Y a=aA (.sdict X))(q:dP i G V B Y (λ Z Y=>OptK (Ax Y a Z) λ r=>k r Y) x)(hq:QE R M Y k Q s)(hx:XE R l .none M Y x E s):aU (aY g w) A (rW (.ref a) (mn 32) pl) (λ L u=>aU (aY g w) A (qN K L.1 L.2 (mW K (dJ n N)) []) Q E u) E s:=by
 obtain⟨y,⟨o,I,z,ho,hex,_⟩,_⟩:=S.real.obj a _ em;rw[Iz];refine lP ⟨_,ho,hex.1⟩ F.plainAttrs_dict rA F.type_dict_get (λ b e=>by cases e;exact⟨_,ho,hex.2.1⟩) ?_;refine wM rk hp a2 ao S q hx λ U H C a3 D Z p2 S2 vr O=>?_;obtain⟨r,m,O⟩:=fJ O;obtain⟨p,e1,m⟩:=cA m;obtain⟨kx,e2,m⟩:=cA m;obtain⟨hn,m⟩:vK p.2=aC/\_:=by
  by_cases c:vK p.2=aC;·rw[if_pos c]at m;exact⟨c,m⟩
  ·rw[if_neg c]at m;cases m
 obtain⟨P,J,m⟩:=fR m;haveI a1:H a=aA (.sdict P):=by
  unfold dictOf at J;cases q:H a with
 |none=>rw[q]at J;cases J|some o=>rw[q]at J;cases o<;>cases J;rfl
 rw[rO e1,tZ e2]at vr;obtain⟨v,_,rfl,x1,y1⟩:=vr.inv;obtain⟨W,_,rfl,x2,y2⟩:=y1.inv;obtain rfl:=y2.inv0;obtain⟨_,t,rfl⟩:=x1.str_inv;haveI x3:W=.none:=by have :=x2.notNone;rw[hn]at this;exact bC this
 rw[x3];exact ku (s:={s with heap:=C,toks:=a3}) hP hW p2.real a1 ha λ f v h=>hq _ _ _ _ _ _ p2 (m▸h) O
theorem an(rk:cR R)(y:ou)(o:qL g w R i G gn pn d){m a C:Nat}{t:List (Nat×MV)}{V:List ME}{n:List aR}{F:fX}{pl:GH Bool}{x:KE}(hf:pX t (mf m)=aB)(hm:i.hm C m=aC)(hp:iD N n)(p:GS g w R i G d N l j V n)(O:xN A l d)(S:St R N l j M B Y s.heap)(em:Y a=aA (.inst C t))(q:dP i G V B Y (λ Z Y=>i.meth C m (.ref a::Z) Y k x) x)(hq:QE R M Y k Q s)(J:XE R l .none M Y x E s):aU (aY g w) A (rW (.ref a) (mn m) pl) (λ P r=>aU (aY g w) A (qN F P.1 P.2 (mW F (dJ n N)) []) Q E r) E s:=by
 obtain⟨z,b,e⟩:=o.meth C m hm;obtain⟨c,L,I,e1,e2,e3,e4⟩:=S.real.inst em;haveI u:shadowIn (aA L) (mn m)=aA aG:=by
  show HO (λ x=>x.isSome) (GX (mn m) L)=aA aG;rw[e4 (mn m) λ f h W hn=>by rw[y m f h hn,hf]at W;cases W];rfl
 refine method_fn S.X I b.ga b.gt b.fd b.ty u ?_;refine d7 rk b.kp hp p O S q J λ U H K v D Z p2 S2 vr q2=>?_;exact e A l {s with heap:=K,toks:=v} U H (.ref a::D) (.ref a::Z) k x Q E O S2.sb (dK.cons (by simp only[VR]) vr) q2 (hq.post p2) (J.post p2)
theorem kb(D:cR R)(hP:R.N0.prog=g)(hW:R.N0.w=w)(a1:ou)(q:qL g w R i G gn pn d){e:ME}{r:aR}{m:Nat}{V:List ME}{n:List aR}{t F:fX}(a2:SE g w R i G d N l j e r)(p:GS g w R i G d N l j V n)(z:rX r=aC)(U:iD N n)(hl:n.length<30)(v:(t.endLine==F.line)=aC):SE g w R i G d N l j (.meth e m V) (.Call (.Attribute r (mn m) t) n [] F):=by
 intro A s M B Y k x Q E J S mm Z H;refine mN z U hl v (one D a2 J S (jf.mp mm) H λ f P K c h u p1 W vu b=>λ pl=>?_);cases h with
 |str y=>exact cu D (s:={s with heap:=K,toks:=c}) b.1 U p J W vu b.2 (Z.post p1) (H.post p1)|ref a=>
  simp only[VR]at vu;rw[vu];dsimp only at b;cases O:P a with
  |none=>rw[O]at b;exact b.elim|some o=>
  rw[O]at b;cases o with
  |list L=>exact TG D (s:={s with heap:=K,toks:=c}) b.1 U p J W O b.2 (Z.post p1) (H.post p1)|sdict X=>rw[b.1];exact UO D hP hW (s:={s with heap:=K,toks:=c}) b.2.1 U p J W O b.2.2 (Z.post p1) (H.post p1)|inst C I=>exact an D a1 q (s:={s with heap:=K,toks:=c}) b.1 b.2.1 U p J W O b.2.2 (Z.post p1) (H.post p1)
 |_=>exact b.elim
end
theorem UI{c:kP}{G:Gl}:∀{a b:List ME}{B:Loc}{Y:MH}{k:List MV->MH->Prop}{x:KE},dP c G (a++b) B Y k x->dP c G a B Y (λ Z Y=>dP c G b B Y (λ t Y=>k (Z++t) Y) x) x
 |[],b,B,Y,k,x,h=>h|e::a,b,B,Y,k,x,h=>by
  haveI d:∀v mh',dP c G (a++b) B mh' (λ Z Y=>k (v::Z) Y) x=dP c G a B mh' (λ Z Y=>dP c G b B Y (λ t Y=>k (v::(Z++t)) Y) x) x:=by
   intro v mh';clear h;revert mh' k v;induction a with
 |nil=>intros;rfl|cons E a g=>
   intro k v mh';show bX c G E B mh' _ x=bX c G E B mh' _ x;congr 1;funext z H;exact g (k:=λ Z Y=>k (v::Z) Y) (v:=z) (mh':=H)
  exact(congrArg (λ f=>bX c G e B Y f x) (funext λ v=>funext λ mh'=>d v mh')).mp h
theorem LF{pos:fX}{env:dL}:∀{B:List bP}{L:List nF},GR B L=aC->(yX pos (qF L env)).all (·.1.isSome)=aC/\(yX pos (qF L env)).filterMap (·.1)=B/\(yX pos (qF L env)).any (·.1.isNone)=aG/\B.length=L.length:=by
 intro B;induction B with
 |nil=>
  intro L h;cases L with
  |nil=>exact⟨rfl,rfl,rfl,rfl⟩|cons _ _=>cases h
 |cons x B g=>
 intro L h;cases L with
 |nil=>cases h|cons f L=>
 obtain⟨y,v,p⟩:=f;haveI e:y=aA x:=bC (bl h);obtain⟨a,b,c,d⟩:=g (br h);rw[e];exact⟨a,congrArg (x::·) b,c,congrArg sJ d⟩
section
variable{a:Program}{w:World}{R:iK}{b:kP}{G:Gl}{gn:Nat->Str}{pn:Nat->Nat->Str}{d:Nat}{N:Env}{l:List Env}{j:List Str}
variable{A:Around}{E:Value->Shared->Prop}{s:Shared}{M:Nat->Nat}{Y:MH}{B:Loc}{k:KE}{Q:Value->Shared->Prop}
noncomputable def Dh(a:Program)(w:World)(R:iK)(b:kP)(G:Gl)(d:Nat)(N:Env)(l:List Env)(j:List Str)(V:List ME)(L:List nF):Prop:=∀A s M B Y k x Q E F,xN A l d->St R N l j M B Y s.heap->dP b G V B Y k x->(∀c I P g D Z,cU R.N0 M Y s.heap c I P->dK P D Z->D.length=V.length->k D I->Q Z {s with heap:=P,toks:=g})->XE R l .none M Y x E s->aU (aY a w) A (evalAll ((yX F (qF L N)).map (·.2))) Q E s
theorem pu:Dh a w R b G d N l j [] []:=by
 intro A s M B Y k x Q E F e S m c f;exact wpAny_evalAll_nil (c M Y s.heap s.toks [] [] (.refl S.real) dK.nil rfl m)
theorem ZK(t:cR R){C:ME}{n:nF}{V:List ME}{q:List nF}(O:SE a w R b G d N l j C n.value)(g:Dh a w R b G d N l j V q):Dh a w R b G d N l j (C::V) (n::q):=by
 intro A s M B Y k x Q E F r S m I o;replace m:=CQ.mp m;obtain⟨L,e,p⟩:=n;show aU _ A (evalAll ((do let v<-eval e N;DA F;iB v)::(yX F (qF q N)).map (·.2))) Q E s;refine wpAny_evalAll_cons (aE (one t O r S m o λ f P y c h u p1 J vu W=>aE (fO (aM ?_))));refine g A {s with heap:=y,toks:=c} f B P _ x _ E F r J W ?_ (o.post p1);intro i H K X D Z p2 z U q2;exact I _ _ _ _ _ _ (p1.trans p2) (dK.cons (p2.ev.vr vu) z) (by simp[U]) q2
theorem ly(rk:cR R)(I:dZ R N j)(n:qL a w R b G gn pn d){f:Nat}{o:List Nat}{x:Str}{p pos:fX}{q u:List ME}{g:List aR}{L:List nF}(a5:gn f=x)(hg:glb N.scope.names x=aC)(hp:iD N g)(b0:GR (o.map (pn f)) L=aC)(a4:L=[]\/g≠[])(a1:u.length=L.length)(a3:GS a w R b G d N l j q g)(as:Dh a w R b G d N l j u L):SE a w R b G d N l j (.call f (q++u) o) (.Call (.Name x p) g L pos):=by
 intro A s M B Y k F Q E W S m hq hx;obtain⟨hn,m⟩:=qd.mp m;replace m:=UI m;obtain⟨z,y,C,h3⟩:=n.call f hn;subst a5;obtain⟨k1,k2,k3,k4⟩:=LF (pos:=pos) (env:=N) b0;have a2:o.length=L.length:=by simpa using k4
 refine hJ (pU rk I S.X hg y ?_);refine iC (P:=λ h=>R.K.In h) (by rw[fU hp,k3];rfl) (keeps_K C) ?_;cases L with
 |nil=>
 haveI V:u=[]:=List.length_eq_zero_iff.mp a1;haveI O:o=[]:=List.length_eq_zero_iff.mp a2;subst V O;refine gK hp (a3 A s M B Y _ F _ E pos W S m ?_ hx);intro U H v r D Z p2 vr J;replace J:b.call f (D++[]) [] H k F:=J;rw[List.append_nil]at J;have S2:=S.post rk p2;refine⟨S2.X,?_⟩;have :=h3 A l {s with heap:=v,toks:=r} U H D Z [] k F Q E W S2.sb vr J (hq.post p2) (hx.post p2);simpa using this|cons kw L=>cases g with
 |nil=>exact absurd (a4.resolve_left (by simp)) (by simp)|cons e i=>
 refine evalArgs_kw2 k1 ?_ (hp.1 i);rw[k2];refine a3 A s M B Y _ F _ E pos W S m ?_ hx;intro U H v r D Z p2 vr J;have S2:=S.post rk p2;refine as A {s with heap:=v,toks:=r} U B H _ F _ E pos W S2 J ?_ (hx.post p2);intro b2 a6 al b1 ap t p3 c ln q3;have S3:=S2.post rk p3;refine⟨S3.X,?_⟩;haveI lw:t.length=o.length:=by rw[c.length,ln,a1,a2]
 have :=h3 A l {s with heap:=al,toks:=b1} b2 a6 (D++ap) (Z++t) o k F Q E W S3.sb (dK.append (p3.ev.vrs vr) c) q3 (hq.post (p2.trans p3)) (hx.post (p2.trans p3));haveI e1:(Z++t).length-o.length=Z.length:=by rw[List.length_append,lw];simp+arith
 rw[e1,List.take_left,List.drop_left]at this;exact this
theorem zq(r:cR R)(I:dZ R N j)(o:qL a w R b G gn pn d){f:Nat}{x:Str}{p F:fX}{V:List ME}{n:List aR}(g:gn f=x)(L:glb N.scope.names x=aC)(U:iD N n)(e:GS a w R b G d N l j V n):SE a w R b G d N l j (.new f V) (.Call (.Name x p) n [] F):=by
 intro A s M B Y k O Q E q S m v t;replace m:=wm.mp m;obtain⟨J,m⟩:=m;obtain⟨y,K,C⟩:=o.new f J;subst g;refine hJ (pU r I S.X L y ?_);refine d7 r K U e q S m t λ i H c h D Z p2 z u P=>?_;exact C A l {s with heap:=c,toks:=h} i H D Z k O Q E q z.sb u P (v.post p2) (t.post p2)
end
noncomputable def tV:TC->aH
 |.bool=>.type "bool"|.int=>.type "int"|.str=>.type "str"|.none=>.type "NoneType"|.own C=>.ref C
noncomputable def cV:Nat->aH
 |0=>.type "bool"|1=>.type "int"|c=>.ref c
noncomputable def B6(G:Gl):TC->Bool
 |.own C=>G.ic C|_=>aC
structure DF(R:iK)(G:Gl)(gn:Nat->bP):Prop where
 nm:∀c,G.ci c=aC->(R.mG (gn c)=aB/\R.mB (gn c)=aA (cV (G.ca c)))\/R.mG (gn c)=aA (cV (G.ca c))one:∀t c,B6 G t=aC->G.ci c=aC->kitOne R.K (tV t) (cV (G.ca c))=aA (BE t (G.ca c))own:∀C,G.ic C=aC->plainGet R.K C "__class__"=aC/\rT R.K C=aC/\fK R.K (.ref C) "__class__"=aA (aA (.builtin "object.__class__"))/\mroIn R.K C (.type "object")=aA aC
 sp:EB R.K (.builtin "object.__class__") "__get__"=aA (aA (.builtin "getset_descriptor.__get__"))/\takesIn R.K (.builtin "object.__class__")=aA aC
 cst:∀b C,G.kc b=aA C->G.ic C=aC/\∃dx sl od,R.K.lookup b=aA ⟨.ref C,aA dx,.plain,sl⟩/\R.K.lookup dx=aA od
section
variable{f:Program}{w:World}{R:iK}{g:kP}{G:Gl}{gn:Nat->Str}{pn:Nat->Nat->Str}{d:Nat}{N:Env}{l:List Env}{j:List Str}
variable{A:Around}{E:Value->Shared->Prop}{s:Shared}{L:Nat->Nat}{Y:MH}{B:Loc}{k:KE}{Q:Value->Shared->Prop}
set_option tactic.hygienic true in theorem At(ik:DF R G gn)(X:R.K.In s.heap)(rl:eB R.N0 L Y s.heap){v:MV}{u:Value}{t:TC}(vr:VR s.heap v u)(e:BQ G Y v=aA t):B6 G t=aC/\u≠.builtin "__main__.__loader__#opaque"/\∃H:bG->Prop,KitX R.K u (tV t) H/\∀h':bG,(∀b o,s.heap.get? b=aA o->h'.get? b=aA o)->H h':=by
  unfold BQ at e;split at e;·cases e;obtain rfl:=vr.bool_inv;exact⟨rfl,(by intro z;cases z),_,kitx_bool,λ y_ y_=>trivial⟩
  ·cases e;obtain⟨_,rfl⟩:=vr.int_inv;exact⟨rfl,(by intro z;cases z),_,kitx_int,λ y_ y_=>trivial⟩
  ·cases e;obtain⟨_,_,rfl⟩:=vr.str_inv;exact⟨rfl,(by intro z;cases z),_,kitx_str,λ y_ y_=>trivial⟩
  ·cases e;simp only[VR]at vr;subst vr;exact⟨rfl,(by intro z;cases z),_,kitx_none,λ y_ y_=>trivial⟩
  · rename_i a;split at e
    · rename_i C fs em;split at e
      ·rename_i hc;cases e;simp only[VR]at vr;subst vr;obtain⟨ox,od,I,e1,e2,e3,e4⟩:=rl.inst em;obtain⟨k1,k2,k3,k4⟩:=ik.own C hc;refine⟨hc,(by intro z;cases z),_,kitx_own (x:=a) (ox:=ox) (od:=od) k1 k2 k3 ik.sp.1 ik.sp.2 k4,λ h' hk=>⟨hk _ _ I.at_,I.cls,I.no,?_⟩⟩;have :=I.dict;rw[e1]at this⊢;exact hk _ _ this
      ·cases e
    ·cases e
  ·rename_i b;obtain⟨C,e1,rfl⟩:=bO.mp e;simp only[VR]at vr;subst vr;obtain⟨hc,dx,sl,od,l1,l2⟩:=ik.cst b C e1;obtain⟨k1,k2,k3,k4⟩:=ik.own C hc;refine⟨hc,(by intro z;cases z),_,kitx_own (x:=b) (ox:=⟨.ref C,aA dx,.plain,sl⟩) (od:=od) k1 k2 k3 ik.sp.1 ik.sp.2 k4,λ h' hk=>⟨hk _ _ (X _ _ l1),rfl,rfl,hk _ _ (X _ _ l2)⟩⟩
  ·cases e
theorem VB(i:DF R G gn){t:TC}(e:B6 G t=aC):∀P:List Nat,P.all G.ci=aC->kitAny R.K (tV t) (P.map λ c=>cV (G.ca c))=aA (P.any λ c=>BE t (G.ca c)):=by
 intro b;induction b with
 |nil=>
 intro U;exact rfl|cons c P a=>
 intro h;rw[List.all_cons,fB]at h;rw[List.map_cons,kitAny,i.one t c e h.1,List.any_cons];cases BE t (G.ca c);·rw[Bool.false_or];exact a h.2
 ·rfl
theorem LU(b:cR R)(I:dZ R N j)(e:DF R G gn)(X:R.K.In s.heap){c:Nat}{P:aR}(i:G.ci c=aC)(m:lY (gn c) P=aC)(a:glb N.scope.names (gn c)=aC)(h:Q (cV (G.ca c)) s):aU (aY f w) A (eval P N) Q E s:=by
 refine gW (M:=λ p=>aU (aY f w) A (eval p N) Q E s) m λ F=>?_;rcases e.nm c i with⟨y,C⟩|y;·exact pT b I X a y C h
 ·exact pU b I X a y h
theorem IW{x:Str}{p:aR}(h:lY x p=aC)(i:List aR):dJ (p::i) N=(aG,eval p N)::dJ i N:=gW (M:=λ p=>dJ (p::i) N=(aG,eval p N)::dJ i N) h λ U=>rfl
theorem oj(o:cR R)(I:dZ R N j)(m:DF R G gn){F:fX}:∀(P:List Nat)(C:List aR)(s:Shared)(Q:List Value->Shared->Prop),R.K.In s.heap->P.all G.ci=aC->kY (P.map gn) C=aC->(P.map gn).all (glb N.scope.names)=aC->Q (P.map λ c=>cV (G.ca c)) s->aU (aY f w) A (spliced (mW F (dJ C N))) Q E s:=by
 intro P;induction P with
 |nil=>intro C s Q X b a e h;cases C with|nil=>exact eW h|cons _ _=>cases a
 |cons c P i=>
 intro C s Q X b a e h;cases C with
 |nil=>cases a|cons n C=>exact dH (LU o I m X (bl b) (bl a) (bl e) (i C s _ X (br b) (br a) (br e) h)) (IW (bl a) _)
theorem NJ(rk:cR R)(bk:ES R)(I:dZ R N j)(ik:DF R G gn){e:ME}{r n:aR}{W:List Nat}{x:Str}{p F:fX}{tp:Bool}(a5:x="isinstance")(hg:glb N.scope.names x=aC)(ih:SE f w R g G d N l j e r)(hs:∀i,dJ (r::i) N=(aG,eval r N)::dJ i N)(a2:∀i,dJ (n::i) N=(aG,eval n N)::dJ i N)(a3:∀(A:Around)(E:Value->Shared->Prop)(s:Shared)(T:Value->Shared->Prop),R.K.In s.heap->W.all G.ci=aC->(∀M v,(∀b o,s.heap.get? b=aA o->M.get? b=aA o)->(∀(u:Value)(t:TC)(H:bG->Prop)(Q:Value->Shared->Prop)(V:Nat),B6 G t=aC->u≠.builtin "__main__.__loader__#opaque"->KitX R.K u (tV t) H->H M->R.K.In M->(∀V,Q (.bool (W.any λ c=>BE t (G.ca c))) {s with heap:=M,toks:=V})->aU (aY f w) A (pN (.builtin "isinstance") [u,v]) Q E {s with heap:=M,toks:=V})->T v {s with heap:=M})->aU (aY f w) A (eval n N) T E s):SE f w R g G d N l j (.isin e W tp) (.Call (.Name x p) [r,n] [] F):=by
 intro A s L B Y k xx Q E ao S m hq hx;replace m:=mx.mp m;obtain⟨a4,m⟩:=m;subst a5;refine hJ (pT rk I S.X hg bk.isi.1 bk.isi.2 ?_);have a1:iD N [r,n]:=⟨hs,a2,trivial⟩;refine iC (P:=λ U=>True) (by rw[fU a1];rfl) (λ h U=>kV _ h) (gK a1 ?_);refine dH (one rk ih ao S m hx λ z D y O J u p1 S1 vu q1=>?_) (hs _);obtain⟨t,et,q1⟩:=fJ q1;obtain⟨ot,hu,H,Z,hH⟩:=At (s:={s with heap:=y,toks:=O}) ik S1.X p1.real vu et;refine dH (a3 A E {s with heap:=y,toks:=O} _ S1.X a4 λ C v hk q=>eW ⟨trivial,?_⟩) (a2 _);refine q u t H Q O ot hu Z (hH C hk) (λ a o e=>hk _ _ (S1.X a o e)) λ V=>?_;exact hq _ _ _ _ _ _ (p1.trans (.grown p1.real hk)) VR.bool q1
theorem lh(y:cR R)(bk:ES R)(I:dZ R N j)(q:DF R G gn){e:ME}{r n:aR}{P:List Nat}{x:Str}{p F:fX}(m:x="isinstance")(K:glb N.scope.names x=aC)(S:SE f w R g G d N l j e r)(C:∀i,dJ (r::i) N=(aG,eval r N)::dJ i N)(b:kY (P.map gn) [n]=aC)(v:(P.map gn).all (glb N.scope.names)=aC):SE f w R g G d N l j (.isin e P aG) (.Call (.Name x p) [r,n] [] F):=by cases P with
 |nil=>cases b|cons c P=>cases P with
 |cons o P=>exact absurd (br b) cP|nil=>
 refine NJ y bk I q m K S C (IW (bl b)) ?_;intro A E s T X a W;refine LU y I q X (bl a) (bl b) (bl v) (W s.heap _ (λ U U e=>e) ?_);intro u t H Q V O z Z D J M;refine kia_one (s:={s with heap:=s.heap,toks:=V}) Z J D (q.one t c O (bl a)) z λ h=>?_;have :=M h;rw[show List.any [c] (λ c=>BE t (G.ca c))=BE t (G.ca c)from lC _]at this;exact this
theorem YY(q:cR R)(U:ES R)(I:dZ R N j)(h:DF R G gn){e:ME}{r:aR}{C:List aR}{P:List Nat}{x:Str}{m:Nat}{p p2 F:fX}(c:x="isinstance")(K:glb N.scope.names x=aC)(S:SE f w R g G d N l j e r)(z:∀i,dJ (r::i) N=(aG,eval r N)::dJ i N)(hl:P.length<=1000)(D:kY (P.map gn) C=aC)(n:(P.map gn).all (glb N.scope.names)=aC):SE f w R g G d N l j (.isin e P aC) (.Call (.Name x p) [r,.Tuple C m p2] [] F):=by
 refine NJ q U I h c K S z (λ i=>rfl) ?_;intro A E s T X a v;refine wpAny_Tuple (oj q I h P C s _ X a D n ⟨by rw[List.length_map,eH];exact lm hl,?_⟩);refine v _ _ (λ b o e=>aK _ e) ?_;intro u t H Q V O y Z W J M;exact kia_tup (s:={s with heap:=_,toks:=V}) Z J W (bQ _ rfl) (VB h O P a) y M
end
theorem d9:sV (.type "list_reverseiterator") "__len__"=iB aB:=by rw[rF,lG];kernel_rfl
theorem jm:sV (.type "list_reverseiterator") "__length_hint__"=iB (aA (.builtin "list_reverseiterator.__length_hint__")):=by rw[rF,lG];kernel_rfl
section
variable{a:Program}{w:World}{A:Around}{E:Value->Shared->Prop}{s:Shared}{I:Addr}{c x:List Addr}{G:Array GenState->Array GenState->Prop}{n:Nat}{P:Nat->Value->Prop}{St:Nat->Shared->Prop}
theorem OF{Q:List Value->Shared->Prop}(W:WalksS a w A.in1 I c x G n P St)(k:∀i s,St i s->s.TypeIs (.ref I) "list_reverseiterator")(t:St 0 s)(z:∀b∈c,b<s.heap.objs.size)(B:I∈c)(D:∀u H,Moved x G s u->ItemsOf P H n->Q H.toList u)(C:n<=nE):aU (aY a w) A (collect (.ref I)) Q E s:=by
 have h:s.heap.objs.size∉c:=λ m=>Nat.lt_irrefl _ (z _ m);have p:s.heap.objs.size≠I:=λ e=>h (e▸B);unfold collect;refine aE (wpAny_runValue (nH F.entry_proto_collect ?_));rw[Around.under_plainId F.plain_proto_collect _];show aU _ A.in1 (newList []>>=λ l=>bZ (.builtin "list.__iadd__" ⟨[l,.ref I],[]⟩)) _ _ s;refine aE (uI ?_);refine aM ⟨vA F.plain_list_iadd _,nH F.entry_list_iadd ?_⟩;rw[Around.under_plainId F.plain_list_iadd _];have d:=W.frame 0 s (s.heap.push {cls:=.type "list",data:=.seq ([]:List Value).toArray}) s.toks t (Nat.le_refl _) λ b U o e=>aK _ e;have f:(s.heap.push {cls:=.type "list",data:=.seq ([]:List Value).toArray}).get? s.heap.objs.size=aA {cls:=.type "list",data:=.seq ([]:List Value).toArray}:=bQ _ rfl;have y:jP (.ref s.heap.objs.size) (.ref I)=aG:=by simp[jP,p]
 show aU _ A.in1 (fG (.ref s.heap.objs.size) (.ref I) (.ref s.heap.objs.size)) _ _ _;unfold fG;refine aE (DQ (k 0 _ d) ?_);rw[if_neg (by rw[y];decide)];refine aE (W.self 0 _ _ _ d ?_);refine aE (dM ?_);unfold rM;refine aE (qT (k 0 _ d) d9 ?_);show aU _ A.in1 (zW (Value.ref I) (aP "__length_hint__")>>=_) _ _ _;refine aE (qT (k 0 _ d) jm ?_);generalize j:("list_reverseiterator.__length_hint__":String)=r;wp_delta;rw[show splitId r=aA ("list_reverseiterator","__length_hint__")from by subst j;decide+kernel];subst j;refine aE (wpAny_isInstance (b:=aC) (k 0 _ d) (by rw[isSubtype_type];kernel_rfl) ?_);refine aM ?_;rw[if_neg (by decide)];refine aM ⟨vA jS _,codeAny_extend_loopS W C _ h _ n 0 _ _ _ rfl (Nat.zero_le _) d f (ItemsOf.nil P) λ u v M m q g=>?_⟩;show aU _ A (load s.heap.objs.size>>=_) _ _ u;refine aE (wpAny_load q ?_);exact aM (D u v (Moved.drop_new (o:={cls:=.type "list",data:=.seq ([]:List Value).toArray}) (tk:=s.toks) m (Nat.le_refl _)) g)
open Builtin Builtin.Str Builtin.Int in theorem jy{sep:bP}{t:Tok}{l:Addr}{items:Array Value}{ls:List (bP×Tok)}{Q:Value->Shared->Prop}(hh:A.handled=aB)(hl:s.heap.IsList l items)(hv:items.toList.reverse=strValues ls)(hok:(((ls.map (·.1)).map (·.length)).sum+(ls.map (·.1)).length*sep.length<=16777216))(hn:items.size<=nE)(hq:∀h' k t',(∀b o,s.heap.get? b=aA o->h'.get? b=aA o)->Q (.str (Txt.join sep (ls.map (·.1))) t') {s with heap:=h',toks:=k}):aU (aY a w) A (pN (.builtin "str.join") [.str sep t,.ref s.heap.objs.size]) Q E {s with heap:=s.heap.push (revObj l ((items.size:Int)-1))}:=by
  have hlt:l<s.heap.objs.size:=by obtain⟨_,e,_⟩:=hl;exact cN e
  have hit:(s.heap.push (revObj l ((items.size:Int)-1))).IsRevIter s.heap.objs.size l ((items.size:Int)-1-((0:Nat):Int)):=⟨_,bQ _ rfl,rfl,by simp[revObj]⟩;refine lX (qP qU.plain F.entry_str_join (qU.check _ _ _ _ _ _ _ _ (mD _ _ _) (F.args_str_join_2 _ _) ?_));have htree:oW.«str.join» ⟨[.str sep t,.ref s.heap.objs.size],[]⟩=((do
 let ty<-zA (.ref s.heap.objs.size)if(ty==.type "list"||ty==.type "tuple")=aC then(do match<-wF (.ref s.heap.objs.size)with
 |aA xs=>joinTail sep xs.toList|aB=>unsupported "internal:str.join")else(do
 let it<-(rE (.ref s.heap.objs.size)).tryCatch λ e=>do if<-sU e (.type "TypeError")then rule "str.join.not-iterable";raiseError"TypeError""can only join an iterable"else throw e
 let items<-collect it;joinTail sep items)):GH Fin):=rfl;rw[htree];refine aE (DQ (xP (s:={s with heap:=_}) hit) ?_);show aU _ _ ((rE (.ref s.heap.objs.size)).tryCatch _>>=λ it=>collect it>>=λ items=>joinTail sep items) _ _ _;refine aE (wpAny_tryCatch (wpAny_pyIter_revIter hit ?_));refine aE (OF (A:=A.in1) (Walks.listRev (A:=A.in1.in1) hh s.heap.objs.size l (Nat.ne_of_lt hlt) items).toS (λ i s' st=>xP st.2.1) ⟨Nat.zero_le _,hit,hl.push _⟩ ?_ (List.mem_cons_self ..) (λ s' acc hm hacc=>?_) hn)
  · intro b hb;show b<(s.heap.push _).objs.size;rw[iE];simp at hb;rcases hb with rfl|rfl;·exact Nat.lt_succ_self _
    ·exact Nat.lt_succ_of_lt hlt
  · have hacc':acc.toList=strValues ls:=by
      rw[<-hv];apply List.ext_getElem?;intro j;by_cases hj:j<acc.size
      · have h2:=hacc.2 j acc[j] (Array.getElem?_eq_getElem hj);have hsz:=hacc.1;have :items.toList.reverse[j]?=items[items.size-1-j]?:=by
         rw[List.getElem?_reverse (by simp;exact(F2 hj (Nat.le_of_eq hsz)))];simp
        rw[this,h2];simp[hj]
      ·have hsz:=hacc.1;rw[List.getElem?_eq_none (by simpa using Nat.le_of_not_lt hj),List.getElem?_eq_none (by simp;exact(F2 (Nat.not_lt.mp hj) (Nat.le_of_eq hsz.symm)))]
    rw[hacc'];have hok':=joinOk_of (sep:=sep) hok;unfold JoinOk at hok';rw[fF]at hok';have g:Gives (joinTail sep (strValues ls)) (joinMade sep ls):=by
     have g0:=gives_joinTail sep ls hok';cases ls with
 |nil=>exact g0|cons p r=>cases r with
 |nil=>exact g0|cons q r'=>exact g0
    have same:∀k:Nat,({s' with toks:=k}:Shared)={s with heap:=s'.heap,toks:=k}:=by
     intro k;have h1:=hm.gens;have h2:=hm.drawn;have h3:=hm.os;obtain⟨hp,g,d,tk,os⟩:=s';obtain⟨hp0,g0,d0,tk0,os0⟩:=s;simp only at h1 h2 h3;subst h1;subst h2;subst h3;rfl
    refine g a w A (wants Q E) s' (post_join ls ⟨joinFit_length hok',λ t' k=>?_⟩);rw[same k];refine hq s'.heap k t' λ b o e=>hm.heap b o (λ hb=>?_) (aK _ e);simp at hb;subst hb;exact absurd (cN e) (Nat.lt_irrefl _)
end
theorem dK.reverse{h:bG}:∀{l:List MV}{Z:List aH},dK h l Z->dK h l.reverse Z.reverse:=by
 intro d;induction d with
 |nil=>
 intro Z r;obtain rfl:=r.inv0;exact dK.nil|cons m l c=>
 intro Z r;obtain⟨v,Z,rfl,a,b⟩:=r.inv;rw[CG,CG];exact dK.append (c b) (dK.cons a dK.nil)
section
variable{c:Program}{w:World}{R:iK}{g:kP}{G:Gl}{gn:Nat->Str}{pn:Nat->Nat->Str}{d:Nat}{N:Env}{l:List Env}{j:List Str}
variable{A:Around}{E:Value->Shared->Prop}{s:Shared}{K:Nat->Nat}{Y:MH}{B:Loc}{k:KE}{Q:Value->Shared->Prop}
set_option maxHeartbeats 1600000 in theorem kg(rk:cR R)(bk:ES R)(ok:dZ R N j){sp:List Nat}{e:ME}{pe:aR}{x:Str}{ck:Nat}{cp p p2 apos pos:fX}(hx':x="reversed")(hg:glb N.scope.names x=aC)(hsl:sp.length<=aX)(ih2:SE c w R g G d N l j e pe)(hs:∀rest,dJ (pe::rest) N=(aG,eval pe N)::dJ rest N)(hline:(apos.endLine==pos.line)=aC):SE c w R g G d N l j (.jrev sp e) (.Call (.Attribute (.Constant (.str ⟨sp.toArray⟩) ck cp) (Str.ofString "join") apos) [.Call (.Name x p) [pe] [] p2] [] pos):=by
 intro A s K B Y k xx Q E ao S m hq hx;replace m:=RV.mp m;subst hx';have hp1:iD N [pe]:=⟨hs,trivial⟩;have hp:iD N [.Call (.Name "reversed" p) [pe] [] p2]:=⟨λ y_=>rfl,trivial⟩;refine mN rfl hp (by simp) hline (kE λ pl=>?_);haveI P0:cU R.N0 K Y s.heap K Y s.heap:=.refl S.real;refine lP (mD _ _ _) F.plainAttrs_str qU F.type_str_join (λ a e=>by cases e) ?_;refine iC (P:=λ y_=>True) (by rw[fU hp];rfl) (λ h y_=>kV _ h) (gK hp ?_);refine dH ?_ (hp.1 _);refine hJ (pT rk ok S.X hg bk.rev.1 bk.rev.2 ?_);refine iC (P:=λ y_=>True) (by rw[fU hp1];rfl) (λ h y_=>kC _ h) (gK hp1 ?_);refine dH (one rk (s:={s with toks:=s.toks+1}) ih2 ao S m (hx.post P0) λ δ2 mh2 h2 tk2 mv v p2 S2 vv q2=>eW ⟨trivial,?_⟩) (hs _);obtain⟨L,eL,q3⟩:=fJ q2;obtain⟨r,er,hr,q4⟩:=fJ q3;clear q2 q3;obtain⟨hl,a,vs,rfl,rfl,em,hL,hv⟩:=S2.real.list vv eL;refine call_reversed_list (s:={s with heap:=h2,toks:=tk2}) hL ?_;refine eW ⟨trivial,?_⟩;haveI hsz:=hv.size;obtain⟨ys,j1,j2,j3,_⟩:=HQ sp _ _ r hv.reverse er;obtain⟨ls,k1,k2⟩:=strsAre_values j1;unfold aX at hsl hr;unfold jG at hl;haveI hsep:(⟨sp.toArray⟩:Str).length=sp.length:=by simp[Str.length]
 refine jy (s:={s with heap:=h2,toks:=tk2}) (ls:=ls) ao.hand hL k1 (by rw[k2,hsep];exact F3 hsl hr j3) (by rw[eH];exact(F2 hl (Nat.le_of_eq hsz))) λ h' kk t' hk=>?_;haveI e2:Txt.join ⟨sp.toArray⟩ (ls.map (·.1))=⟨r.toArray⟩:=by
  rw[k2];show DM _ _=_;rw[yF];exact j2
 rw[e2];exact hq _ _ _ _ _ _ (p2.trans (.grown p2.real hk)) (VR.str (by delta aX;exact hr)) q4
theorem PL{a b:Int}{u v:Value}{i:Int}(h:a≠b):uG [(a,u),(b,v)] i=if i=a then aA u else if i=b then aA v else aB:=by
  delta uG;by_cases y:i=a;·subst y;simp
  · by_cases C:i=b;·subst C;simp[h,y]
    ·haveI f:¬a=i:=λ z=>y z.symm;haveI e:¬b=i:=λ z=>C z.symm;simp[y,C,f,e]
theorem VA{e b:Nat}{D f:List Nat}{i:Int}{d:MV}:AK [(e,D),(b,f)] i d=if i=(e:Int)then .str D else if i=(b:Int)then .str f else d:=by
  delta AK;by_cases a:i=(e:Int);·rw[if_pos a,List.find?_cons_of_pos (by rw[a];exact beq_self_eq_true _)]
  · rw[if_neg a,List.find?_cons_of_neg (by rw[beq_iff_eq];exact λ z=>a z.symm)];by_cases P:i=(b:Int);·rw[if_pos P,List.find?_cons_of_pos (by rw[P];exact beq_self_eq_true _)]
    ·rw[if_neg P,List.find?_cons_of_neg (by rw[beq_iff_eq];exact λ z=>P z.symm),List.find?_nil]
noncomputable def i8(b a:Nat)(D e:List Nat)(t:Nat):List (Value×Value):=[(.int (b:Int) t,.str ⟨D.toArray⟩ (t+1)),(.int (a:Int) (t+1+1),.str ⟨e.toArray⟩ (t+1+1+1))]
theorem qj{e b:Nat}{D m:List Nat}{i:Int}{t I a:Nat}{d:MV}{q:Value}(n:(e:Int)≠(b:Int))(p:D.length<=aX)(o:m.length<=aX)(x:s.heap.DictOf (GL c w) a (uD (i8 e b D m t)))(y:a≠gC)(S:VR s.heap d q)(h:∀f v,VR s.heap (AK [(e,D),(b,m)] i d) v->Q v {s with toks:=f}):aU (aY c w) A (pN (.builtin "dict.get") [.ref a,.int i I,q] []) Q E s:=by
  have u:=x.mapOf;refine call_meetsIn rA u.typeIs F.entry_dict_get (F.args_dict_get_3 _ _ _) (wP (GL c w) a (k:=i) (intKind_is _ _ _ _) (by simpa using y) q) ⟨_,u,?_⟩;haveI z:uG (uD (i8 e b D m t)) i=if i=(e:Int)then aA (.str ⟨D.toArray⟩ (t+1))else if i=(b:Int)then aA (.str ⟨m.toArray⟩ (t+1+1+1))else aB:=PL n;rw[z];rw[VA]at h;by_cases r:i=(e:Int);·rw[if_pos r]at h⊢;exact h _ _ (VR.str p)
  · rw[if_neg r]at h⊢;by_cases P:i=(b:Int);·rw[if_pos P]at h⊢;exact h _ _ (VR.str o)
    ·rw[if_neg P]at h⊢;exact h _ _ S
theorem WR{v u:Nat}{D I:List Nat}{q p t i:Nat}{n r m a F:fX}(C:(v:Int)≠(u:Int))(h:∀y f,y.DictOf (GL c w) s.heap.objs.size (uD (i8 v u D I s.toks))->(∀b o,s.heap.get? b=aA o->y.get? b=aA o)->Q (.ref s.heap.objs.size) {s with heap:=y,toks:=f}):aU (aY c w) A (eval (.Dict [aA (.Constant (.int (v:Int)) q n),aA (.Constant (.int (u:Int)) t m)] [.Constant (.str ⟨D.toArray⟩) p r,.Constant (.str ⟨I.toArray⟩) i a] F) N) Q E s:=by
 refine wpAny_Dict_pairs (knd:=GL c w) (pairs:=[(eval (.Constant (.int (v:Int)) q n) N,do let x<-eval (.Constant (.str ⟨D.toArray⟩) p r) N;DA F;iB x),(eval (.Constant (.int (u:Int)) t m) N,do let x<-eval (.Constant (.str ⟨I.toArray⟩) i a) N;DA F;iB x)]) rfl (by simp) (by simp) ?_;unfold evalPairs;refine aE (nX (aE (dM (aE (kE (aE (fO (aM ?_))))))));refine aE (dM ?_);unfold evalPairs;refine aE (nX (aE (dM (aE (kE (aE (fO (aM ?_))))))));refine aE (dM ?_);delta evalPairs;refine aM (aM (aM ?_));refine display_done_int (prog:=c) (w:=w) rfl (by simp[uD];exact C) (bG.DictOf.new s.heap) λ y H z=>h y _ H λ b o e=>?_;rw[z.2 b (Nat.ne_of_lt (cN e))];exact aK _ e
set_option maxHeartbeats 1600000 in theorem XP(rk:cR R)(hsm:gC<R.N0.n){n1 n2:Nat}{s1 s2:List Nat}{kk1 vk1 kk2 vk2:Nat}{kp1 vp1 kp2 vp2:fX}{key pG:ME}{pk pd:aR}{dp apos pos:fX}(hne:(n1:Int)≠(n2:Int))(hl1:s1.length<=aX)(hl2:s2.length<=aX)(ih1:SE c w R g G d N l j key pk)(ih2:SE c w R g G d N l j pG pd)(hp:iD N [pk,pd])(hline:(apos.endLine==pos.line)=aC):SE c w R g G d N l j (.pick [(n1,s1),(n2,s2)] key pG) (.Call (.Attribute (.Dict [aA (.Constant (.int (n1:Int)) kk1 kp1),aA (.Constant (.int (n2:Int)) kk2 kp2)] [.Constant (.str ⟨s1.toArray⟩) vk1 vp1,.Constant (.str ⟨s2.toArray⟩) vk2 vp2] dp) (Str.ofString "get") apos) [pk,pd] [] pos):=by
 intro A s K B Y k xx Q E ao S m hq hx;refine mN rfl hp (by simp) hline (WR hne λ h1 tk1 hd1 hk1=>λ pl=>?_);have P1:cU R.N0 K Y s.heap K Y h1:=.grown S.real hk1;haveI S1:=S.post rk P1;have hfree:¬kS Y K s.heap.objs.size:=λ f=>Nat.lt_irrefl _ (S.real.footLt f);obtain⟨od,es,ep,ho,hex,hdt,hr0⟩:=id hd1;refine lP (s:={s with heap:=h1,toks:=_}) ⟨_,ho,hex.1⟩ F.plainAttrs_dict rA F.type_dict_get (λ b e=>by cases e;exact⟨_,ho,hex.2.1⟩) ?_;refine iC (P:=λ y_=>True) (by rw[fU hp];rfl) (λ h y_=>kV _ h) (gK hp ?_);refine dH ?_ (hp.1 _);refine one rk (s:={s with heap:=h1,toks:=_}) ih1 ao S1 (nk.mp m) (hx.post P1) λ δ2 mh2 h2 tk2 mk kv p2 S2 vk q2=>?_;refine dH ?_ (hp.2.1 _);refine one rk (s:={s with heap:=h2,toks:=tk2}) ih2 ao S2 q2 (hx.post (P1.trans p2)) λ δ3 mh3 h3 tk3 md dv p3 S3 vd q3=>eW ⟨trivial,?_⟩;have vk3:=p3.ev.vr vk;obtain⟨i,ei,q⟩:=fJ q3;rw[jR ei]at vk3;obtain⟨t,rfl⟩:=vk3.int_inv;haveI nf2:¬kS mh2 δ2 s.heap.objs.size:=λ f=>(p2.grow _ f).elim hfree λ z=>by rw[ho]at z;cases z
 have hn:od.cls≠.type "frame":=by rw[hex.1];simp
 haveI hd3:h3.DictOf (GL c w) s.heap.objs.size (uD (i8 n1 n2 s1 s2 s.toks)):=⟨od,es,ep,p3.ev.keepEq (p2.ev.keepEq ho hfree hn) nf2 hn,hex,hdt,hr0⟩;exact qj (s:={s with heap:=h3,toks:=tk3}) hne hl1 hl2 hd3 (Nat.ne_of_gt (Nat.lt_of_lt_of_le hsm S.sz)) vd λ tk v vv=>hq _ _ _ _ _ _ ((P1.trans p2).trans p3) vv q
set_option maxHeartbeats 1600000 in theorem nj(rk:cR R)(hsm:gC<R.N0.n){ps:List (Nat×List Nat)}{key pG:ME}{ks:List (Option aR)}{vs:List aR}{pk pd:aR}{dp apos pos:fX}(hd:(NK ps).any (λ q=>!(q.1.1==q.2.1))=aC)(hps:HL ps ks vs=aC)(ih1:SE c w R g G d N l j key pk)(ih2:SE c w R g G d N l j pG pd)(hp:iD N [pk,pd])(hline:(apos.endLine==pos.line)=aC):SE c w R g G d N l j (.pick ps key pG) (.Call (.Attribute (.Dict ks vs dp) (Str.ofString "get") apos) [pk,pd] [] pos):=by cases e:NK ps with
 |none=>rw[e]at hd;cases hd|some q=>
 obtain⟨⟨n1,s1⟩,⟨n2,s2⟩⟩:=q;rw[e]at hd;rw[rO e]at hps⊢;haveI hne:((n1:Int)≠(n2:Int)):=λ z=>by
  haveI h2:n1=n2:=Int.ofNat.inj z;rw[h2]at hd;have h3:(!(n2==n2))=aC:=hd;rw[beq_self_eq_true]at h3;cases h3
 have BW:∀(n:Nat)(s':List Nat)(ps:List (Nat×List Nat))(ks:List (Option aR))(vs:List aR)(M:List (Option aR)->List aR->Prop),HL ((n,s')::ps) ks vs=aC->(∀kk kp vk vp ks vs,s'.length<=aX->HL ps ks vs=aC->M (aA (.Constant (.int (n:Int)) kk kp)::ks) (.Constant (.str ⟨s'.toArray⟩) vk vp::vs))->M ks vs:=by
  intro n s' ps ks vs M h k;cases ks with
 |nil=>cases h|cons k1 ks=>cases vs with
 |nil=>cases h|cons v1 vs=>
  have h1:=bl (bl h);cases k1 with
 |none=>cases h1|some k1=>exact vH (q:=.i (n:Int)) (M:=λ e=>M (aA e::ks) (v1::vs)) h1 λ kk kp y_=>vH (q:=.s s') (M:=λ e=>M (aA _::ks) (e::vs)) (br (bl h)) λ vk vp hl=>k _ _ _ _ _ _ hl (br h)
 refine BW n1 s1 _ ks vs (λ ks vs=>SE c w R g G d N l j (.pick [(n1,s1),(n2,s2)] key pG) (.Call (.Attribute (.Dict ks vs dp) (Str.ofString "get") apos) [pk,pd] [] pos)) hps λ kk1 kp1 vk1 vp1 ks vs hl1 hps=>?_;refine BW n2 s2 _ ks vs (λ ks vs=>SE c w R g G d N l j (.pick [(n1,s1),(n2,s2)] key pG) (.Call (.Attribute (.Dict (_::ks) (_::vs) dp) (Str.ofString "get") apos) [pk,pd] [] pos)) hps λ kk2 kp2 vk2 vp2 ks vs hl2 hps=>?_;rw[List.isEmpty_iff.mp (bl hps),List.isEmpty_iff.mp (br hps)];exact XP rk hsm hne hl1 hl2 ih1 ih2 hp hline
end
/-! what turns off the footprint: a frame's names, cells, iterators -/
theorem CX{D:Nat->Prop}{h P:bG}(f:∀b o,D b->h.get? b=aA o->¬BI o)(k:∀b o,¬D b->h.get? b=aA o->P.get? b=aA o):xQ h P:=λ a o e c=>by
 by_cases d:D a;·exact absurd c (f a o d e)
 ·exact k a o d e
theorem eB.put{g:fN}{M:Nat->Nat}{Y:MH}{h P:bG}{D:Nat->Prop}(r:eB g M Y h)(c:∀b,D b->¬kS Y M b)(i:∀b o,D b->h.get? b=aA o->¬BI o)(k:∀b o,¬D b->h.get? b=aA o->P.get? b=aA o):eB g M Y P:=r.same (CX i k) (λ a o e x f=>k a x (λ d=>c a d (.inl ⟨o,e,by cases o<;>rfl⟩)) f) (λ a C N e x f=>k _ x (λ d=>c _ d (.inr ⟨a,C,N,e,rfl⟩)) f)
theorem cU.put{i:fN}{V M:Nat->Nat}{L Y:MH}{C h P:bG}{D:Nat->Prop}(p:cU i V L C M Y h)(f:∀b,D b->C.get? b=aB)(off:∀b,D b->¬kS Y M b)(t:∀b o,D b->h.get? b=aA o->¬BI o)(k:∀b o,¬D b->h.get? b=aA o->P.get? b=aA o):cU i V L C M Y P:=by
 refine⟨p.real.put off t k,⟨λ a o e n=>?_,λ a o l e=>?_,λ a o e c=>?_,λ a e=>?_⟩,p.grow⟩
 ·obtain⟨j,s,r⟩:=p.ev.keep a o e n;exact⟨j,k a _ (λ d=>by rw[f a d]at e;cases e) s,r⟩
 ·exact k a o (λ d=>by rw[f a d]at e;cases e) (p.ev.low a o l e)
 ·exact k a o (λ d=>by rw[f a d]at e;cases e) (p.ev.tup a o e c)
 ·cases q:C.get? a with
 |none=>rfl|some o=>
 haveI m:¬D a:=λ d=>by rw[f a d]at q;cases q
 have :h.get? a≠aB:=λ z=>by have :=p.ev.live a z;rw[q]at this;cases this
 obtain⟨A,g⟩:=Option.ne_none_iff_exists'.mp this;rw[k a A m g]at e;cases e
noncomputable def sZ(o:gV):Prop:=(∃Z,o.data=.fields Z)/\o.cls≠.type "frame"
noncomputable def kR(h P:bG):Prop:=∀b o,h.get? b=aA o->(sZ o\/BI o)->P.get? b=aA o
theorem eB.notFld{g:fN}{M:Nat->Nat}{Y:MH}{h:bG}(r:eB g M Y h){c:Nat}{o:gV}(d:h.get? c=aA o)(f:sZ o):¬kS Y M c:=by
 obtain⟨⟨Z,a⟩,_⟩:=f;rintro(⟨G,e,w⟩|⟨b,C,N,e,rfl⟩)
 ·have :=r.obj c G e;cases G with
 |inst C N=>obtain⟨⟨j,E⟩,_⟩:=this;rw[d]at E;cases E;cases a|list l=>obtain⟨_,Z,⟨n,E⟩,_⟩:=this;rw[d]at E;cases E;cases a|sdict X=>obtain⟨A,_,_,E,_,q⟩:=this.obj;rw[d]at E;cases E;rw[a]at q;cases q
 ·obtain⟨_,m,⟨A,_,_,E,q,_⟩,_⟩:=r.obj b _ e;rw[d]at E;cases E;rw[a]at q;cases q
theorem cU.keepI{a:fN}{M c:Nat->Nat}{Y I:MH}{h P:bG}(r:eB a M Y h)(p:cU a M Y h c I P):kR h P:=λ b o e f=>by
 rcases f with f|f;·exact p.ev.keepEq e (r.notFld e f) f.2
 ·exact p.ev.tup b o e f
theorem kR.trans{d a c:bG}(x:kR d a)(y:kR a c):kR d c:=λ b o e f=>y b o (x b o e f) f
theorem kR.refl(h:bG):kR h h:=λ U U e U=>e
theorem oJ{M:CI}{A:cW}{E:aH->aI->Prop}{s:aI}{a:eI}{m:bP->Option aH}{u:bP}{v:aH}{Q:Unit->aI->Prop}(C:s.heap.Ns a m)(D:∀P,P.Ns a (λ x=>if x=u then aA v else m x)->fQ a s.heap P->(∀L,s.heap.get? a=aA L->∃J,P.get? a=aA J/\J.cls=L.cls/\∃X n q S,L.data=.dict X n/\J.data=.dict q S/\q.size<=X.size+1/\((m u).isSome->q.size<=X.size))->Q () {s with heap:=P,toks:=s.toks+1}):aU M A (nsSet a u v) Q E s:=by
 intro H p U;obtain⟨o,X,w,f,l,hk,k⟩:=C;simp only[nsSet,strHash,GH.wp_bind',GH.wp_cmd_ask,GH.wp_pure',GH.wp_cmd_mkText];rw[GH.wp_loadPart_of M H _ p {s with toks:=s.toks+1} (o:=o) _ f];haveI g:X.any (·.refKey)=aG:=by rw[Array.any_eq_false'];intro e B;obtain⟨n,t,h⟩:=hk e B;simp[EG,h]
 simp only[l,aRefKeyMayBeTheName_eq,aRefKeyMayBeTheNameByArray,g,Bool.and_false,eV,if_false,GH.wp_cmd_updatePart];refine⟨by rw[f];rfl,D _ ?_ (dQ ..) ?_⟩
 ·obtain⟨c,d,G,j⟩:=o;subst l;cases b:X.findIdx? (·.key.isStr u)with
 |some i=>
 refine⟨_,_,w,cY _ f (by simp only[gM,eS,b];rfl),by simp only[gM,eS,b];rfl,hk.modify _ _,λ x=>?_⟩;show _=if x=u then aA v else m x;rw[<-k];exact findBy_modify (λ n v=>v.isStr n) aH.isStr_inj X u x v i b|none=>
  refine⟨_,_,w+1,cY _ f (by simp only[gM,eS,b];rfl),by simp only[gM,eS,b];rfl,hk.push _ _ _ _,λ x=>?_⟩;show _=if x=u then aA v else m x;rw[<-k];exact findBy_push (λ n v=>v.isStr n) X u x _ _ v (λ y=>by
   show(u==y)=cH (y=u);by_cases h:y=u;·subst h;simp
   ·have :¬u=y:=λ e=>h e.symm;simp[h,this]) b
 ·intro L r;obtain rfl:o=L:=bH (f.symm.trans r);obtain⟨c,d,G,j⟩:=o;subst l;cases b:X.findIdx? (·.key.isStr u)with
 |some i=>exact⟨_,cY _ f (by simp only[gM,eS,b];rfl),by simp only[gM,eS,b],X,_,_,_,rfl,by simp only[gM,eS,b];rfl,by rw[CW];exact lW _,λ U=>by rw[CW];exact aZ _⟩|none=>
  refine⟨_,cY _ f (by simp only[gM,eS,b];rfl),by simp only[gM,eS,b],X,_,_,_,rfl,by simp only[gM,eS,b];rfl,by rw[FY];exact aZ _,λ z=>?_⟩;rw[<-k]at z;unfold nsFind findBy at z;rw[Array.findIdx?_eq_none_iff]at b;haveI :X.find? (·.key.isStr u)=aB:=by
   rw[Array.find?_eq_none];intro x F;simpa using b x F
  rw[this]at z;cases z
structure qo(R:iK)(env:dL)(h₀:bG):Prop where
 loc:h₀.get? env.locals=aB
 cells:∀x c,env.cells.lookup x=aA c->env.kindOf x=aA .cell->h₀.get? c=aB
theorem jF.put{D:Nat->Prop}{h P:bG}(k:∀b o,¬D b->h.get? b=aA o->P.get? b=aA o)(t:xQ h P){N:dL}{m:bP->Option aH}{y:bP}{o:Option MV}(g:∀c u,N.cells.lookup y=aA c->h.IsCell c u->¬D c)(e:jF N h m y o):jF N P m y o:=by
 unfold jF at e⊢;split at e;·intro L q;obtain⟨v,a,b⟩:=e L q;exact⟨v,a,VR.mono t _ _ b⟩
 ·obtain⟨c,u,a,⟨Q,b,f⟩,d⟩:=e;exact⟨c,u,a,⟨Q,k _ _ (g c u a ⟨Q,b,f⟩) b,f⟩,λ L q=>by obtain⟨v,a,b⟩:=d L q;exact⟨v,a,VR.mono t _ _ b⟩⟩
 ·obtain⟨z,c,u,a,⟨Q,b,f⟩,d⟩:=e;exact⟨z,c,u,a,⟨Q,k _ _ (g c u a ⟨Q,b,f⟩) b,f⟩,λ L q=>by obtain⟨v,a,b⟩:=d L q;exact⟨v,a,VR.mono t _ _ b⟩⟩
 ·exact e
theorem jN.put{a:Nat}{h P:bG}(k:∀b o,h.get? b=aA o->o.cls=.type "frame"->(∃X n,o.data=.dict X n)->∃A,P.get? b=aA A/\A.cls=.type "frame"/\∃X n,A.data=.dict X n):∀{l:List dL},jN a h l->jN a P l:=by
 intro q;induction q with
 |nil=>
 intro U;exact trivial|cons e l j=>
 intro i;obtain⟨⟨m,L,o,f,g,c,d⟩,t⟩:=i;obtain⟨A,r,I,p⟩:=k L o g c d;exact⟨⟨m,L,A,f,r,I,p⟩,j t⟩
section
variable{g:Program}{w:World}{R:iK}{N:Env}{l:List Env}{F:List Str}{A:Around}{E:Value->Shared->Prop}{s:Shared}{V M:Nat->Nat}{L Y:MH}{C:Heap}{B:Loc}
theorem MQ{B:Loc}{i j:Nat}{D a:MV}(e:((B.set i (aA D))[j]?).join=aA a):(j=i/\a=D)\/(j≠i/\(B[j]?).join=aA a):=by
  by_cases q:j=i
  · subst q;rw[List.getElem?_set]at e;rw[if_pos rfl]at e;split at e;·simp at e;exact .inl ⟨rfl,e.symm⟩
    ·simp at e
  ·rw[List.getElem?_set,if_neg (λ z=>q z.symm)]at e;exact .inr ⟨q,e⟩
theorem jF.mono_o{N:Env}{h:Heap}{m J:Str->Option Value}{y:Str}{o K:Option MV}(f:J y=m y)(q:∀D,K=aA D->o=aA D)(e:jF N h m y o):jF N h J y K:=by
 unfold jF at e⊢;rw[f];split at e;·intro D z;exact e D (q D z)
 ·obtain⟨c,u,a,b,d⟩:=e;exact⟨c,u,a,b,λ D z=>d D (q D z)⟩
 ·obtain⟨z,c,u,a,b,d⟩:=e;exact⟨z,c,u,a,b,λ D z=>d D (q D z)⟩
 ·exact e
theorem TN{F:List Str}(d:F.Nodup){i j:Nat}{x:Str}(b:F[i]?=aA x)(c:F[j]?=aA x):i=j:=by
 obtain⟨a,_⟩:=List.getElem?_eq_some_iff.mp b;exact(List.getElem?_inj a d).mp (b.trans c.symm)
noncomputable def FQ(N:Env)(C:Heap)(x:Str):Prop:=(N.kindOf x=aA .local/\C.get? N.locals=aB)\/(N.kindOf x=aA .cell/\∀c,N.cells.lookup x=aA c->C.get? c=aB)
theorem qo.at{x:Str}(a:qo R N C)(hk:N.kindOf x=aA .local\/N.kindOf x=aA .cell):FQ N C x:=hk.elim (λ k=>.inl ⟨k,a.loc⟩) λ k=>.inr ⟨k,λ c e=>a.cells x c e k⟩
theorem vP(rk:cR R)(I:dZ R N F)(S:St R N l F M B Y s.heap)(p:cU R.N0 V L C M Y s.heap){i:Nat}{x:Str}{mv:MV}{v:Value}{Q:Unit->Shared->Prop}(hi:F[i]?=aA x)(hk:FQ N C x)(vr:VR s.heap mv v)(h:∀P W,St R N l F M (B.set i (aA mv)) Y P->cU R.N0 V L C M Y P->kR s.heap P->(∀b o,b≠N.locals->(∀c,N.kindOf x=aA .cell->N.cells.lookup x=aA c->b≠c)->s.heap.get? b=aA o->P.get? b=aA o)->Q () {s with heap:=P,toks:=W}):aU (aY g w) A (EY N x v) Q E s:=by
  haveI hp:(N.scope.kind==.class||(N.scope.kind==.module&&N.locals !=N.globals))=aG:=by rw[I.kind];rfl
  obtain⟨m,hn,hl⟩:=S.loc;have a3:=hl i x hi;obtain⟨oL,H,ep,al,a4,b2⟩:=id hn;have lc:∀c u,s.heap.IsCell c u->c≠N.locals:=by
   rintro c u⟨o,e1,e2⟩rfl;rw[al]at e1;cases e1;rw[a4]at e2;cases e2
  have a2:∀(c:Nat)(P:Heap)(W:Nat)(m':Str->Option Value),(∀b o,b≠c->s.heap.get? b=aA o->P.get? b=aA o)->(¬kS Y M c)->R.N0.n<=c->C.get? c=aB->(∀o,s.heap.get? c=aA o->¬sZ o/\¬BI o)->P.Ns N.locals m'->(∀y,y≠x->m' y=m y)->(∀o,s.heap.get? c=aA o->o.cls=.type "frame"->(∃H n,o.data=.dict H n)->∃J,P.get? c=aA J/\J.cls=.type "frame"/\∃H n,J.data=.dict H n)->(∀y cc u,y≠x->N.cells.lookup y=aA cc->s.heap.IsCell cc u->cc≠c)->(xQ s.heap P->jF N P m' x (aA mv))->(c=N.locals\/(N.kindOf x=aA .cell/\N.cells.lookup x=aA c))->Q () {s with heap:=P,toks:=W}:=by
    intro c P W m' k b1 hc hf nt a5 as K cc r ap;have t:xQ s.heap P:=CX (D:=(·=c)) (λ b o d e=>(nt o (d▸e)).2) k;have O:cU R.N0 V L C M Y P:=p.put (D:=(·=c)) (λ b d=>d▸hf) (λ b d=>d▸b1) (λ b o d e=>(nt o (d▸e)).2) k;refine h P W ⟨λ a o e=>k a o (λ z=>?_) (S.X a o e),⟨?_,S.last.2⟩,O.real,⟨m',a5,λ j y hj=>?_⟩,S.off,S.llow,?_⟩ O (λ b o e f=>k b o (λ z=>?_) e) λ b o n1 n2 e=>k b o (λ z=>ap.elim (λ q=>n1 (z.trans q)) λ q=>n2 c q.1 q.2 z) e
    ·subst z;exact absurd (Nat.lt_of_lt_of_le (rk.klow _ o e).1 hc) (Nat.lt_irrefl _)
    ·obtain⟨o,ho⟩:=aS.mp S.last.1;haveI :R.N0.n-1≠c:=Nat.ne_of_lt (Nat.lt_of_lt_of_le (Nat.sub_lt S.last.2 Nat.one_pos) hc);rw[k _ o this ho];rfl
    · by_cases q:y=x
      · subst q;obtain rfl:=TN I.nodup hi hj;refine(r t).mono_o rfl λ a6 e=>?_;rcases MQ e with⟨_,rfl⟩|⟨z,_⟩;·rfl
        ·exact absurd rfl z
      · refine((hl j y hj).put (D:=(·=c)) k t λ c' u a b z=>cc y c' u q a b z).mono_o (as y q) λ a6 e=>?_;rcases MQ e with⟨rfl,_⟩|⟨_,z⟩;·rw[hi]at hj;cases hj;exact absurd rfl q
        ·exact z
    · refine jN.put (λ b o e c' d=>?_) S.fr;by_cases z:b=c;·subst z;exact K o e c' d
      ·exact⟨o,k b o z e,c',d⟩
    · subst z;rcases f with f|f;·exact(nt o e).1 f
      ·exact(nt o e).2 f
  rcases hk with⟨hk,ol⟩|⟨hk,oc⟩
  · rw[storeName_local hk hp];refine oJ hn λ P a5 hs b0=>?_;refine a2 N.locals P _ _ (λ b o z e=>(hs.2 b z).trans e) S.off S.llow ol (λ o e=>?_) a5 (λ y q=>by simp[q]) (λ o e c U=>?_) (λ y cc u q a b z=>lc _ _ b z) (λ t=>?_) (.inl rfl)
    ·rw[al]at e;cases e;exact⟨λ f=>(by obtain⟨⟨Z,f⟩,_⟩:=f;rw[a4]at f;cases f),λ f=>(by obtain⟨_,Z,n,f⟩:=f;rw[a4]at f;cases f)⟩
    ·obtain⟨J,G,c',_,_,_,_,_,d',_⟩:=b0 o e;exact⟨J,G,c'.trans c,_,_,d'⟩
    ·unfold jF;rw[hk];intro a6 e;cases e;exact⟨v,by simp,VR.mono t _ _ vr⟩
  · unfold jF at a3;rw[hk]at a3;obtain⟨c,u,hc,a1,_⟩:=a3;obtain⟨b3,ec,dc⟩:=id a1;refine wpAny_storeName_cell I.kind hk hc a1 λ P ao hs=>?_;refine a2 c P s.toks m (λ b o z e=>(hs.2 b z).trans e) (S.real.notCell a1) (I.clow _ _ hc) (oc _ hc) (λ o e=>?_) (hn.sameBut hs (λ z=>lc c u a1 z.symm)) (λ y q=>rfl) (λ o e U d=>?_) (λ y cc u' q a b z=>?_) (λ t=>?_) (.inr ⟨hk,hc⟩)
    ·rw[ec]at e;cases e;exact⟨λ f=>(by obtain⟨⟨Z,f⟩,_⟩:=f;rw[dc]at f;cases f),λ f=>(by obtain⟨_,Z,n,f⟩:=f;rw[dc]at f;cases f)⟩
    ·rw[ec]at e;cases e;obtain⟨_,_,d⟩:=d;rw[dc]at d;cases d
    ·subst z;exact q (I.cinj y x cc a hc)
    ·unfold jF;rw[hk];refine⟨c,_,hc,ao,λ a6 e=>?_⟩;cases e;exact⟨v,rfl,VR.mono t _ _ vr⟩
end
/-! iterators: what they hand out, step by step -/
noncomputable def AM:aR->Bool
 |.Tuple _ _ _=>aC|_=>aG
structure IB(prog:bK)(w:cK)(N0:fN)(tp:Bool)(src:Option (Nat×List MV))(items:List MV)(wr:List eI)(I:eI)(St:Nat->bG->Prop)(Mid:Nat->aH->bG->Prop):Prop where
 keep:∀i h h',St i h->kR h h'->St i h'
 objs:∀i h,St i h->∀b∈wr,∃o,h.get? b=aA o/\sZ o
 mobjs:∀i v h,Mid i v h->∀b∈wr,∃o,h.get? b=aA o/\sZ o
 item:∀(A:cW)i(s:aI)δ mh mv(Q:Option aH->aI->Prop)(E:aH->aI->Prop),A.handled=aB->eB N0 δ mh s.heap->AO src mh->items[i]?=aA mv->St i s.heap->(∀v h' tk,VR h' mv v->Mid i v h'->(∀b o,b∉wr->s.heap.get? b=aA o->h'.get? b=aA o)->Q (aA v) {s with heap:=h',toks:=tk})->aU (aY prog w) A (pM (.ref I)) Q E s
 go:∀(A:cW)i(s:aI)(t:aR)v(Q:Unit->aI->Prop)(E:aH->aI->Prop),(tp=aC->AM t=aC)->Mid i v s.heap->(∀h',St (i+1) h'->(∀b o,b∉wr->s.heap.get? b=aA o->h'.get? b=aA o)->Q () {s with heap:=h'})->aU (aY prog w) A (nI t (.ref I) v) Q E s
 done:∀(A:cW)(s:aI)δ mh(Q:Option aH->aI->Prop)(E:aH->aI->Prop),A.handled=aB->eB N0 δ mh s.heap->AO src mh->St items.length s.heap->(∀h' tk,(∀b o,b∉wr->s.heap.get? b=aA o->h'.get? b=aA o)->Q aB {s with heap:=h',toks:=tk})->aU (aY prog w) A (pM (.ref I)) Q E s
 self:∀(A:cW)i(s:aI)(Q:aH->aI->Prop)(E:aH->aI->Prop),St i s.heap->Q (.ref I) s->aU (aY prog w) A (rE (.ref I)) Q E s
section
variable{d:Program}{w:World}
theorem zD{A:cW}{s:aI}{t:aR}{I:eI}{v:aH}{o:gV}{n:String}{Q:Unit->aI->Prop}{E:aH->aI->Prop}(e:s.heap.get? I=aA o)(b:o.cls=.type n)(a:∃Z,o.data=.fields Z)(c:["enumerate","zip","dict_itemiterator","dict_reverseitemiterator","odict_iterator","itertools.zip_longest","itertools.pairwise"].contains n=aG)(h:Q () s):aU (aY d w) A (nI t (.ref I) v) Q E s:=by
 obtain⟨Z,a⟩:=a;cases t<;>first
 |exact aM h|(cases v<;>first
 |exact aM h
 |(unfold nI;refine aE (wpAny_load e ?_);simp only[b,a,c,Bool.false_and,eV,if_false];exact aM h))
theorem PH{n:Int}{i:Nat}{L:MV}(e:(kJ n)[i]?=aA L):(i:Int)<n/\L=.int i:=by
 unfold kJ at e;rw[gF]at e;obtain⟨j,a,rfl⟩:=bO.mp e;obtain⟨y,K⟩:=dE.mp a;simp at y K;subst K;exact⟨by lia,rfl⟩
theorem OY{p q:Int}{i:Nat}{L:MV}(e:(vC p q)[i]?=aA L):(i:Int)<p-q/\L=.int (p-i):=by
 unfold vC at e;rw[gF]at e;obtain⟨j,a,rfl⟩:=bO.mp e;obtain⟨y,K⟩:=dE.mp a;simp at y K;subst K;exact⟨by lia,rfl⟩
theorem IB.list{N:fN}(a I:Nat)(l:List MV):IB d w N aG (aA (a,l)) l [I] I (λ i h=>h.IsListIter I a i) (λ i U h=>h.IsListIter I a (i+1))where
 keep:=λ i h P st k=>by
  obtain⟨o,g,f,c⟩:=st;exact⟨o,k _ _ g (.inl ⟨⟨_,c⟩,by rw[f];simp⟩),f,c⟩
 objs:=λ i h st b G=>by
  simp at G;subst G;obtain⟨o,g,f,c⟩:=st;exact⟨o,g,⟨_,c⟩,by rw[f];simp⟩
 mobjs:=λ i v h st b G=>by
  simp at G;subst G;obtain⟨o,g,f,c⟩:=st;exact⟨o,g,⟨_,c⟩,by rw[f];simp⟩
 item:=λ A i s M Y L Q E B r q e st j=>by
  obtain⟨_,b,Z,n,_,F,z,p⟩:=r.list (u:=.ref a) (by simp only[VR]) q;cases n;obtain⟨x,D,H⟩:=p.get e;refine wpAny_pyNext_list_item st z (x:=x) (by simpa using D) λ P y m=>j x P _ (VR.mono (λ b o e t=>?_) _ _ H) y λ b o nb e=>(m.2 b (by simpa using nb)).trans e;obtain⟨O,J,_,K⟩:=id st;haveI :b≠I:=by
   rintro rfl;rw[J]at e;cases e;obtain⟨_,_,_,t⟩:=t;rw[K]at t;cases t
  exact(m.2 b this).trans e
 go:=λ A i s t v Q E U st j=>by
  obtain⟨o,g,f,c⟩:=id st;exact zD g f ⟨_,c⟩ (by decide) (j s.heap st λ U U U e=>e)
 done:=λ A s M Y Q E B r q st j=>by
  obtain⟨_,b,Z,n,_,F,z,p⟩:=r.list (u:=.ref a) (by simp only[VR]) q;cases n;haveI C:=p.size;exact wpAny_pyNext_list_end B st z (by simp[C]) λ P m=>j P _ λ b o nb e=>m b o (by simpa using nb) e
 self:=λ A i s Q E st h=>wpAny_pyIter_listiter st h
theorem OM{h P:bG}{I:Nat}{c:gV}(g:h.get? I=aA c)(a:∃Z,c.data=.fields Z)(f:fQ I h P){L:MV}{v:aH}(r:VR h L v):VR P L v:=by
 refine VR.mono (λ b o e t=>?_) _ _ r;haveI :b≠I:=by
  rintro rfl;rw[g]at e;cases e;obtain⟨_,_,_,t⟩:=t;obtain⟨_,a⟩:=a;rw[a]at t;cases t
 exact(f.2 b this).trans e
theorem ND{s:List Nat}{i:Nat}{L:MV}(e:(s.map λ c=>MV.str [c])[i]?=aA L):∃c,s[i]?=aA c/\L=.str [c]:=by
 rw[gF]at e;obtain⟨j,a,rfl⟩:=bO.mp e;exact⟨j,a,rfl⟩
theorem IB.strA{y:fN}(I:Nat)(j:List Nat)(g:Tok):IB d w y aG aB (j.map λ c=>MV.str [c]) [I] I (λ i h=>h.IsStrIter I "str_ascii_iterator" ⟨j.toArray⟩ g i) (λ i U h=>h.IsStrIter I "str_ascii_iterator" ⟨j.toArray⟩ g (i+1))where
 keep:=λ i h P st k=>by
  obtain⟨o,l,f,a⟩:=st;exact⟨o,k _ _ l (.inl ⟨⟨_,a⟩,by rw[f];simp⟩),f,a⟩
 objs:=λ i h st b G=>by
  simp at G;subst G;obtain⟨o,l,f,a⟩:=st;exact⟨o,l,⟨_,a⟩,by rw[f];simp⟩
 mobjs:=λ i v h st b G=>by
  simp at G;subst G;obtain⟨o,l,f,a⟩:=st;exact⟨o,l,⟨_,a⟩,by rw[f];simp⟩
 item:=λ A i s M Y L Q E q r u e st m=>by
  obtain⟨c,x,rfl⟩:=ND e;exact wpAny_pyNext_ascii_item st (c:=c) (by simpa using x) λ P p n=>m _ P _ (VR.str (by simp[aX])) p λ b o nb e=>(n.2 b (by simpa using nb)).trans e
 go:=λ A i s t v Q E U st m=>by
  obtain⟨o,l,f,a⟩:=id st;exact zD l f ⟨_,a⟩ (by decide) (m s.heap st λ U U U e=>e)
 done:=λ A s M Y Q E q r u st m=>by exact wpAny_pyNext_ascii_end q st (by simp) λ P n=>m P _ λ b o nb e=>n b o (by simpa using nb) e
 self:=λ A i s Q E st h=>wpAny_pyIter_striter_ascii st h
theorem IB.strW{y:fN}(I:Nat)(j:List Nat)(g:Tok):IB d w y aG aB (j.map λ c=>MV.str [c]) [I] I (λ i h=>h.IsStrIter I "str_iterator" ⟨j.toArray⟩ g i) (λ i U h=>h.IsStrIter I "str_iterator" ⟨j.toArray⟩ g (i+1))where
 keep:=λ i h P st k=>by
  obtain⟨o,l,f,a⟩:=st;exact⟨o,k _ _ l (.inl ⟨⟨_,a⟩,by rw[f];simp⟩),f,a⟩
 objs:=λ i h st b G=>by
  simp at G;subst G;obtain⟨o,l,f,a⟩:=st;exact⟨o,l,⟨_,a⟩,by rw[f];simp⟩
 mobjs:=λ i v h st b G=>by
  simp at G;subst G;obtain⟨o,l,f,a⟩:=st;exact⟨o,l,⟨_,a⟩,by rw[f];simp⟩
 item:=λ A i s M Y L Q E q r u e st m=>by
  obtain⟨c,x,rfl⟩:=ND e;exact wpAny_pyNext_wide_item st (c:=c) (by simpa using x) λ P p n=>m _ P _ (VR.str (by simp[aX])) p λ b o nb e=>(n.2 b (by simpa using nb)).trans e
 go:=λ A i s t v Q E U st m=>by
  obtain⟨o,l,f,a⟩:=id st;exact zD l f ⟨_,a⟩ (by decide) (m s.heap st λ U U U e=>e)
 done:=λ A s M Y Q E q r u st m=>by exact wpAny_pyNext_wide_end q st (by simp) λ P n=>m P _ λ b o nb e=>n b o (by simpa using nb) e
 self:=λ A i s Q E st h=>wpAny_pyIter_striter_wide st h
theorem kR.vrs{h P:bG}(k:kR h P){n:List MV}{Z:List aH}(r:dK h n Z):dK P n Z:=dK.mono (λ b o e t=>k b o e (.inr t)) _ _ r
theorem MI{h P:bG}{I:Nat}{c:gV}(g:h.get? I=aA c)(a:∃Z,c.data=.fields Z)(f:fQ I h P){k:List MV}{Z:List aH}(r:dK h k Z):dK P k Z:=by
 refine dK.mono (λ b o e t=>?_) _ _ r;haveI :b≠I:=by
  rintro rfl;rw[g]at e;cases e;obtain⟨_,_,_,t⟩:=t;obtain⟨_,a⟩:=a;rw[a]at t;cases t
 exact(f.2 b this).trans e
theorem IB.tuple{O:fN}(I t:Nat)(l:List MV):IB d w O aG aB l [I] I (λ i h=>h.IsTupleIter I t i/\∃vs,h.IsTuple t vs/\dK h l vs.toList) (λ i y_ h=>h.IsTupleIter I t (i+1)/\∃vs,h.IsTuple t vs/\dK h l vs.toList)where
 keep:=λ i h P st k=>by
  obtain⟨⟨o,f,c,a⟩,vs,⟨D,q,y,n,j⟩,m⟩:=st;exact⟨⟨o,k _ _ f (.inl ⟨⟨_,a⟩,by rw[c];simp⟩),c,a⟩,vs,⟨D,k _ _ q (.inr ⟨y,_,_,j⟩),y,n,j⟩,k.vrs m⟩
 objs:=λ i h st b G=>by
  simp at G;subst G;obtain⟨⟨o,f,c,a⟩,_⟩:=st;exact⟨o,f,⟨_,a⟩,by rw[c];simp⟩
 mobjs:=λ i v h st b G=>by
  simp at G;subst G;obtain⟨⟨o,f,c,a⟩,_⟩:=st;exact⟨o,f,⟨_,a⟩,by rw[c];simp⟩
 item:=λ A i s M Y L Q E H r N e st p=>by
  obtain⟨st,vs,u,m⟩:=st;obtain⟨x,R,K⟩:=m.get e;obtain⟨S,C,_,z⟩:=id st;refine wpAny_pyNext_tuple_item st u (x:=x) (by simpa using R) λ P B g=>p x P _ (OM C ⟨_,z⟩ g K) ⟨B,vs,?_,MI C ⟨_,z⟩ g m⟩ λ b o nb e=>(g.2 b (by simpa using nb)).trans e;obtain⟨D,q,y,n,j⟩:=u;haveI :t≠I:=by rintro rfl;rw[C]at q;cases q;rw[z]at j;cases j
  exact⟨D,(g.2 t this).trans q,y,n,j⟩
 go:=λ A i s t v Q E y_ st p=>by
  obtain⟨⟨o,f,c,a⟩,_⟩:=id st;exact zD f c ⟨_,a⟩ (by decide) (p s.heap st λ y_ y_ y_ e=>e)
 done:=λ A s M Y Q E H r N st p=>by
  obtain⟨st,vs,u,m⟩:=st;haveI J:=m.size;exact wpAny_pyNext_tuple_end H st u (by simp[J]) λ P g=>p P _ λ b o nb e=>g b o (by simpa using nb) e
 self:=λ A i s Q E st h=>by
  obtain⟨st,_⟩:=st;refine oV st.typeIs sQ (iU sQ st.typeIs F.entry_tuple_iterator_iter ?_ (F.args_tuple_iterator_iter_1 _));show aU _ _ (ret (.ref I)) _ _ s;exact aM ⟨_,rfl,"tuple_iterator",_,st.typeIs,F.slot_tuple_iterator_next.lookup,h⟩
theorem IB.range{B:fN}(I:Nat)(p c:Int)(n:Nat)(a:List MV)(C:a.length=n)(y:∀(i:Nat)(L:MV),a[i]?=aA L->L=.int (p+c*(i:Int))):IB d w B aG aB a [I] I (λ i h=>IsRangeIter h I (p+c*i) (n-i) c) (λ i U h=>IsRangeIter h I (p+c*((i+1:Nat):Int)) (n-((i+1:Nat):Int)) c)where
 keep:=λ i h P st k=>k _ _ st (.inl ⟨⟨_,rfl⟩,by simp⟩);objs:=λ i h st b G=>by
  simp at G;subst G;exact⟨_,st,⟨_,rfl⟩,by simp⟩
 mobjs:=λ i v h st b G=>by
  simp at G;subst G;exact⟨_,st,⟨_,rfl⟩,by simp⟩
 item:=λ A i s M Y L Q E m r u e st g=>by
  obtain rfl:=y i L e;obtain⟨q,_⟩:=dE.mp e;refine wpAny_pyNext_range_item st (by lia) λ P f l=>g _ P _ (by simp only[VR];exact⟨_,rfl⟩) ?_ λ b o nb e=>(l.2 b (by simpa using nb)).trans e;haveI z:p+c*i+c=p+c*((i+1:Nat):Int):=by rw[nK,Int.mul_add];simp[Int.add_assoc]
  haveI x:(n:Int)-i-1=n-((i+1:Nat):Int):=by lia
  rw[z,x]at f;exact f
 go:=λ A i s t v Q E U st g=>zD st rfl ⟨_,rfl⟩ (by decide) (g s.heap st λ U U U e=>e);done:=λ A s M Y Q E m r u st g=>by exact wpAny_pyNext_range_end m st (by lia) λ P l=>g P _ λ b o nb e=>l b o (by simpa using nb) e
 self:=λ A i s Q E st h=>by
  have j:s.TypeIs (.ref I) "range_iterator":=⟨_,st,rfl⟩;refine oV j tP (iU tP j F.entry_range_iterator_iter ?_ (F.args_range_iterator_iter_1 _));show aU _ _ (ret (.ref I)) _ _ s;exact aM ⟨_,rfl,"range_iterator",_,j,F.slot_range_iterator_next.lookup,h⟩
end
section
variable{f:Program}{w:World}{g:fN}{A:Around}{E:Value->Shared->Prop}{s:Shared}{M:Nat->Nat}{Y:MH}{C:Option (Nat×List MV)}{d:List MV}{Q:Value->Shared->Prop}
noncomputable def Made(f:Program)(w:World)(g:fN)(tp:Bool)(C:Option (Nat×List MV))(d:List MV)(s:Shared)(Q:Value->Shared->Prop):Prop:=∀I a St u P,IB f w g tp C d a I St u->St 0 P->(∀b∈a,s.heap.get? b=aB/\s.heap.objs.size<=b)->(∀b o,s.heap.get? b=aA o->P.get? b=aA o)->Q (.ref I) {s with heap:=P}
theorem zV{h:bG}{b:Nat}(G:b∈[h.objs.size]):h.get? b=aB/\h.objs.size<=b:=by simp at G;subst G;exact⟨iZ h,Nat.le_refl _⟩
theorem Cr(r:eB g M Y s.heap){L:MV}{v:Value}(c:VR s.heap L v)(e:lZ Y 0 [L]=aA (C,d))(h:Made f w g aG C d s Q):aU (aY f w) A (rE v) Q E s:=by cases L with
 |str j=>
 cases e;simp only[VR]at c;obtain⟨n,t,rfl⟩:=c;cases k:(⟨j.toArray⟩:bP).cps.all (·<128);·exact wpAny_pyIter_wide k (h _ _ _ _ _ (IB.strW s.heap.objs.size j t) ⟨_,bQ _ rfl,rfl,rfl⟩ (λ b G=>zV G) λ b o e=>aK _ e)
 ·exact wpAny_pyIter_ascii k (h _ _ _ _ _ (IB.strA s.heap.objs.size j t) ⟨_,bQ _ rfl,rfl,rfl⟩ (λ b G=>zV G) λ b o e=>aK _ e)|tup l=>
 cases e;obtain⟨n,a,Z,rfl,i,_,m⟩:=c.tup_inv;exact wpAny_pyIter_tuple i (h _ _ _ _ _ (IB.tuple s.heap.objs.size a _) ⟨⟨_,bQ _ rfl,rfl,rfl⟩,Z,i.push _,dK.mono (λ U U e U=>aK _ e) _ _ m⟩ (λ b G=>zV G) λ b o e=>aK _ e)|ref a=>
 obtain⟨l,u,e⟩:=fR (show(listOf Y (.ref a)).map (λ l=>(aA (a,l),l))=aA (C,d)from e);cases e;obtain⟨n,b,Z,p,rfl,x,q,m⟩:=r.list c u;cases p;exact wpAny_pyIter_list q (h _ _ _ _ _ (IB.list a s.heap.objs.size _) ⟨_,bQ _ rfl,rfl,rfl⟩ (λ b G=>zV G) λ b o e=>aK _ e)|_=>cases e
theorem HY{a b c:Int}{t u v:Tok}{n V:Nat}(m:d.length=n)(p:∀(i:Nat)(L:MV),d[i]?=aA L->L=.int (a+c*(i:Int)))(r:rI a b c=aC)(q:jY a b c=n)(h:∀V,Made f w g aG aB d {s with toks:=V} Q):aU (aY f w) A (rE (.ref s.heap.objs.size)) Q E {s with heap:=s.heap.push {cls:=.type "range",data:=.fields #[.int a t,.int b u,.int c v]},toks:=V}:=by
  refine wpAny_pyIter_range (s:={s with heap:=_,toks:=V}) (IsRange.new s.heap a b c t u v) r ?_;have z:(s.heap.push {cls:=.type "range",data:=.fields #[.int a t,.int b u,.int c v]}).objs.size=s.heap.objs.size+1:=iE ..;haveI k:∀(x y:gV)b o,s.heap.get? b=aA o->((s.heap.push x).push y).get? b=aA o:=λ x y b o e=>aK _ (aK _ e);refine h V _ _ _ _ _ (IB.range _ a c n d m p) ?_ (λ b G=>?_) (k _ _)
  · show IsRangeIter _ _ (a+c*((0:Nat):Int)) ((n:Int)-((0:Nat):Int)) c;rw[q];haveI l:a+c*((0:Nat):Int)=a:=by simp
    haveI j:(n:Int)-((0:Nat):Int)=n:=by simp
    rw[l,j];exact bQ _ rfl
  ·simp at G;subst G;show s.heap.get? (s.heap.objs.size+1)=aB/\s.heap.objs.size<=s.heap.objs.size+1;refine⟨?_,Nat.le_succ _⟩;cases e:s.heap.get? (s.heap.objs.size+1)with
 |none=>rfl|some o=>exact absurd (cN e) (Nat.not_lt.mpr (Nat.le_succ _))
theorem HD(n:Int):jY 0 n 1=(n.toNat:Int):=by
 rw[rangeSize_one];by_cases h:0<n;·rw[if_pos h,Int.sub_zero,AH (mT h)]
 ·rw[if_neg h,Int.toNat_of_nonpos (wT.mp h)];rfl
theorem zE(p q:Int):jY p q (-1)=((p-q).toNat:Int):=by
 unfold jY;simp;split<;>omega
theorem D0{x:Int}(h:x.natAbs<=4194304):-(2^62)<=x/\x<2^62:=⟨hO (by decide) (Gr h).1,sC (Gr h).2 (by decide)⟩
theorem Ib{x:Int}(h:x.natAbs<=4194304):-2^63<=x/\x<2^63:=⟨hO (by decide) (Gr h).1,sC (Gr h).2 (by decide)⟩
theorem PA{a b:Int}(c:a.natAbs<=aX)(G:b.natAbs<=aX):rI a b (-1)=aC:=by
 unfold aX at c G;haveI V:=Ib (lm c);haveI e:=Ib (lm G);unfold rI;rw[zE];simp only[oW.Range.rangeFitsLong,fB,nN,decide_eq_true_eq,beq_iff_eq];refine⟨⟨⟨⟨V,e⟩,by decide⟩,Ib (x:=((a-b).toNat:Int)) ?_⟩,.inr ?_⟩;·exact Int.toNat_le.mpr (hO AJ (mQ.mpr (Nat.le_trans (Int.natAbs_sub_le a b) (Nat.le_trans (Nat.add_le_add c G) (by decide)))))
 ·rw[if_neg (by decide),show b+(-1+1)=b from Int.add_zero b];exact dC.mpr ⟨decide_eq_true e.1,decide_eq_true e.2⟩
theorem G9{n:Int}{t:Tok}(a:n.natAbs<=aX)(h:∀V,Made f w g aG aB (kJ n) {s with toks:=V} Q):aU (aY f w) A (pN (.type "range") [.int n t]) (λ r L=>aU (aY f w) A (rE r) Q E L) E s:=by
 unfold aX at a;refine call_range_1 (HY (n:=n.toNat) (by simp[kJ]) (λ i D e=>?_) (small_one (by decide) (by decide) (D0 (lm a)).1 (D0 (lm a)).2) (HD n) h);rw[(PH e).2];simp
theorem Cg{p q:Int}{t u v:Tok}(j:p.natAbs<=aX)(c:q.natAbs<=aX)(h:∀V,Made f w g aG aB (vC p q) {s with toks:=V} Q):aU (aY f w) A (pN (.type "range") [.int p t,.int q u,.int (-1) v]) (λ r L=>aU (aY f w) A (rE r) Q E L) E s:=by
 haveI a:=j;haveI b:=c;unfold aX at j c;refine call_range_3 (by decide) (HY (n:=(p-q).toNat) (by simp[vC]) (λ i D e=>?_) (PA a b) (zE p q) h) (Or.inl (PyProof.noPylong_small (by omega)));rw[(OY e).2];congr 1;omega
end
theorem UL{t:aR}(h:AM t=aC):∃a b c,t=.Tuple a b c:=by cases t with
 |Tuple a b c=>exact⟨a,b,c,rfl⟩|_=>exact bft h
theorem WB{s:List Nat}{i:Nat}{L:MV}(e:(FK s)[i]?=aA L):∃c,s[i]?=aA c/\L=.tup [.int (i:Int),.str [c]]:=by
 unfold FK at e;rw[gF]at e;obtain⟨j,a,rfl⟩:=bO.mp e;rw[List.getElem?_zipIdx]at a;obtain⟨c,b,rfl⟩:=bO.mp a;exact⟨c,b,by simp⟩
theorem YU(a:bK)(w:cK){A:cW}(b:A.handled=aB)(q:eI)(x:bP)(t:Tok):Draws a w A q [q] x.cps.size (λ i v=>∃c u,x.cps[i]?=aA c/\v=.str ⟨#[c]⟩ u) (λ i h=>h.IsStrIter q (qJ x) x t i):=by
 unfold qJ;split;·exact Draws.strAscii b q x t
 ·exact Draws.strWide b q x t
theorem sP(x:bP):nQ (qJ x)≠.type "frame":=by unfold qJ;split<;>simp
theorem IB.enum{prog:bK}{w:cK}{N0:fN}(e q:Nat)(m:e≠q)(j:List Nat)(g:Tok):IB prog w N0 aC aB (FK j) [e,q] e (λ i h=>(∃p,IsEnum h e q i p)/\h.IsStrIter q (qJ ⟨j.toArray⟩) ⟨j.toArray⟩ g i) (λ i v h=>(∃x T,v=.ref T/\IsEnumOut h e q ((i:Int)+1) x T)/\h.IsStrIter q (qJ ⟨j.toArray⟩) ⟨j.toArray⟩ g (i+1))where
 keep:=λ i h P st k=>by
  obtain⟨⟨p,a⟩,o,d,f,l⟩:=st;exact⟨⟨p,k _ _ a (.inl ⟨⟨_,rfl⟩,by simp⟩)⟩,o,k _ _ d (.inl ⟨⟨_,l⟩,by rw[f];exact sP _⟩),f,l⟩
 objs:=λ i h st b G=>by
  obtain⟨⟨p,a⟩,o,d,f,l⟩:=st;simp at G;rcases G with rfl|rfl;·exact⟨_,a,⟨_,rfl⟩,by simp⟩
  ·exact⟨o,d,⟨_,l⟩,by rw[f];exact sP _⟩
 mobjs:=λ i v h st b G=>by
  obtain⟨⟨x,T,rfl,a⟩,o,d,f,l⟩:=st;simp at G;rcases G with rfl|rfl;·exact⟨_,a,⟨_,rfl⟩,by simp⟩
  ·exact⟨o,d,⟨_,l⟩,by rw[f];exact sP _⟩
 item:=λ A i s M Y L Q E N r X U st n=>by
  obtain⟨⟨p,a⟩,st⟩:=st;obtain⟨c,S,rfl⟩:=WB U;obtain⟨O,_⟩:=dE.mp S;refine wpAny_pyNext_enum_itemD (YU prog w (A:=A.in1) N q ⟨j.toArray⟩ g) a st (by simpa using O) m (by simp[m]) λ x P a1 Z d K y W hk=>?_;obtain⟨I,u,D,rfl⟩:=Z;haveI :I=c:=by
   have R:j[i]?=aA I:=by simpa using D
   rw[S]at R;cases R;rfl
  subst this;refine n _ P _ ?_ ⟨⟨_,_,rfl,d⟩,K⟩ λ b o nb B=>hk b o (λ z=>nb (by simp[z])) (λ z=>nb (by simp[z])) B;simp only[VR];exact⟨by simp[aX],_,_,_,_,rfl,y,rfl,rfl,dK.cons (by simp only[VR];exact⟨_,rfl⟩) (dK.cons (VR.str (by simp[aX])) dK.nil)⟩
 go:=λ A i s t v Q E H st n=>by
  obtain⟨⟨x,T,rfl,d⟩,st⟩:=st;have H:=H rfl;obtain⟨_,_,_,rfl⟩:=UL H
  ·refine wpAny_letOwnedTupleGo_enum d λ P a C=>n P ⟨⟨_,a⟩,?_⟩ λ b o nb B=>(C.2 b λ z=>nb (by simp[z])).trans B;obtain⟨o,J,f,l⟩:=st;exact⟨o,(C.2 q (jA m)).trans J,f,l⟩
 done:=λ A s M Y Q E N r X st n=>by
  obtain⟨⟨p,a⟩,st⟩:=st;haveI V:(FK j).length=(⟨j.toArray⟩:bP).cps.size:=by simp[FK]
  rw[V]at st;exact wpAny_pyNext_enum_endD (YU prog w (A:=A.in1) N q ⟨j.toArray⟩ g) a st λ P C=>n P _ λ b o nb B=>C b o (λ z=>nb (by simp[z])) B
 self:=λ A i s Q E st h=>by
  obtain⟨⟨p,a⟩,_⟩:=st;have y:s.TypeIs (.ref e) "enumerate":=⟨_,a,rfl⟩;refine oV y yD (iU yD y F.entry_enumerate_iter ?_ (F.args_enumerate_iter_1 _));show aU _ _ (ret (.ref e)) _ _ s;exact aM ⟨_,rfl,"enumerate",_,y,F.slot_enumerate_next.lookup,h⟩
section
variable{a:Program}{w:World}{c:fN}{A:Around}{E:Value->Shared->Prop}{s:Shared}{Q:Value->Shared->Prop}
theorem EM(h:bG):h.get? (h.objs.size+1)=aB:=by cases e:h.get? (h.objs.size+1)with
 |none=>rfl|some o=>exact absurd (cN e) (kA.mpr (lW _))
theorem Fy{j:List Nat}{t:Tok}(h:Made a w c aC aB (FK j) s Q):aU (aY a w) A (pN (.type "enumerate") [.str ⟨j.toArray⟩ t]) (λ r i=>aU (aY a w) A (rE r) Q E i) E s:=by
 refine call_enumerate_str λ P f d g hk=>?_;haveI e:s.heap.objs.size+1≠s.heap.objs.size:=Nat.succ_ne_self _;have I:=IB.enum (prog:=a) (w:=w) (N0:=c) (s.heap.objs.size+1) s.heap.objs.size e j t;refine I.self A 0 {s with heap:=P} Q E ⟨⟨_,f⟩,d⟩ (h _ _ _ _ P I ⟨⟨_,f⟩,d⟩ (λ b G=>?_) hk);simp at G;rcases G with rfl|rfl;·exact⟨EM _,lW _⟩
 ·exact⟨iZ _,aZ _⟩
end
section
variable{a:Program}{w:World}{R:iK}{b:kP}{G:Gl}{d:Nat}{N:Env}{l:List Env}{j:List Str}
variable{A:Around}{E:Value->Shared->Prop}{s:Shared}{g:Nat->Nat}{Y:MH}{B:Loc}{Q:Value->Shared->Prop}
noncomputable def BA(a:Program)(w:World)(R:iK)(b:kP)(G:Gl)(d:Nat)(N:Env)(l:List Env)(j:List Str)(V:List ME)(n:List aR):Prop:=∀m p,V=[m]->n=[p]->SE a w R b G d N l j m p
theorem JO(rk:cR R)(bk:ES R)(k:dZ R N j){kind:Nat}{o:List ME}{V:aR}{u:List aR}(hk:gH N.scope.names kind V=aA u)(hp:iD N u)(a2:o.length=u.length)(a3:GS a w R b G d N l j o u)(a5:BA a w R b G d N l j o u){K:Option (Nat×List MV)×List MV->MH->Prop}{x:KE}(ao:xN A l d)(S:St R N l j g B Y s.heap)(m:dP b G o B Y (λ Z Y=>OptK (lZ Y kind Z) λ C=>K C Y) x)(hx:XE R l .none g Y x E s)(h:∀c I P f C,cU R.N0 g Y s.heap c I P->K C I->Made a w R.N0 (kind==2) C.1 C.2 {s with heap:=P,toks:=f} Q):aU (aY a w) A (eval V N) (λ r i=>aU (aY a w) A (rE r) Q E i) E s:=by
  refine uR (M:=λ kind V u=>∀(o:List ME),iD N u->o.length=u.length->GS a w R b G d N l j o u->BA a w R b G d N l j o u->dP b G o B Y (λ Z Y=>OptK (lZ Y kind Z) λ C=>K C Y) x->(∀c I P f C,cU R.N0 g Y s.heap c I P->K C I->Made a w R.N0 (kind==2) C.1 C.2 {s with heap:=P,toks:=f} Q)->aU (aY a w) A (eval V N) (λ r i=>aU (aY a w) A (rE r) Q E i) E s) ?_ ?_ hk o hp a2 a3 a5 m h
  ·intro p o hp a2 a3 a5 m h;cases o with
 |nil=>cases a2|cons O r=>cases r with
 |cons _ _=>cases a2|nil=>
   refine a5 O p rfl rfl A s g B Y _ x _ E ao S (CQ.mp m) (λ c I P f L v p vr q=>?_) hx;obtain⟨⟨H,al⟩,e,q⟩:=fJ (kr.mp q);exact Cr (s:={s with heap:=P,toks:=f}) p.real vr e (h c I P f _ p q)
  · intro kind y W F p2 U a1 hg o hp a2 a3 U m h;haveI b0:(kind=1/\y="range")\/(kind=2/\y="enumerate")\/(kind=3/\y="range"):=by
      unfold kindOf at a1;rcases eK.mp a1 with a1|a1
      · rcases eK.mp a1 with a1|a1;·exact .inl ⟨bC (bl (bl a1)),bC (br (bl a1))⟩
        ·exact .inr (.inl ⟨bC (bl (bl a1)),bC (br (bl a1))⟩)
      ·exact .inr (.inr ⟨bC (bl (bl a1)),bC (br (bl a1))⟩)
    rcases b0 with⟨rfl,rfl⟩|⟨rfl,rfl⟩|⟨rfl,rfl⟩
    ·refine wO (Q:=λ r i=>aU (aY a w) A (rE r) Q E i) (hf:=bk.range) rk k hg (λ h=>kC _ h) hp a3 ao S m hx ?_;intro c I P f D Z X S' vr q;obtain⟨C,e,qk⟩:=fJ q;obtain⟨n,rfl,z,q1⟩:=iu e;rw[q1]at qk;obtain⟨v,r,rfl,v1,v2⟩:=vr.inv;obtain rfl:=v2.inv0;obtain⟨t,rfl⟩:=v1.int_inv;exact G9 (s:={s with heap:=P,toks:=f}) z λ a4=>h c I P a4 _ X qk
    ·refine wO (Q:=λ r i=>aU (aY a w) A (rE r) Q E i) (hf:=bk.enum) rk k hg (λ h=>kC _ h) hp a3 ao S m hx ?_;intro c I P f D Z X S' vr q;obtain⟨C,e,qk⟩:=fJ q;obtain⟨n,rfl,q1⟩:=qi e;rw[q1]at qk;obtain⟨v,r,rfl,v1,v2⟩:=vr.inv;obtain rfl:=v2.inv0;simp only[VR]at v1;obtain⟨hl,t,rfl⟩:=v1;exact Fy (s:={s with heap:=P,toks:=f}) (h c I P f _ X qk)
    ·refine wO (Q:=λ r i=>aU (aY a w) A (rE r) Q E i) (hf:=bk.range) rk k hg (λ h=>kC _ h) hp a3 ao S m hx ?_;intro c I P f D Z X S' vr q;obtain⟨C,e,qk⟩:=fJ q;obtain⟨x1,x2,rfl,a6,ap,q1⟩:=j4 e;rw[q1]at qk;obtain⟨v,r,rfl,v1,v2⟩:=vr.inv;obtain⟨v',r,rfl,v3,v4⟩:=v2.inv;obtain⟨b2,r,rfl,v5,v6⟩:=v4.inv;obtain rfl:=v6.inv0;obtain⟨t,rfl⟩:=v1.int_inv;obtain⟨J,rfl⟩:=v3.int_inv;obtain⟨b1,rfl⟩:=v5.int_inv;exact Cg (s:={s with heap:=P,toks:=f}) a6 ap λ a4=>h c I P a4 _ X qk
end
noncomputable def uY(N:dL):List (bP×dA)->List (bP×eI)->List (bP×eI)
 |[],G=>G|(n,k)::r,G=>if k==.free then uY N r ((n,(N.cells.lookup n).getD 0)::G)else uY N r G
theorem PO{N:dL}:∀(E:List (bP×dA))(G:List (bP×eI)),(∀x∈E,x.2=.free->(N.cells.lookup x.1).isSome)->(forIn E G λ(x:bP×dA)(f:List (bP×eI))=>(match x with|(u,kind)=>if(kind==gJ)=aC then do let a<-cellOf N u;iB (kU ((u,a)::f))else iB (kU f):GH (ForInStep (List (bP×eI)))))=(iB (uY N E G):GH (List (bP×eI))):=by
 intro l;induction l with
 |nil=>
 intro G U;simp[uY]|cons i r b=>
 intro G h;obtain⟨n,k⟩:=i;have e:=λ a=>b a λ x g=>h x (aV _ g);rw[iI];cases hk:k==gJ
 ·simp only[hk,eV,if_false,rU,uY];exact e G
 ·obtain⟨c,j⟩:=aS.mp (h (n,k) (aW ..) (by simpa using hk));haveI d:N.cells.lookup n=aA c:=j;simp only[hk,if_true,cellOf,d,rU,uY,Option.getD_some];exact e _
theorem PE{N:dL}{a:oP}(h:∀x∈a.names,x.2=.free->(N.cells.lookup x.1).isSome):closureFor a N=iB (uY N a.names []):=by
 rw[<-PO a.names [] h];unfold closureFor;exact bind_pure _
theorem zM{N:dL}:∀{E:List (bP×dA)}{acc:List (bP×eI)},(∀x∈E,x.2=.free->(N.cells.lookup x.1).isSome)->(∀x c,acc.lookup x=aA c->N.cells.lookup x=aA c)->∀x c,(uY N E acc).lookup x=aA c->N.cells.lookup x=aA c:=by
 intro l;induction l with
 |nil=>
 intro acc U b x c e;exact b x c e|cons i r a=>
    intro acc h b x c e;obtain⟨n,k⟩:=i;unfold uY at e;have P:∀x∈r,x.2=.free->(N.cells.lookup x.1).isSome:=λ x j=>h x (aV _ j);split at e
    · rename_i hk;obtain⟨I,g⟩:=aS.mp (h (n,k) (aW ..) (by simpa using hk));haveI f:N.cells.lookup n=aA I:=g;refine a P (λ y d z=>?_) x c e;rw[cM]at z;split at z
      ·rename_i q;obtain rfl:=beq_iff_eq.mp q;rw[f]at z⊢;exact z
      ·exact b y d z
    ·exact a P b x c e
theorem ax{env:dL}:∀{E:List (bP×dA)}{acc:List (bP×eI)}{x:bP},((x,gJ)∈E\/(acc.lookup x).isSome)->((uY env E acc).lookup x).isSome:=by
 intro c;induction c with
 |nil=>
    intro acc x h;rcases h with h|h;·cases h
    ·exact h|cons b r a=>
    intro acc x h;obtain⟨n,k⟩:=b;unfold uY;split
    · rename_i hk;refine a ?_;rcases h with h|h
      · rcases cD.mp h with h|h
        ·cases h;right;simp[cM]
        ·exact .inl h
      · right;rw[cM];split;·rfl
        ·exact h
    · rename_i hk;refine a ?_;rcases h with h|h
      · rcases cD.mp h with h|h
        ·cases h;exact absurd rfl hk
        ·exact .inl h
      ·exact .inr h
theorem AF{N:dL}(hk:(N.scope.kind==.function)=aC):∀{E:List (bP×dA)}{x:bP},E.lookup x=aA .free->N.kindOf x=aA .cell->(E.map λ(n,k)=>if(k==gJ&&N.scope.kind==.function&&N.kindOf n==aA .cell)then(n,mZ)else(n,k)).lookup x=aA .cell:=by
 intro E x;induction E with
 |nil=>intro h U;cases h|cons p r d=>
 intro h c;obtain⟨n,k⟩:=p;show List.lookup x ((if(k==gJ&&N.scope.kind==.function&&N.kindOf n==aA .cell)=aC then(n,mZ)else(n,k))::_)=_;cases a:x==n with
 |true=>
 simp only[cM,a]at h;cases h;obtain rfl:=beq_iff_eq.mp a;haveI :(gJ==gJ&&N.scope.kind==.function&&N.kindOf x==aA .cell)=aC:=by rw[hk,c];rfl
 rw[if_pos this];simp[cM]|false=>
 simp only[cM,a]at h;by_cases b:(k==gJ&&N.scope.kind==.function&&N.kindOf n==aA .cell)=aC;·rw[if_pos b];simp only[cM,a];exact d h c
 ·rw[if_neg b];simp only[cM,a];exact d h c
structure vE(ns:List bP)(sc:List (bP×dA))(s:oP)(tn cn:List bP):Prop where
 kind:s.kind=.function
 names:∀x∈s.names,x.2≠.cell/\(x.2=.local->s.names.lookup x.1=aA .local)/\(x.2=.free->x.1∈cn)htn:∀x∈tn,s.names.lookup x=aA .local/\(x==("__debug__":bP))=aG
 hcn:∀x∈cn,s.names.lookup x=aA .free/\sc.lookup x=aA .cell/\x∈ns/\(x==("__debug__":bP))=aG/\(x==("__classdict__":bP))=aG
 nodup:(tn++cn).Nodup
set_option tactic.hygienic true in theorem WA{ns:List bP}{sc:List (bP×dA)}{s:oP}{tn cn:List bP}(h:QB ns sc s tn cn=aC):vE ns sc s tn cn:=by
  unfold QB at h;simp only[fB,bE,decide_eq_true_eq,beq_iff_eq,fF,yH]at h;obtain⟨⟨⟨⟨h1,h2⟩,h3⟩,h4⟩,h5⟩:=h;refine⟨?_,λ x hx=>?_,h3,λ x hx=>?_,h5⟩
  · split at h1;·assumption
    ·cases h1
  · have :=h2 x hx;split at this;·cases this
    ·rename_i hk;exact⟨by rw[hk];simp,λ y_=>by simpa using this,λ z=>by rw[hk]at z;cases z⟩
    ·rename_i hk;exact⟨by rw[hk];simp,λ z=>(by rw[hk]at z;cases z),λ y_=>by simpa using this⟩
    ·rename_i n1 n2 n3;exact⟨n1,λ z=>absurd z n2,λ z=>absurd z n3⟩
  ·obtain⟨⟨⟨⟨a,b⟩,c⟩,e⟩,f⟩:=h4 x hx;exact⟨a,b,c,e,f⟩
structure pC(sc:List (bP×dA))(env:dL):Prop where
 glb:∀x,Internal.glb sc x=aC->Internal.glb env.scope.names x=aC
 cell:∀x,sc.lookup x=aA .cell->env.kindOf x=aA .cell
 loc:∀x,sc.lookup x=aA .local->env.kindOf x=aA .local
section
variable{R:iK}{N:Env}{l:List Env}{F K t:List Str}{M:Nat->Nat}{B:Loc}{Y:MH}{h:Heap}{Z:Scope}{A:List (Str×NameKind)}
theorem EO(S:St R N l F M B Y h)(g:pC A N)(f:vE F A Z K t){x:Str}{i:Nat}(e:x∈t)(j:F[i]?=aA x):∃(c:eI)(u:Option aH),N.kindOf x=aA .cell/\N.cells.lookup x=aA c/\h.IsCell c u/\∀L,(B[i]?.join)=aA L->∃v,u=aA v/\VR h L v:=by
 have hk:N.kindOf x=aA .cell:=g.cell x (f.hcn x e).2.1;obtain⟨m,n,k⟩:=S.loc;have :=k i x j;unfold jF at this;rw[hk]at this;obtain⟨c,u,a,b,d⟩:=this;exact⟨c,u,hk,a,b,d⟩
theorem zX(S:St R N l F M B Y h)(d:pC A N)(b:vE F A Z K t):∀x∈Z.names,x.2=.free->(N.cells.lookup x.1).isSome:=λ x g j=>by
 have a:=(b.names x g).2.2 j;obtain⟨i,f⟩:=List.mem_iff_getElem?.mp (b.hcn _ a).2.2.1;obtain⟨c,_,_,e,_⟩:=EO S d b a f;rw[e];rfl
theorem NT(I:dZ R N F)(S:St R N l F M B Y h)(d:pC A N)(a:vE F A Z K t)(C:eI):dZ R (iA Z (uY N Z.names []) C N) (K++t):=by
 have X:=zM (zX S d a) (acc:=[]) (λ x c e=>by simp at e);refine⟨a.kind,I.glob,I.bld,λ x b=>?_,a.nodup,λ x y c e E=>I.cinj x y c (X x c e) (X y c E),λ x c e=>I.clow x c (X x c e)⟩;rcases List.mem_append.mp b with b|b;·exact(a.htn x b).2
 ·exact(a.hcn x b).2.2.2.1
theorem rH{N:Env}:∀{E:List (Str×NameKind)}{x:Str}{k:NameKind},E.lookup x=aA k->k≠.free->(E.map λ(n,k)=>if(k==NameKind.free&&N.scope.kind==.function&&N.kindOf n==aA .cell)then(n,NameKind.cell)else(n,k)).lookup x=aA k:=by
 intro E x k;induction E with
 |nil=>intro h U;cases h|cons p r c=>
 intro h hk;obtain⟨n,b⟩:=p;show List.lookup x ((if(b==NameKind.free&&N.scope.kind==.function&&N.kindOf n==aA .cell)=aC then(n,NameKind.cell)else(n,b))::_)=_;cases a:x==n with
 |true=>
 simp only[List.lookup_cons,a]at h;cases h;haveI :¬(b==NameKind.free&&N.scope.kind==.function&&N.kindOf n==aA .cell)=aC:=by intro q;simp only[fB,beq_iff_eq]at q;exact hk q.1.1
 rw[if_neg this];simp only[List.lookup_cons,a]|false=>
 simp only[List.lookup_cons,a]at h;split<;>(simp only[List.lookup_cons,a];exact c h hk)
theorem mem_lookup{c e:Type}[BEq c][LawfulBEq c]:∀{l:List (c×e)}{x:c}{y:e},l.lookup x=aA y->(x,y)∈l:=by
 intro g;induction g with
 |nil=>
 intro U U h;simp at h|cons f r d=>
 intro x y h;obtain⟨a,b⟩:=f;rw[List.lookup_cons]at h;split at h;·rename_i q;obtain rfl:=beq_iff_eq.mp q;cases h;exact List.mem_cons_self ..
 ·exact List.mem_cons_of_mem _ (d h)
theorem qz(b:vE F A Z K t)(X:List (Str×eI))(C:eI):pC Z.names (iA Z X C N):=by
 refine⟨λ x a=>?_,λ x a=>absurd rfl (b.names _ (mem_lookup a)).1,λ x a=>rH a (by simp)⟩;unfold Internal.glb at a⊢;simp only[fB,beq_iff_eq]at a⊢;exact⟨rH a.1 (by simp),a.2⟩
theorem aa(I:dZ R N F)(S:St R N l F M B Y h)(D:pC A N){f:List Nat}(s:vE F A Z K (f.map λ i=>F[i]?.getD Str.empty))(w:∀i∈f,i<F.length){C:eI}{P:Heap}{m:Str->Option aH}(k:∀b o,h.get? b=aA o->P.get? b=aA o)(J:P.Ns C m):Dy (iA Z (uY N Z.names []) C N) (K++f.map λ i=>F[i]?.getD Str.empty) (List.replicate K.length aB++f.map λ i=>B[i]?.join) P:=by
  refine⟨m,J,λ j x q=>?_⟩;rw[List.getElem?_append]at q;rw[List.getElem?_append,List.length_replicate];split at q
  ·rename_i a;haveI G:=s.htn x (List.mem_of_getElem? q);have hk:(iA Z (uY N Z.names []) C N).kindOf x=aA .local:=lookup_relabel_local G.1;rw[if_pos a,List.getElem?_replicate,if_pos a];unfold jF;rw[hk];intro L e;cases e
  · rename_i a;rw[List.getElem?_map]at q;obtain⟨i,E,rfl⟩:=bO.mp q;have d:i∈f:=List.mem_of_getElem? E;haveI z:F[i]?=aA (F[i]?.getD Str.empty):=by rw[List.getElem?_eq_getElem (w i d)];rfl
    have n:F[i]?.getD Str.empty∈f.map λ i=>F[i]?.getD Str.empty:=List.mem_map.mpr ⟨i,d,rfl⟩;obtain⟨c,u,hk,W,⟨Q,X,H⟩,O⟩:=EO S D s n z;have g:=s.hcn _ n;haveI y:(iA Z (uY N Z.names []) C N).kindOf (F[i]?.getD Str.empty)=aA .cell:=AF (by rw[I.kind];rfl) g.1 hk;obtain⟨V,p⟩:=aS.mp (ax (env:=N) (acc:=[]) (.inl (mem_lookup g.1)));have :=zM (zX S D s) (acc:=[]) (λ x c e=>by simp at e) _ _ p;rw[W]at this;cases this;rw[if_neg a,List.getElem?_map,E];unfold jF;rw[y];refine⟨c,u,p,⟨Q,k _ _ X,H⟩,λ L e=>?_⟩;obtain⟨v,rfl,r⟩:=O L e;exact⟨v,rfl,VR.mono (λ U U e U=>k _ _ e) _ _ r⟩
end
noncomputable def UK:Loc->List Nat->List MV->Loc
 |B,i::n,m::k=>UK (B.set i (aA m)) n k|B,_,_=>B
theorem FO{g:List Nat}{L:MV}{B F:Loc}(h:wN g L B=aA F):(∃i,g=[i]/\F=B.set i (aA L))\/∃k,L=.tup k/\g.length=k.length/\(∀i,g≠[i])/\F=UK B g k:=by
 unfold wN at h;cases X:lU g with
 |some i=>
 rw[X]at h;exact .inl ⟨i,gG X,(bH h).symm⟩|none=>
 rw[X]at h;obtain⟨l,e,h⟩:=cA h;have a:∀i,g≠[i]:=λ i q=>by rw[q]at X;cases X
 refine .inr ⟨l,KH e,?_⟩;cases c:NK g with
 |some t=>
 rw[c]at h;obtain⟨p,b,h⟩:=fR h;refine⟨by rw[rO c,rO b];rfl,a,?_⟩;rw[rO c,rO b,<-h];rfl|none=>
 rw[c]at h;obtain⟨t,d,h⟩:=cA h;obtain⟨p,b,h⟩:=fR h;refine⟨by rw[yU d,yU b];rfl,a,?_⟩;rw[yU d,yU b,<-h];rfl
section
variable{g:Program}{w:World}{R:iK}{env:Env}{l:List Env}{F:List Str}{A:Around}{E:Value->Shared->Prop}{V K:Nat->Nat}{L Y:MH}{C:Heap}
noncomputable def Cu(env:Env)(F:List Str)(G:List Nat)(b:Nat):Prop:=b≠env.locals/\∀i∈G,∀c,env.kindOf (F[i]?.getD Str.empty)=aA .cell->env.cells.lookup (F[i]?.getD Str.empty)=aA c->b≠c
noncomputable def QD(R:iK)(env:Env)(l:List Env)(F:List Str)(V:Nat->Nat)(L:MH)(C:Heap)(K:Nat->Nat)(Y:MH)(G:List Nat)(X:Loc)(Q:Unit->Shared->Prop)(s:Shared):Prop:=∀P f,St R env l F K X Y P->cU R.N0 V L C K Y P->kR s.heap P->(∀b o,Cu env F G b->s.heap.get? b=aA o->P.get? b=aA o)->Q () {s with heap:=P,toks:=f}
theorem SG{i:Nat}(a:i<F.length):F[i]?=aA (F[i]?.getD Str.empty):=by rw[List.getElem?_eq_getElem a];rfl
theorem cf(M:cR R)(I:dZ R env F)(f:Nat->Value->GH Unit):∀(G:List Nat)(k:List MV)(Z:List Value)(s:Shared)(B:Loc)(Q:Unit->Shared->Prop),(∀i∈G,i<F.length/\FQ env C (F[i]?.getD Str.empty))->(∀i∈G,∀(v:Value)(s:Shared)(Q:Unit->Shared->Prop),aU (aY g w) A (EY env (F[i]?.getD Str.empty) v) Q E s->aU (aY g w) A (f i v) Q E s)->St R env l F K B Y s.heap->cU R.N0 V L C K Y s.heap->dK s.heap k Z->G.length=k.length->QD R env l F V L C K Y G (UK B G k) Q s->aU (aY g w) A (assignInOrder (G.map f) Z) Q E s:=by
 intro G;induction G with
 |nil=>
  intro k Z s B Q U U S p d c h;cases k with
  |cons _ _=>cases c|nil=>
  obtain rfl:=d.inv0;exact uP (h s.heap s.toks S p (.refl _) λ U U U e=>e)
 |cons i G O=>
 intro k Z s B Q u r S p d c h;cases k with
 |nil=>cases c|cons m k=>
 obtain⟨v,Z,rfl,P,N⟩:=d.inv;obtain⟨X,x⟩:=u i (List.mem_cons_self ..);refine vD (r i (List.mem_cons_self ..) v s _ (vP M I S p (SG X) x P λ y D J p1 t z=>?_));refine O k Z {s with heap:=y,toks:=D} _ Q (λ j a=>u j (List.mem_cons_of_mem _ a)) (λ j a=>r j (List.mem_cons_of_mem _ a)) J p1 (t.vrs N) (Nat.succ.inj c) ?_;intro W n S2 p2 H o2;exact h W n S2 p2 (t.trans H) λ b o q e=>o2 b o ⟨q.1,λ j a=>q.2 j (List.mem_cons_of_mem _ a)⟩ (z b o q.1 (q.2 i (List.mem_cons_self ..)) e)
theorem HX{env:Env}:∀{B:List Str}{X:List aR},kY B X=aC->(nR X env).findIdx? (·.1)=aB/\(nR X env).length=B.length/\∃u:List fX,u.length=B.length/\(nR X env).map (·.2)=(B.zip u).map λ x=>uS (.Name x.1 x.2) env:=by
 intro B;induction B with
 |nil=>
  intro X h;cases X with
  |nil=>exact⟨rfl,rfl,[],rfl,rfl⟩|cons _ _=>cases h
 |cons x B f=>
 intro X h;cases X with
 |nil=>cases h|cons e X=>
 obtain⟨a,b,u,c,d⟩:=f (br h);refine gW (M:=λ e=>(nR (e::X) env).findIdx? (·.1)=aB/\(nR (e::X) env).length=(x::B).length/\∃u:List fX,u.length=(x::B).length/\(nR (e::X) env).map (·.2)=((x::B).zip u).map λ x=>uS (.Name x.1 x.2) env) (bl h) λ p=>?_;refine⟨?_,congrArg Nat.succ b,p::u,congrArg Nat.succ c,congrArg (uS (.Name x p) env::·) d⟩;show List.findIdx? _ ((aG,uS (.Name x p) env)::nR X env)=aB;rw[List.findIdx?_cons,a];rfl
theorem QI(X:cR R)(I:dZ R env F):∀(G:List Nat)(u:List fX)(k:List MV)(Z:List Value)(s:Shared)(B:Loc)(Q:Unit->Shared->Prop),(∀i∈G,i<F.length/\FQ env C (F[i]?.getD Str.empty))->u.length=G.length->St R env l F K B Y s.heap->cU R.N0 V L C K Y s.heap->dK s.heap k Z->G.length=k.length->QD R env l F V L C K Y G (UK B G k) Q s->aU (aY g w) A (assignInOrder (((G.map λ i=>F[i]?.getD Str.empty).zip u).map λ x=>uS (.Name x.1 x.2) env) Z) Q E s:=by
 intro G;induction G with
 |nil=>
  intro u k Z s B Q U U S p c a h;cases k with
  |cons _ _=>cases a|nil=>
  obtain rfl:=c.inv0;exact uP (h s.heap s.toks S p (.refl _) λ U U U e=>e)
 |cons i G ih=>
 intro u k Z s B Q H r S p c a h;cases u with
 |nil=>cases r|cons q u=>cases k with
 |nil=>cases a|cons m k=>
 obtain⟨v,Z,rfl,z,P⟩:=c.inv;obtain⟨J,i2⟩:=H i (List.mem_cons_self ..);refine vD (uE (vP X I S p (SG J) i2 z λ y f N p1 t D=>?_));refine ih u k Z {s with heap:=y,toks:=f} _ Q (λ j d=>H j (List.mem_cons_of_mem _ d)) (Nat.succ.inj r) N p1 (t.vrs P) (Nat.succ.inj a) ?_;intro W n O p2 M o2;exact h W n O p2 (t.trans M) λ b o q e=>o2 b o ⟨q.1,λ j d=>q.2 j (List.mem_cons_of_mem _ d)⟩ (D b o q.1 (q.2 i (List.mem_cons_self ..)) e)
theorem EQ(O:cR R)(I:dZ R env F){s:Shared}{B z:Loc}(hh:A.handled=aB)(S:St R env l F K B Y s.heap)(p:cU R.N0 V L C K Y s.heap){G:List Nat}{t:aR}{U:MV}{v:Value}{Q:Unit->Shared->Prop}(d:∀i∈G,i<F.length/\FQ env C (F[i]?.getD Str.empty))(c:sD (G.map λ i=>F[i]?.getD Str.empty) t=aC)(vr:VR s.heap U v)(j:wN G U B=aA z)(h:QD R env l F V L C K Y G z Q s):aU (aY g w) A (uS t env v) Q E s:=by
 rcases FO j with⟨i,rfl,rfl⟩|⟨k,rfl,hl,N,rfl⟩
 ·obtain⟨i1,i2⟩:=d i (List.mem_cons_self ..);exact gW (M:=λ t=>aU (aY g w) A (uS t env v) Q E s) (show lY (F[i]?.getD Str.empty) t=aC from c) λ W=>uE (vP O I S p (SG i1) i2 vr λ y D S1 p1 k1 P=>h y D S1 p1 k1 λ b o q e=>P b o q.1 (q.2 i (List.mem_cons_self ..)) e)
 ·obtain⟨_,a,Z,rfl,hT,_,hv⟩:=vr.tup_inv;unfold sD at c;cases X:lU (G.map λ i=>F[i]?.getD Str.empty)with
 |some x=>
 have :=congrArg List.length (gG X);rw[List.length_map]at this;obtain⟨i,d⟩:=List.length_eq_one_iff.mp this;exact absurd d (N i)|none=>
 rw[X]at c;refine DC (M:=λ t=>aU (aY g w) A (uS t env (.ref a)) Q E s) c λ m r W c=>?_;obtain⟨e1,e2,u,e3,e4⟩:=HX (env:=env) c;haveI H:(G.map λ i=>F[i]?.getD Str.empty).length=Z.size:=by rw[List.length_map,hl,<-hv.length];simp
 refine wpAny_assign_Tuple hh hT (e2.trans H) e1 λ y x1=>?_;rw[e4];have g1:∀b o,s.heap.get? b=aA o->y.get? b=aA o:=λ b o e=>x1 b o (Nat.ne_of_lt (Heap.lt_size e)) e;have q1:cU R.N0 K Y s.heap K Y y:=.grown S.real g1;refine QI O I G u k _ {s with heap:=y} _ Q d (e3.trans (by simp)) (S.post O q1) (p.trans q1) (q1.ev.vrs hv) hl ?_;intro n J S2 p2 k2 o2;exact h n J S2 p2 (λ b o e f=>k2 b o (g1 b o e) f) λ b o q e=>o2 b o q (g1 b o e)
end
noncomputable def LY(Z:List aR)(N:dL):GH Bool:=forIn Z aC λ c r=>if r=aC then do let I<-isTrue c N (eval c N);iB (kU I)else iB (kU r)
section
variable(a:Program)(w:World)(A:Around)(q G:Value)(b S:Expr)(Z:List Expr)(N:Env)(E:Value->Shared->Prop)(V:Shared->Prop)
/-! a turn of a comprehension's loop: words for what follows on its steps -/
noncomputable def Ov:Value->Shared->Prop:=λ x s=>aU (aY a w) A (pN (.builtin "list.append") [G,x]) (λ U s=>V s) E s
noncomputable def N8:Bool->Shared->Prop:=λ I s=>if I=aC then aU (aY a w) A (eval S N) (Ov a w A G E V) E s else V s
noncomputable def Mq:Unit->Shared->Prop:=λ U s=>aU (aY a w) A (LY Z N) (N8 a w A G S N E V) E s
noncomputable def N3(v:Value):Unit->Shared->Prop:=λ U s=>aU (aY a w) A (uS b N v) (Mq a w A G S Z N E V) E s
noncomputable def Lj(R:nP->Shared->Prop):Option Value->Shared->Prop:=λ r s=>match r with
 |aB=>R (.ok .next) s|aA v=>aU (aY a w) A (nI b q v) (N3 a w A G b S Z N E V v) E s
end
section
variable{a:Program}{w:World}{A:Around}{E:Value->Shared->Prop}{R:Result->Shared->Prop}{s:Shared}
theorem LD{S b iter:aR}{Z:List aR}{d:oP}{F:fX}{q G:Value}{N:dL}(I:Nat->Shared->Prop)(j:∀n s,I n s->∀E,aU (aY a w) A (pM q) (Lj a w A q G b S Z N E (λ s=>∃m,m<n/\I m s) R) E s)(n:Nat)(h:I n s):iM (aY a w) A (.compLoop (.ListComp S [⟨b,iter,Z,0⟩] d F) 0 q G N) R s:=by
 refine codeAny_loop rfl I (λ n s u=>?_) n h;show aU _ A ((compTurn (.ListComp S [⟨b,iter,Z,0⟩] d F) 0 q G N).onRaise (λ x=>do vQ x N;theTreesLotGoes x)) _ _ s;refine wpAny_noted ?_;rw[compTurn_list];refine aE (fO (aE (dY (j n s u _) (λ r i f=>?_) λ U U P=>P)));cases r with
 |none=>exact aM f|some v=>
 refine aE (dY f (λ U C c=>aE (dY c (λ U C c=>aE (dY c (λ k o e=>?_) λ U U P=>P)) λ U U P=>P)) λ U U P=>P);cases k with
 |false=>exact aM ⟨rfl,e⟩|true=>exact aE (aE (dY e (λ x p g=>aE (dY g (λ U t l=>aM (aM ⟨rfl,l⟩)) λ U U P=>P)) λ U U P=>P))
theorem OD{c:aR}{Z:List aR}{N:dL}{Q:Bool->Shared->Prop}(h:aU (aY a w) A (isTrue c N (eval c N)) (λ b i=>if b=aC then aU (aY a w) A (LY Z N) Q E i else Q aG i) E s):aU (aY a w) A (LY (c::Z) N) Q E s:=by
 unfold LY;simp only[iI,if_true];refine aE (aE (dY h (λ b i d=>?_) λ U U x=>x));refine aM ?_;cases b with
 |true=>exact d|false=>
 have :∀(Z:List aR),(forIn Z aG λ c r=>if r=aC then do let I<-isTrue c N (eval c N);iB (kU I)else iB (kU r):GH Bool)=iB aG:=by
  intro Z;induction Z with
 |nil=>rfl|cons c Z e=>simp only[iI,eV,if_false,rU];exact e
 dsimp only;rw[this];exact aM d
end
theorem cU.adopt{c:fN}{V M:Nat->Nat}{t Y:MH}{L h:bG}(p:cU c V t L M Y h){D:Nat}{G:MO}(g:c.n<=D)(i:L.get? D=aB)(l:¬kS Y M D)(d:CM G=aC)(k:AP c M h D G):cU c V t L M (upd Y D G) h:=by
  have r:=p.real;have j:∀a C N,Y a=aA (.inst C N)->M a≠D:=λ a C N e q=>l (.inr ⟨a,C,N,e,q⟩);refine⟨⟨λ a x e=>?_,λ a x e w=>?_,λ a C N e=>?_,λ a b C N B F e E q=>?_⟩,p.ev,λ a f=>?_⟩
  · unfold upd at e;split at e;·rename_i q;subst q;cases e;exact k
    ·exact r.obj a x e
  · unfold upd at e;split at e;·rename_i q;subst q;exact g
    ·exact r.low a x e w
  · unfold upd at e;split at e;·cases e;cases d
    ·exact⟨(r.dlow a C N e).1,by rw[cE _ _ (j a C N e)];exact(r.dlow a C N e).2⟩
  · unfold upd at e E;split at e;·cases e;cases d
    · split at E;·cases E;cases d
      ·exact r.dinj a b C N B F e E q
  · rcases f with⟨x,e,w⟩|⟨b,C,N,e,q⟩
    · unfold upd at e;split at e;·rename_i z;subst z;exact .inr i
      ·exact p.grow a (.inl ⟨x,e,w⟩)
    · unfold upd at e;split at e;·cases e;cases d
      ·exact p.grow a (.inr ⟨b,C,N,e,q⟩)
theorem kR.of{D:Nat->Prop}{h P:bG}(a:∀b o,D b->h.get? b=aA o->¬sZ o/\¬BI o)(k:∀b o,¬D b->h.get? b=aA o->P.get? b=aA o):kR h P:=λ b o e f=>k b o (λ d=>f.elim (a b o d e).1 (a b o d e).2) e
theorem jN.at{b:Nat}{h:bG}{l:List dL}{e:dL}:jN b h l->e∈l->(e.scope.kind≠.module/\∀L,e.frame=aA L->b<=L)/\∃L o,e.frame=aA L/\h.get? L=aA o/\o.cls=.type "frame"/\∃X n,o.data=.dict X n:=by
 intro a c;induction l with
 |nil=>cases c|cons f l d=>
 rcases cD.mp c with c|c;·rw[c];exact a.1
 ·exact d a.2 c
theorem jN.keeps{a:Nat}{h P:bG}:∀{l:List dL},(∀e∈l,∀L o,e.frame=aA L->h.get? L=aA o->P.get? L=aA o)->jN a h l->jN a P l:=by
 intro j;induction j with
 |nil=>
 intro U U;exact trivial|cons e l b=>
 intro k d;obtain⟨⟨m,L,o,f,g,c⟩,t⟩:=d;exact⟨⟨m,L,o,f,k e (aW ..) L o f g,c⟩,b (λ e i=>k e (aV _ i)) t⟩
section
variable{R:iK}{N:Env}{l:List Env}{j:List Str}{M:Nat->Nat}{Y:MH}{h P:Heap}{B:Loc}
theorem St.put(C:cR R){D:Nat->Prop}(S:St R N l j M B Y h)(r:∀b,D b->¬kS Y M b)(p:∀b,D b->R.N0.n<=b)(w:∀b o,D b->h.get? b=aA o->¬BI o/\∀u,o.data≠.cell u)(nl:∀b,D b->b≠N.locals)(nf:∀b,D b->∀e∈l,e.frame≠aA b)(k:∀b o,¬D b->h.get? b=aA o->P.get? b=aA o):St R N l j M B Y P:=by
 obtain⟨m,⟨x,Q,G,q,v,s⟩,I⟩:=S.loc;have t:xQ h P:=CX (λ b o d e=>(w b o d e).1) k;refine⟨λ a o e=>k a o (λ d=>?_) (S.X a o e),⟨?_,S.last.2⟩,S.real.put r (λ b o d e=>(w b o d e).1) k,⟨m,⟨x,Q,G,k _ _ (λ d=>nl _ d rfl) q,v,s⟩,λ i y e=>(I i y e).put k t λ c u U H d=>?_⟩,S.off,S.llow,?_⟩;·exact absurd (Nat.lt_of_lt_of_le (C.klow _ o e).1 (p _ d)) (Nat.lt_irrefl _)
 ·obtain⟨o,z⟩:=aS.mp S.last.1;rw[k _ o (λ d=>absurd (Nat.lt_of_lt_of_le (Nat.sub_lt S.last.2 Nat.one_pos) (p _ d)) (Nat.lt_irrefl _)) z];rfl
 ·obtain⟨o,F,A⟩:=H;exact(w _ _ d F).2 _ A
 ·exact jN.keeps (λ e E L o f g=>k L o (λ d=>nf L d e E f) g) S.fr
theorem St.nl(S:St R N l j M B Y h){b:Nat}{o:gV}(e:h.get? b=aA o)(f:∀X n,o.data≠.dict X n):b≠N.locals:=by
 rintro rfl;obtain⟨m,⟨k,X,i,a,c,d⟩,g⟩:=S.loc;rw[a]at e;cases e;exact f _ _ c
theorem St.nf(S:St R N l j M B Y h){b:Nat}{o:gV}(c:h.get? b=aA o)(f:∀X n,o.data≠.dict X n):∀e∈l,e.frame≠aA b:=λ e i q=>by
 obtain⟨_,L,A,a,g,_,X,n,d⟩:=jN.at S.fr i;rw[q]at a;cases a;rw[c]at g;cases g;exact f _ _ d
end
theorem HI{R:iK}{l:List dL}{m:aH}{M:Nat->Nat}{Y:MH}{E:aH->aI->Prop}{s:aI}:XE R l m M Y (λ U U=>False) E s:=λ U U U U U U U U U U U U U U U f=>f.elim
theorem JU{n:Nat}{v:MV}{B X:Loc}(h:ag n v B=aA X):wN (eM n) v B=aA X:=by
 rcases gU h with⟨q,h⟩|h;·rw[q];exact h
 rcases gU h with⟨q,h⟩|h
 ·rw[q];obtain⟨l,a,h⟩:=cA h;show(zf v).bind (λ l=>(NK l).map λ p=>(B.set 0 (aA p.1)).set 1 (aA p.2))=aA X;rw[a];exact h
 ·cases h
theorem MA{p K:List bP}:((eM p.length).map λ i=>(p++K)[i]?.getD cG)=p:=by
 refine CP λ i=>?_;rw[gF];by_cases h:i<p.length
 ·rw[List.getElem?_range h,cI h];show aA ((p++K)[i]?.getD cG)=_;rw[tX h,cI h];rfl
 ·rw[iY (by simpa using h),iY (by simpa using h)];rfl
section
variable{a:Program}{w:World}{R:iK}{r:kP}{G:Gl}{d:Nat}{N:Env}{l:List Env}{F:List Str}{A:Around}{E:Value->Shared->Prop}{s:Shared}
noncomputable def SC(a:Program)(w:World)(R:iK)(r:kP)(G:Gl)(d:Nat)(N:Env)(l:List Env)(F:List Str)(V:List ME)(n:List aR):Prop:=∀A s M B Y(k:Bool->MH->Prop)Q E,xN A l d->St R N l F M B Y s.heap->AE r G V B Y k->(∀c I P g b,cU R.N0 M Y s.heap c I P->k b I->Q b {s with heap:=P,toks:=g})->aU (aY a w) A (LY n N) Q E s
theorem xy:SC a w R r G d N l F [] []:=by
 intro A s M B Y k Q E c S m b;exact aM (b M Y s.heap s.toks aC (.refl S.real) m)
theorem kq(j:cR R){C:ME}{t:aR}{V:List ME}{n:List aR}(o:ST a w R r G d N l F C t)(f:SC a w R r G d N l F V n):SC a w R r G d N l F (C::V) (t::n):=by
 intro A s M B Y k Q E i S m h;refine OD (o A s M B Y (λ b Y=>match b with|aC=>AE r G V B Y k|aG=>k aG Y) (λ U U=>False) _ E i S m ?_ HI)
 ·intro c I P g b p q;cases b with
 |true=>exact f A {s with heap:=P,toks:=g} c B I k Q E i (S.post j p) q λ H Z K e b p2 u=>h H Z K e b (p.trans p2) u|false=>exact h c I P g aG p q
structure CL(R:iK)(cenv:Env)(l:List Env)(F:List Str)(δ₂:Nat->Nat)(mh₂:MH)(h₂:bG)(It:Nat->bG->Prop)(D i:Nat)(acc:List MV)(δ:Nat->Nat)(loc:Loc)(mh:MH)(h:bG):Prop where
 S:St R cenv l F δ loc mh h
 p:cU R.N0 δ₂ mh₂ h₂ δ mh h
 it:It i h
 acc:∃ys,h.PlainList D ys/\dK h acc ys.toList
 off:¬kS mh δ D
theorem JQ(z:cR R){V:Nat->Nat}{L:MH}{C:bG}{x:List eI}{B:Loc}{M:Nat->Nat}{Y:MH}{h P:bG}(S:St R N l F M B Y h)(p:cU R.N0 V L C M Y h)(y:∀b∈x,C.get? b=aB/\R.N0.n<=b)(ob:∀b∈x,∃o,h.get? b=aA o/\sZ o)(m:∀b o,b∉x->h.get? b=aA o->P.get? b=aA o):St R N l F M B Y P/\cU R.N0 V L C M Y P/\xQ h P:=by
 have k:∀b,b∈x->¬kS Y M b:=λ b j=>by obtain⟨o,e,f⟩:=ob b j;exact S.real.notFld e f
 have q:∀b o,b∈x->h.get? b=aA o->sZ o:=λ b o j e=>by obtain⟨K,I,f⟩:=ob b j;rw[e]at I;cases I;exact f
 have v:∀o:gV,sZ o->∀X n,o.data≠.dict X n:=λ o f X n g=>by obtain⟨⟨Z,f⟩,_⟩:=f;rw[f]at g;cases g
 have c:∀b o,b∈x->h.get? b=aA o->¬BI o:=λ b o j e t=>by obtain⟨⟨Z,f⟩,_⟩:=q b o j e;obtain⟨_,i,n,g⟩:=t;rw[f]at g;cases g
 refine⟨S.put z (D:=(·∈x)) k (λ b j=>(y b j).2) (λ b o j e=>⟨c b o j e,λ u g=>?_⟩) (λ b j=>by obtain⟨o,e,f⟩:=ob b j;exact S.nl e (v o f)) (λ b j=>by obtain⟨o,e,f⟩:=ob b j;exact S.nf e (v o f)) m,p.put (D:=(·∈x)) (λ b j=>(y b j).1) k c m,CX (D:=(·∈x)) c m⟩;obtain⟨⟨Z,f⟩,_⟩:=q b o j e;rw[f]at g;cases g
section
variable{c:Env}{y:List Str}{tp:Bool}{D I:Addr}{K:Option (Nat×List MV)}{g:List MV}{U:List Addr}{It:Nat->Heap->Prop}{X:Nat->Value->Heap->Prop}{C:Shared}{j:Nat->Nat}{x:MH}{k:KE}
variable{H:List MV}{M:Nat->Nat}{B:Loc}{Y:MH}{h:Heap}{L:Nat}
theorem YT(rk:cR R)(W:IB a w R.N0 tp K g U I It X)(ao:xN A l d)(hD:C.heap.get? D=aB)(a3:D≠c.locals)(hN:R.N0.n<=D)(hw:∀b∈U,C.heap.get? b=aB/\R.N0.n<=b)(a4:D∉U){Q:Option Value->Shared->Prop}(z:∀i P u L m',cU R.N0 j x C.heap i P u->u.Ns c.locals m'->¬kS P i c.locals->R.N0.n<=c.locals->k (.ref D) P->Q aB {C with heap:=u,toks:=L})(Z:CL R c l y j x C.heap It D g.length H M B Y h)(O:AO K Y)(m2:H.length<=aX)(m3:∀n,Y n=aB->k (.ref n) (upd Y n (.list H))):aU (aY a w) A (pM (.ref I)) Q E {C with heap:=h,toks:=L}:=by
  refine W.done A {C with heap:=h,toks:=L} M Y _ E ao.hand Z.S.real O Z.it λ u a2 J=>?_;obtain⟨S',v,t⟩:=JQ rk Z.S Z.p hw (W.objs _ _ Z.it) J;obtain⟨m,⟨n,ho⟩,hr⟩:=Z.acc;obtain⟨mC,a1,_⟩:=S'.loc;haveI nD:Y D=aB:=by cases e:Y D with
 |none=>rfl|some o=>exact absurd (.inl ⟨o,e,by cases o<;>rfl⟩) Z.off
  refine z M (upd Y D (.list H)) u a2 mC (v.adopt hN hD Z.off rfl ⟨Nat.le_trans m2 (by decide),m,⟨n,J _ _ a4 ho⟩,dK.mono t _ _ hr⟩) a1 (λ f=>?_) S'.llow (m3 D nD);rcases f with⟨o,e,_⟩|⟨b,CC,V,e,q⟩
  ·rw[cE _ _ a3.symm]at e;exact S'.off (.inl ⟨o,e,by cases o<;>rfl⟩)
  · unfold upd at e;split at e;·cases e
    ·exact S'.off (.inr ⟨b,CC,V,e,q⟩)
theorem UT(rk:cR R)(W:IB a w R.N0 tp K g U I It X)(ao:xN A l d){a2:ME}{cond:List ME}{a5 a6:aR}{a4:List aR}{n:Nat}(O:dZ R c y)(c6:SE a w R r G d c l y a2 a5)(c7:SC a w R r G d c l y cond a4)(co:tp=aC->AM a6=aC)(ht:sD ((List.range n).map λ i=>y[i]?.getD Str.empty) a6=aC)(cl:∀i∈List.range n,i<y.length/\FQ c C.heap (y[i]?.getD Str.empty))(c0:Cu c y (List.range n) D)(hD:C.heap.get? D=aB)(hN:R.N0.n<=D)(hw:∀b∈U,C.heap.get? b=aB/\R.N0.n<=b)(bk:D∉U){V:Shared->Prop}{RR:nP->Shared->Prop}{i:Nat}{J:MV}(hv:g[i]?=aA J)(next:∀H M B Y h L,CL R c l y j x C.heap It D (i+1) H M B Y h->pI (λ B Y k=>bX r G a2 B Y k λ Q Q=>False) (λ B Y k=>AE r G cond B Y k) n K (g.drop (i+1)) H B Y k->V {C with heap:=h,toks:=L})(Z:CL R c l y j x C.heap It D i H M B Y h)(m:pI (λ B Y k=>bX r G a2 B Y k λ Q Q=>False) (λ B Y k=>AE r G cond B Y k) n K (J::g.drop (i+1)) H B Y k):aU (aY a w) A (pM (.ref I)) (Lj a w A (.ref I) (.ref D) a6 a5 a4 c E V RR) E {C with heap:=h,toks:=L}:=by
 obtain⟨m1,m2,m3⟩:=m;obtain⟨a1,mb,m4⟩:=fJ m3;refine W.item A i {C with heap:=h,toks:=L} M Y J _ E ao.hand Z.S.real m1 hv Z.it λ v P a3 v1 c2 k1=>?_;obtain⟨S1,p1,t1⟩:=JQ rk Z.S Z.p hw (W.objs _ _ Z.it) k1;obtain⟨ys,⟨n0,ho⟩,hr⟩:=Z.acc;haveI cd:=k1 _ _ bk ho;refine W.go A i {C with heap:=P,toks:=a3} a6 v _ E co c2 λ q ch k2=>?_;obtain⟨S2,p2,t2⟩:=JQ rk S1 p1 hw (W.mobjs i v P c2) k2;haveI cc:=k2 _ _ bk cd;haveI cn:=dK.mono t2 _ _ (dK.mono t1 _ _ hr);refine EQ rk O (s:={C with heap:=q,toks:=a3}) ao.hand S2 p2 cl ht (VR.mono t2 _ _ v1) (JU mb) ?_;intro h3 c9 S3 p3 k3 o3;have c3:=o3 D _ c0 cc;have bo:=k3.vrs cn;refine c7 A {C with heap:=h3,toks:=c9} M a1 Y _ _ E ao S3 m4 λ b5 b3 h4 c1 b p4 q4=>?_;have S4:=S3.post rk p4;have b1:=p4.ev.keepEq c3 Z.off (by simp);have ap:¬kS b3 b5 D:=λ f=>(p4.grow D f).elim Z.off λ e=>by rw[c3]at e;cases e
 have c4:=W.keep _ _ _ (W.keep _ _ _ ch k3) (p4.keepI S3.real);cases b with
 |false=>exact next H b5 a1 b3 h4 c1 ⟨S4,p3.trans p4,c4,⟨ys,⟨n0,b1⟩,p4.ev.vrs bo⟩,ap⟩ q4|true=>
 refine c6 A {C with heap:=h4,toks:=c1} b5 a1 b3 _ (λ Q Q=>False) _ E ao S4 q4 (λ b2 b6 h5 cp bs v5 p5 ck q5=>?_) HI;have S5:=S4.post rk p5;have al:=p5.ev.keepEq b1 ap (by simp);have b0:¬kS b6 b2 D:=λ f=>(p5.grow D f).elim ap λ e=>by rw[b1]at e;cases e
 haveI c5:ys.size<=nE:=by rw[hr.size,eH];exact Nat.le_trans m2 (by decide)
 refine vT ⟨n0,al⟩ (λ h6 ca bi=>?_) c5;haveI ci:=p5.ev.vrs (p4.ev.vrs bo);haveI c8:dK h6 (H++[bs]) (ys.push v5).toList:=by rw[uN];exact dK.append (oR.vrs bi al ci) (oR.vrs bi al (dK.cons ck dK.nil))
 have bd:∀b o,¬b=D->h5.get? b=aA o->h6.get? b=aA o:=λ b o n e=>(bi.2 b n).trans e;have b4:∀b o,b=D->h5.get? b=aA o->¬BI o/\∀u,o.data≠.cell u:=λ b o z e=>by subst z;rw[al]at e;cases e;exact⟨λ t=>by haveI :=t.1;simp at this,λ Q=>by simp⟩
 have as:∀b,b=D->¬kS b6 b2 b:=λ b z=>z▸b0;refine next (H++[bs]) b2 a1 b6 h6 cp ⟨S5.put rk (D:=(·=D)) as (λ b z=>z▸hN) b4 (λ b z=>z▸S5.nl al (by intros;simp)) (λ b z=>z▸S5.nf al (by intros;simp)) bd,((p3.trans p4).trans p5).put (D:=(·=D)) (λ b z=>z▸hD) as (λ b o z e=>(b4 b o z e).1) bd,?_,⟨_,ca,c8⟩,b0⟩ q5;refine W.keep _ _ _ (W.keep _ _ _ c4 (p5.keepI S4.real)) (kR.of (D:=(·=D)) (λ b o z e=>⟨λ f=>?_,(b4 b o z e).1⟩) bd);subst z;rw[al]at e;cases e;obtain⟨⟨_,f⟩,_⟩:=f;cases f
inductive CT(R:iK)(c:Env)(l:List Env)(y:List Str)(j:Nat->Nat)(x:MH)(C:Shared)(It:Nat->Heap->Prop)(D:Addr)(g:List MV)(cw:List MV->List MV->Loc->MH->Prop):Nat->Shared->Prop|mk{i H M B Y h L}(Z:CL R c l y j x C.heap It D i H M B Y h)(hi:i<=g.length)(m:cw (g.drop i) H B Y):CT R c l y j x C It D g cw (g.length+1-i) {C with heap:=h,toks:=L}
end
theorem OC(rk:cR R){p O:List Str}{o:oP}{cl:List (Str×eI)}{C D I:eI}{kind:Nat}{z:Option (Nat×List MV)}{a2:List MV}{J:List eI}{It:Nat->bG->Prop}{a1:Nat->Value->bG->Prop}(W:IB a w R.N0 (kind==2) z a2 J I It a1){q:ME}{cond:List ME}{u e v:aR}{t:List aR}{K:fX}(V:dZ R (iA o cl C N) (p++O))(b1:∀x∈p,o.names.lookup x=aA .local)(ht:sD p v=aC)(b5:(kind==2)=aC->AM v=aC)(b2:SE a w R r G d (iA o cl C N) l (p++O) q u)(b4:SC a w R r G d (iA o cl C N) l (p++O) cond t)(ao:xN A l d){s₂:Shared}{a3:Nat->Nat}{a4:MH}{k:KE}{RR:nP->Shared->Prop}(hD:s₂.heap.get? D=aB)(hC:s₂.heap.get? C=aB)(as:D≠C)(hN:R.N0.n<=D)(hw:∀b∈J,s₂.heap.get? b=aB/\R.N0.n<=b)(ap:D∉J)(b0:∀x c,cl.lookup x=aA c->D≠c)(H:∀L P g f m',cU R.N0 a3 a4 s₂.heap L P g->g.Ns C m'->¬kS P L C->R.N0.n<=C->k (.ref D) P->RR (.ok .next) {s₂ with heap:=g,toks:=f}){B:Loc}{M:Nat->Nat}{Y:MH}{h:bG}{f:Nat}(Z:CL R (iA o cl C N) l (p++O) a3 a4 s₂.heap It D 0 [] M B Y h)(m:pI (λ B Y k=>bX r G q B Y k λ U U=>False) (λ B Y k=>AE r G cond B Y k) p.length z a2 [] B Y k):iM (aY a w) A (.compLoop (.ListComp u [⟨v,e,t,0⟩] o K) 0 (.ref I) (.ref D) (iA o cl C N)) RR {s₂ with heap:=h,toks:=f}:=by
 refine LD (CT R (iA o cl C N) l (p++O) a3 a4 s₂ It D a2 λ S Q B Y=>pI (λ B Y k=>bX r G q B Y k λ U U=>False) (λ B Y k=>AE r G cond B Y k) p.length z S Q B Y k) ?_ (a2.length+1) (.mk Z (Nat.zero_le _) m);intro n s y E;cases y with|@mk i Q M B Y h f Z hi m=>cases hv:a2[i]? with
 |none=>
 obtain rfl:i=a2.length:=Nat.le_antisymm hi (by simpa using hv);rw[List.drop_length]at m;exact YT rk W ao hD as hN hw ap H Z m.1 m.2.1 m.2.2|some X=>
 have a5:i<a2.length:=(List.getElem?_eq_some_iff.mp hv).1;haveI al:a2.drop i=X::a2.drop (i+1):=by rw[List.drop_eq_getElem_cons a5];congr 1;rw[List.getElem?_eq_getElem a5]at hv;exact bH hv
 rw[al]at m;haveI b3:∀i∈List.range p.length,i<(p++O).length/\FQ (iA o cl C N) s₂.heap ((p++O)[i]?.getD Str.empty):=λ i hi=>by
  have a6:i<p.length:=by simpa using hi
  refine⟨by rw[List.length_append];exact Nat.lt_of_lt_of_le a6 (Nat.le_add_right ..),.inl ⟨lookup_relabel_local (b1 _ ?_),hC⟩⟩;rw[List.getElem?_append_left a6,List.getElem?_eq_getElem a6];exact List.getElem_mem a6
 exact UT rk W ao V b2 b4 b5 (by rw[MA];exact ht) b3 ⟨as,λ j hj c U hc=>b0 _ c hc⟩ hD hN hw ap hv (λ Q M B Y h f Z m=>⟨_,Nat.sub_succ_lt_self _ _ (Nat.lt_succ_of_lt a5),.mk Z a5 m⟩) Z m
end
theorem EI{f:aR}{N:dL}(h:DW f=aC):∀x,lN f N x=iB x:=by
 intro x;cases f with
 |Starred=>exact bft h|Set=>exact bft h|_=>exact rQ (iB x)
theorem xz{h:bG}{a:eI}(b:h.objs.size<=a):h.get? a=aB:=by cases e:h.get? a with
 |none=>rfl|some o=>exact absurd (cN e) (kA.mpr b)
theorem eB.footLive{d:fN}{M:Nat->Nat}{Y:MH}{h:bG}(r:eB d M Y h){a:Nat}(f:kS Y M a)(e:h.get? a=aB):False:=by
 rcases f with⟨o,c,_⟩|⟨b,C,N,c,rfl⟩;·exact r.mhLive c e
 ·exact r.dLive c e
theorem YA{N:dL}:∀{E:List (bP×dA)}{G:List (bP×eI)}{x:bP}{c:eI},(uY N E G).lookup x=aA c->(x,gJ)∈E\/G.lookup x=aA c:=by
 intro b;induction b with
 |nil=>
 intro G x c h;exact .inr h|cons d r a=>
    intro G x c h;obtain⟨n,k⟩:=d;unfold uY at h;split at h
    · rename_i hk;rcases a h with h|h;·exact .inl (aV _ h)
      · rw[cM]at h;split at h
        · rename_i q;obtain rfl:=beq_iff_eq.mp q;obtain rfl:k=.free:=by simpa using hk
          exact .inl (aW ..)
        ·exact .inr h
    ·exact(a h).imp_left (aV _)
section
variable{j:Program}{w:World}{R:iK}{r:kP}{G:Gl}{d:Nat}{N:Env}{l:List Env}{F:List Str}{A:Around}{E:Value->Shared->Prop}{s:Shared}{M:Nat->Nat}{Y:MH}{B:Loc}
noncomputable def OP(j:Program)(w:World)(R:iK)(r:kP)(G:Gl)(d:Nat)(N:Env)(l:List Env)(Z:oP)(u:List Str)(S:ME)(cond:List ME)(o:aR)(H:List aR):Prop:=∀t C,dZ R (iA Z t C N) u->pC Z.names (iA Z t C N)->SE j w R r G d (iA Z t C N) l u S o/\SC j w R r G d (iA Z t C N) l u cond H
theorem JE(rk:cR R)(bk:ES R)(J:dZ R N F){sn:List (Str×dA)}(sk:pC sn N){kind:Nat}{a2:List ME}{a6:aR}{O:List aR}(hk:gH N.scope.names kind a6=aA O)(hp:iD N O)(c4:a2.length=O.length)(ck:GS j w R r G d N l F a2 O)(c8:BA j w R r G d N l F a2 O){tn:List Str}{ci:List Nat}{sc:oP}(co:vE F sn sc tn (ci.map λ i=>F[i]?.getD Str.empty))(cs:∀i∈ci,i<F.length){as:aR}(ht:sD tn as=aC)(c7:(kind==2)=aC->AM as=aC)(cd:∀x,lN a6 N x=iB x){a3:ME}{cond:List ME}{ap:aR}{al:List aR}(ih:OP j w R r G d N l sc (tn++ci.map λ i=>F[i]?.getD Str.empty) a3 cond ap al)(ao:xN A l d)(S:St R N l F M B Y s.heap){k:KE}{x:KE}(m:dP r G a2 B Y (λ g Y=>OptK (lZ Y kind g) λ it=>pI (λ B Y k=>bX r G a3 B Y k λ U U=>False) (λ B Y k=>AE r G cond B Y k) tn.length it.1 it.2 [] (List.replicate tn.length aB++ci.map λ i=>B[i]?.join) Y k) x)(hx:XE R l .none M Y x E s){b2:Option (Value->GH Unit)}{Q:Value->Shared->Prop}{L ip:fX}(a5:∀v P K q D C m',cU R.N0 M Y s.heap v P K->s.heap.get? C=aB->K.Ns C m'->¬kS P v C->R.N0.n<=C->k (.ref D) P->compPost (aY j w) A E b2 Q (.ref D) C (.ok .next) {s with heap:=K,toks:=q}):aU (aY j w) A (comprehension (.ListComp ap [⟨as,a6,al,0⟩] sc L) sc N ip (newList []) aG (eval a6 N) b2) Q E s:=by
 refine wpAny_comprehension_free rfl cd (PE (zX S sk co)) co.kind (λ y hy hl=>(co.names y hy).2.1 hl) ?_;refine dY (JO rk bk J hk hp c4 ck c8 ao S m hx (Q:=λ it s₂=>aU (aY j w) A (newList []) (λ acc c2=>aU (aY j w) A (zN sc N.globals (uY N sc.names []) [] N.qual aB .none (aA N)) (λ b4 c5=>iM (aY j w) A (.compStart (.ListComp ap [⟨as,a6,al,0⟩] sc L) 0 it acc {b4 with scope:=relabel sc N}) (compPost (aY j w) A E b2 Q acc b4.locals) c5) E c2) E s₂) ?_) (λ U U h=>h) λ U U h=>h;intro b0 a1 V a4 it p1 mc;intro I wr It b1 t W c3 hw k2;have S1:=S.post rk p1;haveI c9:=S1.sz;haveI q2:cU R.N0 b0 a1 V b0 a1 t:=.grown p1.real k2;refine uI (wpAny_newFunctionEnv (λ y hy=>(co.names y hy).1) (by intro y hy;simp at hy) (λ h4 bi bo=>?_) co.kind);dsimp only at bi bo⊢;generalize hH:t.push {cls:=.type "list",dict:=aB,data:=.seq ([]:List Value).toArray}=H at bi bo⊢;have kH:∀b o,t.get? b=aA o->H.get? b=aA o:=λ b o e=>hH▸aK _ e;have c1:∀b o,H.get? b=aA o->b≠H.objs.size:=λ b o e=>Nat.ne_of_lt (cN e);have c6:∀b o,H.get? b=aA o->h4.get? b=aA o:=λ b o e=>(bo.2 b (c1 b o e)).trans (aK _ e);have k4:∀b o,t.get? b=aA o->h4.get? b=aA o:=λ b o e=>c6 b o (kH b o e);have c0:∀b o,V.get? b=aA o->h4.get? b=aA o:=λ b o e=>k4 b o (k2 b o e);have b6:V.get? t.objs.size=aB:=pR k2 _ (iZ t);have bs:H.get? t.objs.size=aA {cls:=.type "list",dict:=aB,data:=.seq ([]:List Value).toArray}:=hH▸bQ _ rfl;have bd:V.get? H.objs.size=aB:=pR (λ b o e=>kH b o (k2 b o e)) _ (iZ H);haveI cc:t.objs.size≠H.objs.size:=c1 _ _ bs;have q4:cU R.N0 b0 a1 V b0 a1 h4:=.grown p1.real c0;have S4:=S1.post rk q4;have nD:R.N0.n<=t.objs.size:=(S1.post rk q2).sz;haveI nC:R.N0.n<=H.objs.size:=Nat.le_trans nD (Nat.le_of_lt (cN bs));have b3:∀a,V.get? a=aB->¬kS a1 b0 a:=λ a e f=>p1.real.footLive f e;haveI cl:=zM (zX S1 sk co) (acc:=[]) (λ x c e=>by simp at e);have Z:CL R (iA sc (uY N sc.names []) H.objs.size N) l (tn++ci.map λ i=>F[i]?.getD Str.empty) b0 a1 V It t.objs.size 0 [] b0 (List.replicate tn.length aB++ci.map λ i=>B[i]?.join) a1 h4:=⟨⟨S4.X,S4.last,q4.real,aa J S1 sk co cs c0 bi,b3 _ bd,nC,S4.fr⟩,q4,W.keep _ _ _ c3 (λ b o e U=>k4 b o e),⟨#[],⟨0,c6 _ _ bs⟩,dK.nil⟩,b3 _ b6⟩;obtain⟨cp,cn⟩:=ih (uY N sc.names []) H.objs.size (NT J S1 sk co _) (qz co _ _);have b5:∀q,iM (aY j w) A (.compLoop (.ListComp ap [⟨as,a6,al,0⟩] sc L) 0 (.ref I) (.ref t.objs.size) (iA sc (uY N sc.names []) H.objs.size N)) (compPost (aY j w) A E b2 Q (.ref t.objs.size) H.objs.size) {s with heap:=h4,toks:=q}:=λ q=>OC rk (s₂:={s with heap:=V,toks:=a4}) W (NT J S1 sk co _) (λ y hy=>(co.htn y hy).1) ht c7 cp cn ao b6 bd cc nD (λ b p=>⟨(hw b p).1,Nat.le_trans c9 (hw b p).2⟩) (λ hm=>by obtain⟨o,e,_⟩:=W.objs _ _ c3 _ hm;rw[iZ]at e;cases e) (λ y c e z=>by
 subst z;rcases YA e with hm|hm
 ·obtain⟨i,hi⟩:=List.mem_iff_getElem?.mp (co.hcn _ ((co.names _ hm).2.2 rfl)).2.2.1;obtain⟨c',u,_,ch,⟨oc,e1,_⟩,_⟩:=EO S1 sk co ((co.names _ hm).2.2 rfl) hi;have :=cl _ _ e;rw[ch]at this;cases this;rw[b6]at e1;cases e1
 ·cases hm) (λ v P K ca m' p' hn nf lw q'=>a5 v P K ca _ _ m' (p1.trans p') (p1.ev.live _ bd) hn nf lw q') Z mc;exact codeAny_compStart_list (b5 _) (W.self A 0 _ _ _ Z.it (b5 _))
theorem SA(rk:cR R)(bk:ES R)(L:dZ R N F){V:List (Str×dA)}(sk:pC V N){kind:Nat}{a:List ME}{H:aR}{u:List aR}(hk:gH N.scope.names kind H=aA u)(hp:iD N u)(a2:a.length=u.length)(a6:GS j w R r G d N l F a u)(a5:BA j w R r G d N l F a u){a1:List String}{ci:List Nat}{Z:oP}(co:vE F V Z (a1.map Str.ofString) (ci.map λ i=>F[i]?.getD Str.empty))(a4:∀i∈ci,i<F.length){O:aR}(ht:sD (a1.map Str.ofString) O=aC)(al:(kind==2)=aC->AM O=aC)(a3:∀x,lN H N x=iB x){y:ME}{cond:List ME}{v:aR}{h:List aR}{K:fX}(ih:OP j w R r G d N l Z (a1.map Str.ofString++ci.map λ i=>F[i]?.getD Str.empty) y cond v h):SE j w R r G d N l F (.comp a1 ci kind a y cond) (.ListComp v [⟨O,H,h,0⟩] Z K):=by
 intro A s M B Y k x Q E ao S m hq hx;rw[eval_ListComp];refine JE rk bk L sk hk hp a2 a6 a5 co a4 ht al a3 ih (k:=k) ao S ?_ hx ?_;·rw[List.length_map];exact RQ.mp m
 ·intro c I P f D C J p hC hn nf U q;refine⟨J,hn,λ W hs=>?_⟩;obtain⟨oC,X,n,e1,e2,_⟩:=hn;exact hq c I W f _ _ (p.put (D:=(·=C)) (λ b z=>z▸hC) (λ b z=>z▸nf) (λ b o z e t=>by subst z;rw[e1]at e;cases e;obtain⟨_,_,_,g⟩:=t;rw[e2]at g;cases g) λ b o n e=>(hs.2 b n).trans e) (by simp only[VR]) q
end
theorem XD:(iO.map aP).Nodup:=by decide+kernel
theorem tw{f g:Nat}(a:f<iO.length)(b:g<iO.length)(e:fn f=fn g):f=g:=by
 have y:∀i,i<iO.length->(iO.map aP)[i]?=aA (fn i):=λ i c=>by unfold fn;rw[gF,cI c];rfl
 have :=y f a;rw[e,<-y g b]at this;exact(BS (by simpa using a) XD).mp this
theorem tK.set{P:bG}{d:Nat}{N:List (Nat×MV)}{f:Nat}{L:MV}{v:aH}{m:bP->Option aH}(b:f<iO.length)(h:P.Ns d (λ x=>if x=fn f then aA v else m x))(l:∃o,P.get? d=aA o/\o.cls=.type "dict"/\∃X n,o.data=.dict X n/\X.size<=(xR N f L).length)(K:∀f v,f<iO.length->pX N f=aA v->∃u,m (fn f)=aA u/\VR P v u)(C:∀x,(∀f,f<iO.length->(pX N f).isSome->fn f≠x)->m x=aB)(i:∀f v,pX N f=aA v->f<iO.length)(k:VR P L v):tK P d (xR N f L):=by
  refine⟨_,h,l,λ g u a e=>?_,λ x c=>?_,λ g u e=>?_⟩
  · rw[zP]at e;split at e;·rename_i q;subst q;cases e;exact⟨v,by simp,k⟩
    ·rename_i q;obtain⟨y,p,j⟩:=K g u a e;exact⟨y,by show(if fn g=fn f then aA v else m (fn g))=aA y;rw[if_neg (λ z=>q (tw a b z))];exact p,j⟩
  · have q:x≠fn f:=λ z=>c f b (by rw[zP,if_pos rfl];rfl) z.symm;show(if x=fn f then aA v else m x)=aB;rw[if_neg q];refine C x λ g a e=>c g a ?_;rw[zP];split;·rfl
    ·exact e
  · rw[zP]at e;split at e;·rename_i q;subst q;exact b
    ·exact i g u e
section
variable{d:Program}{w:World}{R:iK}{G:Gl}{A:Around}{E:Value->Shared->Prop}{s:Shared}{M:Nat->Nat}{Y:MH}{B:Loc}{Q:Unit->Shared->Prop}
theorem f9{a C:Nat}{l L:gV}{u:bP}{g:Tok}{v:Value}{m:bP->Option Value}{RR:nP->Shared->Prop}(X:R.K.In s.heap)(I:InstAt s.heap a l C (aA L)){i:eI}(t:l.dict=aA i)(hn:s.heap.Ns i m){y:Array zO}{n:Nat}(j:s.heap.get? i=aA L)(f:L.data=.dict y n)(N:y.size<100)(hp:plainOver R.K C=aC)(ht:fK R.K (.ref C) u=aA aB)(H:rT R.K C=aC)(h:∀P,P.Ns i (λ x=>if x=u then aA v else m x)->fQ i s.heap P->(∃J,P.get? i=aA J/\J.cls=L.cls/\∃p D,J.data=.dict p D/\p.size<=y.size+1/\((m u).isSome->p.size<=y.size))->RR (.ok (.ret .none)) {s with heap:=P,toks:=s.toks+1}):iM (aY d w) A (.call (.builtin "object.__setattr__") ⟨[.ref a,.str u g,v],[]⟩) RR s:=by
 refine osa_open X I hp (r:=aB) (by unfold takerIn;rw[ht];rfl) λ b=>?_;obtain⟨Z,hc,k⟩:=any_some H;obtain⟨hx,e,a1,-⟩:=I;obtain⟨S,V,O,W⟩:=l;dsimp only at e t;subst e t;refine aE (aM (aE (aE (wpAny_loadPart hx (aE ((looks_clsIn X hc).here ?_))))));rw[k];refine aM (a:=aA i) (aE (aM (aE ?_)));refine oJ hn λ P a b c=>?_;obtain⟨J,F,U,a2,n0,p,D,q,z,o,e6⟩:=c L j;rw[f]at q;cases q;refine aE (wJ F (by rw[z];exact vU (Nat.le_trans o (by rw[eH];exact Nat.succ_le_succ (Nat.le_trans (Nat.le_of_lt N) (by decide))))) (aM (h P a b ⟨J,F,U,p,D,z,o,e6⟩)))
theorem du:∀(N:List (Nat×MV))(f:Nat)(v:MV),(xR N f v).length=if(pX N f).isSome then N.length else N.length+1:=by
 intro b;induction b with
 |nil=>
 intro f v;exact rfl|cons c r a=>
 intro f v;obtain⟨g,u⟩:=c;unfold xR pX;split;·rfl
 ·rw[aN,a f v];split<;>rfl
theorem gx(ck:IR R G)(X:R.K.In s.heap)(r:eB R.N0 M Y s.heap){a C f:Nat}{N:List (Nat×MV)}{L:MV}{v:Value}(t:Y a=aA (.inst C N))(U:G.fo C f=aC)(k:f<iO.length)(hz:N.length<100)(vr:VR s.heap L v)(h:∀P V,cU R.N0 M Y s.heap M (upd Y a (.inst C (xR N f L))) P->Q () {s with heap:=P,toks:=V}):aU (aY d w) A (setAttr (.ref a) (fn f) v) Q E s:=by
 obtain⟨l,S,I,e1,e2,-⟩:=r.inst t;obtain⟨k1,k2,k3,k4,k5⟩:=ck.fld C f U;obtain⟨-,m,hn,hc,i,W,h3⟩:=r.obj a _ t;have V:∀P,fQ (M a) s.heap P->xQ s.heap P:=λ P j b o e c=>by
  have n:b≠M a:=by rintro rfl;exact(r.footKind (.inr ⟨a,C,N,t,rfl⟩) e).1 c.1
  exact(j.2 b n).trans e
 obtain⟨o,eo,co,g,n,e3,H⟩:=hc;haveI :S=o:=bH (e2.symm.trans eo);subst this;refine set_plain X I k4 (f9 (s:={s with toks:=s.toks+1}) X I e1 hn e2 e3 (Nat.lt_of_le_of_lt H hz) k5 k2 k1 λ P z j J=>h P _ (cU.setFld r t j ?_));obtain⟨F,O,D,p,Z,e5,e6,e7⟩:=J;refine tK.set k z ⟨F,O,D.trans co,p,Z,e5,?_⟩ (λ f v U e=>by obtain⟨u,x,q2⟩:=i f v U e;exact⟨u,x,VR.mono (V P j) _ _ q2⟩) W h3 (VR.mono (V P j) _ _ vr);rw[du];split
 ·rename_i q;obtain⟨y,hy⟩:=aS.mp q;obtain⟨u,x,-⟩:=i f y k hy;exact Nat.le_trans (e7 (by rw[x];rfl)) H
 ·exact Nat.le_trans e6 (Nat.succ_le_succ H)
end
section
variable{d:Program}{w:World}{R:iK}{G:Gl}{A:Around}{E:Value->Shared->Prop}{s:Shared}{M:Nat->Nat}{Y:MH}{B:Loc}{Q:Unit->Shared->Prop}
theorem II{l:eI}{a:Array Value}{k:Int}{t:Tok}{v:Value}(h:s.heap.PlainList l a)(g:0<=k)(b:k<2^63)(o:k<a.size)(i:∀P,P.PlainList l (a.setIfInBounds k.toNat v)->fQ l s.heap P->Q () {s with heap:=P}):aU (aY d w) A (setItem (.ref l) (.int k t) v) Q E s:=by
 have e:=h.isList;obtain⟨n,c⟩:=h;unfold setItem;refine dM ?_;refine aE (wpAny_sequenceKey e.typeIs (by decide) ?_);refine aE (nZ (name:=aP "__setitem__") e.typeIs slot_list_setitem (iU slot_list_setitem e.typeIs entry_list_setitem ?_ (args_list_setitem _ _ _)));show aU _ _ (oW.List.listSubscript? (.int k t)>>=_) _ _ s;refine aE (wpAny_listSubscript_int (fitsIndex_of g b) ?_);clear b;obtain⟨j,rfl⟩:=wE g;haveI m:j<a.size:=oK.mp o;haveI f:a[j]?=aA a[j]:=jE m;show aU _ _ ((seqItemAt l j>>=λ r=>iB (r.map (j,·)))>>=_) _ _ s;refine aE (aE (wpAny_seqItemAt c rfl (aM ?_)));rw[f];show aU _ _ (setSeqItemAt l j v>>=_) _ _ s;refine aE (wpAny_setSeqItemAt c rfl ?_);first
 |exact aE (aM (aM ⟨.none,rfl,aM (i _ (pD c _ rfl) (dQ ..))⟩))|exact aM ⟨.none,rfl,aM (i _ (pD c _ rfl) (dQ ..))⟩
theorem dK.set{h:bG}{L:MV}{v:Value}(c:VR h L v):∀{l:List MV}{Z:List Value}(j:Nat),dK h l Z->dK h (l.set j L) (Z.set j v):=by
 intro l;induction l with
 |nil=>intro Z j x;obtain rfl:=x.inv0;exact dK.nil|cons m k e=>
 intro Z j x;obtain⟨u,r,rfl,a,b⟩:=x.inv;cases j with
 |zero=>exact dK.cons c b|succ j=>exact dK.cons a (e j b)
theorem BB.absent{h:bG}{k:List Nat}:∀{X:List (List Nat×MV)}{f:List (bP×Value)},BB h X f->X.find? (·.1==k)=aB->f.any (λ V=>V.1=(⟨k.toArray⟩:bP))=aG:=by
 intro l;induction l with
 |nil=>
 intro f x U;obtain rfl:f=[]:=x;rfl|cons e X i=>
    intro f g q;obtain⟨v,r,a,b,c⟩:=g;subst a;rw[xH]at q;split at q;·cases q
    · rename_i j;rw[AT,i c q,lC,decide_eq_false_iff_not];intro z;haveI m:e.1.toArray=k.toArray:=congrArg bP.cps z;haveI :e.1=k:=by simpa using m
      rw[this]at j;simp at j
theorem BB.snoc{h:bG}{k:List Nat}{L:MV}{v:Value}(j:VR h L v):∀{X:List (List Nat×MV)}{f:List (bP×Value)},BB h X f->BB h (X++[(k,L)]) (f++[(⟨k.toArray⟩,v)]):=by
 intro l;induction l with
 |nil=>
 intro f x;obtain rfl:f=[]:=x;exact⟨v,[],rfl,j,rfl⟩|cons e X g=>
 intro f i;obtain⟨u,r,a,b,c⟩:=i;subst a;exact⟨u,_,rfl,b,g c⟩
theorem BB.len{h:bG}:∀{X:List (List Nat×MV)}{f:List (bP×Value)},BB h X f->f.length=X.length:=by
 intro j;induction j with
 |nil=>
 intro f x;obtain rfl:f=[]:=x;rfl|cons e X g=>
 intro f i;obtain⟨u,r,a,b,c⟩:=i;subst a;rw[aN,aN,g c]
theorem uc(hP:R.N0.prog=d)(hW:R.N0.w=w)(N:eB R.N0 M Y s.heap){a i L:MV}{S vi v:Value}(y:VR s.heap a S)(C:VR s.heap i vi)(O:VR s.heap L v){K:MH->Prop}(m:YZ Y a i L K)(h:∀I P g,cU R.N0 M Y s.heap M I P->K I->Q () {s with heap:=P,toks:=g}):aU (aY d w) A (setItem S vi v) Q E s:=by
  obtain⟨x,J,⟨j,l,H,r,q,u,F⟩|⟨k,X,H,r,q,u,F⟩⟩:=m
  ·rw[J]at y;rw[H]at C;simp only[VR]at y;subst y;obtain⟨t,rfl⟩:=C.int_inv;obtain⟨W,Z,V,z⟩:=N.plist r;have a1:=z.size;unfold jG at W;refine II V q (by lia) (by lia) λ P hp p=>h _ P _ (wI N r p (by rw[List.length_set];exact W) hp ?_) F;obtain⟨n,U⟩:=V;rw[Array.toList_setIfInBounds];exact dK.set (VR.mono (λ b o e c=>(p.2 b (by rintro rfl;rw[U]at e;cases e;haveI :=c.1;simp at this)).trans e) _ _ O) _ (oR.vrs p U z)
  · rw[J]at y;rw[H]at C;simp only[VR]at y;subst y;obtain⟨_,t,rfl⟩:=C.str_inv;obtain⟨f,hd,z⟩:=N.obj x _ r;subst hP hW;refine wpAny_setItem_pairs (knd:=strKind R.N0.prog R.N0.w) (k:=⟨k.toArray⟩) (strKind_is _ _ _ _) hd (λ P D p=>h _ P _ (cU.set1 (mo':=.sdict (X++[(k,L)])) N r rfl rfl rfl rfl p ⟨_,D,?_⟩) F) (by rw[z.len,eH];exact Nat.le_trans u (by decide));unfold stored;rw[z.absent q];have g:xQ s.heap P:=λ b o e c=>by
     haveI n:b≠x:=by rintro rfl;exact(N.footKind (.inl ⟨_,r,rfl⟩) e).1 c.1
     exact(p.2 b n).trans e
    exact BB.snoc (VR.mono g _ _ O) (z.mono g)
end
noncomputable def XS(R:iK)(N:dL)(l:List dL)(V:Nat->Nat)(D:MH)(C:bG)(x:KE)(E:aH->aI->Prop)(s:aI):Prop:=∀m,(m=.none\/∃L,N.frame=aA L/\m=iJ L)->XE R l m V D x E {s with heap:=C}
theorem XS.at{R:iK}{N:dL}{l:List dL}{V M:Nat->Nat}{L Y:MH}{C:bG}{x:KE}{E:aH->aI->Prop}{s:aI}(X:XS R N l V L C x E s)(p:cU R.N0 V L C M Y s.heap):XE R l .none M Y x E s:=XE.post (s:={s with heap:=C}) (h₁:=s.heap) (tk:=s.toks) (X .none (.inl rfl)) p
structure QS(R:iK)(env:dL)(l:List dL)(ns:List bP)(δ₀:Nat->Nat)(mh₀:MH)(h₀:bG)(nx:KL)(rt:KE)(ct:KL)(Q:Flow->aI->Prop)(s:aI):Prop where
 nx:∀δ' loc' mh' h' tk,St R env l ns δ' loc' mh' h'->cU R.N0 δ₀ mh₀ h₀ δ' mh' h'->kR s.heap h'->nx loc' mh'->Q .next {s with heap:=h',toks:=tk}rt:∀δ' mh' h' tk mv v,cU R.N0 δ₀ mh₀ h₀ δ' mh' h'->VR h' mv v->rt mv mh'->Q (.ret v) {s with heap:=h',toks:=tk}ct:∀δ' loc' mh' h' tk,St R env l ns δ' loc' mh' h'->cU R.N0 δ₀ mh₀ h₀ δ' mh' h'->kR s.heap h'->ct loc' mh'->Q .cont {s with heap:=h',toks:=tk}
theorem QS.on{R:iK}{N:dL}{l:List dL}{j:List bP}{V:Nat->Nat}{L:MH}{C:bG}{H:KL}{F:KE}{y:KL}{Q:Flow->aI->Prop}{s:aI}{h:bG}{g:Nat}(q:QS R N l j V L C H F y Q s)(k:kR s.heap h):QS R N l j V L C H F y Q {s with heap:=h,toks:=g}:=⟨λ c X I P a S p b n=>q.nx c X I P a S p (k.trans b) n,q.rt,λ c X I P a S p b n=>q.ct c X I P a S p (k.trans b) n⟩
structure tR(env:dL)(l:List dL)(ns:List bP):Prop where
 top:∃outer,l=env::outer
 fr:∃L:eI,env.frame=aA L
 fl:env.frame=aA env.locals
 own:∀x∈ns,env.kindOf x=aA .local\/env.kindOf x=aA .cell
 act:interactive env=aG
 blk:env.blockKind=.function
section
variable(a:Program)(w:World)(R:iK)(b:kP)(G:Gl)(d:Nat)(N:Env)(l:List Env)(j:List Str)
noncomputable def SS(k:MS)(u:dW):Prop:=∀A s V L C M B Y H F y x Q E,xN A l d->qo R N C->St R N l j M B Y s.heap->cU R.N0 V L C M Y s.heap->BY b G k B Y H F y x->QS R N l j V L C H F y Q s->XS R N l V L C x E s->aU (aY a w) A (exec u N) Q E s
noncomputable def gh(k:List MS)(u:List dW):Prop:=∀A s V L C M B Y H F y x Q E,xN A l d->qo R N C->St R N l j M B Y s.heap->cU R.N0 V L C M Y s.heap->cF b G k B Y H F y x->QS R N l j V L C H F y Q s->XS R N l V L C x E s->aU (aY a w) A (execs u N) Q E s
end
section
variable{c:Program}{w:World}{R:iK}{g:kP}{G:Gl}{d:Nat}{env:Env}{l:List Env}{j:List Str}
theorem q8:gh c w R g G d env l j [] []:=by
 intro A s V L C M B Y H F y x Q E e a S p m b f;exact nG (b.nx M B Y s.heap s.toks S p (.refl _) m)
theorem YH{k:MS}{u:dW}{b:List MS}{a:List dW}(K:SS c w R g G d env l j k u)(i:gh c w R g G d env l j b a):gh c w R g G d env l j (k::b) (u::a):=by
 intro A s V D L M B Y H F y x Q E J e S p m t z;replace m:=d6.mp m;refine iP (K A s V D L M B Y _ F y x _ E J e S p m ⟨λ C X I P f n o h q=>?_,λ C I P f U v o r q=>t.rt C I P f U v o r q,λ C X I P f n o h q=>t.ct C X I P f n o h q⟩ z);exact i A {s with heap:=P,toks:=f} V D L C X I H F y x Q E J e n o q (t.on h) z
theorem m9{F:fX}:SS c w R g G d env l j .cont (.Continue F):=by
 intro A s V L C M B Y H y t x Q E e b S p m a f;exact wpAny_Continue (a.ct M B Y s.heap s.toks S p (.refl _) m)
theorem rh{u:dW}:SS c w R g G d env l j .dead u:=by
 intro A s V L C M B Y H F y x Q E b a S p m f e;exact m.elim
theorem Aj(b:cR R){e:ME}{r:aR}{F:fX}(i:SE c w R g G d env l j e r):SS c w R g G d env l j (.ret e) (.Return (aA r) F):=by
 intro A s V D L M B Y H y t x Q E n z S p m a k;replace m:=zh.mp m;exact uH (one b i n S m (k.at p) λ C I P f h u o J v q=>a.rt C I P f h u (p.trans o) v q)
theorem m6{F:fX}:SS c w R g G d env l j (.ret .no) (.Return aB F):=by
 intro A s V L C M B Y H y t x Q E e a S p m b f;exact wpAny_Return_none (b.rt M Y s.heap s.toks .none .none p (by simp only[VR]) m)
theorem zo(J:cR R){t:ME}{K:aR}{a b:List MS}{n i:List dW}{F:fX}(u:ST c w R g G d env l j t K)(k:gh c w R g G d env l j a n)(v:gh c w R g G d env l j b i):SS c w R g G d env l j (.ite t a b) (.If K n i F):=by
 intro A s V D L M B Y H y z x Q E h e S p m N r;replace m:=y5.mp m;refine wpAny_If (u A s M B Y _ x _ E h S m ?_ (r.at p));intro C I P f O o q;cases O with
 |false=>exact v A {s with heap:=P,toks:=f} V D L C B I H y z x Q E h e (S.post J o) (p.trans o) q (N.on (o.keepI S.real)) r|true=>exact k A {s with heap:=P,toks:=f} V D L C B I H y z x Q E h e (S.post J o) (p.trans o) q (N.on (o.keepI S.real)) r
theorem HU{a t:aR}{b:Nat}(h:∀x p,t≠.Name x p):rZ a (aA t) b env=iB aG:=by cases a<;>first|exact rQ (iB aG)|(cases t<;>first|exact rQ (iB aG)|exact absurd rfl (h _ _))
theorem oE{a:aR}{t:Option aR}{b:Nat}(h:gq a=aG):rZ a t b env=iB aG:=by cases a<;>first|exact rQ (iB aG)|exact btf h
theorem PI{elt:aR}{gs:List qD}{sc:oP}{cp p:fX}{x:Str}{ln:Nat}:rZ (.ListComp elt gs sc cp) (aA (.Name x p)) ln env=iB aG\/(rZ (.ListComp elt gs sc cp) (aA (.Name x p)) ln env=iB aC/\env.kindOf x=aA .local):=by
 have e:rZ (.ListComp elt gs sc cp) (aA (.Name x p)) ln env=iB (env.blockKind==.function&&env.kindOf x==aA .local&&p.line==cp.line&&!(sc.names.any λ(n,k)=>n==x&&(k==.local||k==.cell))):=rfl;cases z:(env.blockKind==.function&&env.kindOf x==aA .local&&p.line==cp.line&&!(sc.names.any λ(n,k)=>n==x&&(k==.local||k==.cell)))with
 |false=>left;rw[e,z]|true=>
 right;rw[e,z];simp only[fB,beq_iff_eq]at z;exact⟨rfl,z.1.1.2⟩
theorem QU(v:cR R)(n:dZ R env j)(z:tR env l j){e:ME}{r:aR}{i:Nat}{x:Str}{p1 F:fX}(k:j[i]?=aA x)(ih:SE c w R g G d env l j e r)(X:rZ r (aA (.Name x p1)) F.line env=iB aG):SS c w R g G d env l j (.asg (.l i) e) (.Assign [.Name x p1] r F):=by
 intro A s V D L M B Y H y t x' Q E O b S p m J W;replace m:=Fi.mp m;refine wpAny_Assign_Name (one v ih O S m (W.at p) λ C I P f h u o Z vr q=>?_) X;exact vP (s:={s with heap:=P,toks:=f}) v n Z (p.trans o) k (b.at (z.own x (List.mem_of_getElem? k))) vr λ K a N p2 k2 U=>J.nx C _ I K a N p2 ((o.keepI S.real).trans k2) q
theorem Fn(z:cR R)(a:tR env l j){e:ME}{r:aR}{F:fX}(i:SE c w R g G d env l j e r)(b:gq r=aG):SS c w R g G d env l j (.ex e) (.Expr r F):=by
 intro A s V D L M B Y H y t N Q E n J S p m k v;replace m:=Em.mp m;exact wpAny_Expr_any (one z i n S m (v.at p) λ C I P f h u o x K q=>k.nx C B I P f x (p.trans o) (o.keepI S.real) q) a.act (oE b)
theorem gy(n:cR R)(ck:IR R G){e o:ME}{r po:aR}{f:Nat}{p1 F:fX}(ih:SE c w R g G d env l j e r)(x:SE c w R g G d env l j o po):SS c w R g G d env l j (.asg (.attr o f) e) (.Assign [.Attribute po (fn f) p1] r F):=by
 intro A s D t L M B Y H y z x' Q E ao a1 S p m hq hx;replace m:=kf.mp m;refine gY (one n ih ao S m (hx.at p) λ i I P V h u U S' vr q=>?_) (HU (by intros;simp));refine one n (s:={s with heap:=P,toks:=V}) x ao S' q ((hx.at p).post U) λ b Z K O J o2 p2 v k q2=>?_;obtain⟨a,C,N,eo,ea,q3,q4,q5,q6⟩:=q2;rw[eo]at k;simp only[VR]at k;subst k;exact gx (s:={s with heap:=K,toks:=O}) ck v.X v.real ea q3 q4 q5 (p2.ev.vr vr) λ h3 W p3=>hq.nx _ B _ h3 W (v.post n p3) (((p.trans U).trans p2).trans p3) (((U.trans p2).trans p3).keepI S.real) q6
theorem u6(k:cR R)(hP:R.N0.prog=c)(hW:R.N0.w=w){e o i:ME}{r O z:aR}{p1 F:fX}(ih:SE c w R g G d env l j e r)(b:SE c w R g G d env l j o O)(n:SE c w R g G d env l j i z):SS c w R g G d env l j (.asg (.sub o i) e) (.Assign [.Subscript O z p1] r F):=by
 intro A s V D L M B Y H y t x' Q E X a1 S p m hq W;replace m:=yn.mp m;refine wpAny_Assign_Subscript (one k ih X S m (W.at p) λ C I P f h u U S' vr q=>?_) (HU (by intros;simp));refine VP k (s:={s with heap:=P,toks:=f}) b n X S' q ((W.at p).post U) λ a Z K v J o2 mi i2 p2 N ro ri q2=>?_;exact uc (s:={s with heap:=K,toks:=v}) hP hW N.real ro ri (p2.ev.vr vr) q2 λ a2 h3 x p3 q3=>hq.nx _ B _ h3 x (N.post k p3) (((p.trans U).trans p2).trans p3) (((U.trans p2).trans p3).keepI S.real) q3
end
theorem VG{f:aR->Option bP}(c:∀e y,f e=aA y->lY y e=aC):∀{B:List bP}{g:List aR},kY B g=aC->(g.filterMap f).length<=g.length/\((g.filterMap f).length=g.length->g.filterMap f=B):=by
 intro B;induction B with
 |nil=>
  intro g h;cases g with
  |nil=>exact⟨aZ _,λ U=>rfl⟩|cons _ _=>cases h
 |cons x B d=>
 intro g h;cases g with
 |nil=>cases h|cons t g=>
 obtain⟨a,b⟩:=d (br h);rw[zZ];cases e:f t with
 |none=>exact⟨uC a,λ q=>absurd (bN (bM (Eq.symm q:g.length+1=_)) a) (qG _)⟩|some y=>
 haveI :y=x:=gW (M:=λ t=>lY y t=aC->y=x) (bl h) (λ F K=>bC K) (c t y e);refine⟨jT a,λ q=>?_⟩;show y::g.filterMap f=x::B;rw[this,b (mK q)]
theorem IE{g:List aR}{k:Nat}{tp:fX}{value:aR}{env:dL}{B:List bP}(j:kY B g=aC)(h:ze value=aC):AN [.Tuple g k tp] value env=iB aB\/(AN [.Tuple g k tp] value env=iB (aA B)/\(g.length=2\/g.length=3)):=by
 unfold AN;cases value with
 |Tuple Z o I=>
    replace h:(Z.all (foldedForSure 8)||!Z.all (yT 8))=aC:=h;dsimp only;generalize i:(λ x:aR=>match x with|.Name id F=>if(env.kindOf id==aA dA.local&&F.line==(HO (λ x:aR=>x.pos.line) g.head?).getD 0)=aC then aA id else aB|_=>aB)=f;haveI b:∀e y,f e=aA y->lY y e=aC:=λ e y q=>by
      have a:MP (f e) λ y=>lY y e=aC:=by
       rw[<-i];cases e with
 |Name id F=>
 dsimp only;cases(env.kindOf id==aA dA.local&&F.line==(HO (λ x:aR=>x.pos.line) g.head?).getD 0)with
         |true=>exact beq_self_eq_true id|false=>trivial
  |_=> trivial
      rw[q]at a;exact a
    split;·exact .inl rfl
    · rename_i d;split;·exact .inl rfl
      · split;·exact .inl rfl
        · rename_i c;split;·exact .inl rfl
          · rename_i m;haveI l:¬Z.all (yT 8)=aC:=λ q=>by rw[q,Bool.not_true,lC]at h;exact m h
            rw[if_neg l];right;simp only[nN,bne_iff_ne,ne_eq,not_or,Decidable.not_not]at d c;rw[(VG b j).2 c.1];refine⟨rfl,?_⟩;haveI :=d.1.1;rcases Nat.decEq g.length 2 with n|n;·right;simpa[n]using this
            ·exact .inl n|_=>exact .inl (rQ (iB aB))
theorem YE{B:Loc}{g:List Nat}{n:List MV}(h:g.length=n.length)(a:g.length=2\/g.length=3)(b:g.Nodup):UK B g.reverse n.reverse=UK B g n:=by
 rcases a with a|a
 ·obtain⟨i,j,rfl⟩:=RB a;obtain⟨u,v,rfl⟩:=RB h.symm;exact vF _ _ (jA (by simpa using b))
 ·obtain⟨i,j,k,rfl⟩:=fy a;obtain⟨u,v,x,rfl⟩:=fy h.symm;simp only[xM,cD,mP,or_false,not_or,tI,and_true,not_false_eq_true]at b;obtain⟨⟨y,K⟩,c⟩:=b;show(((B.set k _).set j _).set i _)=(((B.set i _).set j _).set k _);rw[vF (l:=B) _ _ (λ z=>c z.symm),vF (l:=B.set j _) _ _ (λ z=>K z.symm),vF (l:=B) _ _ (λ z=>y z.symm)]
section
variable{y:Program}{w:World}{R:iK}{B:kP}{G:Gl}{d:Nat}{N:Env}{l:List Env}{j:List Str}
theorem QX(e:tR N l j){C:bG}(a:qo R N C){n:List Nat}(c:∀i∈n,i<j.length):∀i∈n,i<j.length/\FQ N C (j[i]?.getD Str.empty):=λ i b=>⟨c i b,a.at (e.own _ (List.mem_of_getElem? (SG (c i b))))⟩
theorem wo(rk:cR R)(n:dZ R N j)(fk:tR N l j){e:ME}{W:aR}{is:List Nat}{X:List aR}{kk:Nat}{tp F:fX}(hi:∀i∈is,i<j.length)(C:2<=is.length)(nd:is.Nodup)(ha:kY (is.map λ i=>j[i]?.getD Str.empty) X=aC)(hw:ze W=aC)(ih:SE y w R B G d N l j e W):SS y w R B G d N l j (.asg (.ls is) e) (.Assign [.Tuple X kk tp] W F):=by
  intro A s V D L M H Y f t J x' Q E ao a6 S p m hq hx;replace m:=Fd.mp m;have hs:swapsWithSole [.Tuple X kk tp] W F.line N=iB aG:=by
   show rZ W (aA (.Tuple X kk tp)) F.line N=iB aG;exact HU (by intros;simp)
  have a2:=QX fk a6 hi;have a1:(is.map λ i=>j[i]?.getD Str.empty).length=is.length:=List.length_map ..;rcases IE (k:=kk) (tp:=tp) (value:=W) (env:=N) ha hw with e1|⟨e1,e2⟩
  · refine Assign_Tuple (one rk ih ao S m (hx.at p) λ c I P g mu u p' S' vr q=>?_) hs e1;obtain⟨O,z,q⟩:=fJ q;haveI ht:sD (is.map λ i=>j[i]?.getD Str.empty) (.Tuple X kk tp)=aC:=by
     unfold sD;cases X:lU (is.map λ i=>j[i]?.getD Str.empty)with
 |none=>exact ha|some x=>
     rw[gG X]at a1;exact absurd (Nat.le_trans C (Nat.le_of_eq a1.symm)) (Nat.not_succ_le_self 1)
    exact EQ (s:={s with heap:=P,toks:=g}) rk n ao.hand S' (p.trans p') a2 ht vr z λ C a3 S2 p2 k2 U=>hq.nx c _ I C a3 S2 p2 ((p'.keepI S.real).trans k2) q
  · refine Assign_Tuple_swapped (names:=is.map λ i=>j[i]?.getD Str.empty) (one rk ih ao S m (hx.at p) λ c I P g mu u p' S' vr q=>?_) hs e1;obtain⟨O,z,q⟩:=fJ q;rcases FO z with⟨i,rfl,_⟩|⟨ms,rfl,hl,_,rfl⟩;·exact absurd C (Nat.not_succ_le_self 1)
    obtain⟨_,a,Z,rfl,hT,_,hv⟩:=vr.tup_inv;haveI a4:(is.map λ i=>j[i]?.getD Str.empty).length=Z.size:=by rw[a1,hl,<-hv.length];simp
    haveI he:X.length=is.length:=by
     have :=(HX (env:=N) ha).2.1;haveI q2:∀X:List aR,(nR X N).length=X.length:=by intro X;induction X with
 |nil=>rfl|cons e r ih=>cases e<;>exact congrArg Nat.succ ih
     rw[q2,a1]at this;exact this
    rw[a4];refine wpAny_unpackItems_tuple ao.hand hT λ K x1=>?_;haveI g1:∀b o,P.get? b=aA o->K.get? b=aA o:=λ b o e=>x1 b o (Nat.ne_of_lt (cN e)) e;have q1:cU R.N0 c I P c I K:=.grown S'.real g1;rw[<-List.map_reverse,List.map_map];refine cf (s:={s with heap:=K,toks:=g}) rk n _ is.reverse ms.reverse _ _ _ (λ i hm=>a2 i (List.mem_reverse.mp hm)) (λ i U v s Q h=>wpAny_bindName h) (S'.post rk q1) ((p.trans p').trans q1) (dK.reverse (q1.ev.vrs hv)) (by simp[hl]) ?_;intro h3 a5 S3 p3 k3 U;rw[YE hl (by rw[<-he];exact e2) nd]at S3;exact hq.nx c _ I h3 a5 S3 p3 (((p'.trans q1).keepI S.real).trans k3) q
theorem q7(rk:cR R)(bk:ES R)(J:dZ R N j)(fk:tR N l j){sn:List (Str×dA)}(sk:pC sn N){kind:Nat}{a1:List ME}{a2:aR}{a:List aR}(hk:gH N.scope.names kind a2=aA a)(hp:iD N a)(ap:a1.length=a.length)(b3:GS y w R B G d N l j a1 a)(b2:BA y w R B G d N l j a1 a){a6:List String}{ci:List Nat}{sc:oP}(co:vE j sn sc (a6.map Str.ofString) (ci.map λ i=>j[i]?.getD Str.empty))(b0:∀i∈ci,i<j.length){a5:aR}(ht:sD (a6.map Str.ofString) a5=aC)(b5:(kind==2)=aC->AM a5=aC)(b1:∀x,lN a2 N x=iB x){elt:ME}{cond:List ME}{a4:aR}{a3:List aR}{cp p1 F:fX}(ih:OP y w R B G d N l sc (a6.map Str.ofString++ci.map λ i=>j[i]?.getD Str.empty) elt cond a4 a3){i:Nat}{x:Str}(hi:j[i]?=aA x):SS y w R B G d N l j (.asg (.l i) (.comp a6 ci kind a1 elt cond)) (.Assign [.Name x p1] (.ListComp a4 [⟨a5,a2,a3,0⟩] sc cp) F):=by
 rcases PI (env:=N) (elt:=a4) (gs:=[⟨a5,a2,a3,0⟩]) (sc:=sc) (cp:=cp) (p:=p1) (x:=x) (ln:=F.line)with hs|⟨hs,as⟩;·exact QU rk J fk hi (SA rk bk J sk hk hp ap b3 b2 co b0 ht b5 b1 ih) hs
 intro A s h W Z M H Y O rt ct x' Q E ao bo S p m hq hx;replace m:=RQ.mp (Fi.mp m);rw[exec_Assign_Name_used _ _ _ _ hs];refine aE (fO (aE ?_));show aU _ A (do let _<-comprehension (.ListComp a4 [⟨a5,a2,a3,0⟩] sc cp) sc N _ (newList []) aG (eval a2 N) (aA (uS (.Name x p1) N))) _ _ s;refine aE (dY (JE rk bk J sk hk hp ap b3 b2 co b0 ht b5 b1 ih ao S (Q:=λ U s'=>Q .next s') (k:=λ v Y=>O (H.set i (aA v)) Y) (by rw[List.length_map];exact m) (hx.at p) ?_) (λ U s' hq=>aM (aM hq)) λ U U e=>e);intro r I P V D C m' p' hC hn nf lw q;haveI S':=S.post rk p';refine uE (vP (s:={s with heap:=P,toks:=V}) rk J S' (p.trans p') hi (.inl ⟨as,bo.loc⟩) (mv:=.ref D) (by simp only[VR]) λ K b6 S2 p2 k2 o2=>?_);obtain⟨mL,⟨oL,_,_,eL,_⟩,_⟩:=S.loc;have b4:C≠N.locals:=by rintro rfl;rw[hC]at eL;cases eL
 obtain⟨oC,X,n,e1,e2,e3⟩:=hn;have eC:=o2 C oC b4 (λ c k U=>by rw[as]at k;cases k) e1;refine⟨m',⟨oC,X,n,eC,e2,e3⟩,λ h3 bi=>?_⟩;have nt:∀b o,b=C->K.get? b=aA o->¬BI o:=λ b o z e t=>by subst z;rw[eC]at e;cases e;obtain⟨_,_,_,g⟩:=t;rw[e2]at g;cases g
 have kk:∀b o,¬b=C->K.get? b=aA o->h3.get? b=aA o:=λ b o n e=>(bi.2 b n).trans e;have al:∀b,b=C->¬kS I r b:=λ b z=>z▸nf;haveI bd:Z.get? C=aB:=p.ev.live _ hC;exact hq.nx r _ I h3 b6 (S2.put rk (D:=(·=C)) al (λ b z=>z▸lw) (λ b o z e=>⟨nt b o z e,λ u g=>by subst z;rw[eC]at e;cases e;rw[e2]at g;cases g⟩) (λ b z=>z▸b4) (λ b z e he q=>by
 subst z;obtain⟨_,L,o,f,g,_⟩:=jN.at S.fr he;rw[q]at f;cases f;rw[hC]at g;cases g) kk) (p2.put (D:=(·=C)) (λ b z=>z▸bd) al nt kk) (((p'.keepI S.real).trans k2).trans (kR.of (D:=(·=C)) (λ b o z e=>⟨λ f=>(by subst z;rw[eC]at e;cases e;obtain⟨⟨_,f⟩,_⟩:=f;rw[e2]at f;cases f),nt b o z e⟩) kk)) q
end
/-! an exception of ours passes frames: its dict stays -/
section
variable{M:Model}{A:Around}{E:Value->Shared->Prop}{s:Shared}{g:Heap}{N:Env}{v l:List Env}{L e i:Addr}{cls m:Value}{Q:Unit->Shared->Prop}
theorem XO{R:gV}{Z:Array Value}{B:Value}{x:Bool}(a4:A.frames=aA (N::v))(V:s.heap.FunFrames g (N::v))(hf:N.frame=aA L)(he:s.heap.get? e=aA R)(a2:R.dict=aA i)(a1:g.StaysIn s.heap)(U:g.get? e=aB)(I:R.data=.fields Z)(K:1<Z.size)(h:∀P,uX g (N::v) e i R.cls (iJ L) P->s.heap.UpToSlots P->Q () {s with heap:=P}):aU M A (do let a<-frameOf N;let pl<-entryPlaceOf L x;let b<-EntryCells.newEntry B a .none (iJ L) .none pl;setField (.ref e) 1 b) Q E s:=by
 haveI O:e∉(N::v).filterMap (·.frame):=λ hm=>by
  obtain⟨_,o,ho,n⟩:=V.mem hm;rw[he]at ho;cases ho;exact n Z I
 refine aE (wpAny_frameOf_fun a4 V hf λ d k=>?_);refine aE (wpAny_entryPlaceOf λ pl H=>?_);refine aE (uI ?_ (H.sizeOk5 _ _ _ _ _));have y:d.get? e=aA R:=(k.2.1 e O).trans he;have z:g.StaysIn d:=λ b o p=>(k.2.1 b λ hm=>by rw[(V.mem hm).1]at p;cases p).trans (a1 b o p);generalize hT:({cls:=.type "traceback",dict:=aB,data:=.fields ([B,.ref L,.none,iJ L,.none]++(if pl.isEmpty then List.replicate 6 Value.none else pl)).toArray}:gV)=T;have w:=Heap.get?_push_of_some (h:=d) T y;refine tM w I K ?_;have J:d.objs.size≠e:=kI (Heap.lt_size y);have u:=kN I (·.setIfInBounds 1 (Value.ref d.objs.size));haveI F:=Heap.get?_update_self (lD (·.setIfInBounds 1 (Value.ref d.objs.size))) w (pJ u);haveI C:=(Heap.get?_update_other (d.push T) (lD (·.setIfInBounds 1 (Value.ref d.objs.size))) (jA J)).trans (Heap.get?_push_size d (by subst hT;rfl));have t:∀b o,b≠e->d.get? b=aA o->((d.push T).update e (lD (·.setIfInBounds 1 (Value.ref d.objs.size)))).get? b=aA o:=λ b o a3 j=>by
  rw[Heap.get?_update_other _ _ (jA a3)];exact Heap.get?_push_of_some _ j
 have f:∀b o,s.heap.get? b=aA o->(∀Z,o.data≠.fields Z)->b≠e:=λ b o j n q=>by rw[q,he]at j;cases j;exact n Z I
 haveI W:(lD (·.setIfInBounds 1 (Value.ref d.objs.size)) R).dict=aA i:=by
  obtain⟨c,r,dt,S⟩:=R;cases I;exact a2
 have D:∃G,T.data=.fields G/\G[3]?=aA (iJ L):=by
  subst hT;exact⟨_,rfl,by first|(simp;done)|(rcases H with rfl|⟨_,_,_,_,_,_,_,rfl⟩<;>simp)⟩
 obtain⟨G,Y,D⟩:=D;refine h _ ⟨λ b o p=>t b o (λ q=>by rw[q,U]at p;cases p) (z b o p),U,V.of_keeps λ b o j n=>?_,⟨_,_,F,⟨gV.cls_mapFields _ _,W⟩,u,.inr ⟨d.objs.size,T,G,by simp[K],z.fresh,J,C,Y,D⟩⟩⟩ λ b o j n=>?_
 ·obtain⟨S,X⟩:=k.2.2 b o j;exact⟨_,t b _ (f b o j n) X,rfl⟩
 ·obtain⟨S,X⟩:=k.2.2 b o j;exact⟨S,t b _ (f b o j n) X⟩
theorem XI(p:A.frames=aA (N::v))(x:N.frame=aA L)(O:uX g (N::v) e i cls .none s.heap)(h:∀P,uX g (N::v) e i cls (iJ L) P->s.heap.UpToSlots P->Q () {s with heap:=P}):aU M A (vQ (.ref e) N) Q E s:=by
  obtain⟨C,F,H,R,Z,u,⟨n,r⟩,t,J⟩:=O;subst n;delta vQ;simp only[x];rcases J with⟨y,-⟩|⟨T,oT,G,y,w,B,z,k,D⟩
  ·refine aE (gD u t y ?_);rw[if_neg (by decide)];exact XO p H x u r C F t (gN.mp y).1 h
  · refine aE (gD u t y ?_);rw[if_pos (show(Value.ref T !=Value.none)=aC from by simp)];refine aE (gD z k D ?_);rw[if_neg (show¬((Value.none==iJ L)=aC)from by simp[iJ])];refine aE (tM z k (gN.mp D).1 ?_);have c:∀b,b≠T->(s.heap.update T (lD (·.setIfInBounds 3 Value.none))).get? b=s.heap.get? b:=λ b j=>Heap.get?_update_other _ _ (jA j);have a:∀b o,s.heap.get? b=aA o->(∀Z,o.data≠.fields Z)->b≠T:=λ b o j d q=>by rw[q,z]at j;cases j;exact d G k
    refine XO p (H.of_keeps λ b o j d=>⟨o,(c b (a b o j d)).trans j,rfl⟩) x ((c e (jA B)).trans u) r (λ b o f=>(c b λ q=>by rw[q,w]at f;cases f).trans (C b o f)) F t (gN.mp y).1 λ P K I=>h P K λ b o j d=>I b o ((c b (a b o j d)).trans j) d
theorem HV(f:N.frame=aA L)(p:uX g l e i cls (iJ L) s.heap)(h:Q () s):aU M A (vQ (.ref e) N) Q E s:=by
 obtain⟨u,t,r,R,Z,j,-,b,o⟩:=p;rcases o with⟨-,q⟩|⟨T,oT,G,y,n,k,d,a,c⟩;·simp[iJ]at q
 delta vQ;simp only[f];refine aE (gD j b y ?_);rw[if_pos (show(Value.ref T !=Value.none)=aC from by simp)];refine aE (gD d a c ?_);rw[if_pos (show(iJ L==iJ L)=aC from by simp)];exact aM h
theorem KI{f:Option Addr}(F:uX g l e i cls (iJ L) s.heap)(h:∀P,uX g l e i cls (f.elim Value.none (λ a=>iJ a)) P->s.heap.UpToSlots P->Q () {s with heap:=P}):aU M A (setFlight (.ref e) f) Q E s:=by
 obtain⟨B,C,I,R,Z,x,D,z,J⟩:=F;rcases J with⟨-,q⟩|⟨T,oT,G,y,t,u,w,n,H⟩;·simp[iJ]at q
 have p:3<G.size:=(gN.mp H).1;have d:∀b,b≠T->(s.heap.update T (lD (·.setIfInBounds 3 (f.elim Value.none (λ a=>iJ a))))).get? b=s.heap.get? b:=λ b j=>Heap.get?_update_other _ _ (jA j);have c:∀b o,s.heap.get? b=aA o->(∀Z,o.data≠.fields Z)->b≠T:=λ b o j k q=>by rw[q,w]at j;cases j;exact k G n
 refine aE (gD x z y ?_);rw[if_pos (show(Value.ref T !=Value.none)=aC from by simp)];refine tM w n p (h _ ⟨λ b o r=>(d b λ q=>by rw[q,t]at r;cases r).trans (B b o r),C,I.of_keeps λ b o j k=>⟨o,(d b (c b o j k)).trans j,rfl⟩,?_⟩ λ b o j k=>⟨o.slots,(d b (c b o j k)).trans j⟩);exact⟨R,Z,(d e (jA u)).trans x,D,z,.inr ⟨T,_,_,y,t,u,Heap.get?_update_self _ w (pJ (kN n _)),kN n _,by simp[p]⟩⟩
theorem uw(p:A.frames=aA (N::v))(r:N.frame=aA L)(o:m=.none\/m=iJ L)(n:uX g (N::v) e i cls m s.heap)(h:∀P,uX g v e i cls .none P->s.heap.UpToSlots P->Q () {s with heap:=P}):aU M A (leaving N (.ref e)) Q E s:=by
 have G:∀s:Shared,uX g (N::v) e i cls (iJ L) s.heap->(∀P,uX g v e i cls .none P->s.heap.UpToSlots P->Q () {s with heap:=P})->aU M A (setFlight (.ref e) aB) Q E s:=λ s n h=>KI (f:=aB) n λ P j k=>h P (let⟨a,b,⟨_,_,c⟩,d⟩:=j;⟨a,b,c,d⟩) k;rcases o with rfl|rfl;·exact aE (XI p r n λ y q t=>G _ q λ P j k=>h P j (t.trans k))
 ·exact aE (HV r n (G s n h))
theorem En(d:A.frames=aA (N::v))(o:N.frame=aA L)(c:m=.none\/m=iJ L){u:Shared}(x:u=s)(a:uX g (N::v) e i cls m s.heap)(h:∀P,uX g (N::v) e i cls (iJ L) P->s.heap.UpToSlots P->E (.ref e) {s with heap:=P}):notedBy M A N (cameBackBy M A N E) (.ref e) u:=by
 subst x;have j:∀s:Shared,uX g (N::v) e i cls (iJ L) s.heap->(∀P,uX g (N::v) e i cls (iJ L) P->s.heap.UpToSlots P->E (.ref e) {s with heap:=P})->cameBackBy M A N E (.ref e) s:=λ s a h=>by
  obtain⟨K,D,I,R,Z,z,J,B,w⟩:=id a;rcases w with⟨-,q⟩|⟨T,oT,G,y,t,r,F,p,H⟩;·simp[iJ]at q
  refine aE (gD z B y ?_);rw[if_neg (show¬((Value.ref T==Value.none)=aC)from by simp)];rw[o];exact KI (f:=aA L) a h
 rcases c with rfl|rfl;·exact XI d o a λ y n C=>j _ n λ P b k=>h P b (C.trans k)
 ·exact HV o a (j u a h)
end
section
variable{prog:Program}{w:World}{R:iK}{a:kP}{G:Gl}{d:Nat}{N:Env}{l:List Env}{j:List Str}
theorem l5(J:tR N l j){A:cW}(O:xN A l d){V:Nat->Nat}{D:MH}{C:bG}{x:KE}{E:aH->aI->Prop}{s:aI}(X:XS R N l V D C x E s):XS R N l V D C x (notedBy (aY prog w) A N (cameBackBy (aY prog w) A N E)) s:=by
 obtain⟨v,rfl⟩:=J.top;obtain⟨L,F⟩:=J.fr;intro m h c I y B K g e i r p H t M n u Q;refine En (s:={s with heap:=K,toks:=g}) O.frs F (h.imp_right λ z=>by obtain⟨o,b,q⟩:=z;rw[F]at b;cases b;exact q) rfl n λ P f k=>?_;exact X (iJ L) (.inr ⟨L,F,rfl⟩) c I y B P g e i r p H t M f (u.trans k) Q
inductive WI(R:iK)(N:Env)(l:List Env)(j:List Str)(δ₀:Nat->Nat)(mh₀:MH)(h₀:bG)(s:aI)(T:Loc->MH->KL->Prop)(n:Nat):aI->Prop|mk{δ loc mh h tk}(S:St R N l j δ loc mh h)(p:cU R.N0 δ₀ mh₀ h₀ δ mh h)(k:kR s.heap h)(m:lT T n loc mh):WI R N l j δ₀ mh₀ h₀ s T n {s with heap:=h,toks:=tk}
theorem yp(rk:cR R)(fk:tR N l j){t:ME}{pt:aR}{b:List MS}{e:List dW}{F:fX}(a2:ST prog w R a G d N l j t pt)(a1:gh prog w R a G d N l j b e):SS prog w R a G d N l j (.whl t b) (.While pt e [] F):=by
 intro A s V L C M B Y H y z x Q E X a3 S p m hq hx;replace m:=ya.mp m;obtain⟨n,m⟩:=m;have J:=l5 (prog:=prog) (w:=w) fk X hx;refine wpAny_While (codeAny_whileLoop (WI R N l j V L C s (zG a G t b H y x)) ?_ n (.mk S p (.refl _) m));intro n u wi;cases wi with|@mk M B Y h g S p k0 m=>cases n with
 |zero=>exact m.elim|succ n=>
 refine a2 A {s with heap:=h,toks:=g} M B Y _ x _ _ X S m ?_ (XS.at (s:={s with heap:=h,toks:=g}) J p);intro c I P O b' o q;have S':=S.post rk o;cases b' with
 |false=>exact nG (hq.nx c B I P O S' (p.trans o) (k0.trans (o.keepI S.real)) q)|true=>
 have f:=k0.trans (o.keepI S.real);refine a1 A {s with heap:=P,toks:=O} V L C c B I _ y _ x _ _ X a3 S' (p.trans o) q ⟨λ i U Z K k S2 p2 k2 W=>?_,λ i Z K k D v p2 r W=>hq.rt i Z K k D v p2 r W,λ i U Z K k S2 p2 k2 W=>?_⟩ J;·exact⟨n,Nat.lt_succ_self n,.mk S2 p2 (f.trans k2) W⟩
 ·exact⟨n,Nat.lt_succ_self n,.mk S2 p2 (f.trans k2) W⟩
end
section
variable(b:Program)(w:World)(A:Around)(q:Value)(a:Expr)(t:List Stmt)(N:Env)(E:Value->Shared->Prop)(V:Shared->Prop)(RR:Result->Shared->Prop)
/-! a turn of a for loop: words for what follows on its steps -/
noncomputable def M0:Flow->Shared->Prop:=λ f s=>match f with
 |.next|.cont=>V s|.brk=>RR (.ok .next) s|.ret v=>RR (.ok (.ret v)) s
noncomputable def FW2:Unit->Shared->Prop:=λ U s=>aU (aY b w) A (execs t N) (M0 V RR) E s
noncomputable def FW1(v:Value):Unit->Shared->Prop:=λ U s=>aU (aY b w) A (uS a N v) (FW2 b w A t N E V RR) E s
noncomputable def Nx:Option Value->Shared->Prop:=λ r s=>match r with
 |aB=>RR (.ok .next) s|aA v=>aU (aY b w) A (nI a q v) (FW1 b w A a t N E V RR v) E s
end
section
variable{a:Program}{w:World}{A:Around}{E:Value->Shared->Prop}{s:Shared}
theorem MN{RR:nP->Shared->Prop}{b q t N}(I:Nat->Shared->Prop)(g:∀n s,I n s->∀E,aU (aY a w) A (pM q) (Nx a w A q b t N E (λ s=>∃m,m<n/\I m s) RR) E s)(n:Nat)(h:I n s):iM (aY a w) A (.forLoop b q t [] N) RR s:=by
 refine codeAny_loop' rfl I (λ n s k=>?_) n h;show aU _ _ ((forTurn b q t [] N).onRaise (λ x=>do vQ x N;theTreesLotGoes x)) _ _ s;refine wpAny_noted ?_;simp only[forTurn];refine aE (fO (aE (wpAny_onRaise (dY (g n s k _) (λ r i e=>?_) λ U U P=>fO P))));cases r with
 |none=>exact aM (.inr ⟨rfl,codeAny_block (nG e)⟩)|some v=>
 refine aE (dY e (λ U C d=>aE (dY d (λ U C d=>aE (dY d (λ f j c=>?_) λ U U P=>P)) λ U U P=>P)) λ U U P=>P);cases f with
 |next=>exact aM (.inl ⟨rfl,c⟩)|cont=>exact aM (.inl ⟨rfl,c⟩)|brk=>exact aM c|ret v=>exact aM c
end
section
variable{a:Program}{w:World}{R:iK}{c:kP}{G:Gl}{d:Nat}{N:Env}{l:List Env}{j:List Str}
theorem ZM{V:Nat->Nat}{L:MH}{C:bG}{E:aH->aI->Prop}{s:aI}:XS R N l V L C (λ U U=>False) E s:=λ U U=>HI
inductive FI(R:iK)(N:Env)(l:List Env)(j:List Str)(δ₀:Nat->Nat)(mh₀:MH)(h₀:bG)(s:aI)(It:Nat->bG->Prop)(W:List MV->Loc->MH->Prop)(items:List MV):Nat->aI->Prop|mk{i δ loc mh h tk}(S:St R N l j δ loc mh h)(p:cU R.N0 δ₀ mh₀ h₀ δ mh h)(k:kR s.heap h)(it:It i h)(hi:i<=items.length)(m:W (items.drop i) loc mh):FI R N l j δ₀ mh₀ h₀ s It W items (items.length+1-i) {s with heap:=h,toks:=tk}
theorem A5(rk:cR R)(bk:ES R)(O:dZ R N j)(fk:tR N l j){g:List Nat}{kind:Nat}{a2:List ME}{b:List MS}{pt a4:aR}{u:List aR}{pb:List dW}{F:fX}(hk:gH N.scope.names kind a4=aA u)(hp:iD N u)(bd:a2.length=u.length)(ci:GS a w R c G d N l j a2 u)(ca:BA a w R c G d N l j a2 u)(cd:∀x,lN a4 N x=iB x)(c4:(kind==2)=aG)(hi:∀i∈g,i<j.length)(ht:sD (g.map λ i=>j[i]?.getD Str.empty) pt=aC)(cc:gh a w R c G d N l j b pb):SS a w R c G d N l j (.for_ g kind a2 b) (.For pt a4 pb [] F):=by
 intro A s t Z C M B Y H J ct x Q E ao bs S p m hq hx;replace m:=xe.mp m;refine wpAny_For ?_ cd;refine JO rk bk O hk hp bd ci ca ao S m (hx.at p) ?_;intro a6 q y a3 it p1 m1;intro I wr It ap K W c9 hw k2;rw[c4]at W;have c0:=p.trans p1;have S1:=S.post rk p1;haveI c7:=S1.sz;have q2:cU R.N0 a6 q y a6 q K:=.grown p1.real k2;haveI c6:∀b∈wr,C.get? b=aB/\R.N0.n<=b:=λ b D=>⟨c0.ev.live b (hw b D).1,Nat.le_trans c7 (hw b D).2⟩;refine MN (s:={s with heap:=K,toks:=a3}) (FI R N l j t Z C s It (λ L B Y=>tT (uU c G b J) g it.1 L B Y H) it.2) ?_ (it.2.length+1) (.mk (S1.post rk q2) (c0.trans q2) ((p1.trans q2).keepI S.real) c9 (Nat.zero_le _) m1);haveI b6:∀b o,s.heap.get? b=aA o->b∉wr:=λ b o e D=>by have :=p1.ev.live b (hw b D).1;rw[e]at this;cases this
 have b1:∀{h P:bG},kR s.heap h->(∀b o,b∉wr->h.get? b=aA o->P.get? b=aA o)->kR s.heap P:=λ k kk b o e f=>kk b o (b6 b o e) (k b o e f);intro n s' fi E';cases fi with|@mk i M B Y h V S p k0 b4 c2 m=>
 have b2:∀{B:Loc}{M:Nat->Nat}{Y:MH}{h P:bG},St R N l j M B Y h->cU R.N0 t Z C M Y h->(∀b∈wr,∃o,h.get? b=aA o/\sZ o)->(∀b o,b∉wr->h.get? b=aA o->P.get? b=aA o)->St R N l j M B Y P/\cU R.N0 t Z C M Y P/\xQ h P:=λ S p ob kk=>JQ rk S p c6 ob kk;cases hv:it.2[i]? with
 |none=>
 haveI c1:it.2.length<=i:=by simpa using hv
 obtain rfl:i=it.2.length:=Nat.le_antisymm c2 c1;rw[List.drop_length]at m;refine W.done A {s with heap:=h,toks:=V} M Y _ E' ao.hand S.real m.1 b4 λ P c8 kk=>?_;obtain⟨S',p',-⟩:=b2 S p (W.objs _ _ b4) kk;exact hq.nx M B Y P c8 S' p' (b1 k0 kk) m.2|some mv=>
 have b3:i<it.2.length:=(List.getElem?_eq_some_iff.mp hv).1;haveI b5:it.2.drop i=mv::it.2.drop (i+1):=by rw[List.drop_eq_getElem_cons b3];congr 1;rw[List.getElem?_eq_getElem b3]at hv;exact bH hv
 rw[b5]at m;obtain⟨m1,m2⟩:=m;obtain⟨a1,mb,m3⟩:=fJ m2;refine W.item A i {s with heap:=h,toks:=V} M Y mv _ E' ao.hand S.real m1 hv b4 λ v h3 bo v3 bi k3=>?_;obtain⟨S3,p3,t3⟩:=b2 S p (W.objs _ _ b4) k3;refine W.go A i {s with heap:=h3,toks:=bo} pt v _ E' (λ z=>by cases z) bi λ h4 ch k4=>?_;obtain⟨S4,p4,t4⟩:=b2 S3 p3 (W.mobjs i v h3 bi) k4;refine EQ rk O (s:={s with heap:=h4,toks:=bo}) ao.hand S4 p4 (QX fk bs hi) ht (VR.mono t4 _ _ v3) mb ?_;intro h5 c5 S5 p5 k5 U;haveI c3:kR s.heap h5:=(b1 (b1 k0 k3) k4).trans k5;have b0:∀a5 al X h6 as,St R N l j a5 al X h6->cU R.N0 t Z C a5 X h6->kR h5 h6->tT (uU c G b J) g it.1 (it.2.drop (i+1)) al X H->∃m,m<it.2.length+1-i/\FI R N l j t Z C s It (λ L B Y=>tT (uU c G b J) g it.1 L B Y H) it.2 m {s with heap:=h6,toks:=as}:=λ a5 al X h6 as S6 p6 k6 q6=>⟨_,Nat.sub_succ_lt_self _ _ (Nat.lt_succ_of_lt b3),.mk S6 p6 (c3.trans k6) (W.keep _ _ _ (W.keep _ _ _ ch k5) k6) b3 q6⟩;refine cc A {s with heap:=h5,toks:=c5} t Z C M a1 Y _ J _ _ _ E' ao bs S5 p5 m3 ⟨λ a5 al X h6 as S6 p6 k6 q6=>?_,λ a5 X h6 as mv v p6 r q6=>hq.rt a5 X h6 as mv v p6 r q6,λ a5 al X h6 as S6 p6 k6 q6=>?_⟩ ZM;·exact b0 a5 al X h6 as S6 p6 k6 q6
 ·exact b0 a5 al X h6 as S6 p6 k6 q6
end
/-! a function of the text is entered -/
theorem IL:∀{E:List (bP×dA)}{n:Nat}{acc:List (bP×eI)}{x:bP},((x,mZ)∈E\/(acc.lookup x).isSome)->((DY n E acc).lookup x).isSome:=by
 intro c;induction c with
 |nil=>
 intro U U U h;exact h.elim (λ h=>by cases h) id|cons b r a=>
    intro n acc x h;obtain⟨y,k⟩:=b;unfold DY;split
    · refine a ?_;rcases h with h|h
      · rcases cD.mp h with h|h;·cases h;right;rw[cM,beq_self_eq_true];rfl
        ·exact .inl h
      · right;rw[cM];split;·rfl
        ·exact h
    · rename_i hk;refine a ?_;rcases h with h|h
      · rcases cD.mp h with h|h;·cases h;exact absurd rfl hk
        ·exact .inl h
      ·exact .inr h
structure RF(sc:oP)(ns:List bP):Prop where
 kind:sc.kind=.function
 nm:∀x∈ns,(sc.names.lookup x=aA .local\/sc.names.lookup x=aA .cell)/\(x==("__debug__":bP))=aG
 nodup:ns.Nodup
noncomputable def GK(Z:oP)(j:List bP):Bool:=(match Z.kind with|.function=>aC|_=>aG)&&j.all (λ x=>(Z.names.lookup x==aA .local||Z.names.lookup x==aA .cell)&&!(x==("__debug__":bP)))&&cH j.Nodup
theorem GZ{Z:oP}{j:List bP}(h:GK Z j=aC):RF Z j:=by
 unfold GK at h;simp only[fB,bE,decide_eq_true_eq,beq_iff_eq,nN,fF]at h;refine⟨?_,h.1.2,h.2⟩;have :=h.1.1;split at this;·assumption
 ·cases this
section
variable{g:Program}{w:World}{R:iK}{N:Env}{l:List Env}{j:List Str}{A:Around}{E:Value->Shared->Prop}{M:Nat->Nat}{Y:MH}
theorem UN(rk:cR R)(I:dZ R N j){D:Nat->Nat}{t:MH}{L:bG}(f:Str×Value->PUnit->GH (ForInStep PUnit))(hf:∀n v u,f (n,v) u=(do EY N n v;iB (.yield ⟨⟩))):∀(B:List Str)(H a:List Str)(done W:List MV)(i:Loc)(Z:List Value)(s:Shared)(Q:PUnit->Shared->Prop),j=H++B++a->done.length=H.length->W.length=B.length->i.length=B.length->dK s.heap W Z->qo R N L->(∀x∈B,N.kindOf x=aA .local\/N.kindOf x=aA .cell)->St R N l j M (done.map aA++i++List.replicate a.length aB) Y s.heap->cU R.N0 D t L M Y s.heap->(∀P V,St R N l j M (done.map aA++W.map aA++List.replicate a.length aB) Y P->cU R.N0 D t L M Y P->(∀b o,L.get? b=aA o->s.heap.get? b=aA o->P.get? b=aA o)->Q ⟨⟩ {s with heap:=P,toks:=V})->aU (aY g w) A (forIn (B.zip Z) ⟨⟩ f) Q E s:=by
 intro B;induction B with
 |nil=>
 intro H a done W i Z s Q e d lm lr hv J ow S p h;obtain rfl:W=[]:=List.length_eq_zero_iff.mp lm;obtain rfl:i=[]:=List.length_eq_zero_iff.mp lr;rw[List.zip_nil_left,List.forIn_nil];exact aM (h s.heap s.toks S p λ U U U e=>e)|cons x B ih=>
 intro H a done W i Z s Q e d lm lr hv J ow S p h;cases W with
 |nil=>cases lm|cons m W=>cases i with
 |nil=>cases lr|cons r i=>
 obtain⟨v,Z,rfl,X,G⟩:=hv.inv;rw[List.zip_cons_cons,List.forIn_cons,hf];haveI hi:j[H.length]?=aA x:=by rw[e,List.append_assoc,List.getElem?_append_right (Nat.le_refl _),Nat.sub_self];rfl
 refine aE (aE (vP rk I S p hi (J.at (ow x (List.mem_cons_self ..))) X λ K V S1 p1 k1 F=>aM ?_));haveI eL:(done.map aA++(r::i)++List.replicate a.length aB).set H.length (aA m)=(done++[m]).map aA++i++List.replicate a.length aB:=by
  rw[List.append_assoc,List.set_append_right _ _ (by rw[List.length_map,d];exact Nat.le_refl _),List.length_map,d,Nat.sub_self];simp
 rw[eL]at S1;refine ih (H++[x]) a (done++[m]) W i Z {s with heap:=K,toks:=V} Q (by rw[e];simp) (by simp[d]) (Nat.succ.inj lm) (Nat.succ.inj lr) (k1.vrs G) J (λ y hy=>ow y (List.mem_cons_of_mem _ hy)) S1 p1 ?_;intro C a1 S2 p2 g2;refine h C a1 ?_ p2 λ b o O e2=>g2 b o O (F b o (λ z=>by rw[z,J.loc]at O;cases O) (λ c k q z=>by rw[z,J.cells _ _ q k]at O;cases O) e2);simpa using S2
noncomputable def BK(C:fY)(L a:eI):Env:=newEnv C.scope L C.globals (DY (L+1) C.scope.names []) (C.qualname++".<locals>.") (aA a) C.code aB C.builtins
theorem C6(rk:cR R){C:fY}{a:eI}(m:RF C.scope j)(hg:C.globals=R.gA)(G:C.builtins=R.bA){s:Shared}(Z:Sb R l M Y s.heap){B t:List Str}(e:j=B++t){mvs:List MV}{P:List Value}(lm:mvs.length=B.length)(hv:dK s.heap mvs P){Q:Env->Shared->Prop}(h:∀K V,dZ R (BK C s.heap.objs.size a) j->qo R (BK C s.heap.objs.size a) s.heap->St R (BK C s.heap.objs.size a) (BK C s.heap.objs.size a::l) j M (mvs.map aA++List.replicate t.length aB) Y K->cU R.N0 M Y s.heap M Y K->(∀b o,s.heap.get? b=aA o->K.get? b=aA o)->Q (BK C s.heap.objs.size a) {s with heap:=K,toks:=V}):aU (aY g w) A (zN C.scope C.globals [] (B.zip P) (C.qualname++".<locals>.") (aA a) C.code aB C.builtins) Q E s:=by
  simp only[zN,Option.isSome_none,eV,if_false];refine aE (wpAny_alloc ?_);refine aE (wpAny_layCells _ (λ u kind O=>by cases a1:kind==mZ<;>simp[a1]) _ _ _ _ ?_);have d:=cellsFrom_ok C.scope.names (s.heap.push {cls:=.type "frame",data:=.dict #[]}) (s.heap.objs.size+1) [] ⟨λ U U hm=>(nomatch hm),List.Pairwise.nil⟩ (by rw[iE];exact Nat.le_refl _);rw[iE]at d;rw[show({s with heap:=s.heap.push {cls:=.type "frame",data:=.dict #[]}}:Shared).heap.objs.size=s.heap.objs.size+1 from iE ..];have r:∀b o,(s.heap.push {cls:=.type "frame",data:=.dict #[]}).get? b=aA o->(pushCells (s.heap.push {cls:=.type "frame",data:=.dict #[]}) C.scope.names).get? b=aA o:=λ b o e=>pushCells_keeps _ _ b o e;have J:∀b o,s.heap.get? b=aA o->(pushCells (s.heap.push {cls:=.type "frame",data:=.dict #[]}) C.scope.names).get? b=aA o:=λ b o e=>r b o (aK _ e);have eL:=r _ _ (bQ s.heap (o:={cls:=.type "frame",data:=.dict #[]}) rfl);generalize hH:pushCells (s.heap.push {cls:=.type "frame",data:=.dict #[]}) C.scope.names=H at d r J eL⊢;haveI hn:H.Ns s.heap.objs.size (λ U=>aB):=⟨_,#[],0,eL,rfl,λ U he=>by simp at he,λ U=>rfl⟩;have q:cU R.N0 M Y s.heap M Y H:=.grown Z.real J;have k:R.N0.n<=s.heap.objs.size:=by
   obtain⟨o,W⟩:=aS.mp Z.last.1;exact Nat.le_of_pred_lt (cN W)
  have hc:∀x c,(DY (s.heap.objs.size+1) C.scope.names []).lookup x=aA c->H.IsCell c aB/\s.heap.objs.size+1<=c:=λ x c e=>d.empty x c (mem_of_lookup e);have I:dZ R (BK C s.heap.objs.size a) j:=⟨m.kind,hg,G,λ x p=>(m.nm x p).2,m.nodup,λ x y c e1 e2=>name_of_addr d.apart (mem_of_lookup e1) (mem_of_lookup e2),λ x c e=>Nat.le_trans k (Nat.le_trans (Nat.le_succ _) (hc x c e).2)⟩;have F:qo R (BK C s.heap.objs.size a) s.heap:=⟨iZ _,λ x c e U=>xz (Nat.le_trans (Nat.le_succ _) (hc x c e).2)⟩;haveI S:St R (BK C s.heap.objs.size a) (BK C s.heap.objs.size a::l) j M (List.replicate j.length aB) Y H:=by
    refine⟨λ b o e=>J b o (Z.X b o e),⟨?_,Z.last.2⟩,q.real,⟨_,hn,λ i x p=>?_⟩,λ f=>?_,k,⟨⟨⟨?_,λ L e=>bH e▸k⟩,_,_,rfl,eL,rfl,_,_,rfl⟩,q.alive Z.real Z.fr⟩⟩
    ·obtain⟨o,W⟩:=aS.mp Z.last.1;rw[J _ o W];rfl
    · haveI hl:((List.replicate j.length (aB:Option MV))[i]?.join)=aB:=by rw[List.getElem?_replicate];split<;>rfl
      rw[hl];have :=(m.nm x (List.mem_of_getElem? p)).1;unfold jF;rcases this with hk|hk
      ·rw[show(BK C s.heap.objs.size a).kindOf x=aA .local from hk];intro D z;cases z
      ·rw[show(BK C s.heap.objs.size a).kindOf x=aA .cell from hk];obtain⟨c,ec⟩:=aS.mp (IL (n:=s.heap.objs.size+1) (acc:=[]) (.inl (mem_lookup hk)));exact⟨c,aB,ec,(hc x c ec).1,λ D z=>by cases z⟩
    ·exact Z.real.footLive f (iZ _)
    ·intro z;have :C.scope.kind=.module:=z;rw[m.kind]at this;cases this
  subst e;refine aE (UN (s:={s with heap:=H}) rk I _ (λ U U U=>rfl) B [] t [] mvs (List.replicate B.length aB) P _ rfl rfl lm (by simp) (q.ev.vrs hv) F (λ x p=>?_) ?_ q λ K V S' v g'=>aM (h K V I F (by simpa using S') v λ b o e=>g' b o e (J b o e)));·exact(m.nm x (List.mem_append_left _ p)).1
  · haveI :([]:List MV).map aA++List.replicate B.length aB++List.replicate t.length aB=List.replicate (B++t).length (aB:Option MV):=by simp[List.replicate_append_replicate]
    rw[this];exact S
end
theorem HP:∀{B:List bP}{Z:List aH}{p:bP×aH},B.Nodup->p∈B.zip Z->(B.zip Z).lookup p.1=aA p.2:=by
 intro B;induction B with
 |nil=>intro Z p U h;cases h|cons x B g=>
 intro Z p d h;cases Z with
 |nil=>cases h|cons v Z=>
 rw[sR]at h⊢;obtain⟨c,f⟩:=xM.mp d;rcases cD.mp h with rfl|h;·rw[cM,beq_self_eq_true]
 ·haveI i:p.1∈B:=(qZ (a:=p.1) (b:=p.2) h).1;rw[cM];haveI :(p.1==x)=aG:=beq_eq_false_iff_ne.mpr λ e=>c (e▸i);rw[this];exact g f h
theorem US:∀{l:List (bP×aH)}{x:bP},(∀p∈l,p.1≠x)->l.lookup x=aB:=by
 intro d;induction d with
 |nil=>
 intro U U;exact rfl|cons p l c=>
 intro x h;obtain⟨a,b⟩:=p;haveI :(x==a)=aG:=beq_eq_false_iff_ne.mpr λ e=>h (a,b) (aW ..) e.symm;rw[cM,this];exact c λ p f=>h p (aV _ f)
theorem TQ{L:List (bP×aH)}:∀{X:List bP}{t:List aH},X.length=t.length->(∀p∈X.zip t,L.lookup p.1=aA p.2)->X.filterMap (λ n=>(L.lookup n).map (n,·))=X.zip t:=by
 intro X;induction X with
 |nil=>intro t U U;rfl|cons y X b=>
 intro t h k;cases t with
 |nil=>cases h|cons w t=>
 rw[sR]at k⊢;haveI e:L.lookup y=aA w:=k (y,w) (aW ..);rw[zZ,e];show(y,w)::_=_;rw[b (mK h) λ p a=>k p (aV _ a)]
theorem bz(f:bP×aH->List (bP×aH)->GH (ForInStep (List (bP×aH))))(d:∀x S,f x S=if(S.lookup x.1).isNone=aC then iB (.yield (S++[(x.1,x.2)]))else iB (.yield S)){S:List (bP×aH)}:∀(l r:List (bP×aH)),(∀p∈l,(S.lookup p.1).isSome)->forIn (l++r) S f=forIn r S f:=by
 intro c;induction c with
 |nil=>
 intro U U;exact rfl|cons p l b=>
 intro r h;have a:=h p (aW ..);rw[jW,iI,d,if_neg (by cases q:S.lookup p.1 with|none=>rw[q]at a;cases a|some _=>simp),rU];exact b r λ p a=>h p (aV _ a)
theorem cq(f:bP×aH->List (bP×aH)->GH (ForInStep (List (bP×aH))))(g:∀x S,f x S=if(S.lookup x.1).isNone=aC then iB (.yield (S++[(x.1,x.2)]))else iB (.yield S)):∀(l S:List (bP×aH)),(l.map (·.1)).Nodup->(∀p∈l,∀q∈S,q.1≠p.1)->forIn l S f=iB (S++l):=by
 intro i;induction i with
 |nil=>
 intro S U U;rw[oS,bB]|cons p l b=>
 intro S j h;obtain⟨k,d⟩:=xM.mp j;rw[iI,g,US (h p (aW ..)),if_pos (by rfl),rU];dsimp only;rw[b (S++[(p.1,p.2)]) d,bJ];·rfl
 intro q c z a;rcases cZ.mp a with a|a;·exact h q (aV _ c) z a
 ·cases bU.mp a;exact λ e=>k (dF.mpr ⟨q,c,Eq.symm e⟩)
theorem PJ{E:List bP}{P D:List aH}(C:E.Nodup)(x:P.length<=E.length)(y:D.length<=E.length)(K:E.length<=P.length+D.length):∃A B,(E.drop (E.length-D.length)).zip D=A++B/\(∀p∈A,((E.zip P).lookup p.1).isSome)/\(B.map (·.1)).Nodup/\(∀p∈B,∀q∈E.zip P,q.1≠p.1)/\E.zip P++B=E.zip (P++D.drop (P.length+D.length-E.length))/\(E.take (E.length-D.length)).filter (λ n=>((E.zip P).lookup n).isNone)=[]:=by
 obtain⟨z,i⟩:=yY x;obtain⟨m,o⟩:=yY (mU (i▸K));rw[<-i,<-o,BZ P.length z]at y;obtain⟨k,hk⟩:=yY (mU y);have I:E.length-D.length=k:=jK (by rw[<-i,<-o,<-hk];simp+arith);have M:P.length+D.length-E.length=m:=jK (by rw[<-i,<-o];simp+arith);rw[I,M];have d:(E.take P.length).length=P.length:=by rw[fW,gX x]
 have s:((E.take P.length).drop k).length=(D.take m).length:=by rw[eA,d,fW,gX (o▸xI m z)];exact jK hk.symm
 have u:(E.drop P.length).length=(D.drop m).length:=by rw[eA,eA];exact(jK (by rw[<-i];exact BZ ..)).trans (jK o.symm).symm
 have c:=lF P.length E;generalize E.take P.length=U at d s c;generalize E.drop P.length=Z at u c;have t:=lF m D;generalize D.take m=F at s t;generalize D.drop m=H at u t⊢;have f:=lF k U;have v:(U.take k).length=k:=by rw[fW,d,gX (hk▸xI k m)]
 generalize U.take k=X at v f;generalize U.drop k=Y at s f;have w:E.zip P=U.zip P:=by rw[<-c];refine(congrArg _ (bB P).symm).trans ((xL d).trans ?_);rw[AY,bB]
 have l:∀n,n∈U->((U.zip P).lookup n).isSome:=λ n r=>by
  rw[<-DX (bM d)]at r;obtain⟨p,j,e⟩:=dF.mp r;rw[<-e,<-w,HP C (w▸j)];rfl
 have h:=C;rw[<-c]at h;obtain⟨_,J,L⟩:=DD.mp h;have G:E.drop k=Y++Z:=by rw[<-c,<-f,bJ,List.drop_left' v]
 have g:E.take k=X:=by rw[<-c,<-f,bJ,List.take_left' v]
 rw[w,G,g];refine⟨Y.zip F,Z.zip H,?_,λ p j=>l _ (f▸eJ _ (qZ (a:=p.1) (b:=p.2) j).1),?_,λ p j q N=>L _ (qZ (a:=q.1) (b:=q.2) N).1 _ (qZ (a:=p.1) (b:=p.2) j).1,?_,?_⟩;·rw[<-t];exact xL s
 ·rw[DX (bM u)];exact J
 ·rw[<-c];exact(xL d).symm
 ·refine List.filter_eq_nil_iff.mpr λ n r=>?_;rw[Option.isNone_eq_false_iff.mpr (l n (f▸cX _ r))];exact cP
theorem XW{C:fY}{P:List aH}{Y:List Arg}{U:List (Option aR)}{r:List aR}(c:C.params=⟨[],Y,aB,[],U,aB,r⟩)(b:(Y.map (·.arg)).Nodup)(a:P.length<=Y.length):∃k,yM C ⟨P,[]⟩=wF C.defaults>>=k/\∀o:Option (Array aH),((o.getD #[]).toList.length<=Y.length)->Y.length<=P.length+(o.getD #[]).toList.length->k o=iB ((Y.map (·.arg)).zip (P++(o.getD #[]).toList.drop (P.length+(o.getD #[]).toList.length-Y.length))):=by
 unfold yM;rw[c];refine⟨_,rfl,λ o y K=>?_⟩;generalize(o.getD #[]).toList=D at y K⊢;have i:Y.length=(Y.map (·.arg)).length:=(bF ..).symm;rw[i]at a y K⊢;dsimp only;simp only[xB,fP,bB];generalize Y.map (·.arg)=E at b a y K⊢;obtain⟨A,B,f,e,g,j,d,h⟩:=PJ b a y K;refine(if_neg (by simp;exact a)).trans ?_;rw[yB y,yL,h,if_neg (by decide),f,bz _ (λ x S=>rfl) _ _ e,cq _ (λ x S=>rfl) _ _ g j,rU,oS,rU,if_neg (λ z=>by cases z),d];exact congrArg iB (TQ (by rw[aF,eA];first|exact aj a K|exact(aj a K).symm|exact bM (aj a K).symm|exact bM (aj a K)) λ p c=>HP b c)
noncomputable def Cw:aH->Bool
 |.none=>aC|_=>aG
noncomputable def vBool(a:Bool):aH->Bool
 |.bool b=>a==b|_=>aG
noncomputable def vInt(a:Int):aH->Bool
 |.int b _=>a==b|_=>aG
noncomputable def J8(a:Nat):aH->Bool
 |.ref b=>a==b|_=>aG
noncomputable def Jf(m:MV)(v:aH):Bool:=match m with
 |.none=>Cw v|.bool a=>vBool a v|.int a=>vInt a v|.cst a=>J8 a v|_=>aG
theorem x9{m:MV}{v:aH}(h:bG)(e:Jf m v=aC):VR h m v:=by cases m with
 |none=>cases v with
  |none=>simp only[VR]|_=>exact bft e
 |bool a=>cases v with
  |bool b=>simp only[VR];rw[beq_iff_eq.mp e]|_=>exact bft e
 |int a=>cases v with
  |int b t=>simp only[VR];exact⟨t,by rw[beq_iff_eq.mp e]⟩|_=>exact bft e
 |cst a=>cases v with
  |ref b=>simp only[VR];rw[beq_iff_eq.mp e]|_=>exact bft e
 |_=>exact bft e
noncomputable def dm:List MV->List aH->Bool
 |[],[]=>aC|m::k,v::Z=>Jf m v&&dm k Z|_,_=>aG
theorem i9(h:bG):∀{k:List MV}{Z:List aH},dm k Z=aC->dK h k Z:=by
 intro k;induction k with
 |nil=>intro Z e;cases Z with|nil=>exact dK.nil|cons _ _=>exact bft e
 |cons m k a=>
 intro Z e;cases Z with
 |nil=>exact bft e|cons v Z=>
 replace e:(Jf m v&&dm k Z)=aC:=e;exact dK.cons (x9 h (bl e)) (a (br e))
noncomputable def XF(o:gV):Option (Array aH):=match o.data with
 |.seq Z _=>aA Z|_=>aB
noncomputable def PD(K:IK)(d:aH)(k:List MV):Bool:=match d with
 |.none=>k.isEmpty|.ref T=>((K.lookup T).bind XF).any λ Z=>dm k Z.toList|_=>aG
theorem UM{o:gV}{Z:Array aH}(h:XF o=aA Z):∃c d n j,o=⟨c,d,.seq Z n,j⟩:=by
 obtain⟨c,d,a,j⟩:=o;cases a with
 |seq t n=>exact⟨c,d,n,j,by cases h;rfl⟩|_=>exact on1 h
theorem YF{K:IK}{d:aH}{k:List MV}(h:PD K d k=aC):(d=.none/\k=[])\/∃T o Z,d=.ref T/\K.lookup T=aA o/\XF o=aA Z/\dm k Z.toList=aC:=by cases d with
 |none=>exact .inl ⟨rfl,fC.mp h⟩|ref T=>
 obtain⟨Z,e,q⟩:=(BM ..).mp h;obtain⟨o,b,a⟩:=cA e;exact .inr ⟨T,o,Z,rfl,b,a,q⟩|_=>exact bft h
structure uF(R:iK)(gn:Nat->bP)(pn:Nat->Nat->bP)(F:MF)(fA:Nat)(fd:fY)(body:List dW):Prop where
 at_:∃oc od sl,R.K.lookup fA=aA ⟨oc,od,.func fd,sl⟩bd:fd.body=.stmts body
 chk:CK gn pn (F.names.map aP) fd.scope.names F.body body=aC
 sc:GK fd.scope (F.names.map aP)=aC
 ps:∃as kd dd,fd.params=⟨[],as,aB,[],kd,aB,dd⟩/\as.map (·.arg)=(F.names.map aP).take F.np
 np:F.np<=F.names.length
 clo:fd.closure=[]gl:fd.globals=R.gA
 bl:fd.builtins=R.bA
 cd:codeIn R.K fd.code fd.qualname=aC
 co:fd.scope.isCoroutine=aG
 ge:fd.scope.isGenerator=aG
 df:PD R.K fd.defaults F.dflts=aC
 dl:F.dflts.length<=F.np
noncomputable def C7(p:Arguments)(j:List bP):Bool:=p.posonlyargs.isEmpty&&p.vararg.isNone&&p.kwonlyargs.isEmpty&&p.kwarg.isNone&&p.args.map (·.arg)==j
noncomputable def DZ(K:IK)(b a:Nat)(gn:Nat->bP)(pn:Nat->Nat->bP)(F:MF)(C:fY)(t:List dW):Bool:=CK gn pn (F.names.map aP) C.scope.names F.body t&&GK C.scope (F.names.map aP)&&C7 C.params ((F.names.map aP).take F.np)&&cH (F.np<=F.names.length)&&C.closure.isEmpty&&C.globals==b&&C.builtins==a&&codeIn K C.code C.qualname&&!C.scope.isCoroutine&&!C.scope.isGenerator&&PD K C.defaults F.dflts&&cH (F.dflts.length<=F.np)
theorem y7{p:Arguments}(a:p.posonlyargs=[])(b:p.vararg=aB)(c:p.kwonlyargs=[])(d:p.kwarg=aB):p=⟨[],p.args,aB,[],p.kw_defaults,aB,p.defaults⟩:=by
 obtain⟨h,g,e,k,f,j,i⟩:=p;dsimp only at a b c d;subst a b c d;rfl
theorem CF{R:iK}{gn:Nat->bP}{pn:Nat->Nat->bP}{F:MF}{n:Nat}{N:fY}{t:List dW}{Q:aH}{L:Option Nat}{j:Array (Option aH)}(e:R.K.lookup n=aA ⟨Q,L,.func N,j⟩)(G:N.body=.stmts t)(h:DZ R.K R.gA R.bA gn pn F N t=aC):uF R gn pn F n N t:=by
 unfold DZ at h;simp only[fB,decide_eq_true_eq,beq_iff_eq,fF,fC]at h;obtain⟨⟨⟨⟨⟨⟨⟨⟨⟨⟨⟨y,C⟩,a⟩,g⟩,l⟩,P⟩,i⟩,f⟩,k⟩,d⟩,b⟩,c⟩:=h;refine⟨⟨_,_,_,e⟩,G,y,C,?_,g,l,P,i,f,k,d,b,c⟩;exact(⟨_,_,_,y7 (fC.mp (bl (bl (bl (bl a))))) (jH.mp (br (bl (bl (bl a))))) (fC.mp (br (bl (bl a)))) (jH.mp (br (bl a))),beq_iff_eq.mp (br a)⟩)
noncomputable def QM(R:iK)(a:Nat->bP)(F:MF)(C:fY):Prop:=∀(s:aI)(D:List MV)(Z:List aH)(o:List Nat)(B:Loc),R.K.In s.heap->dK s.heap D Z->bindM F D o=aA B->∃i S,dK s.heap i S/\i.length=F.np/\B=i.map aA++cJ (F.names.length-F.np) aB/\DH s C ⟨Z.take (Z.length-o.length),(o.map a).zip (Z.drop (Z.length-o.length))⟩ (((F.names.map aP).take F.np).zip S)
theorem sW{R:iK}{gn:Nat->bP}{pn:Nat->Nat->bP}{F:MF}{u:Nat}{C:fY}{t:List dW}(b:uF R gn pn F u C t){s:aI}{D:List MV}{Z:List aH}{B:Loc}(X:R.K.In s.heap)(q:dK s.heap D Z)(G:bindM F D []=aA B):∃x S,dK s.heap x S/\x.length=F.np/\B=x.map aA++cJ (F.names.length-F.np) aB/\DH s C ⟨Z,[]⟩ (((F.names.map aP).take F.np).zip S):=by
  unfold bindM at G;dsimp only at G;split at G
  · rename_i g;cases G;obtain⟨Y,U,r,H,p⟩:=b.ps;haveI N:(Y.map (·.arg)).Nodup:=by rw[p];exact(List.take_sublist _ _).nodup (GZ b.sc).nodup
    have l:Y.length=F.np:=by
     have :=congrArg oB p;rw[bF,fW,bF,gX b.np]at this;exact this
    have m:=q.length;obtain⟨k,L,J⟩:=XW (P:=Z) H N (by rw[l,m];exact g.1);have i:∀o:Option (Array aH),dK s.heap F.dflts (o.getD #[]).toList->(∀(M:CI)(A:cW)(E:aH->aI->Prop)(Q:Option (Array aH)->aI->Prop),Q o s->aU M A (wF C.defaults) Q E s)->∃x S,dK s.heap x S/\x.length=F.np/\(D++F.dflts.drop (D.length+F.dflts.length-F.np)).map aA++cJ (F.names.length-F.np) aB=x.map aA++cJ (F.names.length-F.np) aB/\DH s C ⟨Z,[]⟩ (((F.names.map aP).take F.np).zip S):=λ o f w=>by
     have ld:=f.length;have h:=J o (by rw[l,ld];exact b.dl) (by rw[l,ld,m];exact g.2);rw[p,ld,m,l]at h;refine⟨_,_,dK.append q (dK.drop (D.length+F.dflts.length-F.np) _ _ f),?_,rfl,λ M A E Q a=>?_⟩;·rw[aF,eA];exact aj g.1 g.2
     ·rw[L];refine aE (w M A E _ ?_);rw[h];exact aM a
    rcases YF b.df with⟨e,z⟩|⟨T,o,I,e,f,h,y⟩;·exact i aB (by rw[z];exact dK.nil) λ M A E Q a=>by rw[e];exact aM a
    ·obtain⟨c,d,n,j,v⟩:=UM h;rw[v]at f;exact i (aA I) (i9 _ y) λ M A E Q a=>by rw[e];exact oN (X _ _ f) rfl a
  ·cases G
section
variable{c:Program}{w:World}{R:iK}{G:Gl}{gn:Nat->Str}{pn:Nat->Nat->Str}{d:Nat}{l:List Env}{A:Around}{s:Shared}{M:Nat->Nat}{Y:MH}
theorem xN.deeper{N:Env}(a:xN A l (d+1)):xN (A.deeper N) (N::l) d:=by
 haveI y:=a.dep;haveI K:=a.un;refine⟨a.hand,?_,?_,?_⟩;·show A.frames.map _=_;rw[a.frs];rfl
 ·show A.depth+1+3*d+10<gR;exact F1 y
 ·show A.units+3+30*d+100<CA;exact F1 K
theorem KV(H:cR R){F:MF}{n:Nat}{C:fY}{t:List dW}(k:uF R gn pn F n C t)(J:A.depth<gR)(Z:Sb R l M Y s.heap){m:Args}{i:List MV}{x:List aH}(hv:dK s.heap i x)(lm:i.length=F.np)(r:DH s C m (((F.names.map Str.ofString).take F.np).zip x)){RR:nP->Shared->Prop}(q:∀N P g,(∃a,N=BK C s.heap.objs.size a)->dZ R N (F.names.map Str.ofString)->qo R N s.heap->tR N (N::l) (F.names.map Str.ofString)->pC C.scope.names N->St R N (N::l) (F.names.map Str.ofString) M (i.map aA++List.replicate (F.names.length-F.np) aB) Y P->cU R.N0 M Y s.heap M Y P->(∀b o,s.heap.get? b=aA o->P.get? b=aA o)->aU (aY c w) (A.deeper N) (execs t N) (λ f u=>RR (.ok (.ret (match f with|.ret v=>v|_=>.none))) u) (λ e u=>aU (aY c w) (A.deeper N) (leaving N e) (λ U z=>RR (.error e) z) (λ E z=>RR (.error E) z) u) {s with heap:=P,toks:=g}):iM (aY c w) A (.call (.ref n) m) RR s:=by
 obtain⟨Q,L,j,O⟩:=k.at_;have B:=GZ k.sc;refine codeAny_call_function J (Z.X _ _ O) rfl k.co k.ge k.bd (codeRec_of Z.X k.cd) (r _ _ _ _ ?_);rw[k.clo];haveI e:F.names.map Str.ofString=(F.names.map Str.ofString).take F.np++(F.names.map Str.ofString).drop F.np:=(List.take_append_drop _ _).symm;refine C6 H B k.gl k.bl Z e (mvs:=i) (by rw[List.length_take,List.length_map,Nat.min_eq_left k.np];exact lm) hv λ P g I D S p K=>⟨H.lim _ S.X,codeAny_func ?_⟩;haveI W:((F.names.map Str.ofString).drop F.np).length=F.names.length-F.np:=by simp
 rw[W]at S;haveI fk:tR (BK C s.heap.objs.size n) (BK C s.heap.objs.size n::l) (F.names.map Str.ofString):=by
  refine⟨⟨l,rfl⟩,⟨_,rfl⟩,rfl,λ y V=>(B.nm y V).1,?_,?_⟩;·show(C.scope.kind==.module&&_)=aG;rw[B.kind];rfl
  ·show(if C.scope.kind.isAnnotationScope then ScopeKind.function else C.scope.kind)=.function;rw[B.kind];rfl
 exact q _ P g ⟨_,rfl⟩ I D fk ⟨λ U h=>h,λ U h=>h,λ U h=>h⟩ S p K
theorem JZ(rk:cR R){Φ:kP}{F:MF}{W:Nat}{j:fY}{t:List dW}(fo:uF R gn pn F W j t)(O:∀N l,dZ R N (F.names.map Str.ofString)->pC j.scope.names N->tR N l (F.names.map Str.ofString)->gh c w R Φ G d N l (F.names.map Str.ofString) F.body t)(ao:∀N:Env,xN (A.deeper N) (N::l) d)(Z:Sb R l M Y s.heap){J:Args}{b:List MV}{Q:List aH}(hv:dK s.heap b Q)(lm:b.length=F.np)(V:DH s j J (((F.names.map Str.ofString).take F.np).zip Q)){k x:KE}(m:cF Φ G F.body (b.map aA++List.replicate (F.names.length-F.np) aB) Y (λ U Y=>k .none Y) k (λ U U=>False) x){RR:nP->Shared->Prop}(hq:QE R M Y k (λ v u=>RR (.ok (.ret v)) u) s)(hx:XE R l .none M Y x (λ e u=>RR (.error e) u) s):iM (aY c w) A (.call (.ref W) J) RR s:=by
 refine KV rk fo (by haveI h:A.depth+1+3*d+10<gR:=(ao (BK j 0 0)).dep;exact F1 h) Z hv lm V λ N P g he n a6 fk sk S p U=>?_;have hf:∃L,N.frame=aA L/\∀o:eI,N.frame=aA o->o=L:=by
  obtain⟨L,hf⟩:=fk.fr;exact⟨L,hf,λ o q=>by rw[hf]at q;exact(bH q).symm⟩
 obtain⟨L,hf,hL⟩:=hf;refine O _ _ n sk fk _ {s with heap:=P,toks:=g} M Y s.heap M _ Y _ _ _ _ _ _ (ao _) a6 S p m ⟨λ C X I K H S2 p2 U q=>?_,λ C I K H D v p2 r q=>?_,λ C X I K H S2 p2 U q=>q.elim⟩ ?_;·exact hq C I K H .none .none p2 (by simp only[VR]) q
 ·exact hq C I K H D v p2 r q
 ·intro a a5 C I y B K H e i f p2 nw E ex a4 a2 al;refine uw (s:={s with heap:=K,toks:=H}) (ao _).frs hf (a5.imp_right λ z=>by obtain⟨o,a3,q⟩:=z;rw[hL o a3]at q;exact q) a4 λ h3 a1 k3=>?_;exact hx C I y B h3 H e i f p2 nw E ex a1 (a2.trans k3) al
end
section
variable{c:Program}{w:World}{R:iK}{G:Gl}{gn:Nat->Str}{pn:Nat->Nat->Str}{d:Nat}{l:List Env}{A:Around}{s:Shared}{M:Nat->Nat}{Y:MH}
theorem Sb.post(f:cR R){C:Nat->Nat}{I:MH}{h P:bG}(Z:Sb R l M Y h)(p:cU R.N0 M Y h C I P):Sb R l C I P:=by
 refine⟨λ a o e=>p.ev.low a o (f.klow a o e).1 (Z.X a o e),⟨?_,Z.last.2⟩,p.real,p.alive Z.real Z.fr⟩;obtain⟨o,b⟩:=aS.mp Z.last.1;exact p.ev.isSome b
theorem kj(J:cR R){C I:Nat}(F:makesIn R.K C=aC)(q:fK R.K (.ref C) "__init__"=aA (aA (.ref I)))(E:EK R.K (.ref I)=aA (.type "function")){P:List aH}(Z:Sb R l M Y s.heap){D:List MV}(v:dK s.heap D P){RR:nP->Shared->Prop}(h:∀a i j,Y a=aB->cU R.N0 M Y s.heap i (upd Y a (.inst C [])) j->dK j (.ref a::D) (.ref a::P)->iM (aY c w) (A.under (.builtin "type.__call__" ⟨.ref C::P,[]⟩)) (.call (.ref I) ⟨.ref a::P,[]⟩) (InitBack a RR) {s with heap:=j}):iM (aY c w) A (.call (.ref C) ⟨P,[]⟩) RR s:=by
 obtain⟨f,g,H,t,os⟩:=s;have X:=Z.X;refine make_core (makes_of X F) (rS X q) (λ B=>bind_fn X B E) (.inl rfl) ?_;have k:R.N0.n<=f.objs.size:=by
  obtain⟨o,u⟩:=aS.mp Z.last.1;exact Nat.le_of_pred_lt (cN u)
 haveI m:∀b o,f.get? b=aA o->((f.push vR).push (DK C f.objs.size)).get? b=aA o:=λ b o e=>aK _ (aK _ e);haveI r:(f.push vR).objs.size=f.objs.size+1:=iE ..;haveI y:((f.push vR).push (DK C f.objs.size)).get? (f.objs.size+1)=aA (DK C f.objs.size):=by
  haveI :=bQ (f.push vR) (o:=DK C f.objs.size) rfl;rwa[r]at this
 haveI z:((f.push vR).push (DK C f.objs.size)).get? f.objs.size=aA vR:=aK _ (bQ f rfl);have U:f.get? (f.objs.size+1)=aB:=EM f;have p:=cU.newInst (x:=f.objs.size+1) (dx:=f.objs.size) (C:=C) Z.real (Nat.le_succ_of_le k) k m (iZ f) U (Nat.ne_of_lt (Nat.lt_succ_self _)) y z;refine h (f.objs.size+1) _ _ (Z.real.freeAt U) p (dK.cons (by simp only[VR]) (p.ev.vrs v))
theorem xN.make{C:Nat}{Z:List aH}(a:xN A l (d+1))(N:Env):xN ((A.under (.builtin "type.__call__" ⟨.ref C::Z,[]⟩)).deeper N) (N::l) d:=by
 haveI y:=a.dep;haveI K:=a.un;refine⟨a.hand,?_,?_,?_⟩;·show A.frames.map _=_;rw[a.frs];rfl
 ·haveI e:(A.under (.builtin "type.__call__" ⟨.ref C::Z,[]⟩)).depth=A.depth+1:=rfl;show(A.under (.builtin "type.__call__" ⟨.ref C::Z,[]⟩)).depth+1+3*d+10<gR;rw[e];exact F1 y
 ·show A.units+1+3+30*d+100<CA;exact F1 K
structure Bx(R:iK)(C fI:Nat):Prop where
 mkr:makesIn R.K C=aC
 fi:fK R.K (.ref C) "__init__"=aA (aA (.ref fI))ty:EK R.K (.ref fI)=aA (.type "function")kp:qV R.K (.ref C)=aC
structure t7(R:iK)(G:Gl)(gn:Nat->Str)(pn:Nat->Nat->Str)(T:i6):Prop where
 fn:∀f F,T.fn f=aA F->∃fA fd body,R.mG (gn f)=aA (.ref fA)/\qV R.K (.ref fA)=aC/\uF R gn pn F fA fd body/\QM R (pn f) F fd
 ini:∀C F,T.ini C=aA F->∃fI fd body,R.mG (gn C)=aA (.ref (G.ca C))/\Bx R (G.ca C) fI/\uF R gn pn F fI fd body
 mth:∀C m F,T.mth C m=aA F->∃fA fd body,NI R C m fA/\uF R gn pn F fA fd body
noncomputable def zg(c:Program)(w:World)(R:iK)(a:kP)(G:Gl)(gn:Nat->Str)(pn:Nat->Nat->Str)(d:Nat):Prop:=∀(k:List MS)(u:List dW)(P:List (Str×dA))(N:Env)(l:List Env)(j:List Str),CK gn pn j P k u=aC->dZ R N j->pC P N->tR N l j->gh c w R a G d N l j k u
theorem PG(rk:cR R){T:i6}(V:t7 R G gn pn T)(j:zg c w R (bY T G d) G gn pn d):qL c w R (bY T G (d+1)) G gn pn (d+1):=by
 refine⟨λ f hf=>?_,λ f hf=>?_,λ C m hf=>?_⟩
 ·obtain⟨F,eF⟩:=aS.mp (show(T.fn f).isSome=aC from hf);obtain⟨n,u,t,y,K,O,bo⟩:=V.fn f F eF;refine⟨n,y,K,λ A l s M Y D g z k x Q E ao Z hv m hq hx=>?_⟩;have J:OptK (T.fn f) λ F=>TJ (bY T G d) G F D z Y k x:=m;rw[eF]at J;obtain⟨B,eb,S⟩:=fJ (show OptK (bindM F D z) _ from J);obtain⟨W,h,hp,lp,rfl,b⟩:=bo s D g z B Z.X hv eb;exact lX (JZ rk O (λ N l I sk fk=>j _ _ _ N l _ O.chk I sk fk) (λ U=>ao.deeper) Z hp lp b S hq hx)
 ·obtain⟨F,eF⟩:=aS.mp (show(T.ini f).isSome=aC from hf);obtain⟨e,u,t,y,no,O⟩:=V.ini f F eF;refine⟨y,no.kp,λ A l s M Y D g k x Q E ao Z hv m hq hx=>?_⟩;have J:OptK (T.ini f) λ F=>∀a,Y a=aB->TJ (bY T G d) G F (.ref a::D) [] (upd Y a (.inst (G.ca f) [])) (λ v Y=>v=.none/\k (.ref a) Y) x:=m;rw[eF]at J;refine lX (kj rk no.mkr no.fi no.ty Z hv λ a i P ha p a1=>?_);obtain⟨B,eb,S⟩:=fJ (show OptK (bindM F (.ref a::D) []) _ from J a ha);have Z':=Z.post rk p;obtain⟨W,h,hp,lp,rfl,b⟩:=sW (s:={s with heap:=P}) O Z'.X a1 eb;refine JZ (s:={s with heap:=P}) (k:=λ v Y=>v=.none/\k (.ref a) Y) rk O (λ N l I sk fk=>j _ _ _ N l _ O.chk I sk fk) ao.make Z' hp lp b S (λ o H K a2 L v p2 r q=>?_) (hx.post p);obtain⟨rfl,q⟩:=q;simp only[VR]at r;exact⟨r,hq _ _ _ _ _ _ (p.trans p2) (by simp only[VR]) q⟩
 ·obtain⟨F,eF⟩:=aS.mp (show(T.mth C m).isSome=aC from hf);obtain⟨n,u,t,mf,O⟩:=V.mth C m F eF;refine⟨n,mf,λ A l s M Y D g k x Q E ao Z hv mm hq hx=>?_⟩;have J:OptK (T.mth C m) λ F=>TJ (bY T G d) G F D [] Y k x:=mm;rw[eF]at J;obtain⟨B,eb,S⟩:=fJ (show OptK (bindM F D []) _ from J);obtain⟨W,h,hp,lp,rfl,b⟩:=sW O Z.X hv eb;exact lX (JZ rk O (λ N l I sk fk=>j _ _ _ N l _ O.chk I sk fk) (λ U=>ao.deeper) Z hp lp b S hq hx)
theorem OK{T:i6}:qL c w R (bY T G 0) G gn pn 0:=⟨λ U h=>(by cases h),λ U h=>(by cases h),λ U U h=>(by cases h)⟩
end
structure jQ(prog:bK)(w:cK)(R:iK)(Φ:kP)(G:Gl)(gn:Nat->bP)(pn:Nat->Nat->bP)(d:Nat):Prop where
 rk:cR R
 gk:Io R G gn
 kk:UJ R G
 ck:IR R G
 kl:ph R G
 bk:ES R
 ik:DF R G gn
 mf:ou
 hP:R.N0.prog=prog
 hW:R.N0.w=w
 hsm:gC<R.N0.n
 sp:qL prog w R Φ G gn pn d
section
variable{a:Program}{w:World}{R:iK}{b:kP}{G:Gl}{gn:Nat->Str}{pn:Nat->Nat->Str}{d:Nat}{N:Env}{l:List Env}{j:List Str}
noncomputable def lI(a:Program)(w:World)(R:iK)(b:kP)(G:Gl)(d:Nat)(N:Env)(l:List Env)(j:List Str):List ME->List aR->Prop
 |[],[]=>True|m::k,p::u=>((SE a w R b G d N l j m p/\ST a w R b G d N l j m p)/\DW p=aC)/\lI a w R b G d N l j k u|_,_=>False
theorem lI.ind{P:List ME->List aR->Prop}(c:P [] [])(y:∀{m k p u},lI a w R b G d N l j (m::k) (p::u)->P k u->P (m::k) (p::u)):∀{k:List ME}{u:List aR},lI a w R b G d N l j k u->P k u:=by
 intro k;induction k with
 |nil=>intro u h;cases u with|nil=>exact c|cons p u=>exact h.elim
 |cons m k e=>intro u h;cases u with|nil=>exact h.elim|cons p u=>exact y h (e h.2)
theorem lI.len:∀{k:List ME}{u:List aR},lI a w R b G d N l j k u->k.length=u.length:=lI.ind (P:=λ k u=>k.length=u.length) rfl λ U c=>congrArg Nat.succ c
theorem lI.plain:∀{k:List ME}{u:List aR},lI a w R b G d N l j k u->iD N u:=lI.ind (P:=λ U u=>iD N u) trivial λ h c=>⟨λ i=>nJ h.1.2 i N,c⟩
theorem lI.ses(c:cR R):∀{k:List ME}{u:List aR},lI a w R b G d N l j k u->GS a w R b G d N l j k u:=lI.ind (P:=GS a w R b G d N l j) kz λ h e=>bg c h.1.1.1 e (nJ h.1.2 _ N)
theorem lI.one{k:List ME}{ps:List aR}(h:lI a w R b G d N l j k ps):BA a w R b G d N l j k ps:=λ m p c e=>by subst c;subst e;exact h.1.1.1
theorem lI.sb(c:cR R)(e:jO):∀{k:List ME}{u:List aR},lI a w R b G d N l j k u->SB a w R b G d N l j e k u:=lI.ind (P:=SB a w R b G d N l j e) ⟨λ U U U U U U U U U U U U m U U=>m.elim,λ U U U U U U U U U U U m U U=>m.elim⟩ λ{m k p u}h f=>by cases k with
 |nil=>cases u with|nil=>exact u9 c h.1.1.1 h.1.1.2|cons _ _=>exact h.2.elim
 |cons _ _=>cases u with|nil=>exact h.2.elim|cons _ _=>exact j6 c h.1.1.1 h.1.1.2 f
theorem lI.sc(c:cR R):∀{k:List ME}{u:List aR},lI a w R b G d N l j k u->SC a w R b G d N l j k u:=lI.ind (P:=SC a w R b G d N l j) xy λ h e=>kq c h.1.1.2 e
theorem lI.sks(e:cR R):∀{k:List ME}{L:List nF},lI a w R b G d N l j k (L.map (·.value))->Dh a w R b G d N l j k L:=by
 intro k;induction k with
 |nil=>intro L h;cases L with|nil=>exact pu|cons _ _=>exact h.elim
 |cons m k c=>intro L h;cases L with|nil=>exact h.elim|cons _ _=>exact ZK e h.1.1.1 (c h.2)
theorem lI.split:∀{k:List ME}{p1 p2:List aR},lI a w R b G d N l j k (p1++p2)->∃q u,k=q++u/\lI a w R b G d N l j q p1/\lI a w R b G d N l j u p2:=by
 intro k p1;induction p1 generalizing k with
 |nil=>intro p2 h;exact⟨[],k,rfl,trivial,h⟩|cons p p1 c=>
 intro p2 h;cases k with
 |nil=>exact h.elim|cons m k=>
 obtain⟨q,u,rfl,y,K⟩:=c h.2;exact⟨m::q,u,rfl,⟨h.1,y⟩,K⟩
theorem zK{A:List (Str×dA)}(f:pC A N){kind:Nat}{p:aR}{u:List aR}(h:gH A kind p=aA u):gH N.scope.names kind p=aA u:=by
 refine uR (M:=λ kind p u=>gH N.scope.names kind p=aA u) (λ U=>rfl) (λ kind x Y F p2 c hk e=>?_) h;unfold gH at c⊢;by_cases q:kind=0;·rw[if_pos q]at c⊢;exact c
 ·rw[if_neg q];exact if_pos (show((kindOf kind x Y.length&&glb N.scope.names x)&&aC)=aC by rw[hk,f.glb _ e];rfl)
theorem zB{A:List (Str×dA)}{kind:Nat}{p:aR}{u:List aR}(h:gH A kind p=aA u)(c:∀q∈u,DW q=aC):DW p=aC:=uR (M:=λ U p u=>(∀q∈u,DW q=aC)->DW p=aC) (λ U h=>h _ (List.mem_cons_self ..)) (λ U U U U U U U U U=>rfl) h c
theorem lI.okh:∀{k:List ME}{u:List aR},lI a w R b G d N l j k u->∀q∈u,DW q=aC:=lI.ind (P:=λ U u=>∀q∈u,DW q=aC) (λ U h=>nomatch h) λ h e q c=>by
 rcases List.mem_cons.mp c with rfl|c;·exact h.1.2
 ·exact e q c
structure qc(gn:Nat->Str)(pn:Nat->Nat->Str)(j:List Str)(sn:List (Str×dA))(tn:List String)(cn:List Nat)(kind:Nat)(its:List ME)(elt:ME)(cond:List ME)(pelt tgt:aR)(pifs:List aR)(sc:oP)(ps:List aR):Prop where
 k2:(kind==2)=aC->AM tgt=aC
 tgt:sD (tn.map Str.ofString) tgt=aC
 its:mV gn pn j sn its ps=aC
 elt:fH gn pn (tn.map Str.ofString++cn.map λ i=>j[i]?.getD Str.empty) sc.names elt pelt=aC
 cond:mV gn pn (tn.map Str.ofString++cn.map λ i=>j[i]?.getD Str.empty) sc.names cond pifs=aC
 co:vE j sn sc (tn.map Str.ofString) (cn.map λ i=>j[i]?.getD Str.empty)cn:∀i∈cn,i<j.length
theorem je{p:List Str}{t:aR}(h:sD p t=aC)(K:p.length=2):AM t=aC:=by
 unfold sD at h;cases X:lU p with
 |some x=>rw[gG X]at K;cases K|none=>rw[X]at h;exact DC (M:=λ t=>AM t=aC) h λ U U U U=>rfl
theorem IV{A:List (Str×dA)}{p:List String}{t:List Nat}{kind:Nat}{o:List ME}{S:ME}{cond:List ME}{r:aR}{M:aR->Prop}(h:fH gn pn j A (.comp p t kind o S cond) r=aC)(k:∀e P f H Z F u,gH A kind f=aA u->qc gn pn j A p t kind o S cond e P H Z u->M (.ListComp e [⟨P,f,H,0⟩] Z F)):M r:=by
 refine WO h λ e v Z F h=>?_;cases X:lU v with
 |none=>rw[X]at h;cases h|some g=>
 rw[X]at h;obtain⟨P,f,H,B⟩:=g;have h:=eX h;have y:=bl h;have K:=bl y;have n:=bl K;have c:=bl n;have m:=bl c;have D:=bl m;haveI x:B=0:=bC (bl D);rw[gG X,x];cases hk:gH A kind f with
 |none=>rw[show(gH A kind f).any (mV gn pn j A o)=aG by rw[hk];rfl]at c;exact absurd (br c) cP|some u=>
      refine k _ _ _ _ _ _ _ hk ⟨λ q=>?_,br m,?_,br n,br K,WA (br y),λ i s=>of_decide_eq_true (List.all_eq_true.mp (br h) i s)⟩
      · refine je (br m) ?_;rw[List.length_map];rcases eK.mp (br D)with z|z;·rw[q]at z;cases z
        ·exact bC z
      ·have :=br c;dsimp only at this;rw[hk]at this;exact this
end
section
variable{j:Program}{w:World}{R:iK}{u:kP}{G:Gl}{gn:Nat->Str}{pn:Nat->Nat->Str}{d:Nat}
noncomputable abbrev Mw(j:Program)(w:World)(R:iK)(u:kP)(G:Gl)(gn:Nat->Str)(pn:Nat->Nat->Str)(d:Nat)(C:ME):Prop:=∀(r:aR)(A:List (Str×dA))(N:dL)(l:List dL)(F:List Str),fH gn pn F A C r=aC->dZ R N F->pC A N->SE j w R u G d N l F C r/\ST j w R u G d N l F C r
noncomputable abbrev Hp(j:Program)(w:World)(R:iK)(u:kP)(G:Gl)(gn:Nat->Str)(pn:Nat->Nat->Str)(d:Nat)(V:List ME):Prop:=∀(n:List aR)(A:List (Str×dA))(N:dL)(l:List dL)(F:List Str),mV gn pn F A V n=aC->dZ R N F->pC A N->lI j w R u G d N l F V n
noncomputable def qg(j:Program)(w:World)(R:iK)(u:kP)(G:Gl)(d:Nat):Prop:=∀(N:dL)(l:List dL)(F:List Str)(a b:ME)(n D:aR)(p p2 K V:fX),dZ R N F->glb N.scope.names "list"=aC->glb N.scope.names "zip"=aC->DW n=aC->DW D=aC->SE j w R u G d N l F a n->SE j w R u G d N l F b D->SE j w R u G d N l F (.lzip a b) (.Call (.Name "list" p) [.Call (.Name "zip" p2) [n,D] [] V] [] K)
theorem vl(b:cR R){N:dL}{l:List dL}{F:List Str}{C:ME}{r:aR}(h:SE j w R u G d N l F C r)(a:∀Z,isTrue r N Z=(do let v<-Z;DA r.pos;holding [v] (truthy v))):SE j w R u G d N l F C r/\ST j w R u G d N l F C r:=⟨h,XG b h a⟩
theorem EL{b:Bool}{f:aR->Bool}{o:Option aR}{M:Option aR->Prop}(h:jp b f o=aC)(a:b=aC->M aB)(c:∀p,f p=aC->M (aA p)):M o:=by cases o with
 |none=>exact a h|some p=>exact c p h
theorem tJ{b:Type}{l:List b}{f:b->Bool}{M:List b->Prop}(h:(lU l).any f=aC)(k:∀a,f a=aC->M [a]):M l:=by cases e:lU l with
 |none=>rw[e]at h;cases h|some a=>rw[e]at h;rw[gG e];exact k _ h
theorem KC{c:Type}{l:List c}{f:c×c->Bool}{M:List c->Prop}(h:(NK l).any f=aC)(k:∀a b,f (a,b)=aC->M [a,b]):M l:=by cases e:NK l with
 |none=>rw[e]at h;cases h|some a=>rw[e]at h;rw[rO e];exact k _ _ h
theorem lL{a:Type}{l:List a}(h:l.isEmpty=aC):l=[]:=fC.mp h
theorem plain1{N:dL}{p:aR}(h:DW p=aC):iD N [p]:=⟨λ i=>nJ h i N,trivial⟩
theorem plain2{N:dL}{p q:aR}(h:DW p=aC)(K:DW q=aC):iD N [p,q]:=⟨λ i=>nJ h i N,plain1 K⟩
section
variable{N:Env}{l:List Env}{F:List Str}{A:List (Str×NameKind)}{t:Expr}
noncomputable abbrev B2(j:Program)(w:World)(R:iK)(u:kP)(G:Gl)(d:Nat)(N:Env)(l:List Env)(F:List Str)(C:ME)(t:Expr):Prop:=SE j w R u G d N l F C t/\ST j w R u G d N l F C t
theorem Bf(H:jQ j w R u G gn pn d){e lo a:ME}(h:fH gn pn F A (.slc e lo a) t=aC)(m:∀p,fH gn pn F A e p=aC->B2 j w R u G d N l F e p)(g:∀p,fH gn pn F A lo p=aC->B2 j w R u G d N l F lo p)(n:∀p,fH gn pn F A a p=aC->B2 j w R u G d N l F a p):B2 j w R u G d N l F (.slc e lo a) t:=by
 refine KR h λ b i K h=>?_;refine VE (M:=λ i=>B2 j w R u G d N l F (.slc e lo a) (.Subscript b i K)) (br h) λ o f c p C=>?_;haveI k:c=aB:=jH.mp (br C);rw[k];refine vl H.rk (tz H.rk H.kl (m b (bl h)).1 ?_ ?_) λ U=>rfl;·exact EL (bl (bl C)) (λ q=>EH (M:=λ lo=>SO j w R u G d N l F lo aB) q SZ) λ p q=>SQ (g p q).1
 ·exact EL (br (bl C)) (λ q=>EH (M:=λ lo=>SO j w R u G d N l F lo aB) q SZ) λ p q=>SQ (n p q).1
theorem As(H:jQ j w R u G gn pn d)(I:dZ R N F)(k:pC A N){f:Nat}{a:List ME}{o:List Nat}(h:fH gn pn F A (.call f a o) t=aC)(n:∀r,mV gn pn F A a r=aC->lI j w R u G d N l F a r):B2 j w R u G d N l F (.call f a o) t:=by
 refine kT h λ g Y E K h=>qK (M:=λ g=>B2 j w R u G d N l F (.call f a o) (.Call g Y E K)) h λ x p h=>?_;have y:=bl h;have C:=bl y;have c:=bl C;obtain⟨V,i,m,b,e⟩:=(n _ (br h)).split;rw[m];refine vl H.rk (ly H.rk I H.sp (bC (br c)) (k.glb _ (br C)) b.plain (br y) ?_ (e.len.trans (List.length_map ..)) (b.ses H.rk) (lI.sks H.rk e)) λ U=>rfl;rcases eK.mp (bl c)with q|q;·exact .inl (lL q)
 ·exact .inr λ z=>by rw[show Y=[]from z]at q;cases q
theorem Fj(H:jQ j w R u G gn pn d)(I:dZ R N F)(b:pC A N){f:Nat}{a:List ME}(h:fH gn pn F A (.new f a) t=aC)(c:∀z,mV gn pn F A a z=aC->lI j w R u G d N l F a z):B2 j w R u G d N l F (.new f a) t:=by
 refine kT h λ g Y E K h=>qK (M:=λ g=>B2 j w R u G d N l F (.new f a) (.Call g Y E K)) h λ x p h=>?_;have y:=bl h;have C:=bl y;have e:=c _ (br h);rw[show E=[]from lL (bl C)];exact vl H.rk (zq H.rk I H.sp (bC (br C)) (b.glb _ (br y)) e.plain (e.ses H.rk)) λ U=>rfl
theorem Ha(H:jQ j w R u G gn pn d)(I:dZ R N F)(c:pC A N){f:Nat}{a:List ME}(h:fH gn pn F A (.bi f a) t=aC)(i:∀z,mV gn pn F A a z=aC->lI j w R u G d N l F a z):B2 j w R u G d N l F (.bi f a) t:=by
 refine kT h λ g Y E K h=>qK (M:=λ g=>B2 j w R u G d N l F (.bi f a) (.Call g Y E K)) h λ x p h=>?_;have y:=bl h;have C:=bl y;have b:=bl C;have e:=i _ (br h);rw[show E=[]from lL (bl b)];exact vl H.rk (Ce H.rk H.bk I (of_decide_eq_true (br b)) (bC (br C)) (c.glb _ (br y)) e.plain (e.ses H.rk)) λ U=>rfl
theorem xm(H:jQ j w R u G gn pn d){e:ME}{m:Nat}{b:List ME}(h:fH gn pn F A (.meth e m b) t=aC)(k:∀p,fH gn pn F A e p=aC->B2 j w R u G d N l F e p)(n:∀z,mV gn pn F A b z=aC->lI j w R u G d N l F b z):B2 j w R u G d N l F (.meth e m b) t:=by
 refine kT h λ g Y E K h=>vO (M:=λ g=>B2 j w R u G d N l F (.meth e m b) (.Call g Y E K)) h λ o a r h=>?_;have y:=bl h;have C:=bl y;have f:=bl C;have i:=bl f;have c:=bl i;have q:=n _ (br h);rw[show E=[]from lL (bl c),show a=mn m from bC (br c)];exact vl H.rk (kb H.rk H.hP H.hW H.mf H.sp (k o (br y)).1 (q.ses H.rk) (br i) q.plain (of_decide_eq_true (br C)) (br f)) λ U=>rfl
theorem zd(H:jQ j w R u G gn pn d)(I:dZ R N F)(k:pC A N){e:ME}{f:List Nat}{tp:Bool}(h:fH gn pn F A (.isin e f tp) t=aC)(z:∀p,fH gn pn F A e p=aC->B2 j w R u G d N l F e p):B2 j w R u G d N l F (.isin e f tp) t:=by
 refine kT h λ g Y E K h=>?_;have y:=bl h;have C:=bl y;have o:=bl C;rw[show E=[]from lL (br o)];have q:(f.map gn).all (glb N.scope.names)=aC:=List.all_eq_true.mpr λ x s=>k.glb _ (List.all_eq_true.mp (br y) x s);refine gW (M:=λ g=>B2 j w R u G d N l F (.isin e f tp) (.Call g Y [] K)) (bl o) λ p=>?_;refine KC (M:=λ Y=>B2 j w R u G d N l F (.isin e f tp) (.Call _ Y [] K)) (br h) λ a c b=>?_;have r:=bl (bl b);have n:=z a (br (bl b));cases tp with
 |false=>exact vl H.rk (lh H.rk H.bk I H.ik rfl (k.glb _ (br C)) n.1 (λ i=>nJ r i N) (br b) q) λ U=>rfl|true=>
 refine DC (M:=λ c=>B2 j w R u G d N l F (.isin e f aC) (.Call _ [a,c] [] K)) (br (br b)) λ X m p2 v=>?_;exact vl H.rk (YY H.rk H.bk I H.ik rfl (k.glb _ (br C)) n.1 (λ i=>nJ r i N) (of_decide_eq_true (bl (br b))) v q) λ U=>rfl
theorem tm(H:jQ j w R u G gn pn d){z:List (Nat×List Nat)}{b pG:ME}(h:fH gn pn F A (.pick z b pG) t=aC)(k:∀p,fH gn pn F A b p=aC->B2 j w R u G d N l F b p)(f:∀p,fH gn pn F A pG p=aC->B2 j w R u G d N l F pG p):B2 j w R u G d N l F (.pick z b pG) t:=by
 refine kT h λ g Y E K h=>vO (M:=λ g=>B2 j w R u G d N l F (.pick z b pG) (.Call g Y E K)) h λ o a m h=>?_;have y:=bl h;have C:=bl y;have c:=bl C;have e:=bl c;rw[show E=[]from lL (bl e),show a=("get":Str)from bC (br e)];refine NV (M:=λ o=>B2 j w R u G d N l F (.pick z b pG) (.Call (.Attribute o _ m) Y [] K)) (br y) λ W r q i=>?_;refine KC (M:=λ Y=>B2 j w R u G d N l F (.pick z b pG) (.Call _ Y [] K)) (br h) λ pk n P=>?_;exact vl H.rk (nj H.rk H.hsm (br C) i (k pk (br (bl P))).1 (f n (br P)).1 (plain2 (bl (bl (bl P))) (br (bl (bl P)))) (br c)) λ U=>rfl
theorem x8(H:jQ j w R u G gn pn d)(I:dZ R N F)(B:pC A N){n:List Nat}{e:ME}(h:fH gn pn F A (.jrev n e) t=aC)(v:∀p,fH gn pn F A e p=aC->B2 j w R u G d N l F e p):B2 j w R u G d N l F (.jrev n e) t:=by
 refine kT h λ g Y E K h=>vO (M:=λ g=>B2 j w R u G d N l F (.jrev n e) (.Call g Y E K)) h λ o a D h=>?_;have y:=bl h;have C:=bl y;have m:=bl C;have f:=bl m;rw[show E=[]from lL (bl f),show a=("join":Str)from bC (br f)];refine vH (q:=.s n) (M:=λ o=>B2 j w R u G d N l F (.jrev n e) (.Call (.Attribute o _ D) Y [] K)) (br m) λ J L x=>?_;refine tJ (M:=λ Y=>B2 j w R u G d N l F (.jrev n e) (.Call _ Y [] K)) (br h) λ q z=>?_;refine kT (M:=λ q=>B2 j w R u G d N l F (.jrev n e) (.Call _ [q] [] K)) z λ O b c V P=>?_;rw[show c=[]from lL (br (bl P))];refine gW (M:=λ g=>B2 j w R u G d N l F (.jrev n e) (.Call _ [.Call g b [] V] [] K)) (bl (bl P)) λ p2=>?_;refine tJ (M:=λ Y=>B2 j w R u G d N l F (.jrev n e) (.Call _ [.Call _ Y [] V] [] K)) (br P) λ r k=>?_;exact vl H.rk (kg H.rk H.bk I rfl (B.glb _ (br y)) x (v r (br k)).1 (λ i=>nJ (bl k) i N) (br C)) λ U=>rfl
theorem A8(H:jQ j w R u G gn pn d)(s:qg j w R u G d)(I:dZ R N F)(k:pC A N){a b:ME}(h:fH gn pn F A (.lzip a b) t=aC)(m:∀p,fH gn pn F A a p=aC->B2 j w R u G d N l F a p)(o:∀p,fH gn pn F A b p=aC->B2 j w R u G d N l F b p):B2 j w R u G d N l F (.lzip a b) t:=by
 refine kT h λ g Y E K h=>?_;have y:=bl h;have C:=bl y;have i:=bl C;rw[show E=[]from lL (br i)];refine gW (M:=λ g=>B2 j w R u G d N l F (.lzip a b) (.Call g Y [] K)) (bl i) λ p=>?_;refine tJ (M:=λ Y=>B2 j w R u G d N l F (.lzip a b) (.Call _ Y [] K)) (br h) λ q v=>?_;refine kT (M:=λ q=>B2 j w R u G d N l F (.lzip a b) (.Call _ [q] [] K)) v λ x f e V P=>?_;rw[show e=[]from lL (br (bl P))];refine gW (M:=λ g=>B2 j w R u G d N l F (.lzip a b) (.Call _ [.Call g f [] V] [] K)) (bl (bl P)) λ p2=>?_;refine KC (M:=λ Y=>B2 j w R u G d N l F (.lzip a b) (.Call _ [.Call _ Y [] V] [] K)) (br P) λ r n c=>?_;exact vl H.rk (s _ _ _ _ _ _ _ _ _ _ _ I (k.glb _ (br C)) (k.glb _ (br y)) (bl (bl (bl c))) (br (bl (bl c))) (m r (br (bl c))).1 (o n (br c)).1) λ U=>rfl
theorem ay(H:jQ j w R u G gn pn d){b:lS}{a:ME}(h:fH gn pn F A (.cmpNil b a) t=aC)(e:∀p,fH gn pn F A a p=aC->B2 j w R u G d N l F a p):B2 j w R u G d N l F (.cmpNil b a) t:=by
 refine QQ h λ n S z K h=>?_;rw[show S=[b]from bC (bl (bl h))];refine tJ (M:=λ z=>B2 j w R u G d N l F (.cmpNil b a) (.Compare n [b] z K)) (br h) λ q c=>?_;refine MJ (M:=λ q=>B2 j w R u G d N l F (.cmpNil b a) (.Compare n [b] [q] K)) c λ X p2 P=>?_;rw[show X=[]from lL P];exact TP H.rk (e n (br (bl h))).1
theorem Fz(H:jQ j w R u G gn pn d){c:lS}{a b:ME}(h:fH gn pn F A (.cmp c a b) t=aC)(k:∀p,fH gn pn F A a p=aC->B2 j w R u G d N l F a p)(i:∀p,fH gn pn F A b p=aC->B2 j w R u G d N l F b p):B2 j w R u G d N l F (.cmp c a b) t:=by
 refine QQ h λ n S z K h=>?_;rw[show S=[c]from bC (bl (bl h))];refine tJ (M:=λ z=>B2 j w R u G d N l F (.cmp c a b) (.Compare n [c] z K)) (br h) λ q e=>?_;have g:=(k n (br (bl h))).1;have f:=(i q (br e)).1;exact⟨we H.rk H.kk g f (IU (bl e)),xh H.rk H.kk g f (IU (bl e))⟩
theorem Bs(H:jQ j w R u G gn pn d){n:Nat}(h:fH gn pn F A (.neg n) t=aC):B2 j w R u G d N l F (.neg n) t:=by
 refine ar h λ b a K h=>vH (q:=.i (n:Int)) (M:=λ a=>B2 j w R u G d N l F (.neg n) (.UnaryOp b a K)) (br h) λ U U U=>?_;rw[show b=.USub from bC (bl h)];exact vl H.rk wq λ U=>rfl
theorem w7(H:jQ j w R u G gn pn d){e:ME}{f:Nat}(h:fH gn pn F A (.attr e f) t=aC)(b:∀p,fH gn pn F A e p=aC->B2 j w R u G d N l F e p):B2 j w R u G d N l F (.attr e f) t:=by
 refine vO h λ o a K h=>?_;rw[show a=fn f from bC (bl (bl h))];exact vl H.rk (lu H.rk H.ck (b o (br h)).1 (br (bl h))) λ U=>rfl
theorem Gj(H:jQ j w R u G gn pn d)(h:fH gn pn F A .emp t=aC):B2 j w R u G d N l F .emp t:=by
 refine NV h λ E Z K h=>?_;rw[show E=[]from lL (bl h),show Z=[]from lL (br h)];exact vl H.rk (vg H.hsm) λ U=>rfl
theorem wg(H:jQ j w R u G gn pn d){a:jO}{X:List ME}(h:fH gn pn F A (.bool a X) t=aC)(c:∀z,mV gn pn F A X z=aC->lI j w R u G d N l F X z):B2 j w R u G d N l F (.bool a X) t:=by
 refine bb h λ b z K h=>?_;rw[<-show a=b from bC (bl h)];have e:=(c z (br h)).sb H.rk a;exact⟨jw e,rf e⟩
theorem Dg(H:jQ j w R u G gn pn d){a:ME}(h:fH gn pn F A (.not a) t=aC)(b:∀p,fH gn pn F A a p=aC->B2 j w R u G d N l F a p):B2 j w R u G d N l F (.not a) t:=by
 refine ar h λ c n K h=>?_;rw[show c=.Not from bC (bl h)];have e:=b n (br h);exact⟨yl H.rk e.1,Aw e.2⟩
theorem Ex(H:jQ j w R u G gn pn d){e:iX}{a b:ME}(h:fH gn pn F A (.bin e a b) t=aC)(g:∀p,fH gn pn F A a p=aC->B2 j w R u G d N l F a p)(f:∀p,fH gn pn F A b p=aC->B2 j w R u G d N l F b p):B2 j w R u G d N l F (.bin e a b) t:=by
 refine ju h λ n c D K h=>?_;rw[<-show e=c from bC (bl (bl h))];exact vl H.rk (xv H.rk (g n (br (bl h))).1 (f D (br h)).1) λ U=>rfl
end
mutual theorem sE(H:jQ j w R u G gn pn d)(n:qg j w R u G d):∀f:ME,Mw j w R u G gn pn d f
 |.no=>λ U U U U U h U U=>absurd h cP|.c _=>λ U U U U U h U U=>vH (M:=B2 j w R u G d _ _ _ _) h λ U U F=>vl H.rk (Hb F) λ U=>rfl|.neg _=>λ U U U U U h U U=>Bs H h|.l _=>λ U U U U U h I U=>qK (M:=B2 j w R u G d _ _ _ _) h λ U U h=>vl H.rk (Hx I (bC h)) λ U=>rfl|.g _=>λ U U U U U h I k=>qK (M:=B2 j w R u G d _ _ _ _) h λ U U h=>vl H.rk (H8 H.rk H.gk I (bC (bl h)) (k.glb _ (br h))) λ U=>rfl|.attr e _=>λ U U U U U h I k=>w7 H h λ U q=>sE H n e _ _ _ _ _ q I k|.idx e i=>λ U U U U U h I k=>KR (M:=B2 j w R u G d _ _ _ _) h λ U U U h=>vl H.rk (tq H.rk (sE H n e _ _ _ _ _ (bl h) I k).1 (sE H n i _ _ _ _ _ (br h) I k).1) λ U=>rfl|.slc e lo E=>λ U U U U U h I k=>Bf H h (λ U q=>sE H n e _ _ _ _ _ q I k) (λ U q=>sE H n lo _ _ _ _ _ q I k) (λ U q=>sE H n E _ _ _ _ _ q I k)|.call _ r _=>λ U U U U U h I k=>As H I k h λ U q=>VW H n r _ _ _ _ _ q I k|.new _ r=>λ U U U U U h I k=>Fj H I k h λ U q=>VW H n r _ _ _ _ _ q I k|.meth e _ r=>λ U U U U U h I k=>xm H h (λ U q=>sE H n e _ _ _ _ _ q I k) λ U q=>VW H n r _ _ _ _ _ q I k|.bi _ r=>λ U U U U U h I k=>Ha H I k h λ U q=>VW H n r _ _ _ _ _ q I k|.lst X=>λ U U U U U h I k=>MJ (M:=B2 j w R u G d _ _ _ _) h λ U U h=>vl H.rk (zk H.rk ((VW H n X _ _ _ _ _ h I k).ses H.rk)) λ U=>rfl|.tup X=>λ U U U U U h I k=>DC (M:=B2 j w R u G d _ _ _ _) h λ U U U h=>vl H.rk (ym H.rk ((VW H n X _ _ _ _ _ h I k).ses H.rk)) λ U=>rfl|.bin _ a b=>λ U U U U U h I k=>Ex H h (λ U q=>sE H n a _ _ _ _ _ q I k) λ U q=>sE H n b _ _ _ _ _ q I k|.cmp _ a b=>λ U U U U U h I k=>Fz H h (λ U q=>sE H n a _ _ _ _ _ q I k) λ U q=>sE H n b _ _ _ _ _ q I k|.cmpNil _ a=>λ U U U U U h I k=>ay H h λ U q=>sE H n a _ _ _ _ _ q I k|.bool _ X=>λ U U U U U h I k=>wg H h λ U q=>VW H n X _ _ _ _ _ q I k|.not a=>λ U U U U U h I k=>Dg H h λ U q=>sE H n a _ _ _ _ _ q I k|.ite t a b=>λ U U U U U h I k=>y0 (M:=B2 j w R u G d _ _ _ _) h λ U U U U h=>(λ D B A=>⟨v8 H.rk D.2 B.1 A.1,zj H.rk D.2 B.2 A.2⟩) (sE H n t _ _ _ _ _ (bl (bl h)) I k) (sE H n a _ _ _ _ _ (br (bl h)) I k) (sE H n b _ _ _ _ _ (br h) I k)|.isin e _ _=>λ U U U U U h I k=>zd H I k h λ U q=>sE H n e _ _ _ _ _ q I k|.comp p K kind o S cond=>λ U U U U U h I k=>IV (M:=B2 j w R u G d _ _ _ _) h λ U U U U U U U hk z=>(λ e=>vl H.rk (SA H.rk H.bk I k (zK k hk) e.plain e.len (e.ses H.rk) e.one z.co z.cn z.tgt z.k2 (EI (zB hk e.okh)) λ v C s x=>⟨(sE H n S _ _ _ _ _ z.elt s x).1,(VW H n cond _ _ _ _ _ z.cond s x).sc H.rk⟩) λ U=>rfl) (VW H n o _ _ _ _ _ z.its I k)|.pick _ y pG=>λ U U U U U h I k=>tm H h (λ U q=>sE H n y _ _ _ _ _ q I k) λ U q=>sE H n pG _ _ _ _ _ q I k|.jrev _ e=>λ U U U U U h I k=>x8 H I k h λ U q=>sE H n e _ _ _ _ _ q I k|.lzip a b=>λ U U U U U h I k=>A8 H n I k h (λ U q=>sE H n a _ _ _ _ _ q I k) λ U q=>sE H n b _ _ _ _ _ q I k|.emp=>λ U U U U U h U U=>Gj H h|.dead=>λ U U U U U U U U=>⟨λ U U U U U U U U U U U m U U=>m.elim,λ U U U U U U U U U U U m U U=>m.elim⟩theorem VW(H:jQ j w R u G gn pn d)(n:qg j w R u G d):∀V:List ME,Hp j w R u G gn pn d V
 |[],[],_,_,_,_,_,_,_=>trivial|[],_::_,_,_,_,_,h,_,_=>absurd h cP|_::_,[],_,_,_,_,h,_,_=>absurd h cP|e::X,_::_,_,_,_,_,h,I,k=>⟨⟨sE H n e _ _ _ _ _ (br (bl h)) I k,bl (bl h)⟩,VW H n X _ _ _ _ _ (br h) I k⟩end
end
section
variable{g:Program}{w:World}{R:iK}{j:kP}{G:Gl}{gn:Nat->Str}{pn:Nat->Nat->Str}{d:Nat}
structure CZ(g:Program)(w:World)(R:iK)(j:kP)(G:Gl)(d:Nat):Prop where
 lz:qg g w R j G d
 rs:∀(env:dL)(l:List dL)(ns:List Str)(e:ME)(pc pe:aR)(p pos:fX),dZ R env ns->tR env l ns->rV pc=aC->glb env.scope.names "TooLong"=aC->DW pe=aC->SE g w R j G d env l ns e pe->SS g w R j G d env l ns (.raiseLim e) (.Raise (aA (.Call pc [pe] [] p)) aB pos)tr:∀(env:dL)(l:List dL)(ns:List Str)(e:ME)(pc pe:aR)(y:Str)(p1 p2 p3 p4 p5 pos:fX),dZ R env ns->tR env l ns->rV pc=aC->glb env.scope.names "TooLong"=aC->env.kindOf y=aA .local->y∉ns->(y==("__debug__":Str))=aG->SE g w R j G d env l ns e pe->SS g w R j G d env l ns (.tryLim e) (.Try [.Return (aA pe) p1] [.ExceptHandler (aA pc) (aA y) [.Return (aA (.Attribute (.Name y p2) "limit" p3)) p4] p5] [] [] pos)
section
variable{N:Env}{l:List Env}{F:List Str}{A:List (Str×NameKind)}{p:Stmt}
theorem uz(H:jQ g w R j G gn pn d)(X:CZ g w R j G d)(I:dZ R N F)(m:pC A N)(B:tR N l F){o:List String}{E:List Nat}{kind i:Nat}{a:List ME}{S:ME}{cond:List ME}{x:Str}{r:aR}{n K:fX}(u:F[i]?=aA x)(h:fH gn pn F A (.comp o E kind a S cond) r=aC):SS g w R j G d N l F (.asg (.l i) (.comp o E kind a S cond)) (.Assign [.Name x n] r K):=by
 refine IV (M:=λ r=>SS g w R j G d N l F (.asg (.l i) (.comp o E kind a S cond)) (.Assign [.Name x n] r K)) h λ e q f t Z s y hk z=>?_;have k:=VW H X.lz a _ _ _ l _ z.its I m;exact q7 H.rk H.bk I B m (zK m hk) k.plain k.len (k.ses H.rk) k.one z.co z.cn z.tgt z.k2 (EI (zB hk k.okh)) (λ v C b c=>⟨(sE H X.lz S _ _ _ _ _ z.elt b c).1,(VW H X.lz cond _ _ _ _ _ z.cond b c).sc H.rk⟩) u
theorem ZW{e:ME}{M:ME->Prop}(h:Gw e=aC)(k:∀o K kind a S cond,M (.comp o K kind a S cond)):M e:=(show Gw e=aC->M e by cases e with|comp=>exact λ U=>k _ _ _ _ _ _|_=>exact λ h=>absurd h cP) h
theorem Ed(H:jQ g w R j G gn pn d)(X:CZ g w R j G d)(I:dZ R N F)(k:pC A N)(v:tR N l F){t:MT}{e:ME}(h:PB gn pn F A (.asg t e) p=aC):SS g w R j G d N l F (.asg t e) p:=by
 refine OE h λ C r K h=>?_;have B:=bl h;have W:=bl B;have u:=bl W;have E:=(sE H X.lz e _ _ _ l _ (br B) I k).1;refine tJ (M:=λ C=>SS g w R j G d N l F (.asg t e) (.Assign C r K)) (br h) λ b s=>?_;cases t with
 |l i=>
  refine qK (M:=λ b=>SS g w R j G d N l F (.asg (.l i) e) (.Assign [b] r K)) s λ x L q=>?_;cases D:Gw e with
  |true=>exact ZW (M:=λ e=>fH gn pn F A e r=aC->SS g w R j G d N l F (.asg (.l i) e) (.Assign [.Name x L] r K)) D (λ U U U U U U h=>uz H X I k v (bC q) h) (br B)|false=>
  dsimp only at u;rw[D,Bool.false_or,fF]at u;exact QU H.rk I v (bC q) E (oE u)
 |ls n=>
 refine DC (M:=λ b=>SS g w R j G d N l F (.asg (.ls n) e) (.Assign [b] r K)) s λ y m tp c=>?_;have P:=bl c;have z:=bl P;exact wo H.rk I v (λ i q=>of_decide_eq_true (List.all_eq_true.mp (bl z) i q)) (of_decide_eq_true (br z)) (of_decide_eq_true (br P)) (br c) (br W) E|attr o f=>
 refine vO (M:=λ b=>SS g w R j G d N l F (.asg (.attr o f) e) (.Assign [b] r K)) s λ J a p1 c=>?_;rw[show a=fn f from bC (bl c)];exact gy H.rk H.ck E (sE H X.lz _ _ _ _ _ _ (br c) I k).1|sub o i=>
 refine KR (M:=λ b=>SS g w R j G d N l F (.asg (.sub o i) e) (.Assign [b] r K)) s λ J O p1 c=>?_;exact u6 H.rk H.hP H.hW E (sE H X.lz _ _ _ _ _ _ (bl c) I k).1 (sE H X.lz _ _ _ _ _ _ (br c) I k).1
theorem H5(H:jQ g w R j G gn pn d)(X:CZ g w R j G d)(I:dZ R N F)(b:pC A N)(a:tR N l F){e:ME}(h:PB gn pn F A (.ex e) p=aC):SS g w R j G d N l F (.ex e) p:=by
 refine ZH h λ r K h=>?_;exact Fn H.rk a (sE H X.lz e _ _ _ l _ (br h) I b).1 (by haveI :=bl h;rwa[fF]at this)
theorem Dx(H:jQ g w R j G gn pn d)(X:CZ g w R j G d)(I:dZ R N F)(b:pC A N){e:ME}(h:PB gn pn F A (.ret e) p=aC):SS g w R j G d N l F (.ret e) p:=by
 refine TD h λ a K h=>?_;exact EL (M:=λ a=>SS g w R j G d N l F (.ret e) (.Return a K)) h (λ q=>EH (M:=λ e=>SS g w R j G d N l F (.ret e) (.Return aB K)) q m6) λ r q=>Aj H.rk (sE H X.lz e _ _ _ l _ q I b).1
theorem pj(H:jQ g w R j G gn pn d)(X:CZ g w R j G d)(I:dZ R N F)(a:pC A N)(i:tR N l F){e:ME}(h:PB gn pn F A (.raiseLim e) p=aC):SS g w R j G d N l F (.raiseLim e) p:=by
 refine VC h λ k f K h=>?_;rw[show f=aB from jH.mp (bl h)];cases k with
 |none=>exact absurd (br h) cP|some c=>
 refine kT (M:=λ c=>SS g w R j G d N l F (.raiseLim e) (.Raise (aA c) aB K)) (br h) λ P Y E p1 h=>?_;have y:=bl h;have C:=bl y;rw[show E=[]from lL (bl C)];exact tJ (M:=λ Y=>SS g w R j G d N l F (.raiseLim e) (.Raise (aA (.Call P Y [] p1)) aB K)) (br h) λ q b=>X.rs _ _ _ _ _ _ _ _ I i (br C) (a.glb _ (br y)) (bl b) (sE H X.lz e _ _ _ l _ (br b) I a).1
theorem JN{u:List Stmt}{f:aR->Bool}{M:List Stmt->Prop}(h:(QV u).any f=aC)(k:∀e K,f e=aC->M [.Return (aA e) K]):M u:=by
 unfold QV at h;cases X:lU u with
 |none=>rw[X]at h;cases h|some s=>
 rw[X]at h;rw[gG X];haveI C:(IF s).any (λ o=>o.any f)=aC:=by cases e:IF s with
 |none=>rw[show(Option.bind (aA s) λ s=>(IF s).bind λ e=>e)=(IF s).bind λ e=>e from rfl,e]at h;cases h|some o=>rw[show(Option.bind (aA s) λ s=>(IF s).bind λ e=>e)=(IF s).bind λ e=>e from rfl,e]at h;exact h
 refine TD (M:=λ s=>M [s]) C λ o K a=>?_;cases o with
 |none=>cases a|some e=>exact k _ _ a
theorem nh{a:List lA}{f:NA->Bool}{M:List lA->Prop}(h:(Ig a).any f=aC)(k:∀c y b K,f ⟨c,y,b⟩=aC->M [.ExceptHandler (aA c) (aA y) b K]):M a:=by
 unfold Ig at h;cases X:lU a with
 |none=>rw[X]at h;cases h|some s=>
 rw[X]at h;rw[gG X];obtain⟨c,y,b,K⟩:=s;cases c with
 |none=>cases h|some c=>cases y with
 |none=>cases h|some y=>exact k _ _ _ _ h
theorem D7(H:jQ g w R j G gn pn d)(X:CZ g w R j G d)(I:dZ R N F)(k:pC A N)(x:tR N l F){e:ME}(h:PB gn pn F A (.tryLim e) p=aC):SS g w R j G d N l F (.tryLim e) p:=by
 refine qx h λ a b c D K h=>?_;have C:=bl h;have W:=bl C;rw[show c=[]from lL (bl W),show D=[]from lL (br W)];refine JN (M:=λ a=>SS g w R j G d N l F (.tryLim e) (.Try a b [] [] K)) (br C) λ n p1 J=>?_;refine nh (M:=λ b=>SS g w R j G d N l F (.tryLim e) (.Try _ b [] [] K)) (br h) λ P y z p5 q=>?_;have t:=bl q;have m:=bl t;have u:=bl m;have s:=bl u;refine JN (M:=λ z=>SS g w R j G d N l F (.tryLim e) (.Try _ [.ExceptHandler _ _ z p5] [] [] K)) (br q) λ r p4 B=>?_;have i:∃p2 p3,r=.Attribute (.Name y p2) (Str.ofString "limit") p3:=vO (f:=λ a=>lY y a.1&&a.2.1==Str.ofString "limit") (M:=λ r=>∃p2 p3,r=.Attribute (.Name y p2) (Str.ofString "limit") p3) B λ o a p3 v=>gW (M:=λ o=>∃p2 Z,aR.Attribute o a p3=.Attribute (.Name y p2) (Str.ofString "limit") Z) (bl v) λ p2=>⟨p2,p3,by rw[show a=Str.ofString "limit"from bC (br v)]⟩;obtain⟨p2,p3,i⟩:=i;rw[i];haveI E:y∉F:=by have :=br m;rwa[fF,List.contains_eq_mem,decide_eq_false_iff_not]at this
 exact X.tr _ _ _ _ _ _ _ _ _ _ _ _ _ I x (bl s) (k.glb _ (br s)) (k.loc _ (bC (br u))) E (by haveI :=br t;rwa[fF]at this) (sE H X.lz e _ _ _ l _ J I k).1
end
mutual theorem sS(H:jQ g w R j G gn pn d)(X:CZ g w R j G d):∀(k:MS)(u:dW)(A:List (Str×dA))(N:dL)(l:List dL)(F:List Str),PB gn pn F A k u=aC->dZ R N F->pC A N->tR N l F->SS g w R j G d N l F k u
 |.asg _ _=>λ U U U U U h I e n=>Ed H X I e n h|.ex _=>λ U U U U U h I e n=>H5 H X I e n h|.ite t a b=>λ U U U U U h I e n=>jc (M:=SS g w R j G d _ _ _ _) h λ U U U U h=>zo H.rk (sE H X.lz t _ _ _ _ _ (bl (bl h)) I e).2 (B1 H X a _ _ _ _ _ (br (bl h)) I e n) (B1 H X b _ _ _ _ _ (br h) I e n)|.whl t b=>λ U U U U U h I e n=>TZ (M:=SS g w R j G d _ _ _ _) h λ U U c U h=>(λ z:c=[]=>z▸yp H.rk n (sE H X.lz t _ _ _ _ _ (bl (bl h)) I e).2 (B1 H X b _ _ _ _ _ (br (bl h)) I e n)) (lL (br h))|.for_ C kind o b=>λ u A N l F h I e n=>by
  refine io h λ E f D r K h=>?_;have y:=bl h;have W:=bl y;have s:=bl W;have v:=bl s;rw[show r=[]from lL (br h)];cases hk:gH A kind f with
  |none=>rw[show(gH A kind f).any (mV gn pn F A o)=aG by rw[hk];rfl]at W;exact absurd (br W) cP|some x=>
  have q:=br W;dsimp only at q;rw[hk]at q;have p:=VW H X.lz o _ _ _ l _ q I e;exact A5 H.rk H.bk I n (zK e hk) p.plain p.len (p.ses H.rk) p.one (EI (zB hk p.okh)) (by haveI :=bl v;rwa[fF]at this) (λ i B=>of_decide_eq_true (bE.mp (br v) i B)) (br s) (B1 H X b _ _ _ _ _ (br y) I e n)
 |.ret _=>λ U U U U U h I e U=>Dx H X I e h|.raiseLim _=>λ U U U U U h I e n=>pj H X I e n h|.tryLim _=>λ U U U U U h I e n=>D7 H X I e n h|.cont=>λ U U U U U h U U U=>XB (M:=SS g w R j G d _ _ _ _) h λ U U=>m9|.dead=>λ U U U U U U U U U=>rh theorem B1(H:jQ g w R j G gn pn d)(X:CZ g w R j G d):∀(k:List MS)(u:List dW)(A:List (Str×dA))(N:dL)(l:List dL)(F:List Str),CK gn pn F A k u=aC->dZ R N F->pC A N->tR N l F->gh g w R j G d N l F k u
 |[],[],_,_,_,_,_,_,_,_=>q8|[],_::_,_,_,_,_,h,_,_,_=>absurd h cP|_::_,[],_,_,_,_,h,_,_,_=>absurd h cP|m::k,_::_,_,_,_,_,h,I,e,n=>YH (sS H X m _ _ _ _ _ (bl h) I e n) (B1 H X k _ _ _ _ _ (br h) I e n)end
end
end
section
open PySem PySem.W PySem.Calls PyProof.Rows PySem.SeqAt Builtin
structure uQ(M:CI)(h:bG)(C:Nat):Prop where
 obj:∃oc od cd sl,h.get? C=aA ⟨oc,od,.cls cd,sl⟩/\cd.abstract=aG/\cd.hasDel=aG/\cd.mro.isEmpty=aG/\cd.hasDict=aC
 mro:∃l,lQ M h (mroOf (.ref C)) l/\l.isEmpty=aG/\∀self,refuseLoop self "__setattr__" l=iB ()made:lQ M h (Bind.madeBy (.ref C)) (aA "Exception.__new__")base:lQ M h (Bind.staticBase (.ref C)) (.ref C)here:lQ M h (Bind.madeHere "BaseException.__new__" (.ref C)) ()self:lQ M h (jV (.ref C) (.ref C)) aC
 sE:lQ M h (jV (.ref C) (.type "Exception")) aC
 sB:lQ M h (jV (.ref C) (.type "BaseException")) aC
 sO:lQ M h (jV (.ref C) (.type "object")) aC
 sA:lQ M h (jV (.ref C) (.type "AttributeError")) aG
 sN:lQ M h (jV (.ref C) (.type "NameError")) aG
 call:lQ M h (zW (.ref C) "__call__") (aA (.builtin "type.__call__"))typ:lQ M h (sU (.ref C) (.type "type")) aC
 isT:lQ M h (isType (.ref C)) aC
 mt:lQ M h (zA (.ref C)) (.type "type")
section
variable{c:Program}{w:World}{A:Around}{C:Addr}{R:Result->Shared->Prop}{h:Heap}{g:Array GenState}{d:Drawn}{t:Nat}{os:OsState}
theorem vh{M:CI}{a:Type}{b:Bool}{X Y:GH a}{Q:a->Shared->Prop}{E:aH->Shared->Prop}{s:Shared}(e:b=aC)(k:aU M A X Q E s):aU M A (if b=aC then X else Y) Q E s:=by rw[if_pos e];exact k
theorem oq{M:CI}{a:Type}{b:Bool}{X Y:GH a}{Q:a->Shared->Prop}{E:aH->Shared->Prop}{s:Shared}(e:b=aG)(k:aU M A Y Q E s):aU M A (if b=aC then X else Y) Q E s:=by rw[e];exact k
noncomputable abbrev pS(C t:Addr):gV:={cls:=.ref C,data:=.fields #[.ref t,.none,.none,.none,.bool aG,.none]}
theorem qh{v:aH}(Y:uQ (aY c w) h C)(o:R (.ok (.ret (.ref (h.objs.size+1)))) ⟨(h.push {cls:=.type "tuple",data:=.seq #[v]}).push (pS C h.objs.size),g,d,t,os⟩):iM (aY c w) A (.call (.builtin "Exception.__new__") ⟨[.ref C,v],[]⟩) R ⟨h,g,d,t,os⟩:=by
 obtain⟨Q,L,E,j,n,s,m,u,y⟩:=Y.obj;haveI k:=Y.made;haveI i:=Y.base;haveI f:=Y.here;haveI B:=Y.self;haveI sE:=Y.sE;haveI r:=Y.sB;haveI z:=Y.sO;haveI sA:=Y.sA;haveI x:=Y.sN;haveI pN:=Y.call;haveI l:=Y.typ;haveI q:=Y.isT;have F:=PySem.F.excBase_Exception;have e:=F.ends;have a:=F.noStar;refine codeAny_call_builtin_code (BF _ F.quiet) ?_;unfold checkBuiltinCall;rw[show(builtinKind "Exception.__new__",splitId "Exception.__new__")=(aA .builtinFn,aA ("Exception","__new__"))by rw[F.newKind,F.newSplit]];dsimp only;repeat(first|with_reducible refine vh rfl ?_|with_reducible refine oq rfl ?_|lk)
 refine PySem.codeAny_builtinAt F.entry ?_;unfold oW.«BaseException.__new__»;refine PySem.wpAt_bind ?_;show PySem.wpAt _ _ _ (hG>>=_) _ _ _;refine PySem.wpAt_bind (PySem.wpAt_stack λ p b=>PySem.wpAt_of_wpAny ?_);wp_walk;refine PySem.wpAt_of_wpAny ?_;rw[F.owner];repeat(first|with_reducible refine vh rfl ?_|with_reducible refine oq rfl ?_|lk)
 refine nd_load (Heap.get?_push_of_some _ (Heap.get?_push_of_some _ n)) ?_;refine aM (aM ?_);rw[m];refine aM (aM ?_);show R _ _;rw[Heap.size_push];exact o
theorem bu{v:aH}{I:Addr}(Y:uQ (aY c w) h C)(p:lQ (aY c w) h (sV (.ref C) "__init__") (aA (.ref I)))(G:∀B,lQ (aY c w) h (bindSpecial (.ref I) B) (.ref I,[B]))(q:iM (aY c w) (A.under (.builtin "type.__call__" ⟨[.ref C,v],[]⟩)) (.call (.ref I) ⟨[.ref (h.objs.size+1),v],[]⟩) (InitBack (h.objs.size+1) R) ⟨(h.push {cls:=.type "tuple",data:=.seq #[v]}).push (pS C h.objs.size),g,d,t,os⟩):iM (aY c w) A (.call (.ref C) ⟨[v],[]⟩) R ⟨h,g,d,t,os⟩:=by
 obtain⟨Q,L,E,j,s,F,M,O,K⟩:=Y.obj;obtain⟨N,W,i,_⟩:=Y.mro;haveI n:=Y.made;haveI l:=Y.base;haveI m:=Y.here;haveI B:=Y.self;haveI sE:=Y.sE;haveI U:=Y.sB;haveI S:=Y.sO;haveI sA:=Y.sA;haveI J:=Y.sN;haveI pN:=Y.call;haveI f:=Y.typ;haveI y:=Y.isT;refine codeAny_of_tree ?_;show aU _ _ (callAny (.ref C) _) _ _ _;refine nd_load s ?_;show aU _ _ (DJ (.ref C) _) _ _ _;unfold DJ;refine aE (pN.at ?_);dsimp only;rw[tc_bind];refine aE (aM (aE (aM ?_)));refine aM (a:=Fin.again (.call (.builtin "type.__call__") ⟨[.ref C,v],[]⟩)) (And.intro rfl ?_);refine codeAny_call_builtin_at (BF _ (by decide+kernel)) entry_typeCall (check_slot tc_kind tc_split f (tc_args _ _ _) ?_);unfold oW.«type.__call__»;repeat(first|with_reducible refine oq i ?_|with_reducible refine oq rfl ?_|with_reducible refine vh rfl ?_|with_reducible refine lX ?_|lk)
 refine qh Y ?_;have k:∀b o,h.get? b=aA o->((h.push {cls:=.type "tuple",data:=.seq #[v]}).push (pS C h.objs.size)).get? b=aA o:=λ b o e=>Heap.get?_push_of_some _ (Heap.get?_push_of_some _ e);haveI x:((h.push {cls:=.type "tuple",data:=.seq #[v]}).push (pS C h.objs.size)).get? (h.objs.size+1)=aA (pS C h.objs.size):=by heap_get
 have P:lQ (aY c w) ((h.push {cls:=.type "tuple",data:=.seq #[v]}).push (pS C h.objs.size)) (zA (.ref (h.objs.size+1))) (.ref C):=(lQ.ld x).andThen .now;have D:=B.keeps k;have V:=p.keeps k;have H:=(G (.ref (h.objs.size+1))).keeps k;unfold sU callSpecial? zW;repeat(first|with_reducible refine lX ?_|lk)
 refine codeAny_mono q λ r u z=>?_;rcases r with e|(v|_|_|_)<;>first|exact z|exact z.elim|skip
 obtain⟨rfl,z⟩:=z;exact aM (aM z)
end
end
section
open PySem PySem.W PySem.Calls PyProof.Rows PySem.SeqAt Builtin Builtin.ObjectAttr
structure oU(hb h:bG)(e C t:eI)(m:bP->Option aH)(n:Nat):Prop where
 keep:∀b o,hb.get? b=aA o->h.get? b=aA o
 new:hb.get? e=aB
 obj:∃d,h.get? e=aA {pS C t with dict:=d}/\((d=aB/\m=(λ y_=>aB)/\n=0)\/∃dx od es k,d=aA dx/\dx≠e/\hb.get? dx=aB/\h.Ns dx m/\h.get? dx=aA od/\od.cls=.type "dict"/\od.data=.dict es k/\es.size<=n)
structure KA(e:eI)(h h':bG):Prop where
 keep:∀b o,b≠e->(∀ob,h.get? e=aA ob->ob.dict≠aA b)->h.get? b=aA o->h'.get? b=aA o
 dict:∀ob dx,h'.get? e=aA ob->ob.dict=aA dx->(∃ob0,h.get? e=aA ob0/\ob0.dict=aA dx)\/(h.get? dx=aB/\h.objs.size<=dx)
section
variable{f:Program}{w:World}{A:Around}{E:Value->Shared->Prop}{s:Shared}{R:iK}{G:Heap}{e C t:Addr}{m:Str->Option Value}{n:Nat}{Q:Unit->Shared->Prop}
theorem oU.inst(x:oU G s.heap e C t m n):∃l L,InstAt s.heap e l C L:=by
 obtain⟨d,a,h⟩:=x.obj;rcases h with⟨rfl,-,-⟩|⟨i,L,X,k,rfl,-,-,-,b,-⟩;·exact⟨_,aB,a,rfl,rfl,trivial⟩
 ·exact⟨_,aA L,a,rfl,rfl,b⟩
theorem pz{u:Str}{v:Value}{V:Tok}{RR:nP->Shared->Prop}(X:R.K.In s.heap)(Y:uQ (aY f w) s.heap C)(hf:fK R.K (.ref C) u=aA aB)(x:oU G s.heap e C t m n)(hn:n<100)(h:∀P,oU G P e C t (λ y=>if y=u then aA v else m y) (n+1)->KA e s.heap P->RR (.ok (.ret .none)) {s with heap:=P,toks:=s.toks+1}):iM (aY f w) A (.call (.builtin "object.__setattr__") ⟨[.ref e,.str u V,v],[]⟩) RR s:=by
  obtain⟨l,ao,I⟩:=x.inst;obtain⟨S,al,Z,j,hC,e1,e2,e3,e4⟩:=Y.obj;obtain⟨ml,hm,b0,O⟩:=Y.mro;haveI a4:=Y.made;haveI a6:=Y.base;haveI a5:=Y.here;haveI B:=Y.self;haveI sE:=Y.sE;haveI sB:=Y.sB;haveI sO:=Y.sO;haveI sA:=Y.sA;haveI sN:=Y.sN;haveI pN:=Y.call;haveI ap:=Y.typ;haveI as:=Y.isT;have SF:=PySem.F.store_object;haveI sub:lQ (aY f w) s.heap (sU (.ref e) (.type "object")) aC:=I.type.andThen sO;refine qP SF.slot.plain SF.entry (@check_slot (aY f w) _ _ s "object.__setattr__" "object" "__setattr__" (.ref e) [.str u V,v] [] _ SF.kind SF.split sub (SF.args (.ref e) (.str u V) v) ?_);rw[osa_eq,refuse_eq];refine aE (aE (I.type.here (aE (hm.here ?_))));rw[O];refine aM (aE (I.type.here (aE ((rS X hf).here (aE (aM ?_))))));show aU _ _ (storeInOwnDict (.ref e) (.ref C) (.str u V) u v aG) _ _ _;obtain⟨d,N,hd⟩:=x.obj;refine aE (aM (aE (aE (wpAny_loadPart N (aE ?_)))));refine aE (wpAny_load hC (aM ?_));rw[e4];rcases hd with⟨rfl,rfl,rfl⟩|⟨i,L,g,k,rfl,ne,W,hN,e5,e6,e7,e8⟩
  · refine aE (wpAny_alloc (aE (wpAny_update (Heap.get?_push_of_some _ N) ?_)));have M:e≠s.heap.objs.size:=Nat.ne_of_lt (Heap.lt_size N);haveI a1:(s.heap.push {cls:=.type "dict",data:=.dict #[]}).get? e=aA (pS C t):=Heap.get?_push_of_some _ N;generalize hH:(s.heap.push {cls:=.type "dict",data:=.dict #[]}).update e (λ o=>{cls:=o.cls,dict:=aA s.heap.objs.size,data:=o.data,slots:=o.slots})=H;have gd:H.get? s.heap.objs.size=aA {cls:=.type "dict",data:=.dict #[]}:=by subst hH;exact(Heap.get?_update_other _ _ M).trans (Heap.get?_push_size s.heap rfl)
    have ge:H.get? e=aA {pS C t with dict:=aA s.heap.objs.size}:=by subst hH;exact Heap.get?_update_self _ a1 rfl
    have go:∀b o,b≠e->s.heap.get? b=aA o->H.get? b=aA o:=λ b o nb q=>by subst hH;exact(Heap.get?_update_other _ _ (jA nb)).trans (Heap.get?_push_of_some _ q)
    have hN:H.Ns s.heap.objs.size (λ U=>aB):=⟨_,#[],0,gd,rfl,λ U he=>by simp at he,λ U=>rfl⟩;refine aM (a:=aA s.heap.objs.size) ?_;show aU _ _ (storeInDict s.heap.objs.size (.str u V) u v) _ _ {s with heap:=H};refine aE (aM (aE ?_));refine oJ (s:={s with heap:=H}) hN λ P a b c=>?_;obtain⟨J,f1,f2,a2,n0,p,D,f3,f4,f5,f6⟩:=c _ gd;cases f3;have W:G.get? s.heap.objs.size=aB:=pR x.keep _ (iZ _);refine aE (wJ f1 (by rw[f4];exact vU (Nat.le_trans f5 (by rw[eH];exact(by decide)))) (aM (h P ⟨λ r o q=>?_,x.new,_,(b.2 e M).trans ge,.inr ⟨_,J,p,D,rfl,jA M,W,a,f1,f2,f4,f5⟩⟩ ⟨λ r o nb U q=>(b.2 r (Nat.ne_of_lt (Heap.lt_size q))).trans (go r o nb q),λ ob i q1 q2=>.inr ?_⟩)));rotate_left
    ·have :=(b.2 e M).trans ge;rw[this]at q1;cases q1;cases q2;exact⟨iZ _,Nat.le_refl _⟩
    haveI n1:r≠e:=λ z=>by rw[z,x.new]at q;cases q
    haveI n2:r≠s.heap.objs.size:=λ z=>by rw[z,W]at q;cases q
    exact(b.2 r n2).trans (go r o n1 (x.keep r o q))
  ·refine aM (a:=aA i) (aE (aM (aE ?_)));refine oJ hN λ P a b c=>?_;obtain⟨J,f1,f2,a2,n0,p,D,f3,f4,f5,f6⟩:=c L e5;rw[e7]at f3;cases f3;refine aE (wJ f1 (by rw[f4];exact vU (Nat.le_trans f5 (by rw[eH];exact Nat.succ_le_succ (Nat.le_trans e8 (Nat.le_trans (Nat.le_of_lt hn) (by decide)))))) (aM (h P ⟨λ r o q=>(b.2 r (λ z=>by subst z;rw[W]at q;cases q)).trans (x.keep r o q),x.new,_,(b.2 e (jA ne)).trans N,.inr ⟨i,J,p,D,rfl,ne,W,a,f1,f2.trans e6,f4,Nat.le_trans f5 (Nat.succ_le_succ e8)⟩⟩ ⟨λ r o nb a3 q=>(b.2 r (λ z=>a3 _ N (by rw[z]))).trans q,λ ob dy q1 q2=>.inl ⟨_,N,?_⟩⟩)));haveI :=(b.2 e (jA ne)).trans N;rw[this]at q1;cases q1;exact q2
theorem LC{u:Str}{v:Value}(X:R.K.In s.heap)(Y:uQ (aY f w) s.heap C)(c:fK R.K (.ref C) "__setattr__"=aA (aA (.builtin "object.__setattr__")))(b:fK R.K (.ref C) u=aA aB)(x:oU G s.heap e C t m n)(d:n<100)(h:∀P g,oU G P e C t (λ y=>if y=u then aA v else m y) (n+1)->KA e s.heap P->Q () {s with heap:=P,toks:=g}):aU (aY f w) A (setAttr (.ref e) u v) Q E s:=by
 obtain⟨l,j,I⟩:=x.inst;exact set_plain X I c (pz (s:={s with toks:=s.toks+1}) X Y b x d λ P i a=>h P _ i a)
end
end
section
open PySem PySem.W PySem.Calls PyProof.Rows PySem.SeqAt
structure ED(prog:bK)(w:cK)(R:iK)(gn:Nat->bP)(pn:Nat->Nat->bP)(SE fT fS:Nat)(FT FS:MF)(dT dS:fY)(bT bS:List dW):Prop where
 cls:∀h,R.K.In h->uQ (aY prog w) h R.TL
 glob:R.mG "TooLong"=aA (.ref R.TL)kp:qV R.K (.ref R.TL)=aC
 globS:R.mG "SchemeError"=aA (.ref SE)sa:fK R.K (.ref R.TL) "__setattr__"=aA (aA (.builtin "object.__setattr__"))ga:fK R.K (.ref R.TL) "__getattribute__"=aA (aA (.builtin "BaseException.__getattribute__"))gt:fK R.K (.ref R.TL) "__getattr__"=aA aB
 hd:rT R.K R.TL=aC
 f1:fK R.K (.ref R.TL) "word"=aA aB
 f2:fK R.K (.ref R.TL) "irritants"=aA aB
 f3:fK R.K (.ref R.TL) "limit"=aA aB
 init:fK R.K (.ref R.TL) "__init__"=aA (aA (.ref fT))ty:EK R.K (.ref fT)=aA (.type "function")sg:EB R.K (.ref SE) "__getattribute__"=aA (aA (.builtin "type.__getattribute__"))rd:readsIn R.K SE (.type "type")=aC
 fc:findCls R.K (.ref SE) (.type "type") "__init__"=aA (.val (.ref fS))kpS:qV R.K (.ref fS)=aC
 okT:uF R gn pn FT fT dT bT
 okS:uF R gn pn FS fS dS bS
 nT:FT.names=["self","limit"]/\FT.np=2/\FT.dflts=[]nS:FS.names=["self","word","irritants"]/\FS.np=3/\FS.dflts=[]bT:∃p1 p2 p3 p4 p5 p6 p7 p8 p9 B4 B8 B9,∃k:Nat,bT=[.Expr (.Call (.Attribute (.Name "SchemeError" p1) "__init__" p2) [.Name "self" p3,.Constant (.str "TooLong") k p4,.List [.Name "limit" p5] p6] [] p7) p8,.Assign [.Attribute (.Name "self" p9) "limit" B4] (.Name "limit" B8) B9]/\(p2.endLine==p7.line)=aC
 bS:∃p1 p2 p3 p4 p5 p6 p7 p8,bS=[.Assign [.Attribute (.Name "self" p1) "word" p2] (.Name "word" p3) p4,.Assign [.Attribute (.Name "self" p5) "irritants" p6] (.Name "irritants" p7) p8]gT:glb dT.scope.names "SchemeError"=aC
section
variable{j:Program}{w:World}{R:iK}{gn:Nat->Str}{pn:Nat->Nat->Str}{SE p r:Nat}{FT FS:MF}{G B:FuncData}{H E:List Stmt}{A:Around}{l:List Env}{s:Shared}{M:Nat->Nat}{Y:MH}
theorem oU.notTup{i h:bG}{e C t:eI}{m:Str->Option aH}{n:Nat}(x:oU i h e C t m n):∀o,h.get? e=aA o->¬BI o/\(∀u,o.data≠.cell u)/\sZ o:=λ o a=>by
 obtain⟨d,b,_⟩:=x.obj;rw[b]at a;cases a;exact⟨λ z=>by haveI :=z.1;simp at this,λ u z=>by simp at z,⟨_,rfl⟩,by simp⟩
theorem St.exc(rk:cR R){N:Env}{F:List Str}{P:Loc}{i h K:bG}{e C t:eI}{m:Str->Option aH}{n:Nat}(S:St R N l F M P Y h)(x:oU i h e C t m n)(le:R.N0.n<=e)(y:KA e h K)(O:∀ob Q,h.get? e=aA ob->ob.dict=aA Q->R.N0.n<=Q/\¬kS Y M Q/\Q≠N.locals/\∀f∈l,f.frame≠aA Q):St R N l F M P Y K/\∀ob Q,K.get? e=aA ob->ob.dict=aA Q->R.N0.n<=Q/\¬kS Y M Q/\Q≠N.locals/\∀f∈l,f.frame≠aA Q:=by
  obtain⟨d,I,W⟩:=x.obj;have V:=x.notTup _ I;have nd:∀X n,({pS C t with dict:=d}:gV).data≠.dict X n:=λ U U=>by simp
  refine⟨S.put rk (D:=λ b=>b=e\/∃ob,h.get? e=aA ob/\ob.dict=aA b) (λ b i=>?_) (λ b i=>?_) (λ b o i J=>?_) (λ b i=>?_) (λ b i=>?_) λ b o nb J=>y.keep b o (λ z=>nb (.inl z)) (λ ob eo z=>nb (.inr ⟨ob,eo,z⟩)) J,λ ob Q c v=>?_⟩
  · rcases i with rfl|⟨ob,c,v⟩;·exact S.real.notFld I V.2.2
    ·exact(O ob b c v).2.1
  · rcases i with rfl|⟨ob,c,v⟩;·exact le
    ·exact(O ob b c v).1
  · rcases i with rfl|⟨ob,c,v⟩;·rw[I]at J;cases J;exact⟨V.1,V.2.1⟩
    · rw[I]at c;cases c;rcases W with⟨rfl,-,-⟩|⟨Q,Z,X,k,rfl,-,-,-,e5,e6,e7,-⟩;·cases v
      ·cases v;rw[e5]at J;cases J;exact⟨λ z=>by have :=z.1;rw[e6]at this;simp at this,λ u z=>by rw[e7]at z;cases z⟩
  · rcases i with rfl|⟨ob,c,v⟩;·exact S.nl I nd
    ·exact(O ob b c v).2.2.1
  · rcases i with rfl|⟨ob,c,v⟩;·exact S.nf I nd
    ·exact(O ob b c v).2.2.2
  · rcases y.dict ob Q c v with⟨a,z1,z2⟩|⟨z,zs⟩;·exact O a Q z1 z2
    · refine⟨Nat.le_trans S.sz zs,λ f=>S.real.footLive f z,λ q=>?_,λ f hf q=>?_⟩
      ·obtain⟨m,⟨oL,_,_,hL,_⟩,_⟩:=S.loc;rw[<-q,z]at hL;cases hL
      ·obtain⟨_,L,o,f',g,_⟩:=jN.at S.fr hf;rw[q]at f';cases f';rw[z]at g;cases g
theorem JW{a b:List MV}(h:a.map aA=b.map aA):a=b:=(List.map_inj_right λ U U=>bH).mp h
theorem JL{F:MF}{n:Nat}{N:FuncData}{t:List Stmt}(g:uF R gn pn F n N t){s:Shared}{mvs:List MV}{vs:List aH}(X:R.K.In s.heap)(f:dK s.heap mvs vs)(y:F.names.length=F.np)(C:F.dflts=[])(e:mvs.length=F.np):∃S,dK s.heap mvs S/\DH s N ⟨vs,[]⟩ (((F.names.map Str.ofString).take F.np).zip S):=by
 haveI z:bindM F mvs []=aA (mvs.map aA++List.replicate (F.names.length-F.np) aB):=by
  unfold bindM;dsimp only;rw[if_pos ⟨Nat.le_of_eq e,by rw[e,C];exact Nat.le_refl _⟩,C];simp
 obtain⟨i,S,a,b,c,d⟩:=sW g X f z;rw[y,Nat.sub_self,List.replicate_zero,List.append_nil,List.append_nil]at c;rw[JW c];exact⟨S,a,d⟩
theorem y8(rk:cR R)(u:ED j w R gn pn SE p r FT FS G B H E)(hd:A.depth<gR)(Z:Sb R l M Y s.heap){f:bG}{e t:eI}(x:oU f s.heap e R.TL t (λ U=>aB) 0)(V:∀ob,s.heap.get? e=aA ob->ob.dict=aB)(le:R.N0.n<=e){mw mi:MV}{vw vi:aH}(r1:VR s.heap mw vw)(r2:VR s.heap mi vi){RR:nP->Shared->Prop}(h:∀P g m,oU f P e R.TL t m 2->(∀b o,b≠e->s.heap.get? b=aA o->P.get? b=aA o)->RR (.ok (.ret .none)) {s with heap:=P,toks:=g}):iM (aY j w) A (.call (.ref r) ⟨[.ref e,vw,vi],[]⟩) RR s:=by
 obtain⟨n1,n2,n3⟩:=u.nS;obtain⟨p1,p2,p3,p4,p5,p6,p7,p8,eb⟩:=u.bS;obtain⟨S,hv,a2⟩:=JL u.okS (mvs:=[.cst e,mw,mi]) (vs:=[.ref e,vw,vi]) Z.X (dK.cons (by simp only[VR]) (dK.cons r1 (dK.cons r2 dK.nil))) (by rw[n1,n2];rfl) n3 (by rw[n2];rfl);refine KV rk u.okS hd Z hv (by rw[n2];rfl) a2 λ N y c U I a4 fk sk O D g1=>?_;subst eb;rw[n1]at O I fk;rw[n2]at O;have x1:oU f y e R.TL t (λ U=>aB) 0:=by
  obtain⟨d,e1,a1⟩:=x.obj;refine⟨λ b o q=>g1 b o (x.keep b o q),x.new,d,g1 _ _ e1,.inl ⟨?_,rfl,rfl⟩⟩;exact V _ e1
 have J:∀ob,y.get? e=aA ob->ob.dict=aB:=λ ob q=>by
  obtain⟨d,e1,a1⟩:=x.obj;rw[g1 _ _ e1]at q;cases q;exact V _ e1
 refine iP (gY ?_ (oE rfl));refine mS (s:={s with heap:=y,toks:=c}) I O (i:=1) rfl (mv:=mw) rfl λ v rv=>?_;refine mS (s:={s with heap:=y,toks:=c}) I O (i:=0) rfl (mv:=.cst e) rfl λ v0 k=>?_;simp only[VR]at k;subst k;refine LC (s:={s with heap:=y,toks:=c}) (R:=R) O.X (u.cls _ O.X) u.sa u.f1 x1 (by decide) λ K Q x2 y2=>?_;obtain⟨S2,L⟩:=O.exc rk x1 le y2 λ ob F D C=>by rw[J ob D]at C;cases C
 haveI k2:∀b o,b≠e->s.heap.get? b=aA o->K.get? b=aA o:=λ b o nb q=>y2.keep b o nb (λ ob D C=>by rw[J ob D]at C;cases C) (g1 b o q);haveI W:∀ob F,K.get? e=aA ob->ob.dict=aA F->s.heap.get? F=aB:=λ ob F D C=>by
  rcases y2.dict ob F D C with⟨a,z1,z2⟩|⟨z,_⟩;·rw[J a z1]at z2;cases z2
  ·exact pR g1 _ z
 refine iP (gY ?_ (oE rfl));refine mS (s:={s with heap:=K,toks:=Q}) I S2 (i:=2) rfl (mv:=mi) rfl λ v rv=>?_;refine mS (s:={s with heap:=K,toks:=Q}) I S2 (i:=0) rfl (mv:=.cst e) rfl λ v0 k=>?_;simp only[VR]at k;subst k;refine LC (s:={s with heap:=K,toks:=Q}) (R:=R) S2.X (u.cls _ S2.X) u.sa u.f2 x2 (by decide) λ h3 a3 x3 y3=>?_;refine nG (h h3 a3 _ x3 λ b o nb q=>?_);exact y3.keep b o nb (λ ob D C=>by rw[W ob b D C]at q;cases q) (k2 b o nb q)
theorem Ac(rk:cR R)(a:ED j w R gn pn SE p r FT FS G B H E)(hd:A.depth+2<gR)(Z:Sb R l M Y s.heap){hb:bG}{e t:eI}(x:oU hb s.heap e R.TL t (λ U=>aB) 0)(a1:∀ob,s.heap.get? e=aA ob->ob.dict=aB)(le:R.N0.n<=e){lim:Int}{lt:Tok}{RR:nP->Shared->Prop}(h:∀g f m,oU hb g e R.TL t m 3->(∃t,m "limit"=aA (.int lim t))->RR (.ok (.ret .none)) {s with heap:=g,toks:=f}):iM (aY j w) A (.call (.ref p) ⟨[.ref e,.int lim lt],[]⟩) RR s:=by
 obtain⟨n1,n2,n3⟩:=a.nT;obtain⟨p1,p2,p3,p4,p5,p6,p7,p8,p9,B4,B8,B9,ck,eb,J⟩:=a.bT;obtain⟨S,hv,a2⟩:=JL a.okT (mvs:=[.cst e,.int lim]) (vs:=[.ref e,.int lim lt]) Z.X (dK.cons (by simp only[VR]) (dK.cons (by simp only[VR];exact⟨_,rfl⟩) dK.nil)) (by rw[n1,n2];rfl) n3 (by rw[n2];rfl);refine KV rk a.okT (F1 hd) Z hv (by rw[n2];rfl) a2 λ N y c U I as fk sk C q1 g1=>?_;subst eb;haveI hg:glb N.scope.names "SchemeError"=aC:=sk.glb _ a.gT;rw[n1]at C I fk;rw[n2]at C;have ao:∀ob,y.get? e=aA ob->ob.dict=aB:=λ ob q=>by
  obtain⟨d,W,a4⟩:=x.obj;rw[g1 _ _ W]at q;cases q;exact a1 _ W
 have hp:iD N [.Name "self" p3,.Constant (.str "TooLong") ck p4,.List [.Name "limit" p5] p6]:=⟨λ U=>rfl,λ U=>rfl,λ U=>rfl,trivial⟩;refine iP (wpAny_Expr_any ?_ fk.act (oE rfl));refine mN rfl hp (by show 3<30;decide) J ?_;refine pU (s:={s with heap:=y,toks:=c}) rk I C.X hg a.globS ?_;intro pl;refine method_cls (s:={s with heap:=y,toks:=c}) C.X a.sg (cls_value C.X a.rd a.fc rfl ?_);refine iC (P:=λ h=>R.K.In h) (by rw[fU hp];rfl) (keeps_K a.kpS) (gK hp ?_);refine dH (mS (s:={s with heap:=y,toks:=_}) I C (i:=0) rfl (mv:=.cst e) rfl λ v0 k=>?_) rfl;simp only[VR]at k;subst k;refine dH (kE ?_) rfl;refine dH (wpAny_List (dH (mS (s:={s with heap:=y,toks:=_}) I C (i:=1) rfl (mv:=.int lim) rfl λ F ap=>eW ?_) rfl)) rfl;refine⟨by show 1<=nE;rw[eH];decide,eW ?_⟩;have Q:=C.post rk (cU.push C.real {cls:=.type "list",data:=.seq [F].toArray});have g2:∀b o,s.heap.get? b=aA o->(y.push {cls:=.type "list",data:=.seq [F].toArray}).get? b=aA o:=λ b o q=>aK _ (g1 b o q);obtain⟨d,W,a4⟩:=x.obj;haveI a3:d=aB:=a1 _ W;subst a3;have V:=g2 _ _ W;have x2:oU hb (y.push {cls:=.type "list",data:=.seq [F].toArray}) e R.TL t (λ U=>aB) 0:=⟨λ b o q=>g2 b o (x.keep b o q),x.new,aB,V,.inl ⟨rfl,rfl,rfl⟩⟩;haveI a5:∀ob,(y.push {cls:=.type "list",data:=.seq [F].toArray}).get? e=aA ob->ob.dict=aB:=λ ob q=>by rw[V]at q;cases q;rfl
 refine⟨Q.X,lX ?_⟩;refine y8 (s:={s with heap:=y.push {cls:=.type "list",data:=.seq [F].toArray},toks:=_}) rk a (show A.depth+1<gR from(F1 hd)) Q.sb x2 a5 le (mw:=.str ("TooLong":Str).cps.toList) (mi:=.cst y.objs.size) ?_ (by simp only[VR]) λ h3 L m3 x3 k3=>?_;·simp only[VR];exact⟨by decide,_,rfl⟩
 obtain⟨O,e3,al⟩:=x3.obj;have S3:St R N (N::l) ((["self","limit"]:List String).map Str.ofString) M ([MV.cst e,MV.int lim].map aA++List.replicate ((["self","limit"]:List String).length-2) aB) Y h3:=Q.put rk (D:=(·=e)) (λ b z=>z▸Q.real.notFld V (x2.notTup _ V).2.2) (λ b z=>z▸le) (λ b o z q=>by subst z;exact⟨(x2.notTup _ q).1,(x2.notTup _ q).2.1⟩) (λ b z=>z▸Q.nl V (by intros;simp)) (λ b z=>z▸Q.nf V (by intros;simp)) λ b o nb q=>k3 b o nb q;refine iP (gY ?_ (oE rfl));refine mS (s:={s with heap:=h3,toks:=L}) I S3 (i:=1) rfl (mv:=.int lim) rfl λ v rv=>?_;refine mS (s:={s with heap:=h3,toks:=L}) I S3 (i:=0) rfl (mv:=.cst e) rfl λ v0 k=>?_;simp only[VR]at k;subst k;obtain⟨u,rfl⟩:=rv.int_inv;exact LC (s:={s with heap:=h3,toks:=L}) (R:=R) S3.X (a.cls _ S3.X) a.sa a.f3 x3 (by decide) λ h4 a6 x4 y4=>nG (h h4 a6 _ x4 ⟨u,by simp⟩)
end
section
variable{i:Program}{w:World}{R:iK}{G:Gl}{U:kP}{gn:Nat->Str}{pn:Nat->Nat->Str}{j D N:Nat}{FT FS:MF}{I F:FuncData}{O J:List Stmt}{A:Around}{l:List Env}{s:Shared}{y:Nat->Nat}{H:MH}{E:Value->Shared->Prop}
theorem St.sb'{B:Env}{K:List Str}{P:Loc}{h:bG}(S:St R B l K y P H h):Sb R l y H h:=S.sb
theorem YW(u:cR R)(c:ED i w R gn pn j D N FT FS I F O J)(C:A.depth+3<gR)(Z:Sb R l y H s.heap)(v:R.N0.n<=s.heap.objs.size){lim:Int}{lt:Tok}{Q:Value->Shared->Prop}(h:∀e t P f m,oU s.heap P e R.TL t m 3->(∃t,m "limit"=aA (.int lim t))->Q (.ref e) {s with heap:=P,toks:=f}):aU (aY i w) A (pN (.ref R.TL) ([]++[.int lim lt]) []) Q E s:=by
 obtain⟨a,g,d,f,os⟩:=s;refine lX (bu (c.cls _ Z.X) (rS Z.X c.init) (λ B=>bind_fn Z.X B c.ty) ?_);have k:∀b o,a.get? b=aA o->((a.push {cls:=.type "tuple",data:=.seq #[.int lim lt]}).push (pS R.TL a.objs.size)).get? b=aA o:=λ b o e=>aK _ (aK _ e);have r:((a.push {cls:=.type "tuple",data:=.seq #[.int lim lt]}).push (pS R.TL a.objs.size)).get? (a.objs.size+1)=aA (pS R.TL a.objs.size):=by heap_get
 refine Ac (s:=⟨_,g,d,f,os⟩) u c (show A.depth+1+2<gR from(F1 C)) (Z.post u (cU.grown Z.real k)) (hb:=a) (e:=a.objs.size+1) (t:=a.objs.size) (lim:=lim) (lt:=lt) ⟨k,EM a,aB,r,.inl ⟨rfl,rfl,rfl⟩⟩ (λ ob q=>by haveI z:=r.symm.trans q;cases z;rfl) (Nat.le_succ_of_le v) ?_;intro P p m x K;exact⟨rfl,h _ _ P p m x K⟩
theorem UH{W:Env}{x:GH Value}{Q:Flow->Shared->Prop}(k:A.handled=aB)(h:aU (aY i w) A x (λ v L=>∃z e t m n C,v=.ref e/\uQ (aY i w) L.heap C/\oU z L.heap e C t m n/\E (.ref e) L) E s):aU (aY i w) A (raiseStmt W (aA x) aB) Q E s:=by
 unfold raiseStmt;refine aE (dY h (λ v L a=>?_) λ B B x=>x);obtain⟨z,e,t,m,n,C,rfl,Y,X,c⟩:=a;obtain⟨d,b,-⟩:=X.obj;obtain⟨o,g,q,f,os⟩:=L;have p:lQ (aY i w) o (zA (.ref e)) (.ref C):=(lQ.ld b).andThen .now;have r:=Y.sB;have mt:=Y.mt;repeat(first|with_reducible refine wpAny_loadPart_at b ?_|lk|wp_step)
 refine wpAny_handled ?_;rw[k];first
 |exact wpAny_throw c|exact aE (aM (wpAny_throw c))
theorem TH.hid{a:Nat}{h:bG}{Q:List eI}:∀{l B:List Env},jN a h l->B=l->(∀f∈B,∀L,f.frame=aA L->L∈Q)->h.FunFrames (hideAll h Q) l:=by
 intro t;induction t with
 |nil=>
 intro Y Y Y Y;exact trivial|cons f l b=>
 intro Y c d e;obtain⟨⟨k,L,o,m,u,x,X,n,p⟩,r⟩:=c;subst d;exact⟨k.1,⟨L,o,m,hideAll_none _ (e f (.head _) L m),u,λ Z q=>by rw[p]at q;cases q⟩,b r rfl λ g v=>e g (.tail _ v)⟩
theorem TU{v:Nat}{S h:bG}{e t:eI}{m:Str->Option Value}{n:Nat}{r:Int}(C:jN v h l)(x:oU S h e R.TL t m n)(V:∃t,m "limit"=aA (.int r t)):∃B Q,Keeps v h B e/\ZE h e Q r/\uX B l e Q (.ref R.TL) .none h:=by
  obtain⟨d,eo,hd⟩:=x.obj;obtain⟨u,V⟩:=V;rcases hd with⟨rfl,rfl,-⟩|⟨Q,p,X,k,rfl,ne,-,hN,e5,e6,e7,-⟩;·cases V
  refine⟨hideAll h (e::l.filterMap (·.frame)),Q,λ a o q c na=>hideAll_get _ q λ z=>?_,⟨ne,⟨m,u,hN,V⟩,p,e5,e6⟩,λ b o q=>of_hideAll _ q,hideAll_none _ (.head _),TH.hid C rfl λ f Y L P=>.tail _ (List.mem_filterMap.mpr ⟨f,Y,P⟩),_,_,eo,⟨rfl,rfl⟩,rfl,.inl ⟨rfl,rfl⟩⟩;rcases List.mem_cons.mp z with z|z;·exact na z
  · obtain⟨f,Y,P⟩:=List.mem_filterMap.mp z;obtain⟨lo,L,K,f',g,M,d'⟩:=jN.at C Y;haveI W:=lo.2 _ P;rw[P]at f';cases f';rw[q]at g;cases g;rcases c M with⟨Z,e1⟩|z;·obtain⟨X,n,e2⟩:=d';rw[e1]at e2;cases e2
    ·exact absurd z (Nat.not_lt.mpr W)
theorem ZI(rk:cR R)(er:ED i w R gn pn j D N FT FS I F O J){d:Nat}{W:Env}{L:List Str}{e:ME}{pc pe:aR}{p z:fX}(ok:dZ R W L)(hc:rV pc=aC)(hg:glb W.scope.names "TooLong"=aC)(hp:DW pe=aC)(ih:SE i w R U G d W l L e pe):SS i w R U G d W l L (.raiseLim e) (.Raise (aA (.Call pc [pe] [] p)) aB z):=by
 intro A s r k a y Z H o rt ct x Q E ao as S pp m hq hx;replace m:=YC.mp m;obtain⟨q0,rfl⟩:∃q0,pc=.Name ("TooLong":Str) q0:=by exact gW (x:="TooLong") (M:=λ pc=>∃q0,pc=.Name ("TooLong":Str) q0) hc λ q=>⟨q,rfl⟩
 have al:iD W [pe]:=⟨λ a1=>nJ hp a1 W,trivial⟩;rw[arm_exec_Raise];refine aE (fO (UH ao.hand (aE ?_)));refine dY (Q:=λ v a3=>∃c e t m n C,v=.ref e/\uQ (aY i w) a3.heap C/\oU c a3.heap e C t m n/\E (.ref e) a3) (E:=E) (wpAny_Call_ofName ?_) (λ v ap a6=>aE (fO (aM a6))) λ Y Y x=>x;refine pU rk ok S.X hg er.glob ?_;refine iC (P:=λ h=>R.K.In h) (by rw[fU al];rfl) (keeps_K er.kp) (gK al ?_);refine dH (one rk ih ao S m (hx.at pp) λ a5 a2 f a4 mu u p1 S1 vu q1=>eW ?_) (nJ hp [] W);cases mu with
 |int b=>
 obtain⟨lt,rfl⟩:=vu.int_inv;refine⟨S1.X,YW (s:={s with heap:=f,toks:=_}) rk er (by haveI :=ao.dep;exact F1 this) S1.sb S1.sz λ e t g V m X hm=>?_⟩;have S2:=S1.post rk (cU.grown S1.real X.keep);obtain⟨B,dx,k1,k2,k3⟩:=TU S2.fr X hm;refine⟨f,e,t,m,3,R.TL,rfl,er.cls _ S2.X,X,?_⟩;haveI p2:=(pp.trans p1).trans (cU.grown S1.real X.keep);exact hx .none (.inl rfl) _ _ g B g V e dx b p2 ((pp.trans p1).ev.live e X.new) k1 k2 k3 (.refl _) q1|_=>exact q1.elim
end
section
variable{i:Program}{w:World}{R:iK}{A:Around}{s:Shared}{E:Value->Shared->Prop}
theorem ja{x C:eI}{l:gV}{L:Option gV}{u:bP}{v:Value}{a:Bool}{Q:Value->Shared->Prop}(Y:uQ (aY i w) s.heap C)(X:R.K.In s.heap)(I:InstAt s.heap x l C L)(e:fK R.K (.ref C) "__getattribute__"=aA (aA (.builtin "BaseException.__getattribute__")))(m:fK R.K (.ref C) "__getattr__"=aA aB)(r:findObj R.K C L u=aA (.value v))(z:handedIn v=aC)(h:Q v {s with toks:=s.toks+1}):aU (aY i w) A (getAttr (.ref x) u a) Q E s:=by
 obtain⟨n,g,d,t,os⟩:=s;have L0:=I.type (M:=aY i w);haveI o:=rS (M:=aY i w) X e;haveI y:=rS (M:=aY i w) X m;haveI q:=looks_find (M:=aY i w) X I r;haveI k:(a&&onTheHeap (Value.builtin "BaseException.__getattribute__"))=aG:=by cases a<;>rfl
 haveI j:(onTheHeap (Value.ref C)&&Value.builtin "BaseException.__getattribute__"==Value.builtin "object.__getattribute__")=aG:=by
  haveI :(Value.builtin "BaseException.__getattribute__"==Value.builtin "object.__getattribute__")=aG:=by decide+kernel
  rw[this];rfl
 haveI p:lQ (aY i w) n (sU (.ref x) (.type "BaseException")) aC:=L0.andThen Y.sB;haveI f:bindSpecial (.builtin "BaseException.__getattribute__") (.ref x)=iB (.builtin "BaseException.__getattribute__",[.ref x]):=by kernel_rfl
 haveI hk:builtinKind "BaseException.__getattribute__"=aA .slot:=by decide+kernel
 haveI b:splitId "BaseException.__getattribute__"=aA ("BaseException","__getattribute__"):=by decide+kernel
 refine aE (wpAny_mkText (dM (aE (L0.at (aE (o.at ?_))))));dsimp only;rw[j];rw[if_neg (by decide)];refine aE ?_;show aU _ _ (sV _ _) _ _ _;refine y.at ?_;delta callGetattribute boundAndCalled;rw[k];rw[if_neg (by decide)];refine aE (AR (dM ?_));rw[f];refine aE (aM (lX ?_));haveI c:plainId "BaseException.__getattribute__"=aC:=by decide+kernel
 show iM _ _ (.call (.builtin "BaseException.__getattribute__") ⟨[.ref x,.str u t],[]⟩) _ _;refine qP c PySem.F.entry_bexc_ga ?_;refine@check_slot (aY i w) _ _ ⟨n,g,d,t+1,os⟩ "BaseException.__getattribute__" "BaseException" "__getattribute__" (.ref x) [.str u t] [] _ hk b p (PySem.F.args_bexc_ga _ _) ?_;unfold oW.«object.__getattribute__»;refine aE (aM (aE (aM (aE (L0.at (aE (q.at ?_)))))));refine aM ?_;show aU _ _ (handedOut v) _ _ _;rw[handedOut_of z];exact aM h
theorem UP{x C:eI}{Q:Bool->Shared->Prop}(Y:uQ (aY i w) s.heap C)(b:lQ (aY i w) s.heap (zA (.ref x)) (.ref C))(h:Q aC s):aU (aY i w) A (excMatches (.ref x) (.ref C)) Q E s:=by
 haveI mt:=Y.mt;haveI f:=tc_notTuple;have a:=Y.isT;have c:=Y.sB;have B:=Y.self;refine aE (aE (mt.here ?_));rw[f];refine aM (aE (aM ?_));repeat(first|exact h|lk|wp_step)
theorem qv{k:bG}{l:List dL}{e F L:eI}{r fl:Value}{Q:Unit->Shared->Prop}(z:uX k l e F r .none s.heap)(h:∀P,uX k l e F r .none P->s.heap.UpToSlots P->Q () {s with heap:=P}):aU (aY i w) A (setFlight (.ref e) aB) Q E s:=by
  obtain⟨I,H,C,x,Z,v,D,u,J⟩:=id z;rcases J with⟨y,-⟩|⟨T,oT,g,y,p,n,t,f,B⟩
  ·skip;refine aE (gD v u y ?_);rw[if_neg (show¬(Value.none !=Value.none)=aC from by decide)];exact aM (h s.heap z (.refl _))
  · have j:3<g.size:=(gN.mp B).1;have c:∀b,b≠T->(s.heap.update T (lD (·.setIfInBounds 3 .none))).get? b=s.heap.get? b:=λ b G=>cS _ _ (jA G);have a:∀b o,s.heap.get? b=aA o->(∀Z,o.data≠.fields Z)->b≠T:=λ b o G d q=>by rw[q,t]at G;cases G;exact d g f
    refine aE (gD v u y ?_);rw[if_pos (show(Value.ref T !=Value.none)=aC from by simp)];refine tM t f j (h _ ⟨λ b o m=>(c b λ q=>by rw[q,p]at m;cases m).trans (I b o m),H,C.of_keeps λ b o G d=>⟨o,(c b (a b o G d)).trans G,rfl⟩,?_⟩ λ b o G d=>⟨o.slots,(c b (a b o G d)).trans G⟩);exact⟨x,Z,(c e (jA n)).trans v,D,u,.inr ⟨T,_,_,y,p,n,cY _ t (pJ (kN f _)),kN f _,by simp[j]⟩⟩
theorem eB.footData{k:fN}{M:Nat->Nat}{Y:MH}{h:bG}(r:eB k M Y h){a:Nat}(f:kS Y M a){o:gV}(e:h.get? a=aA o)(Z:Array Value):o.data≠.fields Z:=by
 rcases f with⟨m,g,w⟩|⟨b,C,N,g,rfl⟩
 ·have :=r.obj a m g;cases m with
 |inst C N=>obtain⟨⟨j,B⟩,_⟩:=this;rw[e]at B;cases B;simp|list l=>obtain⟨_,Z,⟨n,B⟩,_⟩:=this;rw[e]at B;cases B;simp|sdict X=>obtain⟨F,p,S,B,c,d⟩:=this.obj;rw[e]at B;obtain rfl:=bH B;rw[d];simp
 ·obtain⟨_,m,_,⟨F,B,c,X,n,d,_⟩,_⟩:=r.obj b _ g;rw[e]at B;cases B;rw[d];simp
theorem CB{b:Nat}{l:List dL}{e Q:eI}{d m:Value}{y B K:bG}(t:Keeps b y B e)(F:uX B l e Q d m K)(u:y.UpToSlots K){a:eI}{o:gV}(f:y.get? a=aA o)(g:a≠e):∃j,K.get? a=aA {o with slots:=j}/\(o.cls≠.type "frame"\/a<b->j=o.slots):=by
 by_cases c:o.cls=.type "frame"->(∃Z,o.data=.fields Z)\/a<b;·exact⟨o.slots,F.1 _ _ (t a o f c g),λ U=>rfl⟩
 ·simp only[Classical.not_imp,not_or,not_exists]at c;obtain⟨j,k⟩:=u a o f c.2.1;exact⟨j,k,λ z=>z.elim (absurd c.1) λ z=>absurd z c.2.2⟩
theorem C0{U:fN}{M L:Nat->Nat}{Y I:MH}{H:bG}{l:List dL}{e Q:eI}{J m:Value}{y B K:bG}(p:cU U M Y H L I y)(r:H.get? e=aB)(t:Keeps U.n y B e)(F:uX B l e Q J m K)(u:y.UpToSlots K):cU U M Y H L I K:=by
 haveI nf:∀o,y.get? e=aA o->∃Z,o.data=.fields Z:=λ o b=>Classical.byContradiction λ c=>by
  obtain⟨j,k⟩:=u e o b λ Z q=>c ⟨Z,q⟩;obtain⟨_,_,_,x,Z,X,_,W,_⟩:=F;rw[X]at k;cases k;exact c ⟨Z,W⟩
 have v:∀a o,y.get? a=aA o->o.cls≠.type "frame"->(∀Z,o.data≠.fields Z)->K.get? a=aA o:=λ a o b c d=>by
  obtain⟨j,k,z⟩:=CB t F u b (λ q=>by subst q;obtain⟨Z,q⟩:=nf o b;exact d Z q);rw[k,z (.inl c)]
 have g:xQ y K:=λ a o b c=>v a o b (by rw[c.1];decide) (λ Z q=>by obtain⟨_,_,_,D⟩:=c;rw[q]at D;cases D);have V:∀a,kS I L a->∀o,y.get? a=aA o->K.get? a=aA o:=λ a f o b=>v a o b (p.real.footKind f b).2.1 (p.real.footData f b);refine⟨p.real.same g (λ a o e=>V a (.inl ⟨o,e,by cases o<;>rfl⟩)) (λ a C N e=>V _ (.inr ⟨a,C,N,e,rfl⟩)),⟨λ a o b n=>?_,λ a o l b=>?_,λ a o b c=>g a o (p.ev.tup a o b c) c,λ a b=>?_⟩,p.grow⟩
 ·obtain⟨j,k,z⟩:=p.ev.keep a o b n;obtain⟨h,G,O⟩:=CB t F u k (λ q=>by subst q;rw[r]at b;cases b);exact⟨h,G,λ c=>(O (.inl c)).trans (z c)⟩
 ·obtain⟨h,G,O⟩:=CB t F u (p.ev.low a o l b) (λ q=>by subst q;rw[r]at b;cases b);rw[G,O (.inr l)]
 ·cases q:H.get? a with
 |none=>rfl|some o=>
 haveI :=p.ev.isSome q;obtain⟨S,P⟩:=aS.mp this;obtain⟨h,G,_⟩:=CB t F u P (λ z=>by subst z;rw[r]at q;cases q);rw[G]at b;cases b
end
section
variable{c:Program}{w:World}{R:iK}{G:Gl}{i:kP}{gn:Nat->Str}{pn:Nat->Nat->Str}{g t C:Nat}{FT FS:MF}{r j:FuncData}{H J:List Stmt}
theorem TX{A:cW}{s:aI}{N:dL}{x:Str}{v:aH}{m:Str->Option aH}{E:aH->aI->Prop}{Q:Unit->aI->Prop}(d:N.scope.kind=.function)(hk:N.kindOf x=aA .local)(b:s.heap.Ns N.locals m)(h:∀P f,P.Ns N.locals (λ y=>if y=x then aA v else m y)->fQ N.locals s.heap P->Q () {s with heap:=P,toks:=f}):aU (aY c w) A (EY N x v) Q E s:=by
 haveI k:(N.scope.kind==.class||(N.scope.kind==.module&&N.locals !=N.globals))=aG:=by rw[d];rfl
 rw[storeName_local hk k];exact oJ b λ P a e U=>h P _ a e
theorem wx(rk:cR R)(er:ED c w R gn pn g t C FT FS r j H J){d:Nat}{N:dL}{l:List dL}{O:List Str}{e:ME}{pc pe:aR}{y:Str}{p1 p2 p3 p4 p5 a1:fX}(ok:dZ R N O)(fk:tR N l O)(hc:rV pc=aC)(hg:glb N.scope.names "TooLong"=aC)(hy:N.kindOf y=aA .local)(c8:(y==("__debug__":Str))=aG)(ih:SE c w R i G d N l O e pe):SS c w R i G d N l O (.tryLim e) (.Try [.Return (aA pe) p1] [.ExceptHandler (aA pc) (aA y) [.Return (aA (.Attribute (.Name y p2) "limit" p3)) p4] p5] [] [] a1):=by
 intro A s a4 a5 a3 δ P Y nx rt ct x Q E ao c4 S pp m hq hx;replace m:=uf.mp m;obtain⟨q0,rfl⟩:∃q0,pc=.Name ("TooLong":Str) q0:=by exact gW (x:="TooLong") (M:=λ pc=>∃q0,pc=.Name ("TooLong":Str) q0) hc λ q=>⟨q,rfl⟩
 obtain⟨ap,rfl⟩:=fk.top;refine wpAny_Try_except (iP (dY (Q:=λ f al=>match f with|.next=>False|f=>Q f al) (uH (one rk ih ao S m ?_ λ a2 Z W tk mu u p' S' vr q=>hq.rt a2 Z W tk mu u (pp.trans p') vr q)) (λ f al b0=>?_) λ U U z=>z));rotate_left;·cases f<;>first|exact b0.elim|exact b0
 intro a2 Z h1 B h2 tk e dx a6 p b3 kp ex F u q;obtain⟨c1,⟨me,tl,hN,c7⟩,od,b1,b2⟩:=ex;haveI c2:A.frames=aA (N::ap):=ao.frs;have ch:xN A (N::ap) d:=ao;obtain⟨mL,c5,cl⟩:=S.loc;obtain⟨oL,cp,cn,bk,ck,cs⟩:=id c5;obtain⟨_,L,oF,f1,f2,f3,f4⟩:=S.fr.1;rw[fk.fl]at f1;cases f1;haveI c6:N.locals≠e:=λ z=>by rw[z,b3]at bk;cases bk
 have cd:h1.get? dx=aA od:=b1;haveI ca:dx≠N.locals:=λ z=>by
  subst z;obtain⟨sl,k,_⟩:=p.ev.keep _ _ f2 S.off;rw[b1]at k;cases k;exact absurd (f3.symm.trans b2) (by decide)
 refine XI c2 fk.fl F λ h3 F3 u3=>?_;refine KI (f:=aB) F3 λ h4 F4 u4=>?_;have b4:=(u.trans u3).trans u4;haveI P4:cU R.N0 δ Y s.heap a2 Z h4:=C0 p b3 kp F4 b4;have S4:St R N (N::ap) O a2 P Z h4:=S.post rk P4;refine wpAny_handleBy_cons (codeAny_handlers_test (pU rk ok S4.X hg er.glob ?_)) (by intro z;cases z);haveI b5:∀h,uX B (N::ap) e dx (.ref R.TL) .none h->lQ (aY c w) h (zA (.ref e)) (.ref R.TL):=λ h F=>by
  obtain⟨_,_,_,oe,V,he,⟨hc,_⟩,_⟩:=F;exact hc▸(lQ.ld he).andThen .now
 refine UP (er.cls _ S4.X) (b5 _ F4) ?_;rw[if_pos rfl];refine codeAny_handlers_suite_as (qv (s:={s with heap:=h4,toks:=tk}) (L:=N.locals) (fl:=.none) F4 λ h5 F5 u5=>?_);have P5:cU R.N0 δ Y s.heap a2 Z h5:=C0 p b3 kp F5 (b4.trans u5);have S5:St R N (N::ap) O a2 P Z h5:=S.post rk P5;obtain⟨m5,bo,-⟩:=S5.loc;refine TX (s:={s with heap:=h5,toks:=tk}) ok.kind hy bo λ h6 as bd s6=>?_;haveI e5:=F5;obtain⟨_,_,_,oe,V,he,⟨hc,c9⟩,hd,_⟩:=e5;haveI c0:h6.get? e=aA oe:=(s6.2 e (jA c6)).trans he;haveI b6:h5.get? dx=aA od:=by
  obtain⟨sl,k,z⟩:=CB kp F5 (b4.trans u5) b1 c1;haveI :=z (.inl (by rw[b2];decide));subst this;exact k
 haveI bi:h6.get? dx=aA od:=(s6.2 dx ca).trans b6;haveI cc:GX "limit" od=aA (aA (.int a6 tl)):=by rw[EC hN b1,c7]
 have X6:R.K.In h6:=λ a o q=>(s6.2 a (λ z=>by
 subst z;exact absurd (Nat.lt_of_lt_of_le (rk.klow _ _ q).1 S.llow) (Nat.lt_irrefl _))).trans (S5.X a o q);haveI I:InstAt h6 e oe R.TL (aA od):=⟨c0,hc,by delta notCls;rw[hd],by rw[c9];exact bi⟩;haveI bs:aU (aY c w) (A.mark (aA (.ref e))) (eval (.Attribute (.Name y p2) "limit" p3) N) (λ v al=>v=.int a6 tl/\∃tk,al={s with heap:=h6,toks:=tk}) (λ U U=>False) {s with heap:=h6,toks:=as}:=by
  rw[IS,PU rfl];refine aE (BP (wpAny_loadName_local ok.kind hy bd (if_pos rfl) ?_) c8);refine aE (fO (aE (dM (ja (s:={s with heap:=h6,toks:=as}) (er.cls _ X6) X6 I er.ga er.gt (findObj_own er.hd er.f3 rfl cc) rfl (aE (letGo (aM ⟨rfl,_,rfl⟩)))))))
 refine iP (uH (dY bs (λ v al b0=>?_) λ U U z=>z.elim));obtain⟨rfl,co,rfl⟩:=b0;refine wpAny_nameGoes hy bd (by rw[ok.kind];rfl) λ h8 m8 ci s8=>?_;haveI c3:fQ N.locals h5 h8:=s6.trans s8;haveI P8:cU R.N0 a4 a5 a3 a2 Z h8:=by
  refine(pp.trans P5).put (D:=(·=N.locals)) (λ b z=>z▸c4.loc) (λ b z=>z▸S5.off) (λ b o z q=>?_) λ b o z q=>(c3.2 b z).trans q;subst z;rintro⟨_,V,n,z⟩;obtain⟨o,es,ep,k1,k2,_⟩:=bo;rw[q]at k1;cases k1;rw[k2]at z;cases z
 exact hq.rt a2 Z h8 _ (.int a6) _ P8 (by simp only[VR];exact⟨_,rfl⟩) q
end
theorem PM:sV (.type "zip") "__len__"=iB aB:=by rw[rF,lG];kernel_rfl
theorem NG:sV (.type "zip") "__length_hint__"=iB aB:=by rw[rF,lG];kernel_rfl
section
variable{d:Program}{w:World}{A:Around}{E:Value->Shared->Prop}{s:Shared}
theorem FW{M:CI}{a:eI}{Q:Option gV->Shared->Prop}(h:Q (s.heap.get? a) s):aU M A (zI a) Q E s:=λb p U=>by
 show GH.wp M b (zI a) _ _ p s;unfold zI;rw[GH.wp_loadIfAlive];exact h
noncomputable abbrev mO(h:bG)(z c a T:eI):Prop:=(∃b,h.get? z=aA {cls:=.type "zip",dict:=aB,data:=.fields #[iJ T,.bool b,.bool aG,.ref c,.ref a],slots:=#[]})/\(h.get? T).isSome
theorem pK{z j i T:eI}{Q:Bool->Shared->Prop}(e:mO s.heap z j i T)(h:∀P,mO P z j i T->fQ z s.heap P->Q aG {s with heap:=P}):aU (aY d w) A (gI (.ref z)) Q E s:=by
 obtain⟨⟨b,e⟩,f⟩:=e;obtain⟨oT,f⟩:=aS.mp f;unfold gI;refine aE (gD e rfl (x:=iJ T) rfl ?_);show aU _ _ (zI ((T:Int).toNat)>>=_) _ _ _;refine aE (FW ?_);rw[gP,f];show aU _ _ (field (.ref z) 1>>=_) _ _ _;refine aE (gD e rfl (x:=.bool b) rfl ?_);cases b with
 |true=>exact aM (h s.heap ⟨⟨aC,e⟩,by rw[f];rfl⟩ ⟨rfl,λ U U=>rfl⟩)|false=>
 show aU _ _ (setField (.ref z) 1 (.bool aC)>>=_) _ _ _;refine aE (wpAny_setField_rec e (by simp) λ g c a=>aM (h g ⟨⟨aC,c⟩,?_⟩ a));by_cases q:T=z;·subst q;rw[c];rfl
 ·rw[a.2 T q,f];rfl
theorem mO.ext{h P:bG}{z f a T b:eI}(x:mO h z f a T)(e:fQ b h P)(n:z≠b)(m:T≠b):mO P z f a T:=by
 obtain⟨⟨c,x⟩,y⟩:=x;exact⟨⟨c,(e.2 z n).trans x⟩,by rw[e.2 T m];exact y⟩
theorem HW{z r J k l g L T:eI}{I N:Nat}{B X:Array Value}{x y:Value}{Q:Value->Shared->Prop}(D:nA z r J k l g L)(Y:T≠k)(t2:T≠l)(S:mO s.heap z r J T)(O:oZ s.heap r (.ref k) (.ref l))(K:s.heap.IsListIter k g I)(C:s.heap.IsListIter l L N)(R:s.heap.IsList g B)(M:s.heap.IsList L X)(Z:B[I]?=aA x)(hy:X[N]?=aA y)(hQ:∀P,mO P z r J T->P.IsListIter k g (I+1)->P.IsListIter l L (N+1)->oZ P s.heap.objs.size x y->(∀c o,c≠z->c≠k->c≠l->s.heap.get? c=aA o->P.get? c=aA o)->Q (.ref s.heap.objs.size) {s with heap:=P}):aU (aY d w) A (oW.«zip.__next__» ⟨[.ref z],[]⟩) (λ G u=>∃v,G=.done (.ret v)/\Q v u) E s:=by
 obtain⟨⟨b,F⟩,a1⟩:=id S;show aU _ _ (field (.ref z) 2>>=_) _ _ _;refine aE (gD F rfl (x:=.bool aG) rfl ?_);show aU _ _ (field (.ref z) 3>>=_) _ _ _;refine aE (gD F rfl (x:=.ref r) rfl ?_);refine aE (oN O rfl ?_);show aU _ _ (gI (.ref z)>>=_) _ _ _;refine aE (pK S λ V n a=>?_);simp only[eV,if_false];refine aE ?_;simp only[BL,iI,oS];refine aE (aE (dM ?_));show aU _ _ (jD (.ref k)>>=_) _ _ _;refine aE (oO (K.extBut a.extBut D.i1z) (R.extBut a.extBut D.l1z) Z λ W q f=>aM ?_);refine aM (aE (aE (dM ?_)));show aU _ _ (jD (.ref l)>>=_) _ _ _;refine aE (oO ((C.extBut a.extBut D.i2z).extBut f.extBut D.i12.symm) ((M.extBut a.extBut D.l2z).extBut f.extBut D.l2i1) hy λ h p i=>aM ?_);refine aM (aM ?_);have t:h.objs.size=s.heap.objs.size:=by rw[i.1,f.1,a.1]
 show aU _ _ (newTuple [x,y]>>=_) _ _ _;refine aE (wpAny_newTuple ?_);have j:mO h z r J T:=(n.ext f D.i1z.symm Y).ext i D.i2z.symm t2;haveI m:h.IsListIter k g (I+1):=q.extBut i.extBut D.i12;refine aM ⟨_,rfl,?_⟩;show Q (.ref h.objs.size) _;rw[t];have H:∀c o,h.get? c=aA o->(h.push {cls:=.type "tuple",data:=.seq #[x,y]}).get? c=aA o:=λ c o e=>aK _ e;refine hQ _ ⟨j.1.imp λ U e=>H _ _ e,?_⟩ (m.at λ o e=>H _ o e) (p.at λ o e=>H _ o e) ?_ λ c o c1 c3 c4 e=>H _ _ (i.extBut _ _ c4 (f.extBut _ _ c3 (a.extBut _ _ c1 e)))
 ·obtain⟨o,ho⟩:=aS.mp j.2;show(bG.get? (h.push {cls:=.type "tuple",data:=.seq #[x,y]}) T).isSome=aC;rw[H _ _ ho];rfl
 ·rw[<-t];exact bQ _ rfl
theorem ID{z r J k l g L T:eI}{M u:Nat}{B X:Array Value}{Q:Fin->Shared->Prop}(R:A.handled=aB)(D:nA z r J k l g L)(t1:T≠k)(t2:T≠l)(V:mO s.heap z r J T)(t:oZ s.heap r (.ref k) (.ref l))(y:s.heap.IsListIter k g M)(K:s.heap.IsListIter l L u)(q:s.heap.IsList g B)(G:s.heap.IsList L X)(n:B[M]?=aB\/X[u]?=aB)(S:∀P e,(∀c o,c≠z->c≠J->c≠k->c≠l->s.heap.get? c=aA o->P.get? c=aA o)->(∃o,P.get? e=aA o/\o.cls=.type "StopIteration")->E (.ref e) {s with heap:=P}):aU (aY d w) A (oW.«zip.__next__» ⟨[.ref z],[]⟩) Q E s:=by
 obtain⟨⟨b,p⟩,Y⟩:=id V;show aU _ _ (field (.ref z) 2>>=_) _ _ _;refine aE (gD p rfl (x:=.bool aG) rfl ?_);show aU _ _ (field (.ref z) 3>>=_) _ _ _;refine aE (gD p rfl (x:=.ref r) rfl ?_);refine aE (oN t rfl ?_);show aU _ _ (gI (.ref z)>>=_) _ _ _;refine aE (pK V λ O C a=>?_);simp only[eV,if_false];refine aE ?_;simp only[BL,iI,oS];refine aE (aE (dM ?_));show aU _ _ (jD (.ref k)>>=_) _ _ _;cases I:B[M]? with
 |none=>exact aE (xV R (y.extBut a.extBut D.i1z) (q.extBut a.extBut D.l1z) I λ i e f v=>S i e (λ c o H U F U x=>f _ _ F (a.extBut _ _ H x)) v)|some x=>
 haveI W:X[u]?=aB:=by rcases n with h|h;rw[I]at h;cases h;exact h
 refine aE (oO (y.extBut a.extBut D.i1z) (q.extBut a.extBut D.l1z) I λ i N f=>aM ?_);refine aM (aE (aE (dM ?_)));show aU _ _ (jD (.ref l)>>=_) _ _ _;exact aE (xV R ((K.extBut a.extBut D.i2z).extBut f.extBut D.i12.symm) ((G.extBut a.extBut D.l2z).extBut f.extBut D.l2i1) W λ m e j v=>S m e (λ c o H U F Z x=>j _ _ Z (f.extBut _ _ F (a.extBut _ _ H x))) v)
theorem OQ{z f m e a g L T:eI}{i h:Nat}{B X:Array Value}{x y:Value}{Q:Option Value->Shared->Prop}(D:nA z f m e a g L)(r:T≠e)(u:T≠a)(q:mO s.heap z f m T)(l:oZ s.heap f (.ref e) (.ref a))(K:s.heap.IsListIter e g i)(C:s.heap.IsListIter a L h)(n:s.heap.IsList g B)(k:s.heap.IsList L X)(t:B[i]?=aA x)(I:X[h]?=aA y)(G:∀P,mO P z f m T->P.IsListIter e g (i+1)->P.IsListIter a L (h+1)->oZ P s.heap.objs.size x y->(∀c o,c≠z->c≠e->c≠a->s.heap.get? c=aA o->P.get? c=aA o)->Q (aA (.ref s.heap.objs.size)) {s with heap:=P}):aU (aY d w) A (pM (.ref z)) Q E s:=by
 obtain⟨⟨b,j⟩,_⟩:=id q;have p:s.TypeIs (.ref z) "zip":=⟨_,j,rfl⟩;unfold pM;exact aE (AR (nZ (name:=aP "__next__") p nO (iU nO p F.entry_zip_next (HW D r u q l K C n k t I λ P M H J N v=>aM (G P M H J N v)) (F.args_zip_next_1 _))))
theorem UW{z n l a h g L T:eI}{t r:Nat}{B X:Array Value}{Q:Option Value->Shared->Prop}(I:A.handled=aB)(D:nA z n l a h g L)(x:T≠a)(C:T≠h)(p:mO s.heap z n l T)(i:oZ s.heap n (.ref a) (.ref h))(y:s.heap.IsListIter a g t)(K:s.heap.IsListIter h L r)(m:s.heap.IsList g B)(k:s.heap.IsList L X)(f:B[t]?=aB\/X[r]?=aB)(H:∀P,(∀c o,c≠z->c≠l->c≠a->c≠h->s.heap.get? c=aA o->P.get? c=aA o)->Q aB {s with heap:=P}):aU (aY d w) A (pM (.ref z)) Q E s:=by
 obtain⟨⟨b,j⟩,_⟩:=id p;have q:s.TypeIs (.ref z) "zip":=⟨_,j,rfl⟩;unfold pM;refine aE (AR (nZ (name:=aP "__next__") q nO (iU nO q F.entry_zip_next (ID I D x C p i y K m k f λ P e hk u=>?_) (F.args_zip_next_1 _))));obtain⟨o,G,v⟩:=u;refine aE (wpAny_isInstance (T:="StopIteration") (b:=aC) ⟨o,G,v⟩ isSubtype_stop ?_);exact aM (H _ hk)
noncomputable def Pairs(a:eI)(h:bG):List (Value×Value)->List Value->Prop
 |[],Z=>Z=[]|p::u,Z=>∃T r,Z=.ref T::r/\(oZ h T p.1 p.2/\T≠a)/\Pairs a h u r
theorem Pairs.mono{c:eI}{h P:bG}(k:∀T a b,T≠c->oZ h T a b->oZ P T a b):∀{u:List (Value×Value)}{Z:List Value},Pairs c h u Z->Pairs c P u Z:=by
 intro u;induction u with
 |nil=>intro U x;exact x|cons _ _ f=>
 intro U x;obtain⟨T,r,e,p,t⟩:=x;exact⟨T,r,e,⟨k _ _ _ p.2 p.1,p.2⟩,f t⟩
theorem Pairs.snoc{a:eI}{h:bG}{T:eI}{p:Value×Value}:∀{u:List (Value×Value)}{Z:List Value},Pairs a h u Z->oZ h T p.1 p.2->T≠a->Pairs a h (u++[p]) (Z++[.ref T]):=by
 intro u;induction u with
 |nil=>intro U x q n;exact⟨T,[],by rw[show _=[]from x];rfl,⟨q,n⟩,rfl⟩|cons _ _ c=>
 intro U x p n;obtain⟨b,r,rfl,q,t⟩:=x;exact⟨b,r++[.ref T],rfl,q,c t p n⟩
theorem Pairs.length{b:eI}{h:bG}:∀{u:List (Value×Value)}{Z:List Value},Pairs b h u Z->Z.length=u.length:=by
 intro u;induction u with
 |nil=>intro U x;rw[show _=[]from x];rfl|cons _ _ a=>
 intro U x;obtain⟨_,_,rfl,_,t⟩:=x;rw[aN,aN,a t]
structure zJ(z TI TO i1 i2 l1 l2:eI)(xs ys:Array Value)(i:Nat)(h:bG):Prop where
 zs:(i=0/\IsZip h z TI TO .none)\/∃T,T≠i1/\T≠i2/\mO h z TI TO T
 to:∃a b,oZ h TO a b
 ti:oZ h TI (.ref i1) (.ref i2)i1:h.IsListIter i1 l1 i
 i2:h.IsListIter i2 l2 i
 l1:h.IsList l1 xs
 l2:h.IsList l2 ys
theorem cx{z F n t r g L:eI}{B X:Array Value}{i:Nat}{x y:Value}{Q:Option Value->Shared->Prop}(D:nA z F n t r g L)(Z:zJ z F n t r g L B X i s.heap)(S:B[i]?=aA x)(J:X[i]?=aA y)(R:∀P T,zJ z F n t r g L B X (i+1) P->oZ P T x y->s.heap.get? T=aB->(∀c o,c≠z->c≠n->c≠t->c≠r->s.heap.get? c=aA o->P.get? c=aA o)->Q (aA (.ref T)) {s with heap:=P}):aU (aY d w) A (pM (.ref z)) Q E s:=by
 obtain⟨zs,⟨a,b,m⟩,u,K,C,f,j⟩:=Z;have M:∀{h:bG}{a l k},h.IsListIter a l k->(h.get? a).isSome:=λ x=>by obtain⟨o,e,_⟩:=x;rw[e];rfl
 have V:∀{c},(s.heap.get? c).isSome->s.heap.objs.size≠c:=λ{c}e q=>by subst q;rw[iZ]at e;cases e
 rcases zs with⟨rfl,v⟩|⟨T,N,O,v⟩;·exact wpAny_pyNext_zip_item D v u m K C f j S J λ P I W G H p a6 k=>R P _ ⟨.inr ⟨s.heap.objs.size,V (M K),V (M C),⟨⟨aG,I⟩,by rw[p];rfl⟩⟩,⟨_,_,W⟩,k _ _ D.TIz D.TITO D.TIi1 D.TIi2 u,G,H,f.at λ o e=>k _ o D.l1z D.l1TO D.l1i1 D.l1i2 e,j.at λ o e=>k _ o D.l2z D.l2TO D.l2i1 D.l2i2 e⟩ p (iZ _) k
 ·exact OQ D N O v u K C f j S J λ P I G H p k=>R P _ ⟨.inr ⟨T,N,O,I⟩,⟨a,b,k _ _ D.TOz D.TOi1 D.TOi2 m⟩,k _ _ D.TIz D.TIi1 D.TIi2 u,G,H,f.at λ o e=>k _ o D.l1z D.l1i1 D.l1i2 e,j.at λ o e=>k _ o D.l2z D.l2i1 D.l2i2 e⟩ p (iZ _) λ c o Y U c3 c4=>k c o Y c3 c4
theorem im{z t n j l g L:eI}{B X:Array Value}{i:Nat}{Q:Option Value->Shared->Prop}(q:A.handled=aB)(D:nA z t n j l g L)(Z:zJ z t n j l g L B X i s.heap)(e:B[i]?=aB\/X[i]?=aB)(r:∀P,(∀c o,c≠z->c≠n->c≠j->c≠l->s.heap.get? c=aA o->P.get? c=aA o)->Q aB {s with heap:=P}):aU (aY d w) A (pM (.ref z)) Q E s:=by
 obtain⟨x,⟨a,b,m⟩,p,y,K,h,f⟩:=Z;rcases x with⟨rfl,k⟩|⟨T,u,v,k⟩;·exact wpAny_pyNext_zip_end q D k p m y K h f e r
 ·exact UW q D u v k p y K h f e r
theorem zJ.keep{z m l r f g L S:eI}{B X:Array Value}{i:Nat}{h P:bG}(n:∀c∈[z,m,l,r,f,g,L],c≠S)(Z:zJ z m l r f g L B X i h)(k:∀c o,c≠S->h.get? c=aA o->P.get? c=aA o)(N:(P.get? S).isSome):zJ z m l r f g L B X i P:=by
  obtain⟨R,⟨a,b,j⟩,x,y,K,u,t⟩:=Z;simp only[qR]at n;obtain⟨v,O,M,D,J,G,F,-⟩:=n;refine⟨?_,⟨a,b,k _ _ M j⟩,k _ _ O x,y.at λ o e=>k _ o D e,K.at λ o e=>k _ o J e,u.at λ o e=>k _ o G e,t.at λ o e=>k _ o F e⟩;rcases R with⟨e,p⟩|⟨T,H,C,⟨c,p⟩,Q⟩;·exact .inl ⟨e,k _ _ v p⟩
  · refine .inr ⟨T,H,C,⟨c,k _ _ v p⟩,?_⟩;by_cases q:T=S;·subst q;exact N
    ·obtain⟨o,I⟩:=aS.mp Q;rw[k _ _ q I];rfl
end
section
variable{g:Program}{w:World}{A:Around}{R:Result->Shared->Prop}
theorem a7{z TI f H J I L:eI}{B X:Array aH}(hh:A.handled=aB)(D:nA z TI f H J I L)(S:eI)(hS:∀c∈[z,TI,f,H,J,I,L],c≠S)(W:aH)(hn:min B.size X.size<=nE):∀(k i:Nat)(s:Shared)(G:Array aH)(c:Nat),min B.size X.size-i=k->i<=min B.size X.size->zJ z TI f H J I L B X i s.heap->s.heap.get? S=aA {cls:=.type "list",dict:=aB,data:=.seq G c,slots:=#[]}->Pairs f s.heap ((B.toList.zip X.toList).take i) G.toList->(∀P v M,P.get? S=aA {cls:=.type "list",dict:=aB,data:=.seq v M,slots:=#[]}->Pairs f P (B.toList.zip X.toList) v.toList->(∀c o,c≠S->c≠z->c≠f->c≠H->c≠J->s.heap.get? c=aA o->P.get? c=aA o)->R (.ok (.ret W)) {s with heap:=P})->iM (aY g w) A (.builtin "list.extend.loop" ⟨[.ref S,.ref z,W],[]⟩) R s:=by
 haveI a4:A.in1.handled=aB:=hh;have nS:=hS;simp only[qR]at nS;obtain⟨n1,n2,n3,n4,n5,n6,n7,-⟩:=nS;have pk:∀{h P:bG}{f0:aH}{i j},(∃d,h.get? z=aA d/\d.cls=.type "zip")->h.IsListIter H I i->h.IsListIter J L j->(∀c o,c≠z->c≠f->c≠H->c≠J->h.get? c=aA o->P.get? c=aA o)->∀T a b,T≠f->oZ h T a b->oZ P T a b:=by
    intro h P f0 i j⟨d,hd,E⟩⟨C,e1,c1,_⟩⟨o2,e2,N,_⟩k T a b n p;refine k _ _ (λ q=>?_) n (λ q=>?_) (λ q=>?_) p;·subst q;rw[p]at hd;cases hd;exact absurd (show(nQ "tuple":aH)=.type "zip"from E) (by decide)
    ·subst q;rw[p]at e1;cases e1;exact absurd (show(nQ "tuple":aH)=.type "list_iterator"from c1) (by decide)
    ·subst q;rw[p]at e2;cases e2;exact absurd (show(nQ "tuple":aH)=.type "list_iterator"from N) (by decide)
 have zc:∀{i h},zJ z TI f H J I L B X i h->∃d,h.get? z=aA d/\d.cls=.type "zip":=λ Z=>by rcases Z.zs with⟨_,e⟩|⟨T,_,_,⟨b,e⟩,_⟩<;>exact⟨_,e,rfl⟩
 intro k;induction k with
 |zero=>
    intro i s G c hk O Z hL Y hR;have x:i=min B.size X.size:=rD O (xS hk);refine nH AG ?_;rw[Around.under_plainId jS _];show aU _ A.in1 (pM (.ref z)>>=_) _ _ s;haveI K:B[i]?=aB\/X[i]?=aB:=by
      rcases Nat.le_total B.size X.size with h|h;·exact .inl (xA (bM ((gX h).symm.trans x.symm)))
      ·exact .inr (xA (bM ((vW h).symm.trans x.symm)))
    refine aE (im a4 D Z K λ P m=>?_);rw[kG (by rw[kW,gB,gB];exact(F1 (bM x.symm)))]at Y;exact aM (hR P G c (m _ _ n1.symm n3.symm n4.symm n5.symm hL) (Y.mono (pk (f0:=.none) (zc Z) Z.i1 Z.i2 m)) λ c o U c1 N c3 c4=>m c o c1 N c3 c4)|succ k ih=>
    intro i s G c hk O Z hL Y hR;refine nH AG ?_;rw[Around.under_plainId jS _];show aU _ A.in1 (pM (.ref z)>>=_) _ _ s;have r:=Nat.lt_of_sub_eq_succ hk;haveI a1:i<B.size:=cO r (Nat.min_le_left ..);haveI al:i<X.size:=cO r (Nat.min_le_right ..);refine aE (cx D Z (jE a1) (jE al) λ P T Z' hT l m=>?_);have y:=m _ _ n1.symm n3.symm n4.symm n5.symm hL;show aU _ A.in1 (EF S (·.push (.ref T))>>=_) _ _ _;have t:G.size=i:=by
     haveI :=Y.length;rw[gB,fW,kW,gB,gB,gX O]at this;exact this
    refine aE ?_;haveI TS:T≠S:=λ q=>by rw[q,hL]at l;cases l
    haveI a5:T≠f:=λ q=>by obtain⟨_,_,Q⟩:=Z.to;rw[q,Q]at l;cases l
    have up:∀b o,b≠S->P.get? b=aA o->(P.update S (iW (·.push (.ref T)))).get? b=aA o:=λ b o n e=>(cS _ _ (jA n)).trans e;have gS:(P.update S (iW (·.push (.ref T)))).get? S=aA _:=cY _ y rfl;refine rC y rfl (aM ⟨vA jS _,ih (i+1) _ (G.push (.ref T)) _ ((Nat.sub_succ _ i).trans (congrArg Nat.pred hk)) r (Z'.keep hS up (by rw[gS];rfl)) gS ?_ λ a2 v M ao a6 a3=>?_⟩) (by rw[t];exact F2 hn O) (by show(G.push (.ref T)).size<=nE+1;rw[FY,t];exact F2 hn O)
    · haveI hz:i<(B.toList.zip X.toList).length:=by rw[kW,gB,gB];exact r
      rw[List.take_succ_eq_append_getElem hz,uN];refine Pairs.snoc ((Y.mono (pk (f0:=.none) (zc Z) Z.i1 Z.i2 m)).mono λ T' a b U p=>up _ _ (λ q=>?_) p) ?_ a5;·subst q;replace p:P.get? _=_:=p;rw[y]at p;simp at p
      ·rw[List.getElem_zip];exact up _ _ TS (by simpa using hT)
    ·exact hR a2 v M ao a6 λ b o n V u m3 m4 e=>a3 b o n V u m3 m4 (up b o n (m b o V u m3 m4 e))
theorem PC{s:Shared}{z J i m p I L S:eI}{B X:Array aH}{V:Nat}(W:A.handled=aB)(D:nA z J i m p I L)(Z:zJ z J i m p I L B X 0 s.heap)(Y:min B.size X.size<=nE)(x:∀c∈[z,J,i,m,p,I,L],c≠S)(O:s.heap.get? S=aA {cls:=.type "list",data:=.seq #[] V})(a:aH)(hR:∀P v M,P.get? S=aA {cls:=.type "list",dict:=aB,data:=.seq v M,slots:=#[]}->Pairs i P (B.toList.zip X.toList) v.toList->(∀c o,c≠S->c≠z->c≠i->c≠m->c≠p->s.heap.get? c=aA o->P.get? c=aA o)->R (.ok (.ret a)) {s with heap:=P}):aU (aY g w) A.in1 (fG (.ref S) (.ref z) a) (λ G u=>match G with|.done f=>R (.ok f) u|.again M=>M.quiet=aC/\iM (aY g w) A M R u) (λ e u=>R (.error e) u) s:=by
 have hz:∃d,s.heap.get? z=aA d/\d.cls=.type "zip":=by rcases Z.zs with⟨_,e⟩|⟨T,_,_,⟨b,e⟩,_⟩<;>exact⟨_,e,rfl⟩
 haveI t:=x z (.head _);obtain⟨Q,H,E⟩:=hz;have h:s.TypeIs (.ref z) "zip":=⟨Q,H,E⟩;unfold fG;refine aE (DQ h ?_);haveI y:jP (.ref S) (.ref z)=aG:=by simp[jP,t.symm]
 haveI K:(nQ "zip"==nQ "list")=aG:=by decide
 haveI h3:(nQ "zip"==nQ "tuple")=aG:=by decide
 simp only[y,K,h3,lC,eV,if_false];refine aE (oV h F.slot_zip_iter (iU F.slot_zip_iter h F.entry_zip_iter ?_ (F.args_zip_iter_1 _)));show aU _ _ (ret (.ref z)) _ _ s;refine aM ⟨_,rfl,"zip",_,h,nO.lookup,?_⟩;refine aE (dM ?_);unfold rM;refine aE (qT h PM ?_);show aU _ _ (zW (iR z) (aP "__length_hint__")>>=_) _ _ _;refine aE (qT h NG ?_);refine aM ?_;show aU _ _ (rule "list.extend.makes-room">>=λ U=>oW.List.listTouch (.ref S)>>=λ U=>bZ (.builtin "list.extend.loop" ⟨[.ref S,.ref z,a],[]⟩)) _ _ _;refine aE (wpAny_rule ?_);refine aE ?_;show aU _ _ (EF S (·.push .none)>>=λ U=>EF S (·.pop)) _ _ _;refine aE (rC O rfl ?_);have j:=cY (iW (·.push gO)) O rfl;refine rC (hz:=by seq_fits) j rfl ?_;have l:=cY (iW (·.pop)) j rfl;have up1:∀b o,b≠S->s.heap.get? b=aA o->((s.heap.update S (iW (·.push gO))).update S (iW (·.pop))).get? b=aA o:=λ b o n e=>(cS _ _ (jA n)).trans ((cS _ _ (jA n)).trans e);exact aM ⟨vA jS _,a7 W D S x a Y _ 0 _ _ _ rfl (dN _) (Z.keep x up1 (by rw[l];rfl)) l rfl λ P v M r N k=>hR P v M r N λ c o n q C m3 m4 e=>k c o n q C m3 m4 (up1 _ _ n e)⟩
theorem XV{s:Shared}{z l a i j I L S:eI}{B X:Array aH}(J:A.handled=aB)(D:nA z l a i j I L)(Z:zJ z l a i j I L B X 0 s.heap)(H:min B.size X.size<=nE)(x:∀c∈[z,l,a,i,j,I,L],c≠S)(r:s.heap.get? S=aA {cls:=.type "list",data:=.seq #[]})(E:∀P v M,P.get? S=aA {cls:=.type "list",dict:=aB,data:=.seq v M,slots:=#[]}->Pairs a P (B.toList.zip X.toList) v.toList->(∀c o,c≠S->c≠z->c≠a->c≠i->c≠j->s.heap.get? c=aA o->P.get? c=aA o)->R (.ok (.ret .none)) {s with heap:=P}):aU (aY g w) A.in1 (oW.«list.__init__» ⟨[.ref S,.ref z],[]⟩) (λ G u=>match G with|.done f=>R (.ok f) u|.again M=>M.quiet=aC/\iM (aY g w) A M R u) (λ e u=>R (.error e) u) s:=by
 show aU _ A.in1 (do let p<-wX (.ref S);oW.List.listUpdate (.ref S) (λ U=>#[]);PySem.letGo p.toList.reverse;fG (.ref S) (.ref z) .none) _ _ s;refine aE ?_;unfold wX;refine aE (oN r rfl (aM ?_));show aU _ A.in1 (EF S (λ U=>#[])>>=λ U=>PySem.letGo (#[]:Array aH).toList.reverse>>=λ U=>fG (.ref S) (.ref z) .none) _ _ s;refine aE (rC r rfl ?_);have d:=cY (iW (λ U=>(#[]:Array aH))) r rfl;refine aE (wpAny_letGo ?_);have h:∀b o,b≠S->s.heap.get? b=aA o->(s.heap.update S (iW (λ U=>(#[]:Array aH)))).get? b=aA o:=λ b o n e=>(cS _ _ (jA n)).trans e;exact PC (s:={s with heap:=s.heap.update S (iW (λ U=>(#[]:Array aH)))}) J D (Z.keep x h (by rw[d];rfl)) H x d .none λ P v M m t k=>E P v M m t λ c o n q C y F e=>k c o n q C y F (h _ _ n e)
theorem IJ{E:aH->Shared->Prop}{s:Shared}{z x l t r I L:eI}{B X:Array aH}{Q:aH->Shared->Prop}(hh:A.handled=aB)(D:nA z x l t r I L)(Z:zJ z x l t r I L B X 0 s.heap)(hn:min B.size X.size<=nE)(hQ:∀P v M,P.get? s.heap.objs.size=aA {cls:=.type "list",dict:=aB,data:=.seq v M,slots:=#[]}->Pairs l P (B.toList.zip X.toList) v.toList->(∀c o,c≠z->c≠l->c≠t->c≠r->s.heap.get? c=aA o->P.get? c=aA o)->Q (.ref s.heap.objs.size) {s with heap:=P}):aU (aY g w) A (pN (.type "list") [.ref z]) Q E s:=by
 have N:∃d,s.heap.get? z=aA d/\d.cls=.type "zip":=by rcases Z.zs with⟨_,e⟩|⟨T,_,_,⟨b,e⟩,_⟩<;>exact⟨_,e,rfl⟩
 have f:∀{c},(s.heap.get? c).isSome->c≠s.heap.objs.size:=λ{c}e q=>by subst q;rw[iZ]at e;cases e
 have W:∀c∈[z,x,l,t,r,I,L],c≠s.heap.objs.size:=by
  obtain⟨_,⟨a,b,H⟩,Y,⟨_,y,_⟩,⟨_,K,_⟩,⟨_,O,_⟩,⟨_,J,_⟩⟩:=Z;obtain⟨_,N,_⟩:=N;simp only[qR];refine⟨f (by rw[N];rfl),f (by rw[Y];rfl),f (by rw[H];rfl),f (by rw[y];rfl),f (by rw[K];rfl),f (by rw[O];rfl),f (by rw[J];rfl),λ U h=>nomatch h⟩
 have p:∀b o,b≠s.heap.objs.size->s.heap.get? b=aA o->(s.heap.push {cls:=.type "list",data:=.seq #[]}).get? b=aA o:=λ b o U e=>aK _ e;have G:(s.heap.push {cls:=.type "list",data:=.seq #[]}).get? s.heap.objs.size=aA {cls:=.type "list",data:=.seq #[]}:=bQ _ rfl;refine callType_codes (Q₁:=λ j i=>j=.ref s.heap.objs.size/\i={s with heap:=s.heap.push {cls:=.type "list",data:=.seq #[]}}) F.called_list (F.typeCall_list_1 _) F.entry_list_init (code_list_new _ ⟨rfl,rfl⟩) λ j i m=>?_;obtain⟨rfl,rfl⟩:=m;refine⟨⟨_,G,rfl⟩,F.args_list_init_2 _ _,XV (A:=A.in1) (s:={s with heap:=s.heap.push {cls:=.type "list",data:=.seq #[]}}) hh D (Z.keep W p (by rw[G];rfl)) hn W G λ P v M C S k=>?_⟩;refine⟨rfl,hQ P v M C S λ c o V u m3 m4 e=>?_⟩;have n:c≠s.heap.objs.size:=λ q=>by rw[q,iZ]at e;cases e
 exact k c o n V u m3 m4 (p _ _ n e)
end
theorem Pairs.vrs{c:eI}{h:bG}:∀{l r:List MV}{B X:List aH}{Z:List aH},dK h l B->dK h r X->Pairs c h (B.zip X) Z->dK h ((l.zip r).map λ p=>.tup [p.1,p.2]) Z:=by
 intro l;induction l with
 |nil=>
 intro r B X Z a U p;obtain rfl:=a.inv0;obtain rfl:Z=[]:=p;exact dK.nil|cons m l e=>
 intro r B X Z a b p;cases r with
 |nil=>
 obtain rfl:=b.inv0;rw[AY]at p;obtain rfl:Z=[]:=p;exact dK.nil|cons n r=>
 obtain⟨x,B,rfl,f,a⟩:=a.inv;obtain⟨y,X,rfl,d,b⟩:=b.inv;obtain⟨T,i,rfl,⟨q,_⟩,p⟩:=p;refine dK.cons ?_ (e a b p);unfold VR;exact⟨by unfold aX;exact(by decide:(2:Nat)<=1048576),T,_,_,0,rfl,q,rfl,rfl,dK.cons f (dK.cons d dK.nil)⟩
section
variable{f:Program}{w:World}{R:iK}{g:kP}{G:Gl}{d:Nat}{B:Env}{l:List Env}{j:List Str}
theorem lj(rk:cR R)(bk:ES R)(I:dZ R B j){a b:ME}{pa pb:aR}{p p2 F a4:fX}(g1:glb B.scope.names "list"=aC)(g2:glb B.scope.names "zip"=aC)(t:DW pa=aC)(o2:DW pb=aC)(b2:SE f w R g G d B l j a pa)(b1:SE f w R g G d B l j b pb):SE f w R g G d B l j (.lzip a b) (.Call (.Name "list" p) [.Call (.Name "zip" p2) [pa,pb] [] a4] [] F):=by
 intro A s M H Y k xx Q E ao S m hq hx;replace m:=SD.mp m;have s1:=λ i=>nJ t i B;have s2:=λ i=>nJ o2 i B;have ap:iD B [pa,pb]:=⟨s1,s2,trivial⟩;have hp:iD B [.Call (.Name "zip" p2) [pa,pb] [] a4]:=⟨λ U=>rfl,trivial⟩;refine hJ (pT rk I S.X g1 bk.lst.1 bk.lst.2 ?_);refine iC (P:=λ U=>True) (by rw[fU hp];rfl) (λ h U=>kC _ h) (gK hp ?_);refine dH ?_ (hp.1 _);refine hJ (pT rk I S.X g2 bk.zip.1 bk.zip.2 ?_);refine iC (P:=λ U=>True) (by rw[fU ap];rfl) (λ h U=>kC _ h) (gK ap ?_);refine dH (one rk b2 ao S m hx λ a3 Z y O mu u p1 S1 vu q1=>?_) (s1 _);refine dH (one rk (s:={s with heap:=y,toks:=O}) b1 ao S1 q1 (hx.post p1) λ J V K as n v p2 S2 vv q2=>eW ⟨trivial,?_⟩) (s2 _);obtain⟨L,eL,q3⟩:=fJ q2;obtain⟨L',b0,q4⟩:=fJ q3;clear q2 q3;obtain⟨hl,a1,r,rfl,rfl,em,hL,hv⟩:=S2.real.list (p2.ev.vr vu) eL;obtain⟨bd,a2,x,rfl,rfl,b5,a6,al⟩:=S2.real.list vv b0;refine call_zip_2 (s:={s with heap:=K,toks:=as}) hL a6 λ h3 z1 z2 z3 z4 z5 z6 a5=>?_;refine eW ⟨trivial,?_⟩;have b6:a1<K.objs.size:=by obtain⟨o,e,_⟩:=hL;exact cN e
 have b4:a2<K.objs.size:=by obtain⟨o,e,_⟩:=a6;exact cN e
 have bi:=hv.size;have bo:=al.size;haveI np:∀{c},K.objs.size<=c->K.get? c=aB:=λ{c}hc=>by cases q:K.get? c with
 |none=>rfl|some o=>exact absurd (cN q) (Nat.not_lt.mpr hc)
 unfold jG at hl;generalize hN:K.objs.size=N at*;haveI D:nA (N+4) (N+2) (N+3) N (N+1) a1 a2:=by constructor<;>first|lia|exact Nat.ne_of_lt (by lia)|exact Nat.ne_of_gt (by lia)
 refine IJ (s:={s with heap:=h3,toks:=as}) ao.hand D ⟨.inl ⟨rfl,z1⟩,⟨_,_,z3⟩,z2,z4,z5,hL.at λ o e=>a5 _ _ e,a6.at λ o e=>a5 _ _ e⟩ (by rw[eH];lia) λ h4 C c' gS hP k4=>?_;haveI nn:∀(c:Nat)(o:gV),K.get? c=aA o->@LT.lt Nat _ c N:=λ c o e=>by rw[<-hN];exact cN e
 have W:∀(c:Nat)(o:gV),K.get? c=aA o->h4.get? c=aA o:=λ c o e=>by
  have :=nn c o e;exact k4 c o (Nat.ne_of_lt (F1 this)) (Nat.ne_of_lt (F1 this)) (Nat.ne_of_lt (this)) (Nat.ne_of_lt (F1 this)) (a5 c o e)
 have z:K.get? h3.objs.size=aB:=np (by rw[z6];exact F0);haveI b3:dK h4 ((L.zip L').map λ p=>.tup [p.1,p.2]) C.toList:=hP.vrs (dK.mono (λ U U e U=>W _ _ e) _ _ hv) (dK.mono (λ U U e U=>W _ _ e) _ _ al);haveI pn:cU R.N0 J V K J (upd V h3.objs.size (.list ((L.zip L').map λ p=>.tup [p.1,p.2]))) h4:=.newAt S2.real (by have :=S2.sz;rw[hN]at this;exact Nat.le_trans this (by rw[z6];exact Nat.le_add_right _ _)) z W _ rfl λ U=>⟨by unfold jG;rw[List.length_map,List.length_zip];lia,C,⟨c',gS⟩,b3⟩;exact hq _ _ _ _ _ _ ((p1.trans p2).trans pn) (by simp only[VR]) (q4 _ (S2.real.freeAt z))
end
end
section
open PySem PySem.W
structure PS where
 known:List (Nat×gV)size:Nat
 toks:Nat
noncomputable def getK:List (Nat×gV)->Nat->Option gV
 |[],_=>aB|p::l,a=>match cB p.1 a with
 |aC=>aA p.2|aG=>getK l a
noncomputable def setK:List (Nat×gV)->Nat->gV->List (Nat×gV)
 |[],_,_=>[]|p::l,a,o=>match cB p.1 a with
 |aC=>(a,o)::l|aG=>p::setK l a o
noncomputable def zn(c oG:Code)(l:List aH):List aH:=match c,oG with
 |.builtin _ a,_=>unmarked a.refs|.call f a,.builtin ..|.call f a,.call ..=>unmarked (if l.contains borrowed then a.refs else f::a.refs)|_,_=>[]
noncomputable def JF(a:Bool)(hG:List HH):Option aH:=match a with
 |aC=>(match splitAtGen hG with
 |aA q=>topHandled q.1|aB=>topHandled hG)|aG=>topHandled hG
noncomputable def XK(Q:String->Option oW)(S:Setting)(r:PS)(b:GH Fin)(oG:Code)(F:fX)(hG:List HH):Option (PS×kB):=match b with
 |.pure (.again c)=>(match hG with
 |.ret k h g l E p A::i=>aA (r,⟨BO Q c,c,F,.ret k h g l E p (keptBy oG c l A)::i⟩)|_=>aB)|.pure (.done f)=>(match hG with
 |.ret k _ _ _ c p _::i=>aA (r,⟨k (.ok f),c,p,i⟩)|_=>aB)|.raise e=>(match hG with
 |.ret k _ _ _ c p _::i=>aA (r,⟨k (.error e),c,p,i⟩)|_=>aB)|.rule _ k=>aA (r,⟨k (),oG,F,hG⟩)|.at p k=>aA (r,⟨k (),oG,p,hG⟩)|.point _ k=>aA (r,⟨k (),oG,F,hG⟩)|.load a _ k=>(match getK r.known a with
 |aA o=>aA (r,⟨k o,oG,F,hG⟩)|aB=>aB)|.loadIfAlive a k=>(match getK r.known a with
 |aA o=>aA (r,⟨k (aA o),oG,F,hG⟩)|aB=>aB)|.update a _ f k=>(match getK r.known a with
 |aA o=>(match(f o).isFreed with
 |aC=>aB|aG=>aA (⟨setK r.known a (f o),r.size,r.toks⟩,⟨k (),oG,F,hG⟩))|aB=>aB)|.alloc o k=>(match o.isFreed with
 |aC=>aB|aG=>aA (⟨(r.size,o)::r.known,r.size+1,r.toks⟩,⟨k r.size,oG,F,hG⟩))|.fresh k=>aA (⟨r.known,r.size,r.toks+1⟩,⟨k r.toks,oG,F,hG⟩)|.ask k=>aA (r,⟨k S,oG,F,hG⟩)|.call c h g l k=>aA (r,⟨BO Q c,c,F,.ret k h g l oG F (zn c oG l)::hG⟩)|.handled d k=>aA (r,⟨k (JF d hG),oG,F,hG⟩)|.stack k=>aA (r,⟨k ((oG,F)::hG.map HH.where_),oG,F,hG⟩)|.thread k=>aA (r,⟨k 0,oG,F,hG⟩)|_=>aB
noncomputable def prun(Q:String->Option oW)(S:Setting)(a:Nat)(c:Option aH)(b:Nat):Nat->PS->kB->Option (Flow×PS×Code×fX)
 |0,_,_=>aB|n+1,r,t=>match endAt b t with
 |aA f=>aA (f,r,t.code,t.pos)|aB=>match stepOk a c t with
 |aG=>aB|aC=>match XK Q S r t.cur t.code t.pos t.stack with
 |aA (m,I)=>prun Q S a c b n m I|aB=>aB
structure NX(r:PS)(s:aI):Prop where
 get:∀a o,getK r.known a=aA o->s.heap.get? a=aA o
 low:∀a o,getK r.known a=aA o->a<r.size
 size:s.heap.objs.size=r.size
 toks:s.toks=r.toks
structure RA(r:PS)(s s':aI):Prop where
 gens:s'.gens=s.gens
 drawn:s'.drawn=s.drawn
 os:s'.os=s.os
 old:∀a,a<r.size->getK r.known a=aB->s'.heap.get? a=s.heap.get? a
theorem HG{l:List (Nat×gV)}{a b:Nat}{o x:gV}(h:getK (setK l a o) b=aA x):(b=a/\x=o/\(getK l a).isSome=aC)\/(b≠a/\getK l b=aA x):=by induction l with
 |nil=>cases h|cons p l f=>
 unfold setK at h;cases e:cB p.1 a with
 |true=>
  rw[e]at h;haveI E:=bI e;unfold getK at h;cases c:cB a b with
  |true=>rw[c]at h;refine .inl ⟨(bI c).symm,(bH h).symm,?_⟩;unfold getK;rw[e];rfl|false=>
  rw[c]at h;haveI d:a≠b:=λ z=>by rw[z,rL]at c;cases c
  refine .inr ⟨d.symm,?_⟩;unfold getK;rw[E,c];exact h
 |false=>
 rw[e]at h;unfold getK at h;cases c:cB p.1 b with
 |true=>
 rw[c]at h;refine .inr ⟨?_,by unfold getK;rw[c];exact h⟩;rintro rfl;rw[e]at c;cases c|false=>
  rw[c]at h;rcases f h with⟨y,K,g⟩|⟨y,K⟩;·exact .inl ⟨y,K,by unfold getK;rw[e];exact g⟩
  ·exact .inr ⟨y,by unfold getK;rw[c];exact K⟩
theorem IM{l:List (Nat×gV)}{a b:Nat}{o:gV}(h:getK l b=aB):getK (setK l a o) b=aB:=by cases e:getK (setK l a o) b with
 |none=>rfl|some x=>
 rcases HG e with⟨y,_,c⟩|⟨_,K⟩;·rw[<-y,h]at c;cases c
 ·rw[h]at K;cases K
theorem NX.upd{r:PS}{h:bG}{g:Array DO}{d:Drawn}{t:Nat}{os:GQ}(x:NX r ⟨h,g,d,t,os⟩){a:Nat}{o:gV}{f:gV->gV}(e:getK r.known a=aA o)(c:(f o).isFreed=aG):NX ⟨setK r.known a (f o),r.size,r.toks⟩ ⟨h.update a f,g,d,t,os⟩where
 get:=λ b y q=>by
  rcases HG q with⟨rfl,rfl,_⟩|⟨n,q⟩;·exact cY f (x.get _ _ e) c
  ·exact(cS h f n.symm).trans (x.get _ _ q)
 low:=λ b y q=>by
  rcases HG q with⟨rfl,_,_⟩|⟨n,q⟩;·exact x.low _ _ e
  ·exact x.low _ _ q
 size:=(bG.size_update h a f).trans x.size;toks:=x.toks
theorem NX.new{r:PS}{h:bG}{g:Array DO}{d:Drawn}{t:Nat}{os:GQ}(x:NX r ⟨h,g,d,t,os⟩){o:gV}(a:o.isFreed=aG):NX ⟨(r.size,o)::r.known,r.size+1,r.toks⟩ ⟨h.push o,g,d,t,os⟩where
 get:=λ b y q=>by
  unfold getK at q;cases e:cB r.size b with
 |true=>
 rw[e]at q;obtain rfl:=bH q;rw[<-bI e,<-x.size];exact bQ h a|false=>rw[e]at q;exact aK _ (x.get _ _ q)
 low:=λ b y q=>by
  unfold getK at q;cases e:cB r.size b with
 |true=>rw[<-bI e];exact iQ _|false=>rw[e]at q;exact lR (x.low _ _ q)
 size:=(iE ..).trans (congrArg sJ x.size);toks:=x.toks
theorem RA.refl{r:PS}{s:aI}:RA r s s:=⟨rfl,rfl,rfl,λ U U U=>rfl⟩
noncomputable def rN(Q:String->Option oW)(p:bK)(w:cK)(r S:PS)(s:aI)(t I:kB):Prop:=∃u,BW (BO Q) p w s t=.go u I/\NX S u/\RA r s u/\r.size<=S.size/\∀b,b<r.size->getK r.known b=aB->getK S.known b=aB
theorem rN.same{Q:String->Option oW}{p:bK}{w:cK}{r S:PS}{s:aI}{t a I:kB}(x:NX r s)(e:BW (BO Q) p w s t=.go s a)(h:aA (r,a)=aA (S,I)):rN Q p w r S s t I:=by
 obtain⟨rfl,rfl⟩:=dU (bH h);exact⟨s,e,x,.refl,aZ _,λ U U h=>h⟩
theorem step_load{Q:String->Option oW}{p:bK}{w:cK}{r S:PS}{s:aI}{t I:kB}{a:Nat}{f:gV->Option (PS×kB)}(x:NX r s)(h:(match getK r.known a with
 |aA o=>f o|aB=>aB)=aA (S,I))(k:∀o,s.heap.get? a=aA o->getK r.known a=aA o->f o=aA (S,I)->rN Q p w r S s t I):rN Q p w r S s t I:=by cases e:getK r.known a with
 |none=>rw[e]at h;cases h|some o=>rw[e]at h;exact k o (x.get _ _ e) e h
theorem wR{a:Type}{b:Bool}{o:Option a}{v:a}(h:(match b with
 |aC=>aB|aG=>o)=aA v):b=aG/\o=aA v:=by cases b with
 |true=>cases h|false=>exact⟨rfl,h⟩
theorem HB{Q:String->Option oW}{p:bK}{w:cK}{r S:PS}{s:aI}{I:kB}{hG:List HH}{T:List HH->kB}{f:(nP->GH Fin)->Option aH->Bool->List aH->Code->fX->List aH->List HH->Option (PS×kB)}(h:(match hG with
 |.ret k h g l E p A::i=>f k h g l E p A i|_=>aB)=aA (S,I))(k:∀k h g l E p0 A i,f k h g l E p0 A i=aA (S,I)->rN Q p w r S s (T (.ret k h g l E p0 A::i)) I):rN Q p w r S s (T hG) I:=by cases hG with
 |nil=>cases h|cons B i=>cases B with
 |gen=>cases h|ret a P b l E p0 A=>exact k _ _ _ _ _ _ _ _ h
theorem step_update{Q:String->Option oW}{p:bK}{w:cK}{r S:PS}{s:aI}{I:kB}{a:Nat}{q:Option aH}{f:gV->gV}{k:Unit->GH Fin}{oG:Code}{F:fX}{hG:List HH}{o:gV}(x:NX r s)(e:getK r.known a=aA o)(j:(f o).isFreed=aG)(h:aA ((⟨setK r.known a (f o),r.size,r.toks⟩:PS),(⟨k (),oG,F,hG⟩:kB))=aA (S,I)):rN Q p w r S s ⟨.update a q f k,oG,F,hG⟩ I:=by
 obtain⟨rfl,rfl⟩:=dU (bH h);obtain⟨i,g,d,V,os⟩:=s;refine⟨⟨i.update a f,g,d,V,os⟩,?_,x.upd e j,⟨rfl,rfl,rfl,λ b G c=>cS i f ?_⟩,aZ _,λ b U c=>IM c⟩;·simp only[BW,x.get _ _ e];rfl
 ·rintro rfl;rw[e]at c;cases c
theorem l6{a b:Nat}{o:gV}{l:List (Nat×gV)}(h:a≠b):getK ((a,o)::l) b=getK l b:=by
 unfold getK;cases e:cB a b with
 |true=>exact absurd (bI e) h|false=>cases l<;>rfl
theorem step_alloc{Q:String->Option oW}{p:bK}{w:cK}{r S:PS}{s:aI}{I:kB}{o:gV}{k:eI->GH Fin}{oG:Code}{F:fX}{hG:List HH}(x:NX r s)(c:o.isFreed=aG)(h:aA ((⟨(r.size,o)::r.known,r.size+1,r.toks⟩:PS),(⟨k r.size,oG,F,hG⟩:kB))=aA (S,I)):rN Q p w r S s ⟨.alloc o k,oG,F,hG⟩ I:=by
 obtain⟨rfl,rfl⟩:=dU (bH h);obtain⟨a,g,d,f,os⟩:=s;refine⟨⟨a.push o,g,d,f,os⟩,by rw[<-x.size];rfl,x.new c,⟨rfl,rfl,rfl,λ b G U=>uM a b o ?_⟩,lW _,λ b G e=>(l6 (kI G)).trans e⟩;rw[show a.objs.size=r.size from x.size];exact eG G
theorem fu{Q:String->Option oW}{p:bK}{w:cK}{r r':PS}{s:aI}{b:GH Fin}{oG:Code}{F:fX}{hG:List HH}{t':kB}(h:XK Q ⟨p,w.params⟩ r b oG F hG=aA (r',t'))(x:NX r s):rN Q p w r r' s ⟨b,oG,F,hG⟩ t':=by
 obtain⟨j,g,d,f,os⟩:=s;cases b with
 |pure G=>cases G with
  |again c=>exact HB (T:=λ st=>⟨.pure (.again c),oG,F,st⟩) h λ U U U U U U U U h=>.same x step_again h|done n=>exact HB (T:=λ st=>⟨.pure (.done n),oG,F,st⟩) h λ U U U U U U U U h=>.same x rfl h
 |raise e=>exact HB (T:=λ st=>⟨.raise e,oG,F,st⟩) h λ U U U U U U U U h=>.same x rfl h|rule|«at»|point|ask|stack|thread=>exact .same x rfl h|handled m k=>
  refine .same x ?_ h;unfold JF;cases m with
  |false=>rfl|true=>cases q:splitAtGen hG with
  |none=>simp only[BW,q];rfl|some i=>simp only[BW,q];rfl
 |call c P v l k=>exact .same x rfl h|load a q k=>exact step_load x h λ o e U h=>.same x (by simp only[BW,show j.get? a=aA o from e]) h|loadIfAlive a k=>exact step_load x h λ o e U h=>.same x (by simp only[BW];rw[show j.get? a=aA o from e]) h|update a q n k=>exact step_load x h λ o U e h=>step_update x e (wR h).1 (wR h).2|alloc o k=>exact step_alloc x (wR h).1 (wR h).2|fresh k=>
 obtain⟨u,t⟩:=dU (bH h);rw[<-u,<-t];refine⟨⟨j,g,d,f+1,os⟩,by rw[<-show f=r.toks from x.toks];rfl,⟨x.get,x.low,x.size,congrArg sJ x.toks⟩,⟨rfl,rfl,rfl,λ U U U=>rfl⟩,aZ _,λ U U h=>h⟩|_=>cases h
theorem MG{Q:String->Option oW}{p:bK}{w:cK}{a:Nat}{c:Option aH}{b:Nat}:∀{n:Nat}{r r':PS}{t:kB}{f:Flow}{I:Code}{o:fX}{s:aI},prun Q ⟨p,w.params⟩ a c b n r t=aA (f,r',I,o)->NX r s->∃u,segRun Q p w a c b n s t=aA (f,u,I,o)/\NX r' u/\RA r s u:=by
 intro n;induction n with
 |zero=>intro r r' t f I o s h;cases h|succ n v=>
 intro r r' t f I o s h x;unfold prun at h;unfold segRun;cases j:endAt b t with
 |some B=>
 rw[j]at h;cases h;exact⟨_,rfl,x,.refl⟩|none=>
 rw[j]at h;dsimp only at h⊢;cases hk:stepOk a c t with
 |false=>rw[hk]at h;cases h|true=>
 rw[hk]at h;dsimp only at h⊢;cases g:XK Q ⟨p,w.params⟩ r t.cur t.code t.pos t.stack with
 |none=>rw[g]at h;cases h|some q=>
 rw[g]at h;obtain⟨D,A,z,d,l,m⟩:=fu (s:=s) (t':=q.2) (r':=q.1) g x;rw[show BW (BO Q) p w s t=.go D q.2 from A];obtain⟨u,y,K,e⟩:=v h z;exact⟨u,y,K,e.gens.trans d.gens,e.drawn.trans d.drawn,e.os.trans d.os,λ i G k=>(e.old i (cO G l) (m i G k)).trans (d.old i G k)⟩
theorem prun_refl:prun=prun:=rfl
lay_quick Internal.prun Internal.getK Internal.setK
name_quick minePrun for Internal.prun by Internal.prun_refl
theorem treeTable_refl:oD=oD:=rfl
name_quick mineTree for PySem.treeTable by Internal.treeTable_refl
theorem buildClass_refl:@buildClass=@buildClass:=rfl
name_quick mineBuild for PySem.buildClass by Internal.buildClass_refl
/-! what the top lays: printed by gen_ha2.py -/
noncomputable def pw:bK:=PySem.Challenge.pw_pq1041_01
noncomputable def jB(k:Nat):dW:=(pw.main.body)[k]?.getD (.Pass qA)
noncomputable def bD(k j:Nat):dW:=match jB k with
 |.ClassDef _ _ _ b ..=>b[j]?.getD (.Pass qA)|_=>.Pass qA
noncomputable def QC:dW->Nat
 |.FunctionDef _ _ _ _ _ _ _ _ _ p=>p.line|.ClassDef _ _ _ _ _ _ _ _ _ _ p=>p.line|_=>0
noncomputable def HS:dW->bP
 |.FunctionDef n ..=>n|.ClassDef n ..=>n|_=>cG
noncomputable def xc:dW->Nat
 |.FunctionDef _ a ..=>a.args.length|_=>0
noncomputable def Fb(st:dW)(a:bP)(b i E:aH):fY:=match st with
 |.FunctionDef name params body _ _ _ scope _ _ _=>{name,qualname:=a,params,body:=.stmts body,scope,globals:=3,closure:=[],defaults:=b,kwdefaults:=.none,doc:=.none,pyModule:=i,annotations:=aB,code:=E,closureTuple:=.none,builtins:=0}|_=>qA
noncomputable def KB(P:cQ)(n:String)(t:Nat)(v:aH):zO:=⟨reduceHash (P.strHash (aP n).cps),.str (aP n) t,v⟩
noncomputable def ob(c:aH)(d:Data):gV:={cls:=c,dict:=aB,data:=d,slots:=#[]}
noncomputable def xC(Z:List aH):gV:=ob (.type "tuple") (.seq Z.toArray 0)
noncomputable def re(X:List zO)(n:Nat):gV:=ob (.type "dict") (.dict X.toArray n)
noncomputable def sv(s:String)(t:Nat):aH:=.str (aP s) t
noncomputable def iv(i:Int)(t:Nat):aH:=.int i t
noncomputable def Dq(st:dW)(q:bP)(t b X:Nat)(v:Bool):gV:=ob (.type "code") (.fields [.str (HS st) t,.str q (t+1),sv "/claim/cut.py" (t+2),iv (QC st) 0,iv (xc st) 0,iv 0 0,iv 0 0,iv 3 0,.ref b,.bool aC,iv 181 0,.ref (b+1),.none,(if v then .ref (b+2)else .none),(if v then .ref (b+3)else .none),.ref (if v then b+4 else b+2),iv X 0,iv (QC st) 0,sv "/claim/cut.py" (X+1)].toArray)
structure FE where
 k:Nat
 st:dW
 q:String
 dV:aH
 t:Nat
 b:Nat
 X:Nat
 v:Bool
noncomputable def FE.c(e:FE):Nat:=if e.v then e.b+5 else e.b+3
noncomputable def J2:List (Nat×String×Nat):=[(123,"law_pq1041_01",1971),(113,"scheme.printer",1821),(105,"scheme.reader",1636),(83,"scheme.lexer",1372),(48,"scheme.numtext",967),(43,"scheme.exact",909),(26,"scheme.binary",756),(20,"scheme.errors",615),(2,"scheme.data",194),(0,"__main__",164)]
noncomputable def Co(k:Nat):aH:=match J2.find? (λ m=>iL m.1 k)with
 |aA m=>sv m.2.1 m.2.2|aB=>.none
noncomputable def FE.fd(e:FE):fY:=Fb e.st (aP e.q) e.dV (Co e.k) (.ref e.c)
noncomputable def FE.objs(e:FE):List (Nat×gV):=[(e.c,Dq e.st (aP e.q) e.t e.b e.X e.v),(e.c+1,ob (.type "function") (.func e.fd))]
noncomputable def r0(a:Nat):aH:=.ref a
noncomputable def yx:List FE:=[⟨0,jB 0,"_wall",.none,187,15,191,aC⟩,⟨2,bD 2 0,"Special.__init__",.none,208,29,213,aC⟩,⟨5,bD 5 0,"Symbol.__init__",.none,249,56,255,aC⟩,⟨6,bD 6 0,"SymbolTable.__init__",.none,280,77,284,aC⟩,⟨6,bD 6 1,"SymbolTable.symbol",.none,287,84,293,aC⟩,⟨6,bD 6 2,"SymbolTable.fresh",.none,296,91,301,aC⟩,⟨6,bD 6 3,"SymbolTable.by_number",.none,304,98,309,aC⟩,⟨6,bD 6 4,"SymbolTable.find",.none,312,105,317,aC⟩,⟨6,bD 6 5,"SymbolTable.is_interned",.none,320,112,325,aC⟩,⟨6,bD 6 6,"SymbolTable.size",.none,328,119,332,aC⟩,⟨7,bD 7 0,"Pair.__init__",.none,357,140,363,aC⟩,⟨8,bD 8 0,"Char.__init__",.none,389,161,394,aC⟩,⟨9,bD 9 0,"Text.__init__",.none,418,182,423,aC⟩,⟨10,bD 10 0,"Vector.__init__",.none,448,203,453,aC⟩,⟨11,bD 11 0,"Box.__init__",.none,478,224,483,aC⟩,⟨12,bD 12 0,"Promise.__init__",.none,508,245,514,aC⟩,⟨13,bD 13 0,"PortRef.__init__",.none,540,266,545,aC⟩,⟨14,bD 14 0,"Procedure.__init__",.none,569,287,574,aC⟩,⟨15,jB 15,"make_text",.none,586,301,589,aG⟩,⟨16,jB 16,"python_text",.none,592,306,595,aG⟩,⟨17,jB 17,"list_of",r0 311,598,312,605,aC⟩,⟨18,jB 18,"is_boolean",.none,608,319,612,aC⟩,⟨20,bD 20 0,"SchemeError.__init__",.none,629,333,635,aC⟩,⟨21,bD 21 0,"LexError.__init__",.none,660,353,666,aC⟩,⟨22,bD 22 0,"ReadError.__init__",.none,687,372,693,aC⟩,⟨23,bD 23 0,"TooLong.__init__",.none,714,391,719,aC⟩,⟨24,bD 24 0,"OutOfRange.__init__",.none,739,410,746,aC⟩,⟨27,bD 27 0,"Real.__init__",.none,774,429,780,aC⟩,⟨28,jB 28,"is_real",.none,793,443,797,aC⟩,⟨29,jB 29,"size_of",.none,800,450,804,aC⟩,⟨30,jB 30,"sign_of_whole",.none,807,457,811,aC⟩,⟨31,jB 31,"zeros_below",.none,814,464,818,aC⟩,⟨32,jB 32,"lean",.none,821,471,828,aC⟩,⟨33,jB 33,"nearest_shift",.none,831,478,839,aC⟩,⟨34,jB 34,"shifted_round",.none,842,485,849,aC⟩,⟨35,jB 35,"with_sticky",.none,852,492,857,aC⟩,⟨36,jB 36,"rounded",.none,860,499,869,aC⟩,⟨37,jB 37,"exact_parts",.none,872,506,876,aC⟩,⟨38,jB 38,"place_of",.none,879,513,883,aC⟩,⟨39,jB 39,"sign_of",.none,886,520,890,aC⟩,⟨40,jB 40,"magnitude",.none,893,527,897,aC⟩,⟨41,jB 41,"full_mantissa",.none,900,534,906,aC⟩,⟨43,bD 43 0,"Ratio.__init__",.none,923,548,929,aC⟩,⟨44,jB 44,"gcd_of",.none,942,562,947,aC⟩,⟨45,jB 45,"made",.none,950,569,955,aC⟩,⟨46,jB 46,"ratio_of",.none,958,576,964,aC⟩,⟨55,jB 55,"few_figures",.none,994,584,1001,aC⟩,⟨56,jB 56,"figures_of",.none,1004,591,1013,aC⟩,⟨57,jB 57,"whole_text",.none,1016,598,1021,aC⟩,⟨58,jB 58,"exact_text",.none,1024,605,1029,aC⟩,⟨59,bD 59 0,"Surroundings.__init__",.none,1044,619,1053,aC⟩,⟨59,bD 59 1,"Surroundings.over_power",.none,1056,626,1062,aC⟩,⟨59,bD 59 2,"Surroundings.least_multiple",.none,1065,633,1074,aC⟩,⟨59,bD 59 3,"Surroundings.greatest_multiple",.none,1077,640,1086,aC⟩,⟨59,bD 59 4,"Surroundings.gap",.none,1089,647,1097,aC⟩,⟨59,bD 59 5,"Surroundings.nearest_multiple",.none,1100,654,1109,aC⟩,⟨60,jB 60,"with_lower_ones",.none,1126,668,1137,aC⟩,⟨61,jB 61,"tens_above",.none,1140,675,1145,aC⟩,⟨62,jB 62,"shortest_figures",.none,1148,682,1158,aC⟩,⟨63,jB 63,"without_noughts",.none,1161,689,1167,aC⟩,⟨64,jB 64,"laid_out",.none,1170,696,1177,aC⟩,⟨65,jB 65,"decimal_text",.none,1180,703,1188,aC⟩,⟨66,jB 66,"number_text",r0 710,1192,711,1200,aC⟩,⟨67,jB 67,"worth_of",.none,1203,718,1210,aC⟩,⟨68,jB 68,"are_figures",.none,1213,725,1216,aG⟩,⟨69,jB 69,"parted",.none,1219,730,1224,aC⟩,⟨70,bD 70 0,"Reading.__init__",.none,1239,744,1246,aC⟩,⟨71,jB 71,"read_whole",.none,1260,758,1267,aC⟩,⟨72,jB 72,"read_ratio",.none,1270,765,1278,aC⟩,⟨73,jB 73,"are_decimal_parts",.none,1281,772,1289,aC⟩,⟨74,jB 74,"read_exponent",.none,1292,779,1297,aC⟩,⟨75,jB 75,"mark_place",.none,1300,786,1303,aG⟩,⟨76,jB 76,"read_mantissa",.none,1306,791,1313,aC⟩,⟨77,jB 77,"read_decimal",.none,1316,798,1323,aC⟩,⟨78,jB 78,"read_unsigned",.none,1326,805,1331,aC⟩,⟨79,jB 79,"split_prefixes",.none,1334,812,1343,aC⟩,⟨80,jB 80,"finished",.none,1346,819,1353,aC⟩,⟨81,jB 81,"parse_number",r0 826,1357,827,1369,aC⟩,⟨95,bD 95 0,"Token.__init__",.none,1422,850,1430,aC⟩,⟨96,jB 96,"folded",.none,1445,864,1452,aC⟩,⟨97,jB 97,"is_first",.none,1455,871,1459,aC⟩,⟨98,jB 98,"is_later",.none,1462,878,1466,aC⟩,⟨99,jB 99,"is_identifier",.none,1469,885,1474,aC⟩,⟨100,jB 100,"is_numberlike",.none,1477,892,1481,aC⟩,⟨101,jB 101,"sign_named",.none,1484,899,1490,aC⟩,⟨102,jB 102,"name_of_sign",.none,1493,906,1499,aC⟩,⟨103,bD 103 0,"Lexer.__init__",r0 920,1515,921,1522,aC⟩,⟨103,bD 103 1,"Lexer.skip",.none,1525,928,1531,aC⟩,⟨103,bD 103 2,"Lexer.peek",.none,1534,935,1538,aC⟩,⟨103,bD 103 3,"Lexer.token",.none,1541,942,1548,aC⟩,⟨103,bD 103 4,"Lexer.found",.none,1551,949,1559,aC⟩,⟨103,bD 103 5,"Lexer.word_end",.none,1562,956,1568,aC⟩,⟨103,bD 103 6,"Lexer.word_token",.none,1571,963,1579,aC⟩,⟨103,bD 103 7,"Lexer.number_in",.none,1582,970,1589,aC⟩,⟨103,bD 103 8,"Lexer.sharp",.none,1592,977,1599,aC⟩,⟨103,bD 103 9,"Lexer.sign_token",.none,1602,984,1610,aC⟩,⟨103,bD 103 10,"Lexer.string",.none,1613,991,1621,aC⟩,⟨108,bD 108 0,"Frame.__init__",.none,1656,1012,1663,aC⟩,⟨109,bD 109 0,"Reader.__init__",r0 1033,1692,1034,1700,aC⟩,⟨109,bD 109 1,"Reader.place",.none,1703,1041,1707,aC⟩,⟨109,bD 109 2,"Reader.read",.none,1710,1048,1716,aC⟩,⟨109,bD 109 3,"Reader.last",.none,1719,1055,1725,aC⟩,⟨109,bD 109 4,"Reader.quoted",.none,1728,1062,1734,aC⟩,⟨109,bD 109 5,"Reader.opens",.none,1737,1069,1744,aC⟩,⟨109,bD 109 6,"Reader.dot",.none,1747,1076,1753,aC⟩,⟨109,bD 109 7,"Reader.closed",.none,1756,1083,1762,aC⟩,⟨109,bD 109 8,"Reader.atom",.none,1765,1090,1770,aC⟩,⟨109,bD 109 9,"Reader.delivered",.none,1773,1097,1782,aC⟩,⟨110,jB 110,"read_all",r0 1111,1797,1112,1807,aC⟩,⟨111,jB 111,"quotation_sign",.none,1810,1119,1818,aC⟩,⟨116,jB 116,"written_sign",.none,1829,1126,1834,aC⟩,⟨117,jB 117,"written_string",.none,1837,1133,1843,aC⟩,⟨118,jB 118,"other_text",.none,1846,1140,1850,aC⟩,⟨119,bD 119 0,"Printer.__init__",.none,1865,1154,1874,aC⟩,⟨119,bD 119 1,"Printer.told",.none,1877,1161,1884,aC⟩,⟨119,bD 119 2,"Printer.put",.none,1887,1168,1892,aC⟩,⟨119,bD 119 3,"Printer.datum",.none,1895,1175,1901,aC⟩,⟨119,bD 119 4,"Printer.pair",.none,1904,1182,1910,aC⟩,⟨119,bD 119 5,"Printer.tail",.none,1913,1189,1918,aC⟩,⟨119,bD 119 6,"Printer.atom",.none,1921,1196,1927,aC⟩,⟨120,jB 120,"write_text",r0 1210,1948,1211,1956,aC⟩,⟨121,jB 121,"display_text",r0 1218,1961,1219,1968,aC⟩,⟨123,jB 123,"_law_deck",.none,1973,1226,1976,aG⟩,⟨124,jB 124,"_law_draw",.none,1979,1231,1986,aC⟩,⟨125,jB 125,"_law_many",.none,1989,1238,1992,aG⟩,⟨126,jB 126,"_law_code",.none,1995,1243,1999,aC⟩,⟨127,jB 127,"_law_tree",.none,2002,1250,2005,aG⟩,⟨128,jB 128,"_law_string",.none,2008,1255,2011,aG⟩,⟨129,jB 129,"_law_text",.none,2014,1260,2017,aG⟩,⟨130,jB 130,"_law_datum",.none,2020,1265,2023,aG⟩,⟨131,jB 131,"_law_form",.none,2026,1270,2030,aC⟩,⟨132,jB 132,"_law_alike",.none,2033,1277,2041,aC⟩,⟨133,jB 133,"_law_around",.none,2044,1284,2051,aC⟩,⟨134,jB 134,"_law_limited",.none,2054,1291,2061,aC⟩,⟨135,jB 135,"_law_told_right",.none,2064,1298,2073,aC⟩,⟨136,jB 136,"_law_quoted",.none,2076,1305,2087,aC⟩,⟨137,jB 137,"_law_ring_right",.none,2090,1312,2097,aC⟩,⟨138,jB 138,"law",.none,2100,1319,2103,aG⟩]
structure CE where
 k:Nat
 a:Nat
 ns:Nat
 bs:List aH
 mro:List aH
 es:List (String×Nat×aH)n:Nat
 s0:Option aH
 t1:Nat
 t2:Nat
 nw:String
noncomputable def CE.cd(e:CE)(b:List aH):ClassData:={name:=HS (jB e.k),bases:=e.bs,mro:=r0 e.a::e.mro,ns:=e.ns,qualname:=HS (jB e.k),hasDict:=aC,slotNames:=[],subclasses:=b,abstract:=aG,collection:=aB,hasDel:=aG}
noncomputable def CE.obj(e:CE)(a:List aH):gV:={cls:=.type "type",dict:=aB,data:=.cls (e.cd a),slots:=[e.s0,aB,aA (.str (HS (jB e.k)) e.t1),aA (.str (HS (jB e.k)) e.t2),aA (.builtin e.nw),aA (.bool aC)].toArray}
noncomputable def CE.nsO(e:CE)(P:cQ):gV:=re (e.es.map λ x=>KB P x.1 x.2.1 x.2.2) e.n
noncomputable def oT:aH:=.type "object"
noncomputable def sw:List CE:=[⟨2,38,37,[oT],[oT],[("__module__",203,sv "scheme.data" 194),("__firstlineno__",207,iv 5 206),("__init__",215,r0 35),("__static_attributes__",217,r0 36),("__dict__",219,r0 39),("__weakref__",221,r0 40),("__doc__",222,.none)],4,aB,196,204,"object.__new__"⟩,⟨5,65,64,[oT],[oT],[("__module__",244,sv "scheme.data" 194),("__firstlineno__",248,iv 11 247),("__init__",257,r0 62),("__static_attributes__",260,r0 63),("__dict__",262,r0 66),("__weakref__",264,r0 67),("__doc__",265,.none)],4,aB,237,245,"object.__new__"⟩,⟨6,128,127,[oT],[oT],[("__module__",275,sv "scheme.data" 194),("__firstlineno__",279,iv 16 278),("__init__",286,r0 83),("symbol",295,r0 90),("fresh",303,r0 97),("by_number",311,r0 104),("find",319,r0 111),("is_interned",327,r0 118),("size",334,r0 125),("__static_attributes__",337,r0 126),("__dict__",339,r0 129),("__weakref__",341,r0 130),("__doc__",342,.none)],4,aB,268,276,"object.__new__"⟩,⟨7,149,148,[oT],[oT],[("__module__",352,sv "scheme.data" 194),("__firstlineno__",356,iv 44 355),("__init__",365,r0 146),("__static_attributes__",369,r0 147),("__dict__",371,r0 150),("__weakref__",373,r0 151),("__doc__",374,.none)],4,aB,345,353,"object.__new__"⟩,⟨8,170,169,[oT],[oT],[("__module__",384,sv "scheme.data" 194),("__firstlineno__",388,iv 50 387),("__init__",396,r0 167),("__static_attributes__",398,r0 168),("__dict__",400,r0 171),("__weakref__",402,r0 172),("__doc__",403,.none)],4,aB,377,385,"object.__new__"⟩,⟨9,191,190,[oT],[oT],[("__module__",413,sv "scheme.data" 194),("__firstlineno__",417,iv 54 416),("__init__",425,r0 188),("__static_attributes__",428,r0 189),("__dict__",430,r0 192),("__weakref__",432,r0 193),("__doc__",433,.none)],4,aB,406,414,"object.__new__"⟩,⟨10,212,211,[oT],[oT],[("__module__",443,sv "scheme.data" 194),("__firstlineno__",447,iv 59 446),("__init__",455,r0 209),("__static_attributes__",458,r0 210),("__dict__",460,r0 213),("__weakref__",462,r0 214),("__doc__",463,.none)],4,aB,436,444,"object.__new__"⟩,⟨11,233,232,[oT],[oT],[("__module__",473,sv "scheme.data" 194),("__firstlineno__",477,iv 64 476),("__init__",485,r0 230),("__static_attributes__",488,r0 231),("__dict__",490,r0 234),("__weakref__",492,r0 235),("__doc__",493,.none)],4,aB,466,474,"object.__new__"⟩,⟨12,254,253,[oT],[oT],[("__module__",503,sv "scheme.data" 194),("__firstlineno__",507,iv 69 506),("__init__",516,r0 251),("__static_attributes__",520,r0 252),("__dict__",522,r0 255),("__weakref__",524,r0 256),("__doc__",525,.none)],4,aB,496,504,"object.__new__"⟩,⟨13,275,274,[oT],[oT],[("__module__",535,sv "scheme.data" 194),("__firstlineno__",539,iv 75 538),("__init__",547,r0 272),("__static_attributes__",549,r0 273),("__dict__",551,r0 276),("__weakref__",553,r0 277),("__doc__",554,.none)],4,aB,528,536,"object.__new__"⟩,⟨14,296,295,[oT],[oT],[("__module__",564,sv "scheme.data" 194),("__firstlineno__",568,iv 79 567),("__init__",576,r0 293),("__static_attributes__",578,r0 294),("__dict__",580,r0 297),("__weakref__",582,r0 298),("__doc__",583,.none)],4,aB,557,565,"object.__new__"⟩,⟨20,342,341,[.type "Exception"],[.type "Exception",.type "BaseException",oT],[("__module__",624,sv "scheme.errors" 615),("__firstlineno__",628,iv 95 627),("__init__",637,r0 339),("__static_attributes__",640,r0 340),("__weakref__",642,r0 343),("__doc__",643,.none)],3,aA (r0 326),617,625,"Exception.__new__"⟩,⟨21,362,361,[r0 342],[r0 342,.type "Exception",.type "BaseException",oT],[("__module__",655,sv "scheme.errors" 615),("__firstlineno__",659,iv 100 658),("__init__",668,r0 359),("__static_attributes__",671,r0 360),("__doc__",672,.none)],2,aA (r0 346),648,656,"Exception.__new__"⟩,⟨22,381,380,[r0 342],[r0 342,.type "Exception",.type "BaseException",oT],[("__module__",682,sv "scheme.errors" 615),("__firstlineno__",686,iv 106 685),("__init__",695,r0 378),("__static_attributes__",698,r0 379),("__doc__",699,.none)],2,aA (r0 365),675,683,"Exception.__new__"⟩,⟨23,400,399,[r0 342],[r0 342,.type "Exception",.type "BaseException",oT],[("__module__",709,sv "scheme.errors" 615),("__firstlineno__",713,iv 112 712),("__init__",721,r0 397),("__static_attributes__",723,r0 398),("__doc__",724,.none)],2,aA (r0 384),702,710,"Exception.__new__"⟩,⟨24,419,418,[r0 342],[r0 342,.type "Exception",.type "BaseException",oT],[("__module__",734,sv "scheme.errors" 615),("__firstlineno__",738,iv 117 737),("__init__",748,r0 416),("__static_attributes__",752,r0 417),("__doc__",753,.none)],2,aA (r0 403),727,735,"Exception.__new__"⟩,⟨27,438,437,[oT],[oT],[("__module__",769,sv "scheme.binary" 756),("__firstlineno__",773,iv 126 772),("__init__",782,r0 435),("__static_attributes__",785,r0 436),("__dict__",787,r0 439),("__weakref__",789,r0 440),("__doc__",790,.none)],4,aB,762,770,"object.__new__"⟩,⟨43,557,556,[oT],[oT],[("__module__",918,sv "scheme.exact" 909),("__firstlineno__",922,iv 181 921),("__init__",931,r0 554),("__static_attributes__",934,r0 555),("__dict__",936,r0 558),("__weakref__",938,r0 559),("__doc__",939,.none)],4,aB,911,919,"object.__new__"⟩,⟨59,663,662,[oT],[oT],[("__module__",1039,sv "scheme.numtext" 967),("__firstlineno__",1043,iv 227 1042),("__init__",1055,r0 625),("over_power",1064,r0 632),("least_multiple",1076,r0 639),("greatest_multiple",1088,r0 646),("gap",1099,r0 653),("nearest_multiple",1111,r0 660),("__static_attributes__",1118,r0 661),("__dict__",1120,r0 664),("__weakref__",1122,r0 665),("__doc__",1123,.none)],4,aB,1032,1040,"object.__new__"⟩,⟨70,753,752,[oT],[oT],[("__module__",1234,sv "scheme.numtext" 967),("__firstlineno__",1238,iv 319 1237),("__init__",1248,r0 750),("__static_attributes__",1252,r0 751),("__dict__",1254,r0 754),("__weakref__",1256,r0 755),("__doc__",1257,.none)],4,aB,1227,1235,"object.__new__"⟩,⟨95,859,858,[oT],[oT],[("__module__",1417,sv "scheme.lexer" 1372),("__firstlineno__",1421,iv 421 1420),("__init__",1432,r0 856),("__static_attributes__",1437,r0 857),("__dict__",1439,r0 860),("__weakref__",1441,r0 861),("__doc__",1442,.none)],4,aB,1410,1418,"object.__new__"⟩,⟨103,1000,999,[oT],[oT],[("__module__",1509,sv "scheme.lexer" 1372),("__firstlineno__",1513,iv 459 1512),("__init__",1524,r0 927),("skip",1533,r0 934),("peek",1540,r0 941),("token",1550,r0 948),("found",1561,r0 955),("word_end",1570,r0 962),("word_token",1581,r0 969),("number_in",1591,r0 976),("sharp",1601,r0 983),("sign_token",1612,r0 990),("string",1623,r0 997),("__static_attributes__",1628,r0 998),("__dict__",1630,r0 1001),("__weakref__",1632,r0 1002),("__doc__",1633,.none)],4,aB,1502,1510,"object.__new__"⟩,⟨108,1021,1020,[oT],[oT],[("__module__",1651,sv "scheme.reader" 1636),("__firstlineno__",1655,iv 580 1654),("__init__",1665,r0 1018),("__static_attributes__",1671,r0 1019),("__dict__",1673,r0 1022),("__weakref__",1675,r0 1023),("__doc__",1676,.none)],4,aB,1644,1652,"object.__new__"⟩,⟨109,1106,1105,[oT],[oT],[("__module__",1686,sv "scheme.reader" 1636),("__firstlineno__",1690,iv 588 1689),("__init__",1702,r0 1040),("place",1709,r0 1047),("read",1718,r0 1054),("last",1727,r0 1061),("quoted",1736,r0 1068),("opens",1746,r0 1075),("dot",1755,r0 1082),("closed",1764,r0 1089),("atom",1772,r0 1096),("delivered",1784,r0 1103),("__static_attributes__",1788,r0 1104),("__dict__",1790,r0 1107),("__weakref__",1792,r0 1108),("__doc__",1793,.none)],4,aB,1679,1687,"object.__new__"⟩,⟨119,1205,1204,[oT],[oT],[("__module__",1860,sv "scheme.printer" 1821),("__firstlineno__",1864,iv 721 1863),("__init__",1876,r0 1160),("told",1886,r0 1167),("put",1894,r0 1174),("datum",1903,r0 1181),("pair",1912,r0 1188),("tail",1920,r0 1195),("atom",1929,r0 1202),("__static_attributes__",1938,r0 1203),("__dict__",1940,r0 1206),("__weakref__",1942,r0 1207),("__doc__",1943,.none)],4,aB,1853,1861,"object.__new__"⟩]
noncomputable def Ki(P:cQ):List (Nat×Nat×gV):=[(3,44,{cls:=r0 38,dict:=aA 43,data:=.plain,slots:=#[]}),(3,43,re [KB P "title" 229 (sv "empty" 225)] 1),(4,47,{cls:=r0 38,dict:=aA 46,data:=.plain,slots:=#[]}),(4,46,re [KB P "title" 235 (sv "eof" 231)] 1),(17,311,xC [r0 44]),(66,710,xC [iv 10 1191]),(81,826,xC [iv 10 1356]),(91,834,xC [sv "+" 1390,sv "-" 1391,sv "..." 1392]),(93,835,xC [sv "space" 1396,sv " " 1397]),(93,836,xC [sv "newline" 1398,sv "\n" 1399]),(93,837,xC [r0 835,r0 836]),(94,838,xC [sv "'" 1401,sv "quote" 1402]),(94,839,xC [sv "`" 1403,sv "quasiquote" 1404]),(94,840,xC [sv "," 1405,sv "unquote" 1406]),(94,841,xC [sv ",@" 1407,sv "unquote-splicing" 1408]),(94,842,xC [r0 838,r0 839,r0 840,r0 841]),(103,920,xC [iv 53 1514,.bool aC]),(109,1033,xC [iv 53 1691,.bool aC]),(110,1111,xC [iv 53 1796,.bool aC]),(120,1210,xC [iv 53 1946,iv 10 1947,.none,.none]),(121,1218,xC [iv 53 1959,iv 10 1960,.none])]
noncomputable def K2:List (Nat×String×Nat×aH):=[(0,"_wall",193,r0 21),(2,"Special",224,r0 38),(3,"EMPTY",230,r0 44),(4,"EOF",236,r0 47),(5,"Symbol",267,r0 65),(6,"SymbolTable",344,r0 128),(7,"Pair",376,r0 149),(8,"Char",405,r0 170),(9,"Text",435,r0 191),(10,"Vector",465,r0 212),(11,"Box",495,r0 233),(12,"Promise",527,r0 254),(13,"PortRef",556,r0 275),(14,"Procedure",585,r0 296),(15,"make_text",591,r0 305),(16,"python_text",597,r0 310),(17,"list_of",607,r0 318),(18,"is_boolean",614,r0 325),(20,"SchemeError",647,r0 342),(21,"LexError",674,r0 362),(22,"ReadError",701,r0 381),(23,"TooLong",726,r0 400),(24,"OutOfRange",755,r0 419),(26,"REACH",761,iv 65536 760),(27,"Real",792,r0 438),(28,"is_real",799,r0 449),(29,"size_of",806,r0 456),(30,"sign_of_whole",813,r0 463),(31,"zeros_below",820,r0 470),(32,"lean",830,r0 477),(33,"nearest_shift",841,r0 484),(34,"shifted_round",851,r0 491),(35,"with_sticky",859,r0 498),(36,"rounded",871,r0 505),(37,"exact_parts",878,r0 512),(38,"place_of",885,r0 519),(39,"sign_of",892,r0 526),(40,"magnitude",899,r0 533),(41,"full_mantissa",908,r0 540),(43,"Ratio",941,r0 557),(44,"gcd_of",949,r0 568),(45,"made",957,r0 575),(46,"ratio_of",966,r0 582),(48,"FIGURES_numtext",970,sv "0123456789abcdef" 969),(49,"RADICES",983,r0 583),(50,"MARKS",985,sv "esfdl" 984),(51,"MOST_EXPONENT_FIGURES",987,iv 5 986),(52,"MOST_BEFORE_POINT",989,iv 21 988),(53,"MOST_NOUGHTS_BEHIND_POINT",991,iv 6 990),(54,"FIGURES_AT_ONCE",993,iv 64 992),(55,"few_figures",1003,r0 590),(56,"figures_of",1015,r0 597),(57,"whole_text",1023,r0 604),(58,"exact_text",1031,r0 611),(59,"Surroundings",1125,r0 663),(60,"with_lower_ones",1139,r0 674),(61,"tens_above",1147,r0 681),(62,"shortest_figures",1160,r0 688),(63,"without_noughts",1169,r0 695),(64,"laid_out",1179,r0 702),(65,"decimal_text",1190,r0 709),(66,"number_text",1202,r0 717),(67,"worth_of",1212,r0 724),(68,"are_figures",1218,r0 729),(69,"parted",1226,r0 736),(70,"Reading",1259,r0 753),(71,"read_whole",1269,r0 764),(72,"read_ratio",1280,r0 771),(73,"are_decimal_parts",1291,r0 778),(74,"read_exponent",1299,r0 785),(75,"mark_place",1305,r0 790),(76,"read_mantissa",1315,r0 797),(77,"read_decimal",1325,r0 804),(78,"read_unsigned",1333,r0 811),(79,"split_prefixes",1345,r0 818),(80,"finished",1355,r0 825),(81,"parse_number",1371,r0 833),(83,"BLANKS",1375,sv " \n\t\x0d\x0c" 1374),(84,"DELIMITERS",1377,sv " \n\t\x0d\x0c()\";" 1376),(85,"RESERVED",1379,sv "[]{}|" 1378),(86,"SMALL",1381,sv "abcdefghijklmnopqrstuvwxyz" 1380),(87,"CAPITALS",1383,sv "ABCDEFGHIJKLMNOPQRSTUVWXYZ" 1382),(88,"FIGURES_lexer",1385,sv "0123456789" 1384),(89,"FIRST_SIGNS",1387,sv "!$%&*/:<=>?^_~" 1386),(90,"LATER_SIGNS",1389,sv "+-.@" 1388),(91,"PECULIAR",1393,r0 834),(92,"PREFIXES",1395,sv "bodxei" 1394),(93,"SIGN_NAMES",1400,r0 837),(94,"QUOTATIONS",1409,r0 842),(95,"Token",1444,r0 859),(96,"folded",1454,r0 870),(97,"is_first",1461,r0 877),(98,"is_later",1468,r0 884),(99,"is_identifier",1476,r0 891),(100,"is_numberlike",1483,r0 898),(101,"sign_named",1492,r0 905),(102,"name_of_sign",1501,r0 912),(103,"Lexer",1635,r0 1000),(105,"NOT_DOTTED",1639,iv 0 1638),(106,"BEHIND_DOT",1641,iv 1 1640),(107,"HAS_TAIL",1643,iv 2 1642),(108,"Frame",1678,r0 1021),(109,"Reader",1795,r0 1106),(110,"read_all",1809,r0 1118),(111,"quotation_sign",1820,r0 1125),(113,"PIECE",1824,iv 0 1823),(114,"DATUM",1826,iv 1 1825),(115,"TAIL",1828,iv 2 1827),(116,"written_sign",1836,r0 1132),(117,"written_string",1845,r0 1139),(118,"other_text",1852,r0 1146),(119,"Printer",1945,r0 1205),(120,"write_text",1958,r0 1217),(121,"display_text",1970,r0 1225),(123,"_law_deck",1978,r0 1230),(124,"_law_draw",1988,r0 1237),(125,"_law_many",1994,r0 1242),(126,"_law_code",2001,r0 1249),(127,"_law_tree",2007,r0 1254),(128,"_law_string",2013,r0 1259),(129,"_law_text",2019,r0 1264),(130,"_law_datum",2025,r0 1269),(131,"_law_form",2032,r0 1276),(132,"_law_alike",2043,r0 1283),(133,"_law_around",2053,r0 1290),(134,"_law_limited",2063,r0 1297),(135,"_law_told_right",2075,r0 1304),(136,"_law_quoted",2089,r0 1311),(137,"_law_ring_right",2099,r0 1318),(138,"law",2105,r0 1323)]
noncomputable def Ok:List Nat:=[15,22,22,43,46,49,70,133,154,175,196,217,238,259,280,301,306,311,319,326,326,346,365,384,403,422,422,422,443,450,457,464,471,478,485,492,499,506,513,520,527,534,541,541,562,569,576,583,583,583,584,584,584,584,584,584,591,598,605,612,668,675,682,689,696,703,710,718,725,730,737,758,765,772,779,786,791,798,805,812,819,826,834,834,834,834,834,834,834,834,834,834,835,835,838,843,864,871,878,885,892,899,906,913,1005,1005,1005,1005,1005,1026,1111,1119,1126,1126,1126,1126,1126,1133,1140,1147,1210,1218,1226,1226,1231,1238,1243,1250,1255,1260,1265,1270,1277,1284,1291,1298,1305,1312,1319,1324]
noncomputable def Ou:List Nat:=[187,194,196,225,231,237,268,345,377,406,436,466,496,528,557,586,592,598,608,615,617,648,675,702,727,756,758,762,793,800,807,814,821,831,842,852,860,872,879,886,893,900,909,911,942,950,958,967,969,971,984,986,988,990,992,994,1004,1016,1024,1032,1126,1140,1148,1161,1170,1180,1191,1203,1213,1219,1227,1260,1270,1281,1292,1300,1306,1316,1326,1334,1346,1356,1372,1374,1376,1378,1380,1382,1384,1386,1388,1390,1394,1396,1401,1410,1445,1455,1462,1469,1477,1484,1493,1502,1636,1638,1640,1642,1644,1679,1796,1810,1821,1823,1825,1827,1829,1837,1846,1853,1946,1959,1971,1973,1979,1989,1995,2002,2008,2014,2020,2026,2033,2044,2054,2064,2076,2090,2100,2106]
noncomputable def gl(P:cQ)(k:Nat):gV:=re (KB P "__name__" 165 (Co k)::KB P "__doc__" 166 .none::KB P "__package__" 167 .none::KB P "__loader__" 168 (.builtin "__main__.__loader__#opaque")::KB P "__spec__" 169 .none::KB P "__annotations__" 170 (r0 6)::KB P "__builtins__" 171 (r0 4)::KB P "__file__" 173 (sv "/claim/cut.py" 172)::KB P "__cached__" 174 .none::(K2.filter λ e=>gE e.1 k).map λ e=>KB P e.2.1 e.2.2.1 e.2.2.2) (9+(K2.filter λ e=>gE e.1 k).length)
noncomputable def Kg:List (Nat×Nat):=[(0,20),(2,27),(5,54),(6,75),(7,138),(8,159),(9,180),(10,201),(11,222),(12,243),(13,264),(14,285),(15,304),(16,309),(17,317),(18,324),(20,331),(21,351),(22,370),(23,389),(24,408),(27,427),(28,448),(29,455),(30,462),(31,469),(32,476),(33,483),(34,490),(35,497),(36,504),(37,511),(38,518),(39,525),(40,532),(41,539),(43,546),(44,567),(45,574),(46,581),(55,589),(56,596),(57,603),(58,610),(59,617),(60,673),(61,680),(62,687),(63,694),(64,701),(65,708),(66,716),(67,723),(68,728),(69,735),(70,742),(71,763),(72,770),(73,777),(74,784),(75,789),(76,796),(77,803),(78,810),(79,817),(80,824),(81,832),(95,848),(96,869),(97,876),(98,883),(99,890),(100,897),(101,904),(102,911),(103,918),(108,1010),(109,1031),(110,1117),(111,1124),(116,1131),(117,1138),(118,1145),(119,1152),(120,1216),(121,1224),(123,1229),(124,1236),(125,1241),(126,1248),(127,1253),(128,1258),(129,1263),(130,1268),(131,1275),(132,1282),(133,1289),(134,1296),(135,1303),(136,1310),(137,1317),(138,1322)]
noncomputable def F8(k:Nat):gV:=ob .none (.fields (((Kg.filter λ e=>gE e.1 k).map λ e=>[iv (QC (jB e.1)) 0,iv 0 0,r0 e.2]).flatten).toArray)
noncomputable def o2(P:cQ)(k:Nat):gV:=ob .none (.dict (if gE 20 k then[KB P "type.__subclasses__.Exception.0" 644 (iv 342 0),KB P "type.__subclasses__.Exception.n" 645 (iv 1 0)]else[]).toArray (if gE 20 k then 2 else 0))
noncomputable def o4:gV:={cls:=.type "module",dict:=aA 0,data:=.plain,slots:=#[]}
noncomputable def Cy:gV:=ob (.type "code") (.fields [sv "<module>" 182,sv "<module>" 183,sv "/claim/cut.py" 184,iv 1 0,iv 0 0,iv 0 0,iv 0 0,iv 0 0,r0 11,.bool aG,iv 181 0,r0 12,.none,.none,.none,.none,iv 185 0,iv 1 0,sv "/claim/cut.py" 186].toArray)
noncomputable def TT:dL:={scope:=pw.main.scope,locals:=mainNs,globals:=mainNs,cells:=[],code:=.ref 13,frame:=aA 14}
noncomputable def Ak:CE:=(sw.find? λ e=>cB e.a 342).getD (sw.headD ⟨0,0,0,[],[],[],0,aB,0,0,""⟩)
noncomputable def L4(k:Nat):gV:=Ak.obj (([362,381,400,419].take (k-21)).map r0)
noncomputable def qM(P:cQ)(k:Nat):List (Nat×gV):=[(3,gl P k),(4,o4),(12,F8 k),(13,Cy),(2,o2 P k),(0,sL P)]++(if gE 20 k then[(342,L4 k)]else[])
noncomputable def FG(P:cQ)(k:Nat):List (Nat×gV):=((yx.filter λ e=>cB e.k k).map FE.objs).flatten++((sw.filter λ e=>cB e.k k&&!cB e.a 342).map λ e=>[(e.ns,e.nsO P),(e.a,e.obj [])]).flatten++((sw.filter λ e=>cB e.k k&&cB e.a 342).map λ e=>(e.ns,e.nsO P))++((Ki P).filter λ e=>cB e.1 k).map (·.2)
noncomputable def Px(k:Nat):List Nat:=if cB k 3||cB k 4 then[34,35,37,38]else if iL 21 k&&iL k 24 then[341]else[]
noncomputable def v7(k:Nat):List Nat:=if cB k 3||cB k 4 then[2]else if iL 21 k&&iL k 24 then[20]else[]
noncomputable def Jw(P:cQ)(k:Nat):List (Nat×gV):=(Px k).filterMap λ a=>(v7 k).findSome? λ j=>(getK (FG P j) a).map λ o=>(a,o)
noncomputable def Bb(P:cQ)(k:Nat):List (Nat×gV):=qM P k++Jw P k
noncomputable def ZF(P:cQ)(k:Nat):List (Nat×gV):=qM P (k+1)++Jw P k++FG P k
noncomputable def HK(k:Nat):Nat:=(Ok[k]?).getD 0
noncomputable def gg(k:Nat):Nat:=(Ou[k]?).getD 0
noncomputable def NM:Option aH:=aA (.ref 6)
noncomputable def yP:Code:=.body (iS pw) TT
noncomputable def aQ(k:Nat):Prop:=∀(P:cQ)(p q:fX),(prun oD ⟨pw,P⟩ 11 NM 1 4000 ⟨Bb P k,HK k,gg k⟩ (pieceOf (jB k) TT yP p [yJ q])).map (λ x=>(x.1,x.2.1.size,x.2.1.toks,x.2.2.1,(ZF P k).map λ e=>getK x.2.1.known e.1))=aA (.next,HK (k+1),gg (k+1),yP,(ZF P k).map λ e=>aA e.2)
set_option autoImplicit true
set_option maxHeartbeats 0
noncomputable def Gy(P:cQ)(a:String)(b:Bool):cQ:={P with followText:=λ r=>bif r==a then b else P.followText r}
theorem g7(P:cQ)(a:String):Gy P a (P.followText a)=P:=by
 unfold Gy;haveI :(λ r=>bif r==a then P.followText a else P.followText r)=P.followText:=by
  funext r;cases e:r==a with
 |false=>rfl|true=>rw[show r=a from bC e];rfl
 rw[this]
theorem Ab{M:cQ->Prop}(a:String)(b:∀P,M (Gy P a aG))(y:∀P,M (Gy P a aC))(P:cQ):M P:=by
 have :=g7 P a;cases e:P.followText a with
 |false=>rw[e]at this;exact this▸b P|true=>rw[e]at this;exact this▸y P
noncomputable def A6(k:Nat):Prop:=∀(P:cQ)(p q:fX),(PySem.W.Fast.minePrun PySem.W.Fast.mineTree ⟨pw,P⟩ 11 NM 1 4000 ⟨Bb P k,HK k,gg k⟩ (pieceOf (jB k) TT yP p [yJ q])).map (λ x=>(x.1,x.2.1.size,x.2.1.toks,x.2.2.1,(ZF P k).map λ e=>getK x.2.1.known e.1))=aA (.next,HK (k+1),gg (k+1),yP,(ZF P k).map λ e=>aA e.2)
theorem pk{k:Nat}(h:A6 k):aQ k:=by intro P p q;rw[PySem.W.Fast.minePrun_eq,PySem.W.Fast.mineTree_eq];exact h P p q
theorem p0:aQ 0:=pk λ P p q=>by kernel_rfl
theorem p1:aQ 1:=pk λ P p q=>by kernel_rfl
theorem p2:aQ 2:=pk λ P p q=>by kernel_rfl
theorem p3:aQ 3:=pk λ P p q=>by kernel_rfl
theorem p4:aQ 4:=pk λ P p q=>by kernel_rfl
theorem p5:aQ 5:=pk λ P p q=>by kernel_rfl
theorem p6:aQ 6:=pk λ P p q=>by kernel_rfl
theorem p7:aQ 7:=pk λ P p q=>by kernel_rfl
theorem p8:aQ 8:=pk λ P p q=>by kernel_rfl
theorem p9:aQ 9:=pk λ P p q=>by kernel_rfl
theorem B4:aQ 10:=pk λ P p q=>by kernel_rfl
theorem B8:aQ 11:=pk λ P p q=>by kernel_rfl
theorem B9:aQ 12:=pk λ P p q=>by kernel_rfl
theorem N4:aQ 13:=pk λ P p q=>by kernel_rfl
theorem M9:aQ 14:=pk λ P p q=>by kernel_rfl
theorem Mb:aQ 15:=pk λ P p q=>by kernel_rfl
theorem Of:aQ 16:=pk λ P p q=>by kernel_rfl
theorem Pn:aQ 17:=pk λ P p q=>by kernel_rfl
theorem Mz:aQ 18:=pk λ P p q=>by kernel_rfl
theorem N5:aQ 19:=pk λ P p q=>by kernel_rfl
theorem Oq:aQ 20:=pk λ P p q=>by kernel_rfl
theorem Pb:aQ 21:=pk λ P p q=>by kernel_rfl
theorem Nb:aQ 22:=pk λ P p q=>by kernel_rfl
theorem Ng:aQ 23:=pk λ P p q=>by kernel_rfl
theorem O4:aQ 24:=pk λ P p q=>by kernel_rfl
theorem Pq:aQ 25:=pk λ P p q=>by kernel_rfl
theorem Pt:aQ 26:=pk λ P p q=>by kernel_rfl
theorem Op:aQ 27:=pk λ P p q=>by kernel_rfl
theorem Oz:aQ 28:=pk λ P p q=>by kernel_rfl
theorem Ps:aQ 29:=pk λ P p q=>by kernel_rfl
theorem On:aQ 30:=pk λ P p q=>by kernel_rfl
theorem O8:aQ 31:=pk λ P p q=>by kernel_rfl
theorem Nr:aQ 32:=pk λ P p q=>by kernel_rfl
theorem Nw:aQ 33:=pk λ P p q=>by kernel_rfl
theorem Np:aQ 34:=pk λ P p q=>by kernel_rfl
theorem Mu:aQ 35:=pk λ P p q=>by kernel_rfl
theorem Ny:aQ 36:=pk λ P p q=>by kernel_rfl
theorem Ms:aQ 37:=pk λ P p q=>by kernel_rfl
theorem Ot:aQ 38:=pk λ P p q=>by kernel_rfl
theorem O3:aQ 39:=pk λ P p q=>by kernel_rfl
theorem Mm:aQ 40:=pk λ P p q=>by kernel_rfl
theorem Pu:aQ 41:=pk λ P p q=>by kernel_rfl
theorem Oj:aQ 42:=pk λ P p q=>by kernel_rfl
theorem Ml:aQ 43:=pk λ P p q=>by kernel_rfl
theorem Nj:aQ 44:=pk λ P p q=>by kernel_rfl
theorem Pw:aQ 45:=pk λ P p q=>by kernel_rfl
theorem Oh:aQ 46:=pk λ P p q=>by kernel_rfl
theorem Ow:aQ 47:=pk λ P p q=>by kernel_rfl
theorem Pe:aQ 48:=pk λ P p q=>by kernel_rfl
theorem O9:aQ 49:=by
 rw[aQ,PySem.W.Fast.minePrun_eq,PySem.W.Fast.mineTree_eq];refine Ab "special-get-raises" (λ P p q=>?_) (λ P p q=>?_);·kernel_rfl
 ·kernel_rfl
theorem Nf:aQ 50:=pk λ P p q=>by kernel_rfl
theorem Ni:aQ 51:=pk λ P p q=>by kernel_rfl
theorem Oe:aQ 52:=pk λ P p q=>by kernel_rfl
theorem Mg:aQ 53:=pk λ P p q=>by kernel_rfl
theorem Pm:aQ 54:=pk λ P p q=>by kernel_rfl
theorem Pa:aQ 55:=pk λ P p q=>by kernel_rfl
theorem Mh:aQ 56:=pk λ P p q=>by kernel_rfl
theorem N7:aQ 57:=pk λ P p q=>by kernel_rfl
theorem Nk:aQ 58:=pk λ P p q=>by kernel_rfl
theorem Mo:aQ 59:=pk λ P p q=>by kernel_rfl
theorem Pg:aQ 60:=pk λ P p q=>by kernel_rfl
theorem Pp:aQ 61:=pk λ P p q=>by kernel_rfl
theorem My:aQ 62:=pk λ P p q=>by kernel_rfl
theorem P2:aQ 63:=pk λ P p q=>by kernel_rfl
theorem Om:aQ 64:=pk λ P p q=>by kernel_rfl
theorem M6:aQ 65:=pk λ P p q=>by kernel_rfl
theorem Na:aQ 66:=pk λ P p q=>by kernel_rfl
theorem Mv:aQ 67:=pk λ P p q=>by kernel_rfl
theorem Pj:aQ 68:=pk λ P p q=>by kernel_rfl
theorem O5:aQ 69:=pk λ P p q=>by kernel_rfl
theorem Oo:aQ 70:=pk λ P p q=>by kernel_rfl
theorem Oi:aQ 71:=pk λ P p q=>by kernel_rfl
theorem Oa:aQ 72:=pk λ P p q=>by kernel_rfl
theorem Mr:aQ 73:=pk λ P p q=>by kernel_rfl
theorem O7:aQ 74:=pk λ P p q=>by kernel_rfl
theorem Pk:aQ 75:=pk λ P p q=>by kernel_rfl
theorem O6:aQ 76:=pk λ P p q=>by kernel_rfl
theorem M7:aQ 77:=pk λ P p q=>by kernel_rfl
theorem Og:aQ 78:=pk λ P p q=>by kernel_rfl
theorem Oc:aQ 79:=pk λ P p q=>by kernel_rfl
theorem Mc:aQ 80:=pk λ P p q=>by kernel_rfl
theorem P9:aQ 81:=pk λ P p q=>by kernel_rfl
theorem Ma:aQ 82:=pk λ P p q=>by kernel_rfl
theorem Pf:aQ 83:=pk λ P p q=>by kernel_rfl
theorem Mj:aQ 84:=pk λ P p q=>by kernel_rfl
theorem Mf:aQ 85:=pk λ P p q=>by kernel_rfl
theorem Mn:aQ 86:=pk λ P p q=>by kernel_rfl
theorem N9:aQ 87:=pk λ P p q=>by kernel_rfl
theorem Pl:aQ 88:=pk λ P p q=>by kernel_rfl
theorem M8:aQ 89:=pk λ P p q=>by kernel_rfl
theorem Mk:aQ 90:=pk λ P p q=>by kernel_rfl
theorem Nt:aQ 91:=pk λ P p q=>by kernel_rfl
theorem Nq:aQ 92:=pk λ P p q=>by kernel_rfl
theorem No:aQ 93:=pk λ P p q=>by kernel_rfl
theorem O0:aQ 94:=pk λ P p q=>by kernel_rfl
theorem Oy:aQ 95:=pk λ P p q=>by kernel_rfl
theorem Mi:aQ 96:=pk λ P p q=>by kernel_rfl
theorem O1:aQ 97:=pk λ P p q=>by kernel_rfl
theorem Nl:aQ 98:=pk λ P p q=>by kernel_rfl
theorem Po:aQ 99:=pk λ P p q=>by kernel_rfl
theorem Jj:aQ 100:=pk λ P p q=>by kernel_rfl
theorem Jo:aQ 101:=pk λ P p q=>by kernel_rfl
theorem Jv:aQ 102:=pk λ P p q=>by kernel_rfl
theorem H6:aQ 103:=pk λ P p q=>by kernel_rfl
theorem He:aQ 104:=pk λ P p q=>by kernel_rfl
theorem Kf:aQ 105:=pk λ P p q=>by kernel_rfl
theorem Km:aQ 106:=pk λ P p q=>by kernel_rfl
theorem Hu:aQ 107:=pk λ P p q=>by kernel_rfl
theorem Ih:aQ 108:=pk λ P p q=>by kernel_rfl
theorem H7:aQ 109:=pk λ P p q=>by kernel_rfl
theorem Jl:aQ 110:=pk λ P p q=>by kernel_rfl
theorem Kb:aQ 111:=pk λ P p q=>by kernel_rfl
theorem Js:aQ 112:=pk λ P p q=>by kernel_rfl
theorem Ir:aQ 113:=pk λ P p q=>by kernel_rfl
theorem Je:aQ 114:=pk λ P p q=>by kernel_rfl
theorem J0:aQ 115:=pk λ P p q=>by kernel_rfl
theorem Ke:aQ 116:=pk λ P p q=>by kernel_rfl
theorem Kl:aQ 117:=pk λ P p q=>by kernel_rfl
theorem Ic:aQ 118:=pk λ P p q=>by kernel_rfl
theorem Iu:aQ 119:=pk λ P p q=>by kernel_rfl
theorem Hv:aQ 120:=pk λ P p q=>by kernel_rfl
theorem Kd:aQ 121:=pk λ P p q=>by kernel_rfl
theorem Jx:aQ 122:=pk λ P p q=>by kernel_rfl
theorem K5:aQ 123:=pk λ P p q=>by kernel_rfl
theorem J6:aQ 124:=pk λ P p q=>by kernel_rfl
theorem Jy:aQ 125:=pk λ P p q=>by kernel_rfl
theorem Ij:aQ 126:=pk λ P p q=>by kernel_rfl
theorem I0:aQ 127:=pk λ P p q=>by kernel_rfl
theorem Hm:aQ 128:=pk λ P p q=>by kernel_rfl
theorem Ji:aQ 129:=pk λ P p q=>by kernel_rfl
theorem Jb:aQ 130:=pk λ P p q=>by kernel_rfl
theorem Jn:aQ 131:=pk λ P p q=>by kernel_rfl
theorem Hz:aQ 132:=pk λ P p q=>by kernel_rfl
theorem Ja:aQ 133:=pk λ P p q=>by kernel_rfl
theorem Hl:aQ 134:=pk λ P p q=>by kernel_rfl
theorem Jk:aQ 135:=pk λ P p q=>by kernel_rfl
theorem Hs:aQ 136:=pk λ P p q=>by kernel_rfl
theorem J7:aQ 137:=pk λ P p q=>by kernel_rfl
theorem K6:aQ 138:=pk λ P p q=>by kernel_rfl
set_option autoImplicit false
structure IQ(P:cQ)(k:Nat)(s:aI):Prop where
 base:∀e∈qM P k,s.heap.get? e.1=aA e.2
 obs:∀j,j<k->∀e∈FG P j,s.heap.get? e.1=aA e.2
 size:s.heap.objs.size=HK k
 toks:s.toks=gg k
noncomputable def t8(P:cQ)(k:Nat):Bool:=(FG P k).all (λ e=>iL (HK k) e.1&&gE e.1 (HK (k+1))&&!cB e.1 342)&&(Bb P k).all (λ e=>gE e.1 (HK k))&&iL (HK k) (HK (k+1))&&iL 15 (HK k)&&(v7 k).all (λ j=>gE j k)
theorem jt(P:cQ):(eM 139).all (t8 P)=aC:=by kernel_rfl
theorem qI{l:List (Nat×gV)}{a:Nat}{o:gV}(h:getK l a=aA o):(a,o)∈l:=by induction l with
 |nil=>cases h|cons p l b=>
 unfold getK at h;cases e:cB p.1 a with
 |true=>rw[e]at h;rw[<-bI e,<-bH h];exact aW ..|false=>rw[e]at h;exact aV _ (b h)
theorem n8{P:cQ}{k:Nat}{e:Nat×gV}(h:e∈Jw P k):∃j∈v7 k,e∈FG P j:=by
 obtain⟨a,_,h⟩:=sG.mp h;obtain⟨j,c,h⟩:=List.exists_of_findSome?_eq_some h;obtain⟨o,b,h⟩:=bO.mp h;exact⟨j,c,h▸qI b⟩
theorem HC{P:cQ}{k:Nat}{e:Nat×gV}(h:e∈qM P k):e.1<15\/e.1=342:=by
  unfold qM at h;rcases cZ.mp h with h|h
  ·simp only[cD,mP,or_false]at h;rcases h with h|h|h|h|h|h<;>(rw[h];left;dsimp only;decide)
  · split at h;·rw[bU.mp h];exact .inr rfl
    ·cases h
section
variable{P:Params}
theorem fz{k:Nat}(hk:k<139):t8 P k=aC:=bE.mp (jt P) k (mF.mpr hk)
theorem bt{a b:Bool}(h:(a&&b)=aC):a=aC/\b=aC:=dC.mp h
theorem C4(P:Params){k:Nat}(hk:k<139):HK k<=HK (k+1):=aO (bt (bt (bt (fz (P:=P) hk)).1).1).2
theorem yu{k:Nat}(hk:k<139){e:Nat×gV}(h:e∈FG P k):HK k<=e.1/\e.1<HK (k+1)/\e.1≠342:=by
 have c:=bE.mp (bt (bt (bt (bt (fz (P:=P) hk)).1).1).1).1 e h;refine⟨aO (bt (bt c).1).1,aO (bt (bt c).1).2,λ z=>?_⟩;have :=(bt c).2;rw[z,rL]at this;cases this
theorem ql(P:Params){j k:Nat}(h:j<=k)(hk:k<=139):HK j<=HK k:=by induction k with
 |zero=>rw[Nat.le_zero.mp h];exact aZ _|succ k a=>
 rcases BC h with h|h;·exact bN (a (CO h) (uJ hk)) (C4 P hk)
 ·rw[h];exact aZ _
theorem J4(P:Params){k:Nat}(hk:k<139):15<=HK k:=aO (bt (bt (fz (P:=P) hk)).1).2
theorem KQ{c d:Type}{l:List c}{f g:c->d}(h:l.map f=l.map g){a:c}(b:a∈l):f a=g a:=by induction l with
 |nil=>cases b|cons x l e=>
 obtain⟨y,K⟩:=lB h;rcases cD.mp b with rfl|b;·exact y
 ·exact e K b
theorem IQ.step{w:cK}{k:Nat}(hk:k<139)(pk:aQ k){s:aI}(I:IQ w.params k s)(F q:fX):∃u i,segRun oD pw w 11 NM 1 4000 s (pieceOf (jB k) TT yP F [yJ q])=aA (.next,u,yP,i)/\IQ w.params (k+1) u/\u.gens=s.gens/\u.drawn=s.drawn/\u.os=s.os:=by
 obtain⟨⟨f,S,M,i⟩,e,h⟩:=bO.mp (pk w.params F q);obtain⟨K,h⟩:=dU h;obtain⟨C,h⟩:=dU h;obtain⟨t,h⟩:=dU h;obtain⟨B,v⟩:=dU h;dsimp only at K C t B v;rw[K,B]at e;have l:∀a o,getK (Bb w.params k) a=aA o->s.heap.get? a=aA o:=by
  intro a o h;rcases cZ.mp (qI h)with h|h;·exact I.base _ h
  ·obtain⟨j,b,h⟩:=n8 h;exact I.obs j (aO (bE.mp (bt (fz (P:=w.params) hk)).2 j b)) _ h
 haveI x:NX ⟨Bb w.params k,HK k,gg k⟩ s:=⟨l,λ a o h=>aO (bE.mp (bt (bt (bt (bt (fz (P:=w.params) hk)).1).1).1).2 _ (qI h)),I.size,I.toks⟩;obtain⟨u,E,r,n⟩:=MG e x;have d:∀e∈ZF w.params k,u.heap.get? e.1=aA e.2:=λ e c=>r.get _ _ (KQ v c);refine⟨u,i,E,⟨λ y c=>d y (cX _ (cX _ c)),λ j b y c=>?_,r.size.trans C,r.toks.trans t⟩,n.gens,n.drawn,n.os⟩;rcases BC (CO b)with b|b
 ·have p:=I.obs j b y c;obtain⟨D,o2,R⟩:=yu (oY b hk) c;haveI lo:15<=y.1:=bN (J4 w.params (oY b hk)) D;cases g:getK (Bb w.params k) y.1 with
 |none=>exact(n.old y.1 (cO o2 (ql w.params b (wV hk))) g).trans p|some A=>
      have :=l _ _ g;rw[p]at this;haveI G:y.2=A:=bH this;rcases cZ.mp (qI g)with m|m
      · rcases HC m with z|z;·exact absurd lo (Nat.not_le.mpr z)
        ·exact absurd z R
      ·rw[G];exact d (y.1,A) (cX _ (eJ _ m))
 ·rw[b]at c;exact d y (eJ _ c)
noncomputable def Reach(k:Nat):Prop:=∀(w:cK)(s:aI)(F q:fX),IQ w.params k s->∃N i,topRun oD pw w 11 NM N s (restOf ((iS pw).drop k) TT yP F [yJ q])=aA i/\IQ w.params 139 i/\i.gens=s.gens/\i.drawn=s.drawn/\i.os=s.os
theorem TM:Reach 139:=by
 intro w s F q I;haveI e:(iS pw).drop 139=[]:=by rfl
 rw[e];refine⟨2,s,?_,I,rfl,rfl,rfl⟩;obtain⟨h,g,d,t,os⟩:=s;exact piece_nil rfl
theorem jx{k:Nat}(hk:k<139):(iS pw).drop k=jB k::(iS pw).drop (k+1):=by
 haveI e:iS pw=pw.main.body:=by rfl
 have l:pw.main.body.length=139:=by rfl
 rw[e,hB (by rw[l];exact hk)];unfold jB;rw[cI (by rw[l];exact hk)];rfl
theorem aJ{k:Nat}(hk:k<139)(pk:aQ k)(R:Reach (k+1)):Reach k:=by
 intro w s F q I;obtain⟨u,o,e,a,j,h,b⟩:=I.step hk pk F q;obtain⟨N,i,d,g,c,f,l⟩:=R w u o q a;rw[jx hk];exact⟨4000+N,i,piece_cons e d,g,c.trans j,f.trans h,l.trans b⟩
end
theorem ng:Reach 0:=aJ (k:=0) (by decide) p0 ( aJ (k:=1) (by decide) p1 ( aJ (k:=2) (by decide) p2 ( aJ (k:=3) (by decide) p3 ( aJ (k:=4) (by decide) p4 ( aJ (k:=5) (by decide) p5 ( aJ (k:=6) (by decide) p6 ( aJ (k:=7) (by decide) p7 ( aJ (k:=8) (by decide) p8 ( aJ (k:=9) (by decide) p9 ( aJ (k:=10) (by decide) B4 ( aJ (k:=11) (by decide) B8 ( aJ (k:=12) (by decide) B9 ( aJ (k:=13) (by decide) N4 ( aJ (k:=14) (by decide) M9 ( aJ (k:=15) (by decide) Mb ( aJ (k:=16) (by decide) Of ( aJ (k:=17) (by decide) Pn ( aJ (k:=18) (by decide) Mz ( aJ (k:=19) (by decide) N5 ( aJ (k:=20) (by decide) Oq ( aJ (k:=21) (by decide) Pb ( aJ (k:=22) (by decide) Nb ( aJ (k:=23) (by decide) Ng ( aJ (k:=24) (by decide) O4 ( aJ (k:=25) (by decide) Pq ( aJ (k:=26) (by decide) Pt ( aJ (k:=27) (by decide) Op ( aJ (k:=28) (by decide) Oz ( aJ (k:=29) (by decide) Ps ( aJ (k:=30) (by decide) On ( aJ (k:=31) (by decide) O8 ( aJ (k:=32) (by decide) Nr ( aJ (k:=33) (by decide) Nw ( aJ (k:=34) (by decide) Np ( aJ (k:=35) (by decide) Mu ( aJ (k:=36) (by decide) Ny ( aJ (k:=37) (by decide) Ms ( aJ (k:=38) (by decide) Ot ( aJ (k:=39) (by decide) O3 ( aJ (k:=40) (by decide) Mm ( aJ (k:=41) (by decide) Pu ( aJ (k:=42) (by decide) Oj ( aJ (k:=43) (by decide) Ml ( aJ (k:=44) (by decide) Nj ( aJ (k:=45) (by decide) Pw ( aJ (k:=46) (by decide) Oh ( aJ (k:=47) (by decide) Ow ( aJ (k:=48) (by decide) Pe ( aJ (k:=49) (by decide) O9 ( aJ (k:=50) (by decide) Nf ( aJ (k:=51) (by decide) Ni ( aJ (k:=52) (by decide) Oe ( aJ (k:=53) (by decide) Mg ( aJ (k:=54) (by decide) Pm ( aJ (k:=55) (by decide) Pa ( aJ (k:=56) (by decide) Mh ( aJ (k:=57) (by decide) N7 ( aJ (k:=58) (by decide) Nk ( aJ (k:=59) (by decide) Mo ( aJ (k:=60) (by decide) Pg ( aJ (k:=61) (by decide) Pp ( aJ (k:=62) (by decide) My ( aJ (k:=63) (by decide) P2 ( aJ (k:=64) (by decide) Om ( aJ (k:=65) (by decide) M6 ( aJ (k:=66) (by decide) Na ( aJ (k:=67) (by decide) Mv ( aJ (k:=68) (by decide) Pj ( aJ (k:=69) (by decide) O5 ( aJ (k:=70) (by decide) Oo ( aJ (k:=71) (by decide) Oi ( aJ (k:=72) (by decide) Oa ( aJ (k:=73) (by decide) Mr ( aJ (k:=74) (by decide) O7 ( aJ (k:=75) (by decide) Pk ( aJ (k:=76) (by decide) O6 ( aJ (k:=77) (by decide) M7 ( aJ (k:=78) (by decide) Og ( aJ (k:=79) (by decide) Oc ( aJ (k:=80) (by decide) Mc ( aJ (k:=81) (by decide) P9 ( aJ (k:=82) (by decide) Ma ( aJ (k:=83) (by decide) Pf ( aJ (k:=84) (by decide) Mj ( aJ (k:=85) (by decide) Mf ( aJ (k:=86) (by decide) Mn ( aJ (k:=87) (by decide) N9 ( aJ (k:=88) (by decide) Pl ( aJ (k:=89) (by decide) M8 ( aJ (k:=90) (by decide) Mk ( aJ (k:=91) (by decide) Nt ( aJ (k:=92) (by decide) Nq ( aJ (k:=93) (by decide) No ( aJ (k:=94) (by decide) O0 ( aJ (k:=95) (by decide) Oy ( aJ (k:=96) (by decide) Mi ( aJ (k:=97) (by decide) O1 ( aJ (k:=98) (by decide) Nl ( aJ (k:=99) (by decide) Po ( aJ (k:=100) (by decide) Jj ( aJ (k:=101) (by decide) Jo ( aJ (k:=102) (by decide) Jv ( aJ (k:=103) (by decide) H6 ( aJ (k:=104) (by decide) He ( aJ (k:=105) (by decide) Kf ( aJ (k:=106) (by decide) Km ( aJ (k:=107) (by decide) Hu ( aJ (k:=108) (by decide) Ih ( aJ (k:=109) (by decide) H7 ( aJ (k:=110) (by decide) Jl ( aJ (k:=111) (by decide) Kb ( aJ (k:=112) (by decide) Js ( aJ (k:=113) (by decide) Ir ( aJ (k:=114) (by decide) Je ( aJ (k:=115) (by decide) J0 ( aJ (k:=116) (by decide) Ke ( aJ (k:=117) (by decide) Kl ( aJ (k:=118) (by decide) Ic ( aJ (k:=119) (by decide) Iu ( aJ (k:=120) (by decide) Hv ( aJ (k:=121) (by decide) Kd ( aJ (k:=122) (by decide) Jx ( aJ (k:=123) (by decide) K5 ( aJ (k:=124) (by decide) J6 ( aJ (k:=125) (by decide) Jy ( aJ (k:=126) (by decide) Ij ( aJ (k:=127) (by decide) I0 ( aJ (k:=128) (by decide) Hm ( aJ (k:=129) (by decide) Ji ( aJ (k:=130) (by decide) Jb ( aJ (k:=131) (by decide) Jn ( aJ (k:=132) (by decide) Hz ( aJ (k:=133) (by decide) Ja ( aJ (k:=134) (by decide) Hl ( aJ (k:=135) (by decide) Jk ( aJ (k:=136) (by decide) Hs ( aJ (k:=137) (by decide) J7 ( aJ (k:=138) (by decide) K6 (TM)))))))))))))))))))))))))))))))))))))))))))))))))))))))))))))))))))))))))))))))))))))))))))))))))))))))))))))))))))))))))))))))))))))))))))
noncomputable def ah(t:kB):Bool:=match t.code with
 |.body ..=>aC|_=>aG
noncomputable def kh(Q:String->Option oW)(p:bK)(w:cK)(a:Nat)(b:Option aH):Nat->aI->kB->Option (aI×kB)
 |0,_,_=>aB|n+1,s,t=>match ah t with
 |aC=>aA (s,t)|aG=>match through t with
 |aC=>aB|aG=>match stepOk a b t with
 |aG=>aB|aC=>match BW (BO Q) p w s t with
 |.go u I=>kh Q p w a b n u I|.halt _ _=>aB
theorem C9{Q:String->Option oW}{p:bK}{w:cK}{a:Nat}{b:Option aH}:∀{n:Nat}{s:aI}{t:kB}{x:aI×kB},kh Q p w a b n s t=aA x->∃m,topGo Q p w a b m s t=aA x:=by
 intro n;induction n with
 |zero=>intro s t x h;cases h|succ n g=>
 intro s t x h;unfold kh at h;cases f:ah t with
 |true=>rw[f]at h;exact⟨0,h⟩|false=>
 rw[f]at h;cases c:through t with
 |true=>rw[c]at h;cases h|false=>
 rw[c]at h;cases d:stepOk a b t with
 |false=>rw[d]at h;cases h|true=>
 rw[d]at h;cases e:BW (BO Q) p w s t with
 |halt o j=>rw[e]at h;cases h|go j k=>
 rw[e]at h;obtain⟨m,i⟩:=g h;refine⟨m+1,?_⟩;unfold topGo;rw[c,d,e];exact i
theorem oz(w:cK)(os:GQ):(kh oD pw w 11 NM 2000 ⟨pP w.params,HZ [],AZ,boot_toks,os⟩ (topStub pw)).map (λ x=>((qM w.params 0).map λ e=>x.1.heap.get? e.1,x.1.heap.objs.size,x.1.toks,x.1.gens,x.1.drawn,x.1.os,x.2))=aA ((qM w.params 0).map λ e=>aA e.2,HK 0,gg 0,HZ [],AZ,os,⟨BO oD yP,yP,qA,[yJ qA]⟩):=by rw[PySem.W.Fast.mineTree_eq];kernel_rfl
theorem v9(P:cQ)(p q:fX):prun oD ⟨pw,P⟩ 11 NM 1 100 ⟨qM P 0,HK 0,gg 0⟩ (blockOf (iS pw) TT yP p [yJ q])=aA (.next,⟨qM P 0,HK 0,gg 0⟩,yP,p):=by rw[PySem.W.Fast.minePrun_eq,PySem.W.Fast.mineTree_eq];kernel_rfl
theorem zS{e f:Type}{a c:e}{b d:f}(h:(a,b)=(c,d)):a=c/\b=d:=dU h
theorem YK(w:cK)(os:GQ):∃N i,topRun oD pw w 11 NM N ⟨pP w.params,HZ [],AZ,boot_toks,os⟩ (topStub pw)=aA i/\IQ w.params 139 i/\i.gens=HZ []/\i.drawn=AZ/\i.os=os:=by
 obtain⟨⟨f,J⟩,e,h⟩:=bO.mp (oz w os);obtain⟨m,F⟩:=C9 e;obtain⟨y,h⟩:=zS h;obtain⟨K,h⟩:=zS h;obtain⟨k,h⟩:=zS h;obtain⟨g,h⟩:=zS h;obtain⟨n,h⟩:=zS h;obtain⟨P,l⟩:=zS h;dsimp only at y K k g n P l;have E:∀e∈qM w.params 0,f.heap.get? e.1=aA e.2:=λ e b=>KQ y b;have x:NX ⟨qM w.params 0,HK 0,gg 0⟩ f:=⟨λ a o q=>E _ (qI q),λ a o q=>by
 rcases HC (qI q)with z|z;·exact z
 ·have e:qM w.params 0=[(3,gl w.params 0),(4,o4),(12,F8 0),(13,Cy),(2,o2 w.params 0),(0,sL w.params)]:=rfl;have :=qI q;rw[e]at this;simp only[cD,mP,or_false,Prod.mk.injEq]at this;dsimp only at z;lia,K,k⟩;obtain⟨D,C,c,d⟩:=MG (p:=pw) (v9 w.params qA qA) x;obtain⟨N,r,u,I,B,A,s⟩:=ng w D qA qA ⟨λ e b=>by
 have :=KQ y b;have H:e.1<15:=by
  rcases HC b with z|z;·exact z
  ·have e:qM w.params 0=[(3,gl w.params 0),(4,o4),(12,F8 0),(13,Cy),(2,o2 w.params 0),(0,sL w.params)]:=rfl;rw[e]at b;simp only[cD,mP,or_false]at b;rcases b with h|h|h|h|h|h<;>(rw[h]at z;cases z)
 have q:getK (qM w.params 0) e.1=aA e.2:=by
  have t:qM w.params 0=[(3,gl w.params 0),(4,o4),(12,F8 0),(13,Cy),(2,o2 w.params 0),(0,sL w.params)]:=rfl;rw[t]at b⊢;simp only[cD,mP,or_false]at b;rcases b with h|h|h|h|h|h<;>(rw[h];rfl)
 exact c.get _ _ q,λ j v=>absurd v (qY _),c.size,c.toks⟩;have G:=piece_block C u;refine⟨m+(100+N),r,?_,I,B.trans (d.gens.trans g),A.trans (d.drawn.trans n),s.trans (d.os.trans P)⟩;refine go_top F ?_;rw[l];exact G
noncomputable def hk(P:cQ):bG:={pP P with objs:=[sL P,o4,o2 P 139,gl P 139,o4].toArray}
theorem MB{P:cQ}{s:aI}(I:IQ P 139 s):(s.heap.get? 0=(hk P).get? 0/\s.heap.get? 2=(hk P).get? 2)/\s.heap.get? 3=(hk P).get? 3/\s.heap.get? 4=(hk P).get? 4:=by
 haveI e:qM P 139=[(3,gl P 139),(4,o4),(12,F8 139),(13,Cy),(2,o2 P 139),(0,sL P),(342,L4 139)]:=rfl;have b:=I.base;rw[e]at b;exact⟨⟨b (0,sL P) (by simp),b (2,o2 P 139) (by simp)⟩,b (3,gl P 139) (by simp),b (4,o4) (by simp)⟩
theorem uZ{h P:bG}{a:Nat}(e:h.get? a=P.get? a):h.isNs a=P.isNs a:=by delta bG.isNs;rw[e]
theorem xD{h P:bG}{a:Nat}(e:h.get? a=P.get? a):h.nsMap a=P.nsMap a:=by delta bG.nsMap;rw[e]
theorem GW{h P:bG}{a:Nat}(e:h.get? a=P.get? a):h.nsKeys a=P.nsKeys a:=by delta bG.nsKeys;rw[e]
theorem UA{m:List bP}{C h P:bG}(e:h.get? yV=P.get? yV)(x:FA m C P=aC):FA m C h=aC:=by delta FA at x⊢;rw[uZ e,GW e,xD e];exact x
theorem Bp{m:List bP}{h P:bG}(e:h.get? yV=P.get? yV)(x:P.accountedOkI m=aC):h.accountedOkI m=aC:=by delta bG.accountedOkI at x⊢;rw[uZ e,GW e,xD e];exact x
theorem gu{p:bK}{h P:bG}(e:h.get? dG=P.get? dG)(x:BJ p P=aC):BJ p h=aC:=by delta BJ at x⊢;rw[uZ e,GW e];exact x
theorem yk{C h P:bG}(e:h.get? dG=P.get? dG)(x:laidKept C P=aC):laidKept C h=aC:=by delta laidKept at x⊢;rw[uZ e,xD e];exact x
theorem G1{h P:bG}(e:h.get? pW=P.get? pW)(x:P.bltView=AV):h.bltView=AV:=by delta bG.bltView bG.nsPairs at x⊢;rw[e];exact x
theorem OZ(P:cQ):FA (importedModules pw.main.body) (pP P) (hk P)=aC:=by kernel_rfl
theorem yc(P:cQ):(hk P).accountedOkI (importedModules pw.main.body)=aC:=by kernel_rfl
theorem bn(P:cQ):BJ pw (hk P)=aC:=by kernel_rfl
theorem gj(P:cQ):laidKept (pP P) (hk P)=aC:=by kernel_rfl
theorem tj(P:cQ):(hk P).bltView=AV:=by kernel_rfl
theorem RN(P:cQ):((hk P).isNs dG&&(hk P).isNs pW)=aC:=by kernel_rfl
theorem OV(P:cQ):(hk P).nsMap dG "law"=aA (.ref 1323):=by kernel_rfl
end
section
open PySem PySem.W PySem.Calls PyProof.Rows
theorem OG:opening pw=plainProg pw.main.scope.names:=by rfl
theorem ZC(s:aI):fenceModules? pw s=aA s:=rfl
theorem VF(P:cQ):((pP P).isNs dG,(pP P).objs.size,(pP P).nsMap dG "__annotations__")=(aC,11,NM):=by kernel_rfl
theorem QP(w:cK):(∃s,AfterRun (opening pw) w s)/\∀s,AfterRun (opening pw) w s->∃E,fenceModules? pw s=aA E/\E.gens=#[]/\∃i,TopRan pw w E i/\i.asleep/\IQ w.params 139 i/\i.gens=#[]/\i.os=E.os:=by
 have h:=boot_open (p:=pw) (N:=600) OG rfl ZC w;rw[<-table_eq_tree]at h;obtain⟨E,K,e⟩:=bO.mp h;obtain⟨s,O,L⟩:=jX.mp K;have A:=AfterImport.of_importEnds O;refine⟨⟨s,A⟩,λ u m=>?_⟩;obtain rfl:u=s:=AfterImport.unique m A;have z:E.asleep:=yE (fence_lifeW L) A.life;obtain⟨Y,g,d,t,os⟩:=E;obtain⟨y,e⟩:=dU e;obtain⟨C,e⟩:=dU e;obtain⟨D,H⟩:=dU e;dsimp only at y C D H;subst y C D H;obtain⟨N,i,r,I,v,W,X⟩:=YK w os;obtain⟨U,b⟩:=dU (VF w.params);obtain⟨Q,P⟩:=dU b;rw[<-table_eq_tree]at r;obtain⟨a,l,o,B⟩:=topRun_spec _ _ _ _ z r;obtain⟨⟨J,n⟩,f,S⟩:=MB I;obtain⟨R,V⟩:=dC.mp (RN w.params);have F:i.heap.isNs dG=aC:=(uZ f).trans R;have G:i.heap.isNs pW=aC:=(uZ J).trans V;haveI k:∀x,globalOf i.heap x=(hk w.params).nsMap dG x:=λ x=>(xJ F x).trans (congrFun (xD f) x);refine⟨⟨_,_,_,_,_⟩,L,rfl,i,⟨a,l,aI.rest_eq o,λ b o G j=>B b o (by rw[<-Q];exact cN G) (λ q=>j (.inl q)) (λ q=>j (.inr (.inl q))) (λ q=>j (.inr (.inr ((xJ U _).trans (P.trans q))))) G,bG.accountedI_of_ok (Bp n (yc w.params)),statics_of_ok (UA n (OZ w.params)),Pin.keysAreStrs_of F,λ x M=>(Pin.builtinOf_eq G x).trans (bG.of_bltView G (G1 J (tj w.params)) x M),?_,?_,names_of_bound (gu f (bn w.params)),laid_of_kept (yk f (gj w.params))⟩,yE l z,I,v,o⟩
 ·refine⟨4,o4,(k _).trans ?_,S.trans rfl,rfl,rfl⟩;rfl
 ·intro g c;rw[v]at c;simp at c
end
section
open PySem PySem.W PyProof.Rows
noncomputable def gn(i:Nat):bP:=aP (if cB i 200 then"bool"else if cB i 201 then"int"else((K2.find? λ e=>cB e.1 i).map λ e=>e.2.1).getD "?")
noncomputable def pn(f i:Nat):bP:=if cB f 120 then(if cB i 3 then"limit"else"table")else"?"
noncomputable def Nv:List (Nat×Nat):=[(200,0),(201,1),(2,38),(5,65),(6,128),(7,149),(8,170),(9,191),(10,212),(11,233),(12,254),(13,275),(14,296),(27,438),(43,557),(70,753),(95,859),(103,1000),(108,1021),(109,1106),(119,1205)]
noncomputable def Ba:List (Nat×List Nat):=[(38,[]),(65,[1,2]),(128,[3,4]),(149,[5,6,7]),(170,[8]),(191,[9,7]),(212,[10,7]),(753,[14,15,16]),(859,[11,17,18,19]),(1000,[2,20,21,22]),(1021,[11,18,10,23,24]),(1106,[25,26,27]),(1205,[28,20,29,13,26,30,31,32])]
noncomputable def Gu:List Nat:=[200,201,2,5,7,8,9,10,11,12,13,14,27,43]
noncomputable def sM(s:String):MV:=.str (s.toList.map Char.toNat)
noncomputable def Ld:List (Nat×MV):=[(3,.cst 44),(4,.cst 47),(48,.str [48,49,50,51,52,53,54,55,56,57,97,98,99,100,101,102]),(50,.str [101,115,102,100,108]),(54,.int 64),(83,.str [32,10,9,13,12]),(84,.str [32,10,9,13,12,40,41,34,59]),(85,.str [91,93,123,125,124]),(86,.str [97,98,99,100,101,102,103,104,105,106,107,108,109,110,111,112,113,114,115,116,117,118,119,120,121,122]),(87,.str [65,66,67,68,69,70,71,72,73,74,75,76,77,78,79,80,81,82,83,84,85,86,87,88,89,90]),(88,.str [48,49,50,51,52,53,54,55,56,57]),(89,.str [33,36,37,38,42,47,58,60,61,62,63,94,95,126]),(90,.str [43,45,46,64]),(91,.tup [.str [43],.str [45],.str [46,46,46]]),(92,.str [98,111,100,120,101,105]),(93,.tup [.tup [.str [115,112,97,99,101],.str [32]],.tup [.str [110,101,119,108,105,110,101],.str [10]]]),(94,.tup [.tup [.str [39],.str [113,117,111,116,101]],.tup [.str [96],.str [113,117,97,115,105,113,117,111,116,101]],.tup [.str [44],.str [117,110,113,117,111,116,101]],.tup [.str [44,64],.str [117,110,113,117,111,116,101,45,115,112,108,105,99,105,110,103]]]),(105,.int 0),(106,.int 1),(107,.int 2),(113,.int 0),(114,.int 1),(115,.int 2)]
noncomputable def G0(L:List MV):Gl where
 gv:=λ i=>(Ld.find? λ e=>cB e.1 i).map λ e=>e.2;ca:=λ i=>((Nv.find? λ e=>cB e.1 i).map λ e=>e.2).getD 2;fo:=λ C f=>((Ba.find? λ e=>cB e.1 C).map λ e=>e.2.any (cB f)).getD aG;ks:=λ a=>cB a 44||cB a 47;ic:=λ C=>Ba.any λ e=>cB e.1 C;ci:=λ c=>Gu.any (cB c);kc:=λ a=>if cB a 44||cB a 47 then aA 38 else aB;kl:=λ a=>if cB a 1324 then aA L else aB
noncomputable def K0(P:cQ):List (Nat×gV):=qM P 139++((yx.map FE.objs).flatten++(((sw.filter λ e=>!cB e.a 342).map λ e=>[(e.ns,e.nsO P),(e.a,e.obj [])]).flatten++((341,Ak.nsO P)::(Ki P).map λ e=>e.2)))
/-! the text's defs in the small language: printed by gen_lh.py -/
noncomputable abbrev I5:MF:=⟨["self","number","text"],3,[],[.asg (.attr (.l 0) 1) (.l 1),.asg (.attr (.l 0) 2) (.l 2)],[]⟩
noncomputable abbrev I6:MF:=⟨["self"],1,[],[.asg (.attr (.l 0) 3) (.lst []),.asg (.attr (.l 0) 4) .emp],[]⟩
noncomputable abbrev ue:MF:=⟨["self","text","found"],2,[],[.asg (.l 2) (.meth (.attr (.l 0) 4) 32 [(.l 1),(.c .nil)]),.ite (.cmp .Is (.l 2) (.c .nil)) [.asg (.l 2) (.new 5 [(.bi 0 [(.attr (.l 0) 3)]),(.l 1)]),.ex (.meth (.attr (.l 0) 3) 29 [(.l 2)]),.asg (.sub (.attr (.l 0) 4) (.l 1)) (.l 2)] [],.ret (.l 2)],[]⟩
noncomputable abbrev Dr:MF:=⟨["self","text"],2,[],[.ret (.meth (.attr (.l 0) 4) 32 [(.l 1),(.c .nil)])],[]⟩
noncomputable abbrev I7:MF:=⟨["self","car","cdr"],3,[],[.asg (.attr (.l 0) 5) (.l 1),.asg (.attr (.l 0) 6) (.l 2),.asg (.attr (.l 0) 7) (.c .nil)],[]⟩
noncomputable abbrev I8:MF:=⟨["self","code"],2,[],[.asg (.attr (.l 0) 8) (.l 1)],[]⟩
noncomputable abbrev I9:MF:=⟨["self","codes"],2,[],[.asg (.attr (.l 0) 9) (.l 1),.asg (.attr (.l 0) 7) (.c .nil)],[]⟩
noncomputable abbrev Gm:MF:=⟨["self","things"],2,[],[.asg (.attr (.l 0) 10) (.l 1),.asg (.attr (.l 0) 7) (.c .nil)],[]⟩
noncomputable abbrev Lp:MF:=⟨["told"],1,[],[.ret (.new 9 [(.comp ["letter"] [] 0 [(.l 0)] (.bi 1 [(.l 0)]) [])])],[]⟩
noncomputable abbrev Kv:MF:=⟨["text"],1,[],[.ret (.meth (.c (.s [])) 25 [(.comp ["code"] [] 0 [(.attr (.l 0) 9)] (.bi 2 [(.l 0)]) [])])],[]⟩
noncomputable abbrev Ls:MF:=⟨["things","tail","found","place"],2,[.cst 44],[.asg (.l 2) (.l 1),.for_ [3] 3 [(.bin .Sub (.bi 0 [(.l 0)]) (.c (.i 1))),(.neg 1),(.neg 1)] [.asg (.l 2) (.new 7 [(.idx (.l 0) (.l 3)),(.l 2)])],.ret (.l 2)],[]⟩
noncomputable abbrev Lg:MF:=⟨["datum"],1,[],[.ret (.isin (.l 0) [200] aG)],[]⟩
noncomputable abbrev Ky:MF:=⟨["value"],1,[],[.ret (.isin (.l 0) [27] aG)],[]⟩
noncomputable abbrev Ll:MF:=⟨["one","other"],2,[],[.asg (.ls [0,1]) (.tup [(.bi 3 [(.l 0)]),(.bi 3 [(.l 1)])]),.whl (.cmp .NotEq (.l 1) (.c (.i 0))) [.asg (.ls [0,1]) (.tup [(.l 1),(.bin .Mod (.l 0) (.l 1))])],.ret (.l 0)],[]⟩
noncomputable abbrev L5:MF:=⟨["top","bottom"],2,[],[.ret (.ite (.cmp .Eq (.l 1) (.c (.i 1))) (.l 0) (.new 43 [(.l 0),(.l 1)]))],[]⟩
noncomputable abbrev Lu:MF:=⟨["top","bottom","common"],2,[],[.ite (.cmp .Lt (.l 1) (.c (.i 0))) [.asg (.ls [0,1]) (.tup [(.bin .Sub (.c (.i 0)) (.l 0)),(.bin .Sub (.c (.i 0)) (.l 1))])] [],.asg (.l 2) (.call 44 [(.l 0),(.l 1)] []),.ret (.call 45 [(.bin .FloorDiv (.l 0) (.l 2)),(.bin .FloorDiv (.l 1) (.l 2))] [])],[]⟩
noncomputable abbrev Kt:MF:=⟨["number","radix","found","figure"],2,[],[.ite (.cmp .Eq (.l 0) (.c (.i 0))) [.ret (.c (.s [48]))] [],.asg (.l 2) (.lst []),.whl (.cmp .Gt (.l 0) (.c (.i 0))) [.asg (.ls [0,3]) (.bi 8 [(.l 0),(.l 1)]),.ex (.meth (.l 2) 29 [(.idx (.g 48) (.l 3))])],.ret (.jrev [] (.l 2))],[]⟩
noncomputable abbrev Kp:MF:=⟨["number","radix","parts","lot","rest","figures"],2,[],[.asg (.ls [2,3]) (.tup [(.lst []),(.bin .Pow (.l 1) (.g 54))]),.whl (.cmp .GtE (.l 0) (.l 3)) [.asg (.ls [0,4]) (.bi 8 [(.l 0),(.l 3)]),.asg (.l 5) (.call 55 [(.l 4),(.l 1)] []),.ex (.meth (.l 2) 29 [(.bin .Add (.bin .Mult (.c (.s [48])) (.bin .Sub (.g 54) (.bi 0 [(.l 5)]))) (.l 5))])],.ret (.bin .Add (.call 55 [(.l 0),(.l 1)] []) (.jrev [] (.l 2)))],[]⟩
noncomputable abbrev Ks:MF:=⟨["number","radix"],2,[],[.ret (.bin .Add (.ite (.cmp .Lt (.l 0) (.c (.i 0))) (.c (.s [45])) (.c (.s []))) (.call 56 [(.bi 3 [(.l 0)]),(.l 1)] []))],[]⟩
noncomputable abbrev La:MF:=⟨["number","radix"],2,[],[.ite (.isin (.l 0) [43] aG) [.ret (.bin .Add (.bin .Add (.call 57 [(.attr (.l 0) 14),(.l 1)] []) (.c (.s [47]))) (.call 57 [(.attr (.l 0) 15),(.l 1)] []))] [],.ret (.call 57 [(.l 0),(.l 1)] [])],[]⟩
noncomputable abbrev Lz:MF:=⟨["precision","number","radix","top","bottom"],3,[.int 10],[.ite (.not (.call 28 [(.l 1)] [])) [.ret (.call 58 [(.l 1),(.l 2)] [])] [],.ite (.cmp .Eq (.l 2) (.c (.i 10))) [.ret (.call 65 [(.l 0),(.l 1)] [])] [],.asg (.ls [3,4]) (.call 37 [(.l 1)] []),.ret (.bin .Add (.c (.s [35,105])) (.call 58 [(.call 46 [(.l 3),(.l 4)] []),(.l 2)] []))],[]⟩
noncomputable abbrev Le:MF:=⟨["figures","radix","found","sign"],2,[],[.asg (.l 2) (.c (.i 0)),.for_ [3] 0 [(.l 0)] [.asg (.l 2) (.bin .Add (.bin .Mult (.l 2) (.l 1)) (.meth (.g 48) 33 [(.l 3)]))],.ret (.l 2)],[]⟩
noncomputable abbrev Lf:MF:=⟨["word","radix"],2,[],[.ret (.bi 7 [(.comp ["sign"] [1] 0 [(.l 0)] (.cmp .In (.l 0) (.slc (.g 48) .no (.l 1))) [])])],[]⟩
noncomputable abbrev L8:MF:=⟨["word","kept"],1,[],[.asg (.l 1) (.meth (.l 0) 27 [(.c (.s [35]))]),.ret (.tup [(.l 1),(.bin .Sub (.bi 0 [(.l 0)]) (.bi 0 [(.l 1)]))])],[]⟩
noncomputable abbrev Lq:MF:=⟨["self","top","bottom","is_exact"],4,[],[.asg (.attr (.l 0) 14) (.l 1),.asg (.attr (.l 0) 15) (.l 2),.asg (.attr (.l 0) 16) (.l 3)],[]⟩
noncomputable abbrev Lb:MF:=⟨["word","radix","kept","many"],2,[],[.asg (.ls [2,3]) (.call 69 [(.l 0)] []),.ite (.bool .Or [(.cmp .Eq (.l 2) (.c (.s []))),(.not (.call 68 [(.l 2),(.l 1)] []))]) [.ret (.c .nil)] [],.ret (.new 70 [(.bin .Mult (.call 67 [(.l 2),(.l 1)] []) (.bin .Pow (.l 1) (.l 3))),(.c (.i 1)),(.cmp .Eq (.l 3) (.c (.i 0)))])],[]⟩
noncomputable abbrev L9:MF:=⟨["word","places"],1,[],[.asg (.l 1) (.comp ["place","sign"] [] 2 [(.l 0)] (.l 0) [(.cmp .In (.l 1) (.g 50))]),.ret (.ite (.cmpNil .NotEq (.l 1)) (.idx (.l 1) (.c (.i 0))) (.bi 0 [(.l 0)]))],[]⟩
noncomputable abbrev Kz:MF:=⟨["word","radix"],2,[],[.ite (.cmp .In (.c (.s [47])) (.l 0)) [.ret (.call 72 [(.l 0),(.l 1)] [])] [],.ite (.bool .And [(.cmp .Eq (.l 1) (.c (.i 10))),(.bool .Or [(.cmp .In (.c (.s [46])) (.l 0)),(.cmp .Lt (.call 75 [(.l 0)] []) (.bi 0 [(.l 0)]))])]) [.ret (.call 77 [(.l 0)] [])] [],.ret (.call 71 [(.l 0),(.l 1)] [])],[]⟩
noncomputable abbrev Kr:MF:=⟨["word","radix","exactness","has_radix","at","mark"],2,[],[.asg (.ls [2,3,4]) (.tup [(.c (.s [])),(.c (.b aG)),(.c (.i 0))]),.whl (.cmp .Eq (.slc (.l 0) (.l 4) (.bin .Add (.l 4) (.c (.i 1)))) (.c (.s [35]))) [.asg (.l 5) (.slc (.l 0) (.bin .Add (.l 4) (.c (.i 1))) (.bin .Add (.l 4) (.c (.i 2)))),.ite (.bool .And [(.cmp .In (.l 5) (.g 49)),(.not (.l 3))]) [.asg (.ls [1,3]) (.tup [(.idx (.g 49) (.l 5)),(.c (.b aC))])] [.ite (.bool .And [(.cmp .In (.l 5) (.tup [(.c (.s [101])),(.c (.s [105]))])),(.cmp .Eq (.l 2) (.c (.s [])))]) [.asg (.l 2) (.l 5)] [.ret (.c .nil)]],.asg (.l 4) (.bin .Add (.l 4) (.c (.i 2)))],.ret (.tup [(.slc (.l 0) (.l 4) .no),(.l 1),(.l 2)])],[]⟩
noncomputable abbrev Ko:MF:=⟨["precision","top","bottom","is_exact"],4,[],[.ite (.l 3) [.ret (.call 46 [(.l 1),(.l 2)] [])] [],.dead],[]⟩
noncomputable abbrev L6:MF:=⟨["precision","text","radix","found","word","exactness","sign","reading","is_exact"],3,[.int 10],[.asg (.l 3) (.call 79 [(.meth (.l 1) 26 []),(.l 2)] []),.ite (.cmp .Is (.l 3) (.c .nil)) [.ret (.c .nil)] [],.asg (.ls [4,2,5]) (.l 3),.asg (.l 6) (.ite (.cmp .Eq (.slc (.l 4) .no (.c (.i 1))) (.c (.s [45]))) (.neg 1) (.c (.i 1))),.asg (.l 7) (.call 78 [(.ite (.cmp .In (.slc (.l 4) .no (.c (.i 1))) (.tup [(.c (.s [43])),(.c (.s [45]))])) (.slc (.l 4) (.c (.i 1)) .no) (.l 4)),(.l 2)] []),.ite (.cmp .Is (.l 7) (.c .nil)) [.ret (.c .nil)] [],.asg (.l 8) (.bool .Or [(.cmp .Eq (.l 5) (.c (.s [101]))),(.bool .And [(.cmp .Eq (.l 5) (.c (.s []))),(.attr (.l 7) 16)])]),.ret (.call 80 [(.l 0),(.bin .Mult (.l 6) (.attr (.l 7) 14)),(.attr (.l 7) 15),(.l 8)] [])],[]⟩
noncomputable abbrev Ia:MF:=⟨["self","word","value","start","end"],5,[],[.asg (.attr (.l 0) 11) (.l 1),.asg (.attr (.l 0) 17) (.l 2),.asg (.attr (.l 0) 18) (.l 3),.asg (.attr (.l 0) 19) (.l 4)],[]⟩
noncomputable abbrev Lw:MF:=⟨["text","letters","letter","at"],1,[],[.asg (.l 1) (.lst []),.for_ [2] 0 [(.l 0)] [.asg (.l 3) (.meth (.g 87) 7 [(.l 2)]),.ex (.meth (.l 1) 29 [(.ite (.cmp .Lt (.l 3) (.c (.i 0))) (.l 2) (.idx (.g 86) (.l 3)))])],.ret (.meth (.c (.s [])) 25 [(.l 1)])],[]⟩
noncomputable abbrev Kw:MF:=⟨["letter"],1,[],[.ret (.bool .Or [(.cmp .In (.l 0) (.g 86)),(.cmp .In (.l 0) (.g 89))])],[]⟩
noncomputable abbrev Ku:MF:=⟨["letter"],1,[],[.ret (.bool .Or [(.call 97 [(.l 0)] []),(.cmp .In (.l 0) (.g 88)),(.cmp .In (.l 0) (.g 90))])],[]⟩
noncomputable abbrev Lc:MF:=⟨["text","letter"],1,[],[.ite (.cmp .In (.l 0) (.g 91)) [.ret (.c (.b aC))] [],.ite (.bool .Or [(.cmp .Eq (.l 0) (.c (.s []))),(.not (.call 97 [(.idx (.l 0) (.c (.i 0)))] []))]) [.ret (.c (.b aG))] [],.for_ [1] 0 [(.slc (.l 0) (.c (.i 1)) .no)] [.ite (.not (.call 98 [(.l 1)] [])) [.ret (.c (.b aG))] []],.ret (.c (.b aC))],[]⟩
noncomputable abbrev Di:MF:=⟨["text"],1,[],[.ret (.bool .Or [(.cmp .In (.idx (.l 0) (.c (.i 0))) (.g 88)),(.cmp .In (.idx (.l 0) (.c (.i 0))) (.c (.s [43,45,46])))])],[]⟩
noncomputable abbrev Dv:MF:=⟨["name","known","letter"],1,[],[.for_ [1,2] 0 [(.g 93)] [.ite (.cmp .Eq (.l 1) (.call 96 [(.l 0)] [])) [.ret (.l 2)] []],.ret (.c .nil)],[]⟩
noncomputable abbrev Do:MF:=⟨["letter","known","own"],1,[],[.for_ [1,2] 0 [(.g 93)] [.ite (.cmp .Eq (.l 2) (.l 0)) [.ret (.l 1)] []],.ret (.c .nil)],[]⟩
noncomputable abbrev Bt:MF:=⟨["self","text","precision","is_folded"],4,[.int 53,.bool aC],[.asg (.attr (.l 0) 2) (.l 1),.asg (.attr (.l 0) 20) (.l 2),.asg (.attr (.l 0) 21) (.c (.i 0)),.asg (.attr (.l 0) 22) (.l 3)],[]⟩
noncomputable abbrev d8:MF:=⟨["self","letter","end"],1,[],[.whl (.cmp .Lt (.attr (.l 0) 21) (.bi 0 [(.attr (.l 0) 2)])) [.asg (.l 1) (.idx (.attr (.l 0) 2) (.attr (.l 0) 21)),.ite (.cmp .Eq (.l 1) (.c (.s [59]))) [.asg (.l 2) (.meth (.attr (.l 0) 2) 7 [(.c (.s [10])),(.attr (.l 0) 21)]),.asg (.attr (.l 0) 21) (.ite (.cmp .Lt (.l 2) (.c (.i 0))) (.bi 0 [(.attr (.l 0) 2)]) (.l 2))] [.ite (.cmp .In (.l 1) (.g 83)) [.asg (.attr (.l 0) 21) (.bin .Add (.attr (.l 0) 21) (.c (.i 1)))] [.ret .no]]]],[]⟩
noncomputable abbrev PT:MF:=⟨["self","start","letter","word"],1,[],[.ex (.meth (.l 0) 9 []),.asg (.l 1) (.attr (.l 0) 21),.ite (.cmp .Eq (.l 1) (.bi 0 [(.attr (.l 0) 2)])) [.ret (.new 95 [(.c (.s [101,110,100])),(.c .nil),(.l 1),(.l 1)])] [],.asg (.l 2) (.idx (.attr (.l 0) 2) (.l 1)),.ite (.cmp .In (.l 2) (.c (.s [40,41,39,96]))) [.ret (.meth (.l 0) 10 [(.l 2),(.c .nil),(.bin .Add (.l 1) (.c (.i 1)))])] [],.ite (.cmp .Eq (.l 2) (.c (.s [44]))) [.asg (.l 3) (.ite (.cmp .Eq (.slc (.attr (.l 0) 2) (.bin .Add (.l 1) (.c (.i 1))) (.bin .Add (.l 1) (.c (.i 2)))) (.c (.s [64]))) (.c (.s [44,64])) (.c (.s [44]))),.ret (.meth (.l 0) 10 [(.l 3),(.c .nil),(.bin .Add (.l 1) (.bi 0 [(.l 3)]))])] [],.ite (.cmp .Eq (.l 2) (.c (.s [34]))) [.ret (.meth (.l 0) 12 [])] [],.ite (.cmp .Eq (.l 2) (.c (.s [35]))) [.ret (.meth (.l 0) 13 [])] [],.ret (.meth (.l 0) 15 [])],[]⟩
noncomputable abbrev RJ:MF:=⟨["self","word","value","end","start"],4,[],[.asg (.l 4) (.attr (.l 0) 21),.asg (.attr (.l 0) 21) (.l 3),.ret (.new 95 [(.l 1),(.l 2),(.l 4),(.l 3)])],[]⟩
noncomputable abbrev RX:MF:=⟨["self","start","at"],2,[],[.asg (.l 2) (.l 1),.whl (.bool .And [(.cmp .Lt (.l 2) (.bi 0 [(.attr (.l 0) 2)])),(.cmp .NotIn (.idx (.attr (.l 0) 2) (.l 2)) (.g 84))]) [.ite (.cmp .In (.idx (.attr (.l 0) 2) (.l 2)) (.g 85)) [.dead] [],.asg (.l 2) (.bin .Add (.l 2) (.c (.i 1)))],.ret (.l 2)],[]⟩
noncomputable abbrev SR:MF:=⟨["self","start","end","own","name"],1,[],[.asg (.l 1) (.attr (.l 0) 21),.asg (.l 2) (.meth (.l 0) 11 [(.l 1)]),.asg (.l 3) (.slc (.attr (.l 0) 2) (.l 1) (.l 2)),.ite (.cmp .Eq (.l 3) (.c (.s [46]))) [.ret (.meth (.l 0) 10 [(.c (.s [46])),(.c .nil),(.l 2)])] [],.asg (.l 4) (.call 96 [(.l 3)] []),.ite (.call 99 [(.l 4)] []) [.ret (.meth (.l 0) 10 [(.c (.s [115,121,109,98,111,108])),(.ite (.attr (.l 0) 22) (.l 4) (.l 3)),(.l 2)])] [],.ite (.not (.call 100 [(.l 3)] [])) [.dead] [],.ret (.meth (.l 0) 10 [(.c (.s [110,117,109,98,101,114])),(.meth (.l 0) 16 [(.l 3),(.l 1)]),(.l 2)])],[]⟩
noncomputable abbrev SW:MF:=⟨["self","own","start","number"],3,[],[.asg (.l 3) (.call 81 [(.attr (.l 0) 20),(.l 1),(.c (.i 10))] []),.ite (.cmp .Is (.l 3) (.c .nil)) [.dead] [],.ret (.l 3)],[]⟩
noncomputable abbrev SI:MF:=⟨["self","start","second","end"],1,[],[.asg (.l 1) (.attr (.l 0) 21),.asg (.l 2) (.call 96 [(.slc (.attr (.l 0) 2) (.bin .Add (.l 1) (.c (.i 1))) (.bin .Add (.l 1) (.c (.i 2))))] []),.ite (.cmp .Eq (.l 2) (.c (.s [40]))) [.ret (.meth (.l 0) 10 [(.c (.s [35,40])),(.c .nil),(.bin .Add (.l 1) (.c (.i 2)))])] [],.ite (.bool .Or [(.cmp .Eq (.l 2) (.c (.s [116]))),(.cmp .Eq (.l 2) (.c (.s [102])))]) [.ret (.meth (.l 0) 10 [(.c (.s [98,111,111,108,101,97,110])),(.cmp .Eq (.l 2) (.c (.s [116]))),(.bin .Add (.l 1) (.c (.i 2)))])] [],.ite (.cmp .Eq (.l 2) (.c (.s [92]))) [.ret (.meth (.l 0) 14 [])] [],.ite (.bool .And [(.cmp .NotEq (.l 2) (.c (.s []))),(.cmp .In (.l 2) (.g 92))]) [.asg (.l 3) (.meth (.l 0) 11 [(.l 1)]),.ret (.meth (.l 0) 10 [(.c (.s [110,117,109,98,101,114])),(.meth (.l 0) 16 [(.slc (.attr (.l 0) 2) (.l 1) (.l 3)),(.l 1)]),(.l 3)])] [],.dead],[]⟩
noncomputable abbrev RS:MF:=⟨["self","start","end","own","letter"],1,[],[.asg (.l 1) (.attr (.l 0) 21),.ite (.cmp .Eq (.bin .Add (.l 1) (.c (.i 2))) (.bi 0 [(.attr (.l 0) 2)])) [.dead] [],.asg (.l 2) (.bin .Add (.l 1) (.c (.i 3))),.whl (.bool .And [(.cmp .Lt (.l 2) (.bi 0 [(.attr (.l 0) 2)])),(.cmp .NotIn (.idx (.attr (.l 0) 2) (.l 2)) (.g 84))]) [.asg (.l 2) (.bin .Add (.l 2) (.c (.i 1)))],.asg (.l 3) (.slc (.attr (.l 0) 2) (.bin .Add (.l 1) (.c (.i 2))) (.l 2)),.asg (.l 4) (.ite (.cmp .Eq (.bi 0 [(.l 3)]) (.c (.i 1))) (.l 3) (.call 101 [(.l 3)] [])),.ite (.cmp .Is (.l 4) (.c .nil)) [.dead] [],.ret (.meth (.l 0) 10 [(.c (.s [99,104,97,114])),(.new 8 [(.bi 1 [(.l 4)])]),(.l 2)])],[]⟩
noncomputable abbrev SK:MF:=⟨["self","start","letters","at","letter"],1,[],[.asg (.l 1) (.attr (.l 0) 21),.asg (.l 2) (.lst []),.asg (.l 3) (.bin .Add (.l 1) (.c (.i 1))),.whl (.c (.b aC)) [.ite (.cmp .GtE (.l 3) (.bi 0 [(.attr (.l 0) 2)])) [.dead] [],.asg (.l 4) (.idx (.attr (.l 0) 2) (.l 3)),.ite (.cmp .Eq (.l 4) (.c (.s [34]))) [.ret (.meth (.l 0) 10 [(.c (.s [115,116,114,105,110,103])),(.call 15 [(.meth (.c (.s [])) 25 [(.l 2)])] []),(.bin .Add (.l 3) (.c (.i 1)))])] [],.ite (.cmp .Eq (.l 4) (.c (.s [92]))) [.asg (.l 3) (.bin .Add (.l 3) (.c (.i 1))),.asg (.l 4) (.slc (.attr (.l 0) 2) (.l 3) (.bin .Add (.l 3) (.c (.i 1)))),.ite (.cmp .Eq (.l 4) (.c (.s []))) [.dead] [],.ite (.bool .And [(.cmp .NotEq (.l 4) (.c (.s [34]))),(.cmp .NotEq (.l 4) (.c (.s [92])))]) [.dead] []] [],.ex (.meth (.l 2) 29 [(.l 4)]),.asg (.l 3) (.bin .Add (.l 3) (.c (.i 1)))]],[]⟩
noncomputable abbrev qp:MF:=⟨["self","word","start","things"],4,[],[.asg (.attr (.l 0) 11) (.l 1),.asg (.attr (.l 0) 18) (.l 2),.asg (.attr (.l 0) 10) (.l 3),.asg (.attr (.l 0) 23) (.g 105),.asg (.attr (.l 0) 24) (.g 3)],[]⟩
noncomputable abbrev Ge:MF:=⟨["self","text","table","precision","is_folded"],5,[.int 53,.bool aC],[.asg (.attr (.l 0) 25) (.new 103 [(.l 1),(.l 3),(.l 4)]),.asg (.attr (.l 0) 26) (.l 2),.asg (.attr (.l 0) 27) (.lst [])],[]⟩
noncomputable abbrev KN:MF:=⟨["self","token","datum"],1,[],[.asg (.attr (.l 0) 27) (.lst []),.whl (.c (.b aC)) [.asg (.l 1) (.meth (.attr (.l 0) 25) 8 []),.ite (.cmp .Eq (.attr (.l 1) 11) (.c (.s [101,110,100]))) [.ite (.cmpNil .Eq (.attr (.l 0) 27)) [.ret (.g 4)] [],.dead] [],.ite (.meth (.l 0) 17 [(.l 1)]) [.cont] [],.ite (.cmp .Eq (.attr (.l 1) 11) (.c (.s [46]))) [.ex (.meth (.l 0) 18 [(.l 1)]),.cont] [],.asg (.l 2) (.ite (.cmp .Eq (.attr (.l 1) 11) (.c (.s [41]))) (.meth (.l 0) 19 [(.l 1)]) (.meth (.l 0) 1 [(.l 1)])),.ite (.meth (.l 0) 20 [(.l 2),(.attr (.l 1) 18)]) [.ret (.meth (.l 0) 21 [(.l 2)])] []]],[]⟩
noncomputable abbrev SH:MF:=⟨["self","datum","found"],2,[],[.asg (.l 2) (.l 1),.whl (.cmpNil .NotEq (.attr (.l 0) 27)) [.asg (.l 2) (.meth (.l 0) 22 [(.l 2)])],.ret (.l 2)],[]⟩
noncomputable abbrev RE:MF:=⟨["self","datum","frame"],2,[],[.asg (.l 2) (.meth (.attr (.l 0) 27) 30 []),.ret (.call 17 [(.lst [(.idx (.attr (.l 2) 10) (.c (.i 0))),(.l 1)])] [])],[]⟩
noncomputable abbrev GG:MF:=⟨["self","token","sign","name"],2,[],[.ite (.cmp .Eq (.attr (.l 1) 11) (.c (.s [40]))) [.ex (.meth (.attr (.l 0) 27) 29 [(.new 108 [(.c (.s [108,105,115,116])),(.attr (.l 1) 18),(.lst [])])]),.ret (.c (.b aC))] [],.ite (.cmp .Eq (.attr (.l 1) 11) (.c (.s [35,40]))) [.ex (.meth (.attr (.l 0) 27) 29 [(.new 108 [(.c (.s [118,101,99,116,111,114])),(.attr (.l 1) 18),(.lst [])])]),.ret (.c (.b aC))] [],.for_ [2,3] 0 [(.g 94)] [.ite (.cmp .Eq (.l 2) (.attr (.l 1) 11)) [.ex (.meth (.attr (.l 0) 27) 29 [(.new 108 [(.c (.s [113,117,111,116,97,116,105,111,110])),(.attr (.l 1) 18),(.lst [(.meth (.attr (.l 0) 26) 6 [(.l 3)])])])]),.ret (.c (.b aC))] []],.ret (.c (.b aG))],[]⟩
noncomputable abbrev SU:MF:=⟨["self","token","frame"],2,[],[.ite (.cmpNil .Eq (.attr (.l 0) 27)) [.dead] [],.asg (.l 2) (.idx (.attr (.l 0) 27) (.neg 1)),.ite (.bool .Or [(.cmp .NotEq (.attr (.l 2) 11) (.c (.s [108,105,115,116]))),(.cmpNil .Eq (.attr (.l 2) 10)),(.cmp .NotEq (.attr (.l 2) 23) (.g 105))]) [.dead] [],.asg (.attr (.l 2) 23) (.g 106)],[]⟩
noncomputable abbrev KP:MF:=⟨["self","token","frame"],2,[],[.ite (.cmpNil .Eq (.attr (.l 0) 27)) [.dead] [],.asg (.l 2) (.idx (.attr (.l 0) 27) (.neg 1)),.ite (.cmp .Eq (.attr (.l 2) 11) (.c (.s [113,117,111,116,97,116,105,111,110]))) [.dead] [],.ite (.cmp .Eq (.attr (.l 2) 23) (.g 106)) [.dead] [],.ex (.meth (.attr (.l 0) 27) 30 []),.ite (.cmp .Eq (.attr (.l 2) 11) (.c (.s [118,101,99,116,111,114]))) [.ret (.new 10 [(.attr (.l 2) 10)])] [],.ret (.call 17 [(.attr (.l 2) 10),(.attr (.l 2) 24)] [])],[]⟩
noncomputable abbrev YJ:MF:=⟨["self","token"],2,[],[.ret (.ite (.cmp .Eq (.attr (.l 1) 11) (.c (.s [115,121,109,98,111,108]))) (.meth (.attr (.l 0) 26) 6 [(.attr (.l 1) 17)]) (.attr (.l 1) 17))],[]⟩
noncomputable abbrev KU:MF:=⟨["self","datum","start","found","at","frame"],3,[],[.asg (.l 3) (.l 1),.asg (.l 4) (.bi 0 [(.attr (.l 0) 27)]),.whl (.bool .And [(.cmp .Gt (.l 4) (.c (.i 0))),(.cmp .Eq (.attr (.idx (.attr (.l 0) 27) (.bin .Sub (.l 4) (.c (.i 1)))) 11) (.c (.s [113,117,111,116,97,116,105,111,110])))]) [.asg (.l 4) (.bin .Sub (.l 4) (.c (.i 1)))],.ite (.cmp .Eq (.l 4) (.c (.i 0))) [.ret (.c (.b aC))] [],.whl (.cmp .Gt (.bi 0 [(.attr (.l 0) 27)]) (.l 4)) [.asg (.l 3) (.meth (.l 0) 22 [(.l 3)])],.asg (.l 5) (.idx (.attr (.l 0) 27) (.neg 1)),.ite (.cmp .Eq (.attr (.l 5) 23) (.g 107)) [.dead] [],.ite (.cmp .Eq (.attr (.l 5) 23) (.g 106)) [.asg (.attr (.l 5) 24) (.l 3),.asg (.attr (.l 5) 23) (.g 107)] [.ex (.meth (.attr (.l 5) 10) 29 [(.l 3)])],.ret (.c (.b aG))],[]⟩
noncomputable abbrev Bu:MF:=⟨["text","table","precision","is_folded","reader","found","datum"],4,[.int 53,.bool aC],[.asg (.l 4) (.new 109 [(.l 0),(.l 1),(.l 2),(.l 3)]),.asg (.l 5) (.lst []),.whl (.c (.b aC)) [.asg (.l 6) (.meth (.l 4) 23 []),.ite (.cmp .Is (.l 6) (.g 4)) [.ret (.l 5)] [],.ex (.meth (.l 5) 29 [(.l 6)])]],[]⟩
noncomputable abbrev rj:MF:=⟨["datum","table","sign","name","known"],2,[],[.ite (.bool .Or [(.not (.isin (.l 0) [7] aG)),(.not (.isin (.attr (.l 0) 6) [7] aG)),(.cmp .IsNot (.attr (.attr (.l 0) 6) 6) (.g 3))]) [.ret (.c .nil)] [],.for_ [2,3] 0 [(.g 94)] [.asg (.l 4) (.meth (.l 1) 7 [(.l 3)]),.ite (.bool .And [(.cmp .IsNot (.l 4) (.c .nil)),(.cmp .Is (.attr (.l 0) 5) (.l 4))]) [.ret (.l 2)] []],.ret (.c .nil)],[]⟩
noncomputable abbrev Dc:MF:=⟨["code","name"],1,[],[.asg (.l 1) (.call 102 [(.bi 2 [(.l 0)])] []),.ret (.bin .Add (.c (.s [35,92])) (.ite (.cmp .Is (.l 1) (.c .nil)) (.bi 2 [(.l 0)]) (.l 1)))],[]⟩
noncomputable abbrev Cp:MF:=⟨["text","found","letter"],1,[],[.asg (.l 1) (.lst [(.c (.s [34]))]),.for_ [2] 0 [(.call 16 [(.l 0)] [])] [.ite (.bool .Or [(.cmp .Eq (.l 2) (.c (.s [34]))),(.cmp .Eq (.l 2) (.c (.s [92])))]) [.ex (.meth (.l 1) 29 [(.c (.s [92]))])] [],.ex (.meth (.l 1) 29 [(.l 2)])],.ex (.meth (.l 1) 29 [(.c (.s [34]))]),.ret (.meth (.c (.s [])) 25 [(.l 1)])],[]⟩
noncomputable abbrev Eh:MF:=⟨["datum"],1,[],[.ite (.isin (.l 0) [2] aG) [.dead] [],.ite (.isin (.l 0) [14] aG) [.dead] [],.ite (.isin (.l 0) [12] aG) [.ret (.c (.s [35,60,112,114,111,109,105,115,101,62]))] [],.ite (.isin (.l 0) [11] aG) [.ret (.c (.s [35,60,98,111,120,62]))] [],.ret (.ite (.isin (.l 0) [13] aG) .dead (.c .nil))],[]⟩
noncomputable abbrev Ct:MF:=⟨["self","is_written","precision","radix","limit","table"],6,[],[.asg (.attr (.l 0) 28) (.l 1),.asg (.attr (.l 0) 20) (.l 2),.asg (.attr (.l 0) 29) (.l 3),.asg (.attr (.l 0) 13) (.l 4),.asg (.attr (.l 0) 26) (.l 5),.asg (.attr (.l 0) 30) (.lst []),.asg (.attr (.l 0) 31) (.c (.i 0)),.asg (.attr (.l 0) 32) (.lst [])],[]⟩
noncomputable abbrev PQ:MF:=⟨["self","datum","word","thing"],2,[],[.ex (.meth (.attr (.l 0) 32) 29 [(.tup [(.g 114),(.l 1)])]),.whl (.cmpNil .NotEq (.attr (.l 0) 32)) [.asg (.ls [2,3]) (.meth (.attr (.l 0) 32) 30 []),.ite (.cmp .Eq (.l 2) (.g 113)) [.ex (.meth (.l 0) 0 [(.l 3)])] [.ite (.cmp .Eq (.l 2) (.g 114)) [.ex (.meth (.l 0) 3 [(.l 3)])] [.ex (.meth (.l 0) 4 [(.l 3)])]]],.ret (.meth (.c (.s [])) 25 [(.attr (.l 0) 30)])],[]⟩
noncomputable abbrev YG:MF:=⟨["self","piece"],2,[],[.ex (.meth (.attr (.l 0) 30) 29 [(.l 1)]),.asg (.attr (.l 0) 31) (.bin .Add (.attr (.l 0) 31) (.bi 0 [(.l 1)])),.ite (.bool .And [(.cmp .IsNot (.attr (.l 0) 13) (.c .nil)),(.cmp .Gt (.attr (.l 0) 31) (.attr (.l 0) 13))]) [.raiseLim (.attr (.l 0) 13)] []],[]⟩
noncomputable abbrev QN:MF:=⟨["self","thing","place"],2,[],[.ite (.isin (.l 1) [7] aG) [.ex (.meth (.l 0) 2 [(.l 1)])] [.ite (.isin (.l 1) [10] aG) [.ex (.meth (.l 0) 0 [(.c (.s [35,40]))]),.ex (.meth (.attr (.l 0) 32) 29 [(.tup [(.g 113),(.c (.s [41]))])]),.for_ [2] 3 [(.bin .Sub (.bi 0 [(.attr (.l 1) 10)]) (.c (.i 1))),(.neg 1),(.neg 1)] [.ex (.meth (.attr (.l 0) 32) 29 [(.tup [(.g 114),(.idx (.attr (.l 1) 10) (.l 2))])]),.ite (.cmp .Gt (.l 2) (.c (.i 0))) [.ex (.meth (.attr (.l 0) 32) 29 [(.tup [(.g 113),(.c (.s [32]))])])] []]] [.ex (.meth (.l 0) 0 [(.meth (.l 0) 1 [(.l 1)])])]]],[]⟩
noncomputable abbrev PF:MF:=⟨["self","thing","sign"],2,[],[.asg (.l 2) (.ite (.cmp .Is (.attr (.l 0) 26) (.c .nil)) (.c .nil) (.call 111 [(.l 1),(.attr (.l 0) 26)] [])),.ite (.cmp .IsNot (.l 2) (.c .nil)) [.ex (.meth (.l 0) 0 [(.l 2)]),.ex (.meth (.attr (.l 0) 32) 29 [(.tup [(.g 114),(.attr (.attr (.l 1) 6) 5)])]),.ret .no] [],.ex (.meth (.l 0) 0 [(.c (.s [40]))]),.ex (.meth (.attr (.l 0) 32) 29 [(.tup [(.g 115),(.attr (.l 1) 6)])]),.ex (.meth (.attr (.l 0) 32) 29 [(.tup [(.g 114),(.attr (.l 1) 5)])])],[]⟩
noncomputable abbrev OX:MF:=⟨["self","thing"],2,[],[.ite (.cmp .Is (.l 1) (.g 3)) [.ex (.meth (.l 0) 0 [(.c (.s [41]))])] [.ite (.isin (.l 1) [7] aG) [.ex (.meth (.l 0) 0 [(.c (.s [32]))]),.ex (.meth (.attr (.l 0) 32) 29 [(.tup [(.g 115),(.attr (.l 1) 6)])]),.ex (.meth (.attr (.l 0) 32) 29 [(.tup [(.g 114),(.attr (.l 1) 5)])])] [.ex (.meth (.l 0) 0 [(.c (.s [32,46,32]))]),.ex (.meth (.attr (.l 0) 32) 29 [(.tup [(.g 113),(.c (.s [41]))])]),.ex (.meth (.attr (.l 0) 32) 29 [(.tup [(.g 114),(.l 1)])])]]],[]⟩
noncomputable abbrev WK:MF:=⟨["self","thing","found"],2,[],[.ite (.call 18 [(.l 1)] []) [.ret (.ite (.l 1) (.c (.s [35,116])) (.c (.s [35,102])))] [],.ite (.cmp .Is (.l 1) (.g 3)) [.ret (.c (.s [40,41]))] [],.ite (.isin (.l 1) [5] aG) [.ret (.attr (.l 1) 2)] [],.ite (.isin (.l 1) [9] aG) [.ret (.ite (.attr (.l 0) 28) (.call 117 [(.l 1)] []) (.call 16 [(.l 1)] []))] [],.ite (.isin (.l 1) [8] aG) [.ret (.ite (.attr (.l 0) 28) (.call 116 [(.attr (.l 1) 8)] []) (.bi 2 [(.attr (.l 1) 8)]))] [],.asg (.l 2) (.call 118 [(.l 1)] []),.ret (.ite (.cmp .Is (.l 2) (.c .nil)) (.call 66 [(.attr (.l 0) 20),(.l 1),(.attr (.l 0) 29)] []) (.l 2))],[]⟩
noncomputable abbrev IN:MF:=⟨["datum","precision","radix","limit","table"],5,[.int 53,.int 10,.none,.none],[.ret (.meth (.new 119 [(.c (.b aC)),(.l 1),(.l 2),(.l 3),(.l 4)]) 5 [(.l 0)])],[((1,[3,4]),[(aC,0),(aG,0),(aG,1),(aC,1),(aC,2)]),((1,[4]),[(aC,0),(aG,0),(aG,1),(aG,2),(aC,1)])]⟩
noncomputable abbrev Ee:MF:=⟨["datum","precision","radix","limit"],4,[.int 53,.int 10,.none],[.ret (.meth (.new 119 [(.c (.b aG)),(.l 1),(.l 2),(.l 3),(.c .nil)]) 5 [(.l 0)])],[]⟩
noncomputable abbrev Bm:MF:=⟨["script","cells"],1,[],[.asg (.l 1) (.comp ["cell"] [] 0 [(.slc (.l 0) .no (.c (.i 24)))] (.bin .Mod (.bi 3 [(.l 0)]) (.bin .Pow (.c (.i 10)) (.c (.i 90)))) []),.ret (.lst [(.comp ["cell"] [] 0 [(.l 1)] (.l 0) [(.cmp .GtE (.l 0) (.bin .Pow (.c (.i 10)) (.c (.i 18))))]),(.bin .Add (.bi 0 [(.l 1)]) (.bi 4 [(.l 1)])),(.c (.i 0))])],[]⟩
noncomputable abbrev Du:MF:=⟨["deck","many","rest","mixed"],2,[],[.ite (.cmpNil .NotEq (.idx (.l 0) (.c (.i 0)))) [.asg (.l 2) (.idx (.idx (.l 0) (.c (.i 0))) (.c (.i 0))),.asg (.sub (.idx (.l 0) (.c (.i 0))) (.c (.i 0))) (.bin .FloorDiv (.l 2) (.l 1)),.ite (.cmp .Eq (.idx (.idx (.l 0) (.c (.i 0))) (.c (.i 0))) (.c (.i 0))) [.ex (.meth (.idx (.l 0) (.c (.i 0))) 30 [(.c (.i 0))])] [],.ret (.bin .Mod (.l 2) (.l 1))] [],.asg (.sub (.l 0) (.c (.i 2))) (.bin .Add (.idx (.l 0) (.c (.i 2))) (.c (.i 1))),.asg (.l 3) (.bin .Mod (.bin .Add (.bin .Mod (.idx (.l 0) (.c (.i 1))) (.c (.i 4294966297))) (.bin .Mult (.c (.i 1640531527)) (.idx (.l 0) (.c (.i 2))))) (.c (.i 4294966297))),.asg (.l 3) (.bin .Mod (.bin .Add (.bin .Mult (.l 3) (.l 3)) (.bin .Mult (.c (.i 122949823)) (.idx (.l 0) (.c (.i 2))))) (.c (.i 4294966237))),.ret (.bin .Mod (.bin .FloorDiv (.bin .Mod (.bin .Mult (.l 3) (.l 3)) (.c (.i 4294966187))) (.c (.i 1024))) (.l 1))],[]⟩
noncomputable abbrev Bo:MF:=⟨["script","least","most","many","size"],3,[],[.asg (.ls [3,4]) (.tup [(.l 1),(.bi 4 [(.comp ["cell"] [] 0 [(.slc (.l 0) .no (.c (.i 24)))] (.bi 3 [(.l 0)]) [])])]),.whl (.bool .And [(.cmp .Lt (.l 3) (.l 2)),(.cmp .Gt (.l 4) (.c (.i 1000)))]) [.asg (.ls [3,4]) (.tup [(.bin .Add (.l 3) (.c (.i 1))),(.bin .FloorDiv (.l 4) (.c (.i 1000)))])],.ret (.l 3)],[]⟩
noncomputable abbrev Df:MF:=⟨["deck"],1,[],[.ite (.cmp .Eq (.call 124 [(.l 0),(.c (.i 2))] []) (.c (.i 0))) [.ret (.idx (.lst [(.c (.i 34)),(.c (.i 92)),(.c (.i 40)),(.c (.i 41)),(.c (.i 59)),(.c (.i 32)),(.c (.i 10)),(.c (.i 9)),(.c (.i 13)),(.c (.i 35)),(.c (.i 39)),(.c (.i 124))]) (.call 124 [(.l 0),(.c (.i 12))] []))] [],.ret (.call 124 [(.l 0),(.c (.i 301))] [])],[]⟩
noncomputable abbrev u7:MF:=⟨["deck","deep","way","items"],2,[],[.asg (.l 2) (.ite (.cmp .Gt (.l 1) (.c (.i 0))) (.call 124 [(.l 0),(.c (.i 10))] []) (.call 124 [(.l 0),(.c (.i 6))] [])),.ite (.cmp .Eq (.l 2) (.c (.i 0))) [.ret (.tup [(.c (.s [99,104,97,114])),(.call 126 [(.l 0)] [])])] [],.ite (.cmp .Lt (.l 2) (.c (.i 3))) [.ret (.tup [(.c (.s [115,116,114,105,110,103])),(.comp ["nth"] [0] 1 [(.call 124 [(.l 0),(.c (.i 6))] [])] (.call 126 [(.l 1)] []) [])])] [],.ite (.cmp .Eq (.l 2) (.c (.i 3))) [.ret (.tup [(.c (.s [110,117,109,98,101,114])),(.bin .Sub (.call 124 [(.l 0),(.c (.i 2001))] []) (.c (.i 1000)))])] [],.ite (.cmp .Eq (.l 2) (.c (.i 4))) [.ret (.tup [(.c (.s [116,114,117,116,104])),(.cmp .Eq (.call 124 [(.l 0),(.c (.i 2))] []) (.c (.i 1)))])] [],.ite (.cmp .Eq (.l 2) (.c (.i 5))) [.ret (.tup [(.c (.s [115,121,109,98,111,108])),(.idx (.lst [(.c (.s [97])),(.c (.s [43])),(.c (.s [46,46,46])),(.c (.s [120,45,62,121,33])),(.c (.s [45]))]) (.call 124 [(.l 0),(.c (.i 5))] []))])] [],.asg (.l 3) (.comp ["nth"] [0,1] 1 [(.call 124 [(.l 0),(.ite (.cmp .Gt (.l 2) (.c (.i 7))) (.c (.i 6)) (.c (.i 4)))] [])] (.call 127 [(.l 1),(.bin .Sub (.l 2) (.c (.i 1)))] []) []),.ite (.cmp .Gt (.l 2) (.c (.i 7))) [.ret (.tup [(.c (.s [118,101,99,116,111,114])),(.l 3)])] [],.ret (.tup [(.ite (.bool .And [(.cmp .Eq (.l 2) (.c (.i 7))),(.cmpNil .NotEq (.l 3))]) (.c (.s [100,111,116,116,101,100])) (.c (.s [108,105,115,116]))),(.l 3)])],[]⟩
noncomputable abbrev G7:MF:=⟨["codes","is_written"],2,[],[.ite (.not (.l 1)) [.ret (.meth (.c (.s [])) 25 [(.comp ["code"] [] 0 [(.l 0)] (.bi 2 [(.l 0)]) [])])] [],.ret (.bin .Add (.bin .Add (.c (.s [34])) (.meth (.c (.s [])) 25 [(.comp ["code"] [] 0 [(.l 0)] (.bin .Add (.ite (.cmp .In (.l 0) (.tup [(.c (.i 34)),(.c (.i 92))])) (.c (.s [92])) (.c (.s []))) (.bi 2 [(.l 0)])) [])])) (.c (.s [34])))],[]⟩
noncomputable abbrev pq:MF:=⟨["tree","is_written","word","what","parts"],2,[],[.asg (.ls [2,3]) (.l 0),.ite (.cmp .Eq (.l 2) (.c (.s [99,104,97,114]))) [.ret (.ite (.l 1) (.bin .Add (.c (.s [35,92])) (.pick [(32,[115,112,97,99,101]),(10,[110,101,119,108,105,110,101])] (.l 3) (.bi 2 [(.l 3)]))) (.bi 2 [(.l 3)]))] [],.ite (.cmp .Eq (.l 2) (.c (.s [115,116,114,105,110,103]))) [.ret (.call 128 [(.l 3),(.l 1)] [])] [],.ite (.cmp .Eq (.l 2) (.c (.s [116,114,117,116,104]))) [.ret (.ite (.l 3) (.c (.s [35,116])) (.c (.s [35,102])))] [],.ite (.cmp .In (.l 2) (.tup [(.c (.s [110,117,109,98,101,114])),(.c (.s [115,121,109,98,111,108]))])) [.ret (.bi 5 [(.l 3)])] [],.asg (.l 4) (.comp ["part"] [1] 0 [(.l 3)] (.call 129 [(.l 0),(.l 1)] []) []),.ite (.cmp .Eq (.l 2) (.c (.s [118,101,99,116,111,114]))) [.ret (.bin .Add (.bin .Add (.c (.s [35,40])) (.meth (.c (.s [32])) 25 [(.l 4)])) (.c (.s [41])))] [],.ret (.bin .Add (.bin .Add (.c (.s [40])) (.meth (.c (.s [32])) 25 [(.l 4)])) (.ite (.cmp .Eq (.l 2) (.c (.s [100,111,116,116,101,100]))) (.c (.s [32,46,32,53,41])) (.c (.s [41]))))],[]⟩
noncomputable abbrev iy:MF:=⟨["tree","table","word","what","things"],2,[],[.asg (.ls [2,3]) (.l 0),.ite (.cmp .Eq (.l 2) (.c (.s [99,104,97,114]))) [.ret (.new 8 [(.l 3)])] [],.ite (.cmp .Eq (.l 2) (.c (.s [115,116,114,105,110,103]))) [.ret (.new 9 [(.bi 6 [(.l 3)])])] [],.ite (.cmp .In (.l 2) (.tup [(.c (.s [116,114,117,116,104])),(.c (.s [110,117,109,98,101,114]))])) [.ret (.l 3)] [],.ite (.cmp .Eq (.l 2) (.c (.s [115,121,109,98,111,108]))) [.ret (.meth (.l 1) 6 [(.l 3)])] [],.asg (.l 4) (.comp ["part"] [1] 0 [(.l 3)] (.call 130 [(.l 0),(.l 1)] []) []),.ite (.cmp .Eq (.l 2) (.c (.s [118,101,99,116,111,114]))) [.ret (.new 10 [(.l 4)])] [],.ret (.call 17 [(.l 4),(.ite (.cmp .Eq (.l 2) (.c (.s [100,111,116,116,101,100]))) (.c (.i 5)) (.g 3))] [])],[]⟩
noncomputable abbrev OL:MF:=⟨["datum"],1,[],[.ite (.isin (.l 0) [200] aG) [.ret (.tup [(.c (.s [116,114,117,116,104])),(.l 0)])] [],.ite (.isin (.l 0) [201] aG) [.ret (.tup [(.c (.s [110,117,109,98,101,114])),(.l 0)])] [],.ite (.isin (.l 0) [8] aG) [.ret (.tup [(.c (.s [99,104,97,114])),(.attr (.l 0) 8)])] [],.ite (.isin (.l 0) [9] aG) [.ret (.tup [(.c (.s [115,116,114,105,110,103])),(.bi 6 [(.attr (.l 0) 9)])])] [],.ret (.ite (.cmp .Is (.l 0) (.g 3)) (.tup [(.c (.s [101,109,112,116,121])),(.c (.i 0))]) (.tup [(.c (.s [115,121,109,98,111,108])),(.attr (.l 0) 1)]))],[]⟩
noncomputable abbrev F6:MF:=⟨["one","other","waiting","left","right"],2,[],[.asg (.l 2) (.lst [(.tup [(.l 0),(.l 1)])]),.whl (.cmpNil .NotEq (.l 2)) [.asg (.ls [3,4]) (.meth (.l 2) 30 []),.ite (.bool .And [(.isin (.l 3) [7] aG),(.isin (.l 4) [7] aG)]) [.ex (.meth (.l 2) 29 [(.tup [(.attr (.l 3) 6),(.attr (.l 4) 6)])]),.ex (.meth (.l 2) 29 [(.tup [(.attr (.l 3) 5),(.attr (.l 4) 5)])])] [.ite (.bool .And [(.isin (.l 3) [10] aG),(.isin (.l 4) [10] aG)]) [.ite (.cmp .NotEq (.bi 0 [(.attr (.l 3) 10)]) (.bi 0 [(.attr (.l 4) 10)])) [.ret (.c (.b aG))] [],.ex (.meth (.l 2) 31 [(.lzip (.attr (.l 3) 10) (.attr (.l 4) 10))])] [.ite (.bool .Or [(.isin (.l 3) [7,10] aC),(.isin (.l 4) [7,10] aC)]) [.ret (.c (.b aG))] [.ite (.cmp .NotEq (.call 131 [(.l 3)] []) (.call 131 [(.l 4)] [])) [.ret (.c (.b aG))] []]]]],.ret (.c (.b aC))],[]⟩
noncomputable abbrev Fq:MF:=⟨["datum","text","sorts","is_vector"],3,[],[.for_ [3] 0 [(.l 2)] [.asg (.l 0) (.ite (.l 3) (.new 10 [(.lst [(.l 0)])]) (.new 7 [(.l 0),(.g 3)])),.asg (.l 1) (.bin .Add (.bin .Add (.ite (.l 3) (.c (.s [35,40])) (.c (.s [40]))) (.l 1)) (.c (.s [41])))],.ret (.tup [(.l 0),(.l 1)])],[]⟩
noncomputable abbrev xw:MF:=⟨["datum","limit","table"],3,[],[.tryLim (.call 120 [(.l 0),(.l 1),(.l 2)] [3,4])],[]⟩
noncomputable abbrev og:MF:=⟨["datum","text","table","by_signs","known","back"],4,[],[.asg (.l 4) (.ite (.l 3) (.l 2) (.c .nil)),.ite (.cmp .NotEq (.call 120 [(.l 0),(.l 4)] [4]) (.l 1)) [.ret (.c (.b aG))] [],.ite (.cmp .NotEq (.lst [(.call 134 [(.l 0),(.bi 0 [(.l 1)]),(.l 4)] []),(.call 134 [(.l 0),(.bin .Sub (.bi 0 [(.l 1)]) (.c (.i 1))),(.l 4)] [])]) (.lst [(.l 1),(.bin .Sub (.bi 0 [(.l 1)]) (.c (.i 1)))])) [.ret (.c (.b aG))] [],.asg (.l 5) (.call 110 [(.l 1),(.l 2)] []),.ret (.bool .And [(.cmp .Eq (.bi 0 [(.l 5)]) (.c (.i 1))),(.call 132 [(.idx (.l 5) (.c (.i 0))),(.l 0)] [])])],[]⟩
noncomputable abbrev Ew:MF:=⟨["deck","datum","text","table","marks","nth","mark","name"],4,[],[.asg (.l 4) (.lst [(.tup [(.c (.s [39])),(.c (.s [113,117,111,116,101]))]),(.tup [(.c (.s [96])),(.c (.s [113,117,97,115,105,113,117,111,116,101]))]),(.tup [(.c (.s [44])),(.c (.s [117,110,113,117,111,116,101]))]),(.tup [(.c (.s [44,64])),(.c (.s [117,110,113,117,111,116,101,45,115,112,108,105,99,105,110,103]))])]),.for_ [5] 1 [(.bin .Add (.c (.i 1)) (.call 124 [(.l 0),(.c (.i 3))] []))] [.asg (.ls [6,7]) (.idx (.l 4) (.call 124 [(.l 0),(.c (.i 4))] [])),.asg (.ls [1,2]) (.tup [(.call 17 [(.lst [(.meth (.l 3) 6 [(.l 7)]),(.l 1)])] []),(.bin .Add (.l 6) (.l 2))])],.ret (.tup [(.l 1),(.l 2)])],[]⟩
noncomputable abbrev Bw:MF:=⟨["deck","table","ring","limit"],2,[],[.asg (.ls [2,3]) (.tup [(.new 7 [(.c (.i 7)),(.g 3)]),(.call 124 [(.l 0),(.c (.i 40))] [])]),.asg (.attr (.l 2) 6) (.l 2),.ret (.cmp .Eq (.lst [(.call 134 [(.l 2),(.l 3),(.c .nil)] []),(.call 134 [(.l 2),(.l 3),(.l 1)] [])]) (.lst [(.l 3),(.l 3)]))],[]⟩
noncomputable abbrev Dt:MF:=⟨["script","deck","table","nth","tree","many","sorts","datum","text","way"],1,[],[.asg (.ls [1,2]) (.tup [(.call 123 [(.l 0)] []),(.new 6 [])]),.for_ [3] 1 [(.call 125 [(.l 0),(.c (.i 1)),(.c (.i 3))] [])] [.asg (.l 4) (.call 127 [(.l 1),(.c (.i 2))] []),.asg (.l 5) (.ite (.cmp .Eq (.call 124 [(.l 1),(.c (.i 5))] []) (.c (.i 4))) (.bin .Add (.c (.i 20)) (.call 124 [(.l 1),(.c (.i 30))] [])) (.c (.i 0))),.asg (.l 6) (.comp ["step"] [1] 1 [(.l 5)] (.cmp .Eq (.call 124 [(.l 1),(.c (.i 3))] []) (.c (.i 0))) []),.asg (.ls [7,8]) (.call 133 [(.call 130 [(.l 4),(.l 2)] []),(.call 129 [(.l 4),(.c (.b aC))] []),(.l 6)] []),.asg (.l 9) (.call 124 [(.l 1),(.c (.i 3))] []),.ite (.cmp .Eq (.l 9) (.c (.i 2))) [.asg (.ls [7,8]) (.call 136 [(.l 1),(.l 7),(.l 8),(.l 2)] [])] [],.ite (.not (.call 135 [(.l 7),(.l 8),(.l 2),(.cmp .Gt (.l 9) (.c (.i 0)))] [])) [.ret (.c (.b aG))] [],.ite (.cmp .NotEq (.call 121 [(.call 130 [(.l 4),(.l 2)] [])] []) (.call 129 [(.l 4),(.c (.b aG))] [])) [.ret (.c (.b aG))] []],.ret (.call 137 [(.l 1),(.l 2)] [])],[]⟩
noncomputable def Hk:List (Nat×Nat×MF):=[(15,305,Lp),(16,310,Kv),(17,318,Ls),(18,325,Lg),(28,449,Ky),(44,568,Ll),(45,575,L5),(46,582,Lu),(55,590,Kt),(56,597,Kp),(57,604,Ks),(58,611,La),(66,717,Lz),(67,724,Le),(68,729,Lf),(69,736,L8),(71,764,Lb),(75,790,L9),(78,811,Kz),(79,818,Kr),(80,825,Ko),(81,833,L6),(96,870,Lw),(97,877,Kw),(98,884,Ku),(99,891,Lc),(100,898,Di),(101,905,Dv),(102,912,Do),(110,1118,Bu),(111,1125,rj),(116,1132,Dc),(117,1139,Cp),(118,1146,Eh),(120,1217,IN),(121,1225,Ee),(123,1230,Bm),(124,1237,Du),(125,1242,Bo),(126,1249,Df),(127,1254,u7),(128,1259,G7),(129,1264,pq),(130,1269,iy),(131,1276,OL),(132,1283,F6),(133,1290,Fq),(134,1297,xw),(135,1304,og),(136,1311,Ew),(137,1318,Bw),(138,1323,Dt)]
noncomputable def E9:List (Nat×Nat×MF):=[(5,62,I5),(6,83,I6),(7,146,I7),(8,167,I8),(9,188,I9),(10,209,Gm),(70,750,Lq),(95,856,Ia),(103,927,Bt),(108,1018,qp),(109,1040,Ge),(119,1160,Ct)]
noncomputable def Cd:List ((Nat×Nat)×Nat×MF):=[((128,6),90,ue),((128,7),111,Dr),((1000,9),934,d8),((1000,8),948,PT),((1000,10),955,RJ),((1000,11),962,RX),((1000,15),969,SR),((1000,16),976,SW),((1000,13),983,SI),((1000,14),990,RS),((1000,12),997,SK),((1106,23),1054,KN),((1106,21),1061,SH),((1106,22),1068,RE),((1106,17),1075,GG),((1106,18),1082,SU),((1106,19),1089,KP),((1106,1),1096,YJ),((1106,20),1103,KU),((1205,5),1167,PQ),((1205,0),1174,YG),((1205,3),1181,QN),((1205,2),1188,PF),((1205,4),1195,OX),((1205,1),1202,WK)]
noncomputable def TB:i6:=⟨λ f=>(Hk.find? λ e=>cB e.1 f).map λ e=>e.2.2,λ f=>(E9.find? λ e=>cB e.1 f).map λ e=>e.2.2,λ C m=>(Cd.find? λ e=>cB e.1.1 C&&cB e.1.2 m).map λ e=>e.2.2⟩
noncomputable def KK(P:cQ)(lo:gV):IK:=K0 P++[(1324,lo)]
noncomputable def RR(w:cK)(lo:gV):iK:={K:=KK w.params lo,N0:=⟨1325,pw,w⟩,mG:=(hk w.params).nsMap dG,mB:=(hk w.params).nsMap pW,gA:=3,bA:=0,TL:=400}
structure j9(lo:gV)(L:List MV):Prop where
 cls:lo.cls=.type "list"data:∃vs n,lo.data=.seq vs n/\(∀h,dK h L vs.toList)/\L.length<=jG
noncomputable def MD:aH->Bool
 |.type n=>!(n=="frame")|_=>aC
theorem LO{v:aH}(h:MD v=aC):v≠.type "frame":=by
 rintro rfl;exact absurd h (by decide)
theorem ji(P:cQ):(K0 P).all (λ e=>gE e.1 1324&&MD e.2.cls)=aC:=by kernel_rfl
theorem P7(P:cQ)(lo:gV):((KK P lo).lookup 0=(hk P).get? 0/\(KK P lo).lookup 2=(hk P).get? 2)/\(KK P lo).lookup 3=(hk P).get? 3:=⟨⟨rfl,rfl⟩,rfl⟩
theorem Jc(P:cQ):(hk P).get? 0=aA (sL P)/\(hk P).get? 2=aA (o2 P 139)/\(hk P).get? 3=aA (gl P 139):=⟨rfl,rfl,rfl⟩
theorem YN(P:cQ):((hk P).isNs yV=aC)/\(hk P).nsMap yV "sys.recursionlimit"=aB:=⟨by kernel_rfl,by kernel_rfl⟩
theorem mem_of_lookup{l:List (Nat×gV)}{a:Nat}{o:gV}(h:l.lookup a=aA o):(a,o)∈l:=by induction l with
 |nil=>cases h|cons p l c=>
 obtain⟨b,x⟩:=p;rw[cM]at h;split at h;·rename_i e;rw[bC e,<-bH h];exact aW ..
 ·exact aV _ (c h)
theorem XU{P:cQ}{lo:gV}{h:bG}(X:IK.In (KK P lo) h):(h.get? 0=(hk P).get? 0/\h.get? 2=(hk P).get? 2)/\h.get? 3=(hk P).get? 3:=by
 obtain⟨⟨a,b⟩,c⟩:=P7 P lo;obtain⟨x,y,z⟩:=Jc P;exact⟨⟨(X 0 _ (a.trans x)).trans x.symm,(X 2 _ (b.trans y)).trans y.symm⟩,(X 3 _ (c.trans z)).trans z.symm⟩
theorem ZA{h:bG}{a:Nat}{P:cQ}(n:(hk P).isNs a=aC)(e:h.get? a=(hk P).get? a):h.Ns a ((hk P).nsMap a):=by
 rw[<-xD e];exact GF ((uZ e).trans n)
section
variable(w:World){lo:Obj}{L:List MV}(b:j9 lo L)
include b
theorem xg:cR (RR w lo):=by
 obtain⟨g,c⟩:=dC.mp (RN w.params);refine⟨λ a o e=>?_,λ h X=>ZA g (XU X).2,λ h X=>ZA c (XU X).1.1,λ h X=>⟨_,ZA (YN w.params).1 (XU X).1.2,(YN w.params).2⟩⟩;rcases List.mem_append.mp (mem_of_lookup e)with m|m
 ·obtain⟨d,f⟩:=dC.mp (List.all_eq_true.mp (ji w.params) _ m);exact⟨lR (aO d),LO f⟩
 ·obtain⟨rfl,rfl⟩:=dU (List.mem_singleton.mp m);exact⟨iQ _,by rw[b.cls];intro z;injection z with z;exact absurd z (by decide)⟩
end
/-! the values of the names -/
noncomputable def PR(o:gV):Option (Array aH):=match o.cls with
 |.type n=>(match o.data with
 |.seq Z _=>if(n=="tuple")=aC then aA Z else aB|_=>aB)|_=>aB
theorem PV{o:gV}{Z:Array aH}(h:PR o=aA Z):o.cls=.type "tuple"/\∃n,o.data=.seq Z n:=by
 obtain⟨c,d,a,j⟩:=o;cases c with
 |type n=>cases a with
  |seq t m=>
 replace h:(if(n=="tuple")=aC then aA t else aB)=aA Z:=h;obtain⟨c,h⟩:=gZ h;exact⟨by rw[bC c],m,by rw[h]⟩|_=>exact on1 h
 |_=>exact on1 h
mutual noncomputable def Go(K:IK):MV->aH->Bool
 |.none,v=>(match v with|.none=>aC|_=>aG)|.bool b,v=>(match v with|.bool c=>b==c|_=>aG)|.int i,v=>(match v with|.int j _=>i==j|_=>aG)|.str s,v=>(match v with|.str x _=>x.cps==s.toArray&&iL s.length aX|_=>aG)|.ref _,_=>aG|.cst a,v=>(match v with|.ref b=>cB a b|_=>aG)|.tup l,v=>(match v with
 |.ref b=>((K.lookup b).bind PR).any λ Z=>iL l.length aX&&ek K l Z.toList|_=>aG)noncomputable def ek(K:IK):List MV->List aH->Bool
 |[],Z=>Z.isEmpty|m::k,Z=>(match Z with
 |[]=>aG|v::r=>Go K m v&&ek K k r)end
mutual theorem XT{K:IK}{h:bG}(X:K.In h):∀(m:MV)(v:aH),Go K m v=aC->VR h m v
 |.none,v,e=>by cases v<;>first|rfl|cases e
 |.bool b,v,e=>by
  delta VR;cases v with
  |bool c=>rw[bC e]|_=>cases e
 |.int i,v,e=>by cases v with
  |int j t=>exact⟨t,by rw[bC (show(i==j)=aC from e)]⟩|_=>cases e
 |.str s,v,e=>by cases v with
  |str x t=>exact⟨aO (br e),t,by rw[<-bC (bl e)]⟩|_=>cases e
 |.ref _,v,e=>by cases e|.cst a,v,e=>by
  delta VR;cases v with
  |ref b=>rw[bI (show cB a b=aC from e)]|_=>cases e
 |.tup l,v,e=>by cases v with
 |ref b=>
 obtain⟨Z,q,d⟩:=(BM ..).mp (show(((K.lookup b).bind PR).any λ Z=>iL l.length aX&&ek K l Z.toList)=aC from e);obtain⟨o,n,q⟩:=cA q;obtain⟨g,m,f⟩:=PV q;exact⟨aO (bl d),b,o,Z,m,rfl,X b o n,g,f,RD X l _ (br d)⟩|_=>exact bft e theorem RD{K:IK}{h:bG}(X:K.In h):∀(l:List MV)(Z:List aH),ek K l Z=aC->dK h l Z
 |[],Z,e=>by exact fC.mp e|m::k,Z,e=>by cases Z with
 |nil=>exact bft e|cons v r=>
 replace e:(Go K m v&&ek K k r)=aC:=e;exact dK.cons (XT X m v (bl e)) (RD X k r (br e))end
theorem z0(P:cQ)(lo:gV):Ld.all (λ e=>((hk P).nsMap dG (gn e.1)).any (Go (KK P lo) e.2))=aC:=by kernel_rfl
theorem oo{a:Type}{l:List (Nat×a)}{i:Nat}{x:a}(h:((l.find? λ e=>cB e.1 i).map λ e=>e.2)=aA x):(i,x)∈l:=by
 obtain⟨e,y,K⟩:=bO.mp h;haveI c:=jI y;haveI b:=dD y;rw[<-bI c,<-K];exact b
theorem Br(w:cK)(lo:gV)(L:List MV):Io (RR w lo) (G0 L) gn:=⟨λ i D h=>by
 have :=bE.mp (z0 w.params lo) _ (oo h);cases e:(hk w.params).nsMap dG (gn i)with
 |none=>rw[e]at this;cases this|some v=>rw[e]at this;exact⟨v,e,λ h X=>XT X D v this⟩⟩
section
variable(w:World){lo:Obj}{L:List MV}(d:j9 lo L)
theorem G2:UJ (RR w lo) (G0 L):=⟨λ b h=>by
 rcases eK.mp h with h|h;·rw[bI h];exact⟨_,rfl,by intro z;cases z⟩
 ·rw[bI h];exact⟨_,rfl,by intro z;cases z⟩⟩
noncomputable def Ai(K:IK)(C f:Nat):Bool:=rT K C&&fK K (.ref C) (fn f)==aA aB&&fK K (.ref C) "__getattribute__"==aA (aA (.builtin "object.__getattribute__"))&&fK K (.ref C) "__setattr__"==aA (aA (.builtin "object.__setattr__"))&&plainOver K C
theorem j7(P:cQ)(lo:Obj):Ba.all (λ e=>e.2.all (Ai (KK P lo) e.1))=aC:=by kernel_rfl
theorem UG{a:Type}{l:List (Nat×a)}{i:Nat}{f:a->Bool}(h:((l.find? λ e=>cB e.1 i).map λ e=>f e.2).getD aG=aC):∃x,(i,x)∈l/\f x=aC:=by cases e:l.find? λ e=>cB e.1 i with
 |none=>rw[e]at h;cases h|some p=>
 rw[e]at h;haveI b:=List.find?_some e;exact⟨p.2,by rw[<-bI b];exact List.mem_of_find?_eq_some e,h⟩
theorem Bh:IR (RR w lo) (G0 L):=⟨λ C f h=>by
 obtain⟨x,m,q⟩:=UG (f:=λ(x:List Nat)=>x.any (cB f)) h;obtain⟨g,a,b⟩:=List.any_eq_true.mp q;have c:=List.all_eq_true.mp (List.all_eq_true.mp (j7 w.params lo) _ m) g a;rw[<-bI b]at c;exact⟨bl (bl (bl (bl c))),bC (br (bl (bl (bl c)))),bC (br (bl (bl c))),bC (br (bl c)),br c⟩⟩
include d in theorem Gk:ph (RR w lo) (G0 L):=λ a M h=>by
 obtain⟨c,h⟩:=gZ (show(if cB a 1324=aC then aA L else aB)=aA M from h);obtain⟨Z,n,f,b,e⟩:=d.data;rw[<-h,bI c];refine⟨e,λ h X=>⟨Z,⟨lo,X 1324 lo rfl,d.cls,n,f⟩,b h⟩⟩
noncomputable def DN(P:cQ)(x:bP)(v:aH):Bool:=(hk P).nsMap dG x==aB&&(hk P).nsMap pW x==aA v
theorem zu(P:cQ):((List.range 9).all (λ b=>DN P (Ft b) (bV b))&&(DN P "isinstance" (.builtin "isinstance")&&DN P "range" (.type "range")&&DN P "enumerate" (.type "enumerate")&&DN P "zip" (.type "zip")&&DN P "reversed" (.type "reversed")&&DN P "list" (.type "list")))=aC:=by kernel_rfl
theorem D8:ES (RR w lo):=by
 have c:=zu w.params;have VP:∀{x:bP}{v:aH},DN w.params x v=aC->(RR w lo).mG x=aB/\(RR w lo).mB x=aA v:=λ h=>⟨bC (bl h),bC (br h)⟩;have N:=br c;exact⟨λ b h=>VP (List.all_eq_true.mp (bl c) b (List.mem_range.mpr h)),VP (bl (bl (bl (bl (bl N))))),VP (br (bl (bl (bl (bl N))))),VP (br (bl (bl (bl N)))),VP (br (bl (bl N))),VP (br (bl N)),VP (br N)⟩
noncomputable def Ly:List TC:=[.bool,.int,.str,.none]++Ba.map λ e=>.own e.1
theorem rc(P:cQ)(lo:Obj)(L:List MV):Ly.all (λ t=>Gu.all λ c=>kitOne (KK P lo) (tV t) (cV ((G0 L).ca c))==aA (BE t ((G0 L).ca c)))=aC:=by kernel_rfl
noncomputable def Bi(P:cQ)(x:bP)(v:aH):Bool:=DN P x v||(hk P).nsMap dG x==aA v
theorem yj(P:cQ)(L:List MV):Gu.all (λ c=>Bi P (gn c) (cV ((G0 L).ca c)))=aC:=by kernel_rfl
theorem iq(P:cQ)(lo:Obj):Ba.all (λ e=>plainGet (KK P lo) e.1 "__class__"&&rT (KK P lo) e.1&&fK (KK P lo) (.ref e.1) "__class__"==aA (aA (.builtin "object.__class__"))&&mroIn (KK P lo) e.1 (.type "object")==aA aC)=aC:=by kernel_rfl
theorem An(P:cQ)(lo:Obj):(EB (KK P lo) (.builtin "object.__class__") "__get__"==aA (aA (.builtin "getset_descriptor.__get__"))&&takesIn (KK P lo) (.builtin "object.__class__")==aA aC)=aC:=by kernel_rfl
theorem d5{C:Nat}(h:(G0 L).ic C=aC):∃N,(C,N)∈Ba:=by
 obtain⟨e,m,q⟩:=List.any_eq_true.mp h;rw[<-bI q];exact⟨_,m⟩
theorem wc{t:TC}(h:B6 (G0 L) t=aC):t∈Ly:=by cases t with
 |own C=>obtain⟨N,m⟩:=d5 h;exact List.mem_append_right _ (List.mem_map.mpr ⟨_,m,rfl⟩)|_=>refine List.mem_append_left _ ?_;simp
theorem cm{c:Nat}(h:(G0 L).ci c=aC):c∈Gu:=by
 obtain⟨e,m,q⟩:=List.any_eq_true.mp h;rw[bI q];exact m
theorem C8:DF (RR w lo) (G0 L) gn:=by
  refine⟨λ c h=>?_,λ t c y K=>?_,λ C h=>?_,?_,λ b C h=>?_⟩
  · rcases eK.mp (List.all_eq_true.mp (yj w.params L) _ (cm h))with q|q;·exact .inl ⟨bC (bl q),bC (br q)⟩
    ·exact .inr (bC q)
  ·exact bC (List.all_eq_true.mp (List.all_eq_true.mp (rc w.params lo L) _ (wc y)) _ (cm K))
  ·obtain⟨N,m⟩:=d5 h;have c:=List.all_eq_true.mp (iq w.params lo) _ m;exact⟨bl (bl (bl c)),br (bl (bl c)),bC (br (bl c)),bC (br c)⟩
  ·have c:=An w.params lo;exact⟨bC (bl c),bC (br c)⟩
  · obtain⟨c,h⟩:=gZ (show(if(cB b 44||cB b 47)=aC then aA 38 else aB)=aA C from h);rw[<-h];refine⟨rfl,?_⟩;rcases eK.mp c with h|h;·rw[bI h];exact⟨_,_,_,rfl,rfl⟩
    ·rw[bI h];exact⟨_,_,_,rfl,rfl⟩
end
theorem wl:(eM 34).all (λ f=>!(fn f==aP "?")&&(eM 36).all λ m=>!(fn f==mn m)||cB f (mf m))=aC:=by kernel_rfl
theorem Jp:ou:=λ m f h e=>by
  have c:=bE.mp wl f (mF.mpr h);by_cases q:m<36
  · have d:=bE.mp (br c) m (mF.mpr q);rcases eK.mp d with d|d;·rw[e]at d;rw[beq_self_eq_true]at d;cases d
    ·exact bI d
  · haveI :mn m=aP "?":=by
     unfold mn;rw[iY (Nat.le_of_not_lt q)];rfl
    rw[e,this]at c;have d:=bl c;rw[beq_self_eq_true]at d;cases d
noncomputable def XZ(K:IK)(n:Nat)(F:MF):Bool:=match K.lookup n with
 |aA o=>(match o.data with
 |.func C=>(match C.body with
 |.stmts b=>DZ K 3 0 gn pn F C b|_=>aG)|_=>aG)|aB=>aG
set_option tactic.hygienic true in theorem LA{R:iK}{fA:Nat}{F:MF}(g:R.gA=3)(b:R.bA=0)(h:XZ R.K fA F=aC):∃fd body,uF R gn pn F fA fd body:=by
  delta XZ at h;split at h
  · rename_i o e;obtain⟨oc,od,data,sl⟩:=o;dsimp only at h;split at h
    · rename_i fd ed;split at h
      ·rename_i b' eb;exact⟨ed,b',CF e eb (by rw[g,b];exact h)⟩
      ·cases h
    ·cases h
  ·cases h
theorem xj(P:cQ)(lo:gV):Hk.all (λ e=>(hk P).nsMap dG (gn e.1)==aA (.ref e.2.1)&&qV (KK P lo) (.ref e.2.1)&&XZ (KK P lo) e.2.1 e.2.2&&(e.2.2.kws.isEmpty||cB e.1 120))=aC:=by kernel_rfl
theorem oh(P:cQ)(lo:gV)(L:List MV):E9.all (λ e=>(hk P).nsMap dG (gn e.1)==aA (.ref ((G0 L).ca e.1))&&makesIn (KK P lo) ((G0 L).ca e.1)&&fK (KK P lo) (.ref ((G0 L).ca e.1)) "__init__"==aA (aA (.ref e.2.1))&&EK (KK P lo) (.ref e.2.1)==aA (.type "function")&&qV (KK P lo) (.ref ((G0 L).ca e.1))&&XZ (KK P lo) e.2.1 e.2.2)=aC:=by kernel_rfl
theorem qr(P:cQ)(lo:gV):Cd.all (λ e=>fK (KK P lo) (.ref e.1.1) "__getattribute__"==aA (aA (.builtin "object.__getattribute__"))&&fK (KK P lo) (.ref e.1.1) "__getattr__"==aA aB&&fK (KK P lo) (.ref e.1.1) (mn e.1.2)==aA (aA (.ref e.2.1))&&EK (KK P lo) (.ref e.2.1)==aA (.type "function")&&qV (KK P lo) (.ref e.2.1)&&XZ (KK P lo) e.2.1 e.2.2)=aC:=by kernel_rfl
theorem KY{R:iK}{f:Nat}{F:MF}{n:Nat}{C:fY}{t:List dW}(hk:F.kws=[])(e:uF R gn pn F n C t):QM R (pn f) F C:=λ s D Z o B X g G=>by cases o with
 |nil=>
 obtain⟨i,S,a,b,c,d⟩:=sW e X g G;refine⟨i,S,a,b,c,?_⟩;rw[nL,Nat.sub_zero,mI];exact d|cons a r=>
 delta bindM at G;dsimp only at G;rw[hk]at G;split at G<;>cases G
theorem HJ{c d:Type}[BEq c][LawfulBEq c]{l:List (c×d)}{a:c}{o:d}(h:l.lookup a=aA o):(a,o)∈l:=by induction l with
 |nil=>cases h|cons p l f=>
 obtain⟨b,x⟩:=p;rw[cM]at h;split at h;·rename_i e;rw[bC e,<-bH h];exact aW ..
 ·exact aV _ (f h)
noncomputable def NZ:fY:=((yx.find? λ e=>cB e.k 120).map FE.fd).getD (Fb (jB 0) cG .none .none .none)
noncomputable def bW:List dW:=match NZ.body with
 |.stmts b=>b|_=>[]
theorem wh:NZ.body=.stmts bW:=by kernel_rfl
theorem vn(P:cQ)(lo:gV):(KK P lo).lookup 1217=aA ⟨.type "function",aB,.func NZ,#[]⟩:=by kernel_rfl
theorem Ah(P:cQ)(lo:gV):(KK P lo).lookup 1210=aA (xC [iv 53 1946,iv 10 1947,.none,.none]):=by kernel_rfl
theorem C5(P:cQ)(lo:gV):DZ (KK P lo) 3 0 gn pn IN NZ bW=aC:=by kernel_rfl
theorem yb:Hk.find? (λ e=>cB e.1 120)=aA (120,1217,IN):=rfl
theorem YQ(a F z:aH):∃k,yM NZ ⟨[a],[("limit",F),("table",z)]⟩=wF NZ.defaults>>=k/\∀Z D L O,k (aA #[Z,D,L,O])=iB [(("datum":bP),a),(("precision":bP),Z),(("radix":bP),D),(("limit":bP),F),(("table":bP),z)]:=⟨_,rfl,λ Z D L O=>by kernel_rfl⟩
theorem jz(a z:aH):∃k,yM NZ ⟨[a],[("table",z)]⟩=wF NZ.defaults>>=k/\∀Z D L O,k (aA #[Z,D,L,O])=iB [(("datum":bP),a),(("precision":bP),Z),(("radix":bP),D),(("limit":bP),L),(("table":bP),z)]:=⟨_,rfl,λ Z D L O=>by kernel_rfl⟩
theorem ac{R:iK}{n:Nat}{t:List dW}(P:R.K.lookup 1210=aA (xC [iv 53 1946,iv 10 1947,.none,.none]))(U:uF R gn pn IN n NZ t):QM R (pn 120) IN NZ:=λ s D Z o B X f G=>by
 haveI W:NZ.defaults=.ref 1210:=rfl;have p:∀{M:CI}{A:cW}{E:aH->aI->Prop}{Q:Option (Array aH)->aI->Prop},Q (aA #[iv 53 1946,iv 10 1947,.none,.none]) s->aU M A (wF NZ.defaults) Q E s:=λ j=>by rw[W];exact oN (X _ _ P) rfl j
 cases o with
 |nil=>
 obtain⟨i,S,a,b,c,d⟩:=sW U X f G;refine⟨i,S,a,b,c,?_⟩;rw[nL,Nat.sub_zero,mI];exact d|cons a r=>
    delta bindM at G;dsimp only at G;split at G
    · rename_i g;obtain⟨C,e,G⟩:=cA G;obtain⟨i,L,G⟩:=fR G;have m:=HJ e;rcases cD.mp m with m|m
      · obtain⟨q,u⟩:=dU m;obtain⟨y,J⟩:=dU q;obtain⟨x,I⟩:=lB J;subst x I u
        · obtain⟨N,Y,O,rfl⟩:=fy (l:=D) (by simp at y g;lia);obtain⟨h,Z,rfl,r0,f⟩:=f.inv;obtain⟨F,Z,rfl,V,f⟩:=f.inv;obtain⟨z,Z,rfl,w,f⟩:=f.inv;obtain rfl:=f.inv0;cases L;obtain⟨k,H,v⟩:=YQ h F z;refine⟨_,[h,iv 53 1946,iv 10 1947,F,z],dK.cons r0 (dK.cons ?_ (dK.cons ?_ (dK.cons V (dK.cons w dK.nil)))),rfl,G.symm,λ M A E Q j=>?_⟩;·delta VR;exact⟨_,rfl⟩
          ·delta VR;exact⟨_,rfl⟩
          ·show aU M A (yM NZ ⟨[h],[("limit",F),("table",z)]⟩) Q E s;rw[H];refine aE (p ?_);rw[v];exact aM j
      · obtain⟨q,u⟩:=dU (bU.mp m);obtain⟨y,J⟩:=dU q;obtain⟨x,I⟩:=lB J;subst x I u
        · obtain⟨N,O,rfl⟩:=RB (l:=D) (by simp at y g;lia);obtain⟨h,Z,rfl,r0,f⟩:=f.inv;obtain⟨z,Z,rfl,w,f⟩:=f.inv;obtain rfl:=f.inv0;cases L;obtain⟨k,H,v⟩:=jz h z;refine⟨_,[h,iv 53 1946,iv 10 1947,.none,z],dK.cons r0 (dK.cons ?_ (dK.cons ?_ (dK.cons ?_ (dK.cons w dK.nil)))),rfl,G.symm,λ M A E Q j=>?_⟩;·delta VR;exact⟨_,rfl⟩
          ·delta VR;exact⟨_,rfl⟩
          ·delta VR;rfl
          ·show aU M A (yM NZ ⟨[h],[("table",z)]⟩) Q E s;rw[H];refine aE (p ?_);rw[v];exact aM j
    ·cases G
section
variable(w:World){lo:Obj}{L:List MV}
theorem Bq:t7 (RR w lo) (G0 L) gn pn TB:=by
  refine⟨λ f F h=>?_,λ C F h=>?_,λ C m F h=>?_⟩
  · obtain⟨e,y,rfl⟩:=bO.mp h;have q:=List.find?_some y;have m:=List.mem_of_find?_eq_some y;have c:=List.all_eq_true.mp (xj w.params lo) _ m;rw[<-bI q];obtain⟨N,t,a⟩:=LA (R:=RR w lo) rfl rfl (br (bl c));rcases eK.mp (br c)with z|z;·exact(⟨e.2.1,N,t,bC (bl (bl (bl c))),br (bl (bl c)),a,KY (List.isEmpty_iff.mp z) a⟩)
    · haveI d:=bI z;haveI i:f=120:=(bI q).symm.trans d;rw[i]at y;have g:e=(120,1217,IN):=(bH (yb.symm.trans y)).symm;have a:uF (RR w lo) gn pn IN 1217 NZ bW:=CF (vn w.params lo) wh (C5 w.params lo);refine(⟨e.2.1,NZ,bW,bC (bl (bl (bl c))),br (bl (bl c)),?_,?_⟩);·rw[g];exact a
      ·rw[g];exact ac (Ah w.params lo) a
  ·obtain⟨e,y,rfl⟩:=bO.mp h;have q:=List.find?_some y;have m:=List.mem_of_find?_eq_some y;have c:=List.all_eq_true.mp (oh w.params lo L) _ m;rw[<-bI q];obtain⟨N,t,a⟩:=LA (R:=RR w lo) rfl rfl (br c);have P:=bl c;have b:=bl P;exact(⟨e.2.1,N,t,bC (bl (bl (bl b))),⟨br (bl (bl b)),bC (br (bl b)),bC (br b),br P⟩,a⟩)
  ·obtain⟨e,y,rfl⟩:=bO.mp h;have q:=List.find?_some y;haveI m:=List.mem_of_find?_eq_some y;have c:=List.all_eq_true.mp (qr w.params lo) _ m;rw[<-bI (bl q),<-bI (br q)];obtain⟨N,t,a⟩:=LA (R:=RR w lo) rfl rfl (br c);have P:=bl c;have b:=bl P;exact(⟨e.2.1,N,t,⟨bC (bl (bl (bl b))),bC (br (bl (bl b))),bC (br (bl b)),bC (br b),br P⟩,a⟩)
end
noncomputable def lg:fY:=((yx.find? λ e=>cB e.k 23).map FE.fd).getD (Fb (jB 0) cG .none .none .none)
noncomputable def rz:fY:=((yx.find? λ e=>cB e.k 20).map FE.fd).getD (Fb (jB 0) cG .none .none .none)
noncomputable def LZ(C:fY):List dW:=match C.body with
 |.stmts b=>b|_=>[]
noncomputable def FT:MF:=⟨["self","limit"],2,[],[.dead,.asg (.attr (.l 0) 13) (.l 1)],[]⟩
noncomputable def FS:MF:=⟨["self","word","irritants"],3,[],[.asg (.attr (.l 0) 11) (.l 1),.asg (.attr (.l 0) 12) (.l 2)],[]⟩
theorem Mp(P:cQ)(lo:gV):(KK P lo).lookup 397=aA ⟨.type "function",aB,.func lg,#[]⟩:=by kernel_rfl
theorem N6(P:cQ)(lo:gV):(KK P lo).lookup 339=aA ⟨.type "function",aB,.func rz,#[]⟩:=by kernel_rfl
theorem xn:lg.body=.stmts (LZ lg):=by kernel_rfl
theorem xi:rz.body=.stmts (LZ rz):=by kernel_rfl
theorem Bv(P:cQ)(lo:gV):DZ (KK P lo) 3 0 gn pn FT lg (LZ lg)=aC:=by kernel_rfl
theorem Fl(P:cQ)(lo:gV):DZ (KK P lo) 3 0 gn pn FS rz (LZ rz)=aC:=by kernel_rfl
theorem r9(P:cQ)(lo:gV):((hk P).nsMap dG "TooLong"==aA (.ref 400)&&(qV (KK P lo) (.ref 400)&&((hk P).nsMap dG "SchemeError"==aA (.ref 342)&&(fK (KK P lo) (.ref 400) "__setattr__"==aA (aA (.builtin "object.__setattr__"))&&(fK (KK P lo) (.ref 400) "__getattribute__"==aA (aA (.builtin "BaseException.__getattribute__"))&&(fK (KK P lo) (.ref 400) "__getattr__"==aA aB&&(rT (KK P lo) 400&&(fK (KK P lo) (.ref 400) "word"==aA aB&&(fK (KK P lo) (.ref 400) "irritants"==aA aB&&(fK (KK P lo) (.ref 400) "limit"==aA aB&&(fK (KK P lo) (.ref 400) "__init__"==aA (aA (.ref 397))&&(EK (KK P lo) (.ref 397)==aA (.type "function")&&(EB (KK P lo) (.ref 342) "__getattribute__"==aA (aA (.builtin "type.__getattribute__"))&&(readsIn (KK P lo) 342 (.type "type")&&(qV (KK P lo) (.ref 339)&&glb lg.scope.names "SchemeError")))))))))))))))=aC:=by kernel_rfl
theorem wy(P:cQ)(lo:gV):findCls (KK P lo) (.ref 342) (.type "type") "__init__"=aA (.val (.ref 339)):=by kernel_rfl
theorem qm(P:cQ)(lo:gV):∃Q L E j,(KK P lo).lookup 400=aA ⟨Q,L,.cls E,j⟩/\E.abstract=aG/\E.hasDel=aG/\E.mro.isEmpty=aG/\E.hasDict=aC:=⟨_,_,_,_,rfl,rfl,rfl,rfl,rfl⟩
section
variable(P:Params)(lo:Obj)
theorem A9:EU (KK P lo) ⟨pw,P⟩ (mroOf (.ref 400))=aA [.ref 400,.ref 342,.type "Exception",.type "BaseException",.type "object"]:=by kernel_rfl
theorem VL(B:aH):refuseLoop B "__setattr__" [.ref 400,.ref 342,.type "Exception",.type "BaseException",.type "object"]=iB ():=by kernel_rfl
theorem jj:EU (KK P lo) ⟨pw,P⟩ (Bind.madeBy (.ref 400))=aA (aA "Exception.__new__"):=by kernel_rfl
theorem mz:EU (KK P lo) ⟨pw,P⟩ (Bind.staticBase (.ref 400))=aA (.ref 400):=by kernel_rfl
theorem qf:EU (KK P lo) ⟨pw,P⟩ (Bind.madeHere "BaseException.__new__" (.ref 400))=aA ():=by kernel_rfl
theorem jl:EU (KK P lo) ⟨pw,P⟩ (jV (.ref 400) (.ref 400))=aA aC:=by kernel_rfl
theorem Dl:EU (KK P lo) ⟨pw,P⟩ (jV (.ref 400) (.type "Exception"))=aA aC:=by kernel_rfl
theorem Bn:EU (KK P lo) ⟨pw,P⟩ (jV (.ref 400) (.type "BaseException"))=aA aC:=by kernel_rfl
theorem Fk:EU (KK P lo) ⟨pw,P⟩ (jV (.ref 400) (.type "object"))=aA aC:=by kernel_rfl
theorem Ec:EU (KK P lo) ⟨pw,P⟩ (jV (.ref 400) (.type "AttributeError"))=aA aG:=by kernel_rfl
theorem Gh:EU (KK P lo) ⟨pw,P⟩ (jV (.ref 400) (.type "NameError"))=aA aG:=by kernel_rfl
theorem qy:EU (KK P lo) ⟨pw,P⟩ (zW (.ref 400) "__call__")=aA (aA (.builtin "type.__call__")):=by kernel_rfl
theorem zz:EU (KK P lo) ⟨pw,P⟩ (sU (.ref 400) (.type "type"))=aA aC:=by kernel_rfl
theorem ub:EU (KK P lo) ⟨pw,P⟩ (isType (.ref 400))=aA aC:=by kernel_rfl
theorem Cv:EU (KK P lo) ⟨pw,P⟩ (zA (.ref 400))=aA (.type "type"):=by kernel_rfl
end
section
variable(w:World){lo:Obj}{L:List MV}
theorem A1(h:bG)(X:(KK w.params lo).In h):uQ (aY pw w) h 400:=by
 obtain⟨Q,S,E,j,e,q⟩:=qm w.params lo;exact(⟨⟨Q,S,E,j,X _ _ e,q⟩,⟨_,eZ X (A9 w.params lo),rfl,λ B=>VL B⟩,eZ X (jj w.params lo),eZ X (mz w.params lo),eZ X (qf w.params lo),eZ X (jl w.params lo),eZ X (Dl w.params lo),eZ X (Bn w.params lo),eZ X (Fk w.params lo),eZ X (Ec w.params lo),eZ X (Gh w.params lo),eZ X (qy w.params lo),eZ X (zz w.params lo),eZ X (ub w.params lo),eZ X (Cv w.params lo)⟩)
theorem H3:∃p1 p2 p3 p4 p5 p6 p7 p8 p9 B4 B8 B9,∃k:Nat,LZ lg=[.Expr (.Call (.Attribute (.Name "SchemeError" p1) "__init__" p2) [.Name "self" p3,.Constant (.str "TooLong") k p4,.List [.Name "limit" p5] p6] [] p7) p8,.Assign [.Attribute (.Name "self" p9) "limit" B4] (.Name "limit" B8) B9]/\(p2.endLine==p7.line)=aC:=⟨_,_,_,_,_,_,_,_,_,_,_,_,_,rfl,rfl⟩
theorem Ii:∃p1 p2 p3 p4 p5 p6 p7 p8,LZ rz=[.Assign [.Attribute (.Name "self" p1) "word" p2] (.Name "word" p3) p4,.Assign [.Attribute (.Name "self" p5) "irritants" p6] (.Name "irritants" p7) p8]:=⟨_,_,_,_,_,_,_,_,rfl⟩
theorem se:ED pw w (RR w lo) gn pn 342 397 339 FT FS lg rz (LZ lg) (LZ rz):=by
 have c:=r9 w.params lo;have k:=br c;have N:=br k;have m:=br N;have o:=br m;have g:=br o;have j:=br g;have l:=br j;have n:=br l;have i:=br n;have a:=br i;have f:=br a;have d:=br f;have b:=br d;have e:=br b;exact⟨λ h X=>A1 w h X,bC (bl c),bl k,bC (bl N),bC (bl m),bC (bl o),bC (bl g),bl j,bC (bl l),bC (bl n),bC (bl i),bC (bl a),bC (bl f),bC (bl d),bl b,wy w.params lo,bl e,CF (Mp w.params lo) xn (Bv w.params lo),CF (N6 w.params lo) xi (Fl w.params lo),⟨rfl,rfl,rfl⟩,⟨rfl,rfl,rfl⟩,H3,Ii,br e⟩
end
section
variable(w:World){lo:Obj}{L:List MV}(c:j9 lo L)
include c
theorem YO:∀d:Nat,qL pw w (RR w lo) (bY TB (G0 L) d) (G0 L) gn pn d:=by
 intro G;induction G with
 |zero=>exact OK|succ d q=>
 haveI n:=q;have H:jQ pw w (RR w lo) (bY TB (G0 L) d) (G0 L) gn pn d:=⟨xg w c,Br w lo L,G2 w,Bh w,Gk w c,D8 w,C8 w,Jp,rfl,rfl,(show gC<1325 by decide),n⟩;haveI X:CZ pw w (RR w lo) (bY TB (G0 L) d) (G0 L) d:=⟨λ N l j a b Z i p p2 F V I x z D o2 B E=>lj H.rk H.bk I x z D o2 B E,λ N l j e P r p F I f m s C o=>ZI H.rk (se w) I m s C o,λ N l j e P r y p1 p2 p3 p4 p5 F I f m s v J g o=>wx H.rk (se w) I f m s v g o⟩;exact PG H.rk (Bq w) λ k u A N l j h I t f=>B1 H X k u A N l j h I t f
end
noncomputable def RY:Prop:=∀j:List Int,j.length<=63->(bY TB (G0 (j.map MV.int)) 40).call 138 [.cst 1324] [] (λ U=>aB) (λ v U=>v=.bool aC) λ U U=>False
theorem VV(a:fN)(M:Nat->Nat)(h:bG):eB a M (λ U=>aB) h where
 obj:=λ U U e=>nomatch e;low:=λ U U e=>nomatch e;dlow:=λ U U U e=>nomatch e;dinj:=λ U U U U U U e=>nomatch e
theorem C1:gn 138=("law":bP):=by kernel_rfl
theorem gz(w:cK)(lo:gV):(RR w lo).mG (gn 138)=aA (.ref 1323):=by
 rw[C1];have h:=OV w.params;generalize("law":bP)=x at h⊢;exact h
theorem bx(l:RY)(w:cK){lo:gV}{j:List Int}(i:j.length<=63)(lk:j9 lo (j.map MV.int))(s:aI)(X:(KK w.params lo).In s.heap)(k:s.heap.objs.size=1325):aU (aY pw w) callerA (PySem.call (.ref 1323) [.ref 1324]) (λ v u=>v=.bool aC/\(∀b o,s.heap.get? b=aA o->u.heap.get? b=aA o)/\u.os=s.os/\u.gens=s.gens) (λ U U=>False) s:=by
 obtain⟨n,e,_,h⟩:=(YO w lk 40).call 138 rfl;obtain rfl:1323=n:=by
  have :=(gz w lo).symm.trans e;injection this with y;injection y
 have a:s.heap.get? 1324=aA lo:=X 1324 lo (by kernel_rfl);refine h callerA [] s id (λ U=>aB) [.cst 1324] [.ref 1324] [] _ _ _ _ ⟨rfl,rfl,by decide,by decide⟩ ⟨X,⟨by show(s.heap.get? 1324).isSome=aC;rw[a];rfl,by show 0<1325;decide⟩,VV ..,trivial⟩ (dK.cons (by delta VR;rfl) dK.nil) (l j i) ?_ ?_
 ·intro c I P g L v p f q;subst q;delta VR at f;exact⟨f,λ b o d=>p.ev.low b o (show b<1325 from k▸cN d) d,rfl,rfl⟩
 ·intro U U U U U U U U U U U U U U U z;exact z
end
section
open PySem PySem.W PySem.Calls PyProof.Rows
noncomputable abbrev rw:OpenRow:=PySem.Challenge.rw_pq1041_01.row
theorem said_refl:@EW=@EW:=rfl
name_quick qSaid for PySem.W.OpenLaw.wellSaid by Internal.said_refl
set_option maxHeartbeats 8000000 in theorem SY:PySem.Challenge.rw_pq1041_01.wellSaid=aC:=by
 rw[PySem.W.Fast.qSaid_eq];kernel_rfl
theorem ui:rw.wellSaid=aC:=row_said SY
theorem db:opensWell rw.prog=aC:=by decide+kernel
theorem YI:(frees rw.toRowW&&rw.within.isEmpty)=aC:=by decide+kernel
theorem ej:rw.prog.tablesWhole=aC:=by decide+kernel
theorem qu:rw.prog.bare:=⟨rfl,rfl,rfl,rfl,rfl,ej⟩
theorem Aq:rw.toRowW.claim.pre [.list [.int 3]]=aC:=by kernel_rfl
theorem QW:rw.toRowW.promised:=⟨[.list [.int 3]],Aq,by kernel_rfl⟩
section
variable{R:WRecords}{cl:Str->Option Addr}{P:Params}{ord:List DictEntry->List DictEntry}
theorem ce:∀(j:List Int)(s:aI),∃Z t,layAllW R cl P ord (j.map wH) s=aA (Z,{s with toks:=t})/\∀h,dK h (j.map MV.int) Z:=by
 intro b;induction b with
 |nil=>
 intro s;exact⟨[],s.toks,by rfl,λ U=>dK.nil⟩|cons n j a=>
 intro s;obtain⟨Z,t,e,r⟩:=a {s with toks:=s.toks+1};refine⟨.int n s.toks::Z,t,?_,λ h=>dK.cons (by exact⟨_,rfl⟩) (r h)⟩;rw[List.map_cons];unfold layAllW;unfold layW;dsimp only;rw[e]
end
theorem items_int{R:WRecords}:∀(B:List WData),GC R B .int=aC->∃j:List Int,B=j.map wH:=by
 intro b;induction b with
 |nil=>
 intro U;exact⟨[],rfl⟩|cons x B a=>
 intro h;replace h:(WShape.has R x .int&&GC R B .int)=aC:=h;obtain⟨j,e⟩:=a (br h);have c:=bl h;cases x with
 |int i=>exact⟨i::j,by rw[e];rfl⟩|_=>exact bft c
theorem qb{j:List Int}(h:rw.pre.holds rw.records {args:=[.list (j.map wH)]}=aC):j.length<=63:=by
 haveI e:rw.pre=.and (.not (.lt (.lit (.int 63)) (.len (.arg 0)))) (.lit (.bool aC)):=rfl;rw[e]at h;simp only[WTm.holds,WTm.value,wC,bF,less?,Num.less?,Option.map_some]at h;by_cases q:(63:Int)<(j.length:Int);·rw[decide_eq_true q]at h;cases h
 ·omega
noncomputable def LK:fY:=((yx.find? λ e=>cB e.k 138).map FE.fd).getD (Fb (jB 0) cG .none .none .none)
noncomputable def bL:List dW:=match LK.body with
 |.stmts b=>b|_=>[]
theorem Hg(P:cQ):getK (FG P 138) 1323=aA (ob (.type "function") (.func LK)):=by kernel_rfl
theorem A3:LK.body=.stmts bL:=by kernel_rfl
theorem Bg:pw.theDef "law"=aA (LK.params,bL,LK.scope):=by kernel_rfl
theorem wv:(LK.name="law"/\LK.qualname="law")/\(LK.globals=mainNs/\LK.closure=[]/\LK.builtins=pW)/\(LK.params.defaults=[]/\LK.defaults=.none)/\kwWritten? LK.params.kwonlyargs LK.params.kw_defaults=aA []/\LK.kwdefaults=.none:=⟨⟨by kernel_rfl,by kernel_rfl⟩,⟨by kernel_rfl,by kernel_rfl,by kernel_rfl⟩,⟨by kernel_rfl,by kernel_rfl⟩,by kernel_rfl,by kernel_rfl⟩
theorem iz{w:cK}{s:aI}(I:IQ w.params 139 s):isTheDefsW pw s.heap "law":=by
 obtain⟨-,b,-⟩:=MB I;obtain⟨k,-⟩:=dC.mp (RN w.params);haveI h:s.heap.isNs dG=aC:=(uZ b).trans k;haveI e:globalOf s.heap "law"=aA (.ref 1323):=(xJ h _).trans ((congrFun (xD b) _).trans (OV w.params));haveI a:=I.obs 138 (by decide) _ (qI (Hg w.params));obtain⟨⟨i,d⟩,⟨l,j,f⟩,g,c,m⟩:=wv;exact⟨1323,_,LK,LK.params,bL,LK.scope,e,a,rfl,Bg,i,d,rfl,A3,rfl,l,j,f,.inl g,[],c,.inl ⟨rfl,m⟩⟩
theorem l7:yx.all (λ e=>gE e.k 139)=aC:=by kernel_rfl
theorem jh:sw.all (λ e=>gE e.k 139)=aC:=by kernel_rfl
theorem n9(P:cQ):(Ki P).all (λ e=>gE e.1 139)=aC:=by kernel_rfl
theorem tf:(sw.find? λ e=>cB e.a 342)=aA Ak/\(cB Ak.k 20&&cB Ak.a 342)=aC:=⟨by kernel_rfl,by kernel_rfl⟩
theorem vq:Ak∈sw.filter λ e=>cB e.k 20&&cB e.a 342:=kX.mpr ⟨dD tf.1,tf.2⟩
theorem G6{w:cK}{s:aI}(I:IQ w.params 139 s){lo:gV}{h:bG}(hk:∀b o,s.heap.get? b=aA o->h.get? b=aA o)(q:h.get? 1324=aA lo):(KK w.params lo).In h:=by
  have p:∀j,j<139->∀x∈FG w.params j,h.get? x.1=aA x.2:=λ j n x d=>hk _ _ (I.obs j n x d);intro a o e;have m:=mem_of_lookup e;rcases cZ.mp m with m|m
  · rcases cZ.mp m with m|m;·exact hk _ _ (I.base _ m)
    · rcases cZ.mp m with m|m
      ·obtain⟨l,g,d⟩:=pQ.mp m;obtain⟨f,c,rfl⟩:=dF.mp g;refine p f.k (aO (bE.mp l7 f c)) (a,o) ?_;exact cX _ (cX _ (cX _ (pQ.mpr ⟨_,dF.mpr ⟨f,kX.mpr ⟨c,rL _⟩,rfl⟩,d⟩)))
      · rcases cZ.mp m with m|m
        ·obtain⟨l,g,d⟩:=pQ.mp m;obtain⟨f,c,rfl⟩:=dF.mp g;obtain⟨c,i⟩:=kX.mp c;refine p f.k (aO (bE.mp jh f c)) (a,o) ?_;exact cX _ (cX _ (eJ _ (pQ.mpr ⟨_,dF.mpr ⟨f,kX.mpr ⟨c,by rw[rL,i];rfl⟩,rfl⟩,d⟩)))
        · rcases cD.mp m with m|m
          ·refine p 20 (by decide) (a,o) ?_;refine cX _ (eJ _ ?_);rw[m];exact dF.mpr ⟨Ak,vq,rfl⟩
          ·obtain⟨f,c,d⟩:=dF.mp m;refine p f.1 (aO (bE.mp (n9 w.params) f c)) (a,o) ?_;exact eJ _ (dF.mpr ⟨f,kX.mpr ⟨c,rL _⟩,d⟩)
  ·obtain⟨rfl,rfl⟩:=dU (bU.mp m);exact q
theorem bv(HM:RY):PySem.Challenge.rw_pq1041_01.Holds:=by
 obtain⟨k5,k6⟩:=dC.mp YI;obtain⟨l,hu,J,H,hm⟩:=frees_parts k5;haveI hi:=ident_freeW hu J H;haveI V:rw.toRowW.claim.within=[]:=fC.mp k6;refine⟨SY,ui,QW,⟨qu,db,rfl⟩,QW.witness,λ w=>⟨(QP w).1,λ u Q=>?_⟩⟩;obtain⟨E,hf,M,s,hT,hz,I,f,a4⟩:=(QP w).2 u Q;refine⟨E,hf,M,s,hT,λ n F=>?_,λ x hx=>(nomatch hx),λ x hx=>(nomatch hx),?_⟩
 ·obtain rfl:n="law":=bU.mp F;exact iz I
 refine ClaimW.callFrom_of_specG (c:=rw.toRowW.claim) hz f λ a3 A y ord k=>?_;obtain⟨O,W⟩:=pre_splitW A;obtain⟨d,r,rfl,hd,hr⟩:=hasAllW_cons O;obtain rfl:=hasAllW_nil hr;obtain⟨B,rfl,K⟩:=hasW_list hd;obtain⟨j,rfl⟩:=items_int B K;obtain⟨ls,t,el,N⟩:=ce (R:=rw.toRowW.claim.records) (cl:=classAt s.heap) (P:=w.params) (ord:=ord) j s;have F:=qb W;have m:s.heap.objs.size=1324:=I.size;let lo:gV:={cls:=.type "list",data:=.seq ls.toArray};have b:layAllW rw.toRowW.claim.records (classAt s.heap) w.params ord [.list (j.map wH)] s=aA ([.ref s.heap.objs.size],{s with heap:=s.heap.push lo,toks:=t}):=by
  unfold layAllW layW;rw[el];rfl
 have h:=layAllW_keeps _ _ _ b;have C:=layAllW_rest _ _ _ b;obtain⟨Y,a2,S,p⟩:=reads_layAllW k _ _ _ b y {s with heap:=s.heap.push lo,toks:=t}.heap (λ U U e=>e);haveI L:Laid rw.toRowW.claim.records w s {s with heap:=s.heap.push lo,toks:=t} [.list (j.map wH)] [.ref s.heap.objs.size] Y:=⟨⟨ord,k,b⟩,a2,S,p,h,C.1.trans f,C.2.2.1⟩;obtain⟨-,k3,-⟩:=MB I;obtain⟨n1,-⟩:=dC.mp (RN w.params);have hg:s.heap.isNs dG=aC:=(uZ k3).trans n1;refine⟨_,_,b,?_⟩;haveI hl:(s.heap.push lo).get? 1324=aA lo:=by
  have :=bQ s.heap (o:=lo) rfl;rw[m]at this;exact this
 haveI D:=bx HM w F (lo:=lo) ⟨rfl,_,_,rfl,N,by rw[bF];exact bN F (by decide)⟩ {s with heap:=s.heap.push lo,toks:=t} (G6 I h hl) (by show(s.heap.push lo).objs.size=1325;rw[iE,m]);rw[m];haveI X:(s.heap.push lo).nsMap dG "law"=aA (.ref 1323):=by
  obtain⟨-,i,-⟩:=MB I;have e4:=i.symm;have :(s.heap.push lo).get? 3=s.heap.get? 3:=uM _ _ _ (by rw[m];decide);exact(congrFun (xD (this.trans i)) _).trans (OV w.params)
 haveI Z:(s.heap.push lo).Ns dG ((s.heap.push lo).nsMap dG):=by
  obtain⟨-,i,-⟩:=MB I;haveI :(s.heap.push lo).get? 3=s.heap.get? 3:=uM _ _ _ (by rw[m];decide);exact GF ((uZ (this.trans i)).trans n1)
 refine aE (wpAny_nsGet Z ?_);haveI a1:(s.heap.push lo).nsMap dG rw.name=aA (.ref 1323):=X;rw[a1];refine aE (dY D (λ v u g=>aM ⟨_,rfl,?_⟩) λ e u g=>g.elim);obtain⟨rfl,g1,g2,g3⟩:=g;haveI G:GoodWG rw.toRowW.claim (classAt s.heap) (ExcName.means s.heap) [.list (j.map wH)] {s with heap:=s.heap.push lo,toks:=t} (.ok (.ret (.bool aC))) u:=⟨.inl ⟨_,_,[],rfl,λ U=>rfl,.bool aC,by kernel_rfl,λ U=>⟨tI,λ a J=>(nomatch J)⟩⟩,OldK.of_keep g1,g2,.of_eq (g3.trans f)⟩;have z:=G.laid (c:=rw.toRowW.claim) l V hi L;rw[m]at z;exact⟨z.1,z.2.1,z.2.2,λ q=>(nomatch q)⟩
end
section
open PySem PySem.W
/-! steps of the small language -/
theorem Gz{P:Nat->Prop}(a:P 0)(y:P 1)(K:P 2)(b:P 3):∀j,j<4->P j
 |0=>λ U=>a|1=>λ U=>y|2=>λ U=>K|3=>λ U=>b|_+4=>λ h=>absurd h (kA.mpr (xI ..))
theorem Kx{P:Nat->Prop}(a:P 0)(y:P 1)(K:P 2)(c:P 3)(b:P 4)(j:Nat)(h:j<5):P j:=(Nat.lt_succ_iff_lt_or_eq.mp h).elim (Gz a y K c j) λ e=>e▸b
theorem Ph{j:Nat}(h:j<4):j=0\/j=1\/j=2\/j=3:=Gz (P:=λ j=>j=0\/j=1\/j=2\/j=3) (.inl rfl) (.inr (.inl rfl)) (.inr (.inr (.inl rfl))) (.inr (.inr (.inr rfl))) j h
noncomputable def UX(c:Bool)(A B:Prop):Prop:=match c with
 |aC=>A|aG=>B
theorem itP_of{c:Bool}{A B:Prop}(y:c=aC->A)(K:c=aG->B):UX c A B:=by cases c with
 |true=>exact y rfl|false=>exact K rfl
theorem itP_t{c:Bool}{A B:Prop}(e:c=aC)(h:A):UX c A B:=by rw[e];exact h
theorem itP_f{c:Bool}{A B:Prop}(e:c=aG)(h:B):UX c A B:=by rw[e];exact h
noncomputable def DE(c:kP)(G:Gl)(b:List ME)(B:Loc)(k x:KE)(m:Nat)(v:MV)(Y:MH):Prop:=match v with
 |.ref a=>(match Y a with
 |aA (.inst C N)=>pX N (mf m)=aB/\c.hm C m=aC/\dP c G b B Y (λ Z Y=>c.meth C m (.ref a::Z) Y k x) x|aA (.list _)=>IZ m=aC/\dP c G b B Y (λ Z Y=>OptK (g9 Y m a Z) λ r=>k r.1 (upd Y a (.list r.2))) x|aA (.sdict _)=>m=32/\a≠gC/\dP c G b B Y (λ Z Y=>OptK (Ax Y a Z) λ r=>k r Y) x|_=>False)|.str s=>JK m=aC/\dP c G b B Y (λ Z Y=>OptK (WJ Y m s Z) λ r=>k r Y) x|_=>False
noncomputable def Am(G:Gl)(Y:MH)(v a b:MV)(k:KE):Prop:=match UR v with
 |aA s=>OptK (WG s a b) λ t=>k (.str t) Y|aB=>OptK (MK G Y v) λ l=>OptK (WG l a b) λ t=>∀n,Y n=aB->k (.ref n) (upd Y n (.list t))
noncomputable def NY(Y:MH)(b:Nat)(Z:List MV)(k:KE):Prop:=match Cz Y b Z with
 |aA l=>∀n,Y n=aB->k (.ref n) (upd Y n (.list l))|aB=>OptK (Gv Y b Z) λ r=>k r Y
theorem MZ{Y:MH}{a:Nat}{o:MO}(h:Y a=aA o):upd Y a o=Y:=by funext b;unfold upd;by_cases q:b=a<;>simp[q,h]
theorem eQ{Y:MH}{a n:Nat}{o:MO}(h:upd Y a o n=aB):n≠a/\Y n=aB:=by
 by_cases q:n=a;·rw[q,upd_same]at h;cases h
 ·rw[cE _ _ q]at h;exact⟨q,h⟩
theorem mJ(Y:MH)(a:Nat)(o A:MO):upd (upd Y a o) a A=upd Y a A:=by funext b;unfold upd;by_cases q:b=a<;>simp[q]
noncomputable def qX(G:Gl)(B:Loc):ME->Option MV
 |.no=>aA .none|.c .nil=>aA .none|.c (.b b)=>aA (.bool b)|.c (.i i)=>aA (.int i)|.c (.s s)=>aA (.str s)|.neg n=>aA (.int (-(n:Int)))|.l i=>B[i]?.join|.g i=>G.gv i|.bin d a b=>(qX G B a).bind λ u=>(qX G B b).bind λ v=>CU d u v|.idx a b=>(qX G B a).bind λ u=>(qX G B b).bind λ v=>GA (λ U=>aB) u v|_=>aB
noncomputable def xG(G:Gl)(B:Loc):List ME->Option (List MV)
 |[]=>aA []|e::X=>match qX G B e with
 |aB=>aB|aA v=>match xG G B X with
 |aB=>aB|aA Z=>aA (v::Z)
theorem TV{G:Gl}{B:Loc}{e:ME}{X:List ME}{Z:List MV}(h:xG G B (e::X)=aA Z):∃v t,qX G B e=aA v/\xG G B X=aA t/\v::t=Z:=by
 have P:(match qX G B e with
 |aB=>aB|aA v=>match xG G B X with
 |aB=>aB|aA Z=>aA (v::Z))=aA Z:=h;cases a:qX G B e with
 |none=>rw[a]at P;cases P|some v=>cases b:xG G B X with
 |none=>rw[a,b]at P;cases P|some t=>rw[a,b]at P;exact⟨v,t,rfl,rfl,bH P⟩
theorem ZN{mh:MH}{u v r:MV}(h:GA (λ U=>aB) u v=aA r):GA mh u v=aA r:=JJ (mh:=λ U=>aB) (M:=λ u v r=>GA mh u v=aA r) (λ U U U U e=>by cases e) (λ s i c e=>by show(rB s i).map _=_;rw[e];rfl) (λ l i r e=>e) h
section
variable(d:kP)(G:Gl)
/-! what is done with a value: words for the steps' continuations -/
noncomputable abbrev sK(z:List MS)(H:KL)(F:KE)(y:KL)(x:KE):KL:=λ B Y=>cF d G z B Y H F y x
noncomputable abbrev Gd(i:Nat)(z:List MS)(B:Loc)(H:KL)(F:KE)(y:KL)(x:KE):KE:=λ v Y=>cF d G z (B.set i (aA v)) Y H F y x
noncomputable abbrev Cs(n:List Nat)(z:List MS)(B:Loc)(H:KL)(F:KE)(y:KL)(x:KE):KE:=λ v Y=>OptK (wN n v B) λ X=>cF d G z X Y H F y x
noncomputable abbrev ZO(f:Nat)(v:MV)(z:List MS)(B:Loc)(H:KL)(F:KE)(y:KL)(x:KE):KE:=λ o Y=>NB G Y o f v λ Y=>cF d G z B Y H F y x
noncomputable abbrev Im(o:ME)(f:Nat)(z:List MS)(B:Loc)(H:KL)(F:KE)(y:KL)(x:KE):KE:=λ v Y=>bX d G o B Y (ZO d G f v z B H F y x) x
noncomputable abbrev Jm(o v:MV)(z:List MS)(B:Loc)(H:KL)(F:KE)(y:KL)(x:KE):KE:=λ j Y=>YZ Y o j v λ Y=>cF d G z B Y H F y x
noncomputable abbrev J9(i:ME)(v:MV)(z:List MS)(B:Loc)(H:KL)(F:KE)(y:KL)(x:KE):KE:=λ o Y=>bX d G i B Y (Jm d G o v z B H F y x) x
noncomputable abbrev Iq(o i:ME)(z:List MS)(B:Loc)(H:KL)(F:KE)(y:KL)(x:KE):KE:=λ v Y=>bX d G o B Y (J9 d G i v z B H F y x) x
noncomputable abbrev M5(z:List MS)(B:Loc)(H:KL)(F:KE)(y:KL)(x:KE):KE:=λ U Y=>cF d G z B Y H F y x
noncomputable def fq(a b z:List MS)(B:Loc)(H:KL)(F:KE)(y:KL)(x:KE):KE:=λ v Y=>OptK (FM v) λ c=>UX c (cF d G a B Y (sK d G z H F y x) F y x) (cF d G b B Y (sK d G z H F y x) F y x)
noncomputable def bj(b:List MS)(B:Loc)(H bZ:KL)(F:KE)(x:KE):KE:=λ v Y=>OptK (FM v) λ c=>UX c (cF d G b B Y bZ F bZ x) (H B Y)
noncomputable abbrev Jh(g:List Nat)(kind:Nat)(b z:List MS)(B:Loc)(H:KL)(F:KE)(y:KL)(x:KE):List MV->MH->Prop:=λ Z Y=>OptK (lZ Y kind Z) λ q=>tT (uU d G b F) g q.1 q.2 B Y (sK d G z H F y x)
noncomputable abbrev Hd(v:MV)(K:List MV->MH->Prop):List MV->MH->Prop:=λ Z Y=>K (v::Z) Y
noncomputable abbrev By(X:List ME)(B:Loc)(K:List MV->MH->Prop)(x:KE):KE:=λ v Y=>dP d G X B Y (Hd v K) x
noncomputable def Et(a b:ME)(B:Loc)(k x:KE):KE:=λ v Y=>OptK (FM v) λ c=>UX c (bX d G a B Y k x) (bX d G b B Y k x)
noncomputable abbrev K7(v a:MV)(k:KE):KE:=λ b Y=>Am G Y v a b k
noncomputable abbrev K3(b:ME)(v:MV)(B:Loc)(k x:KE):KE:=λ a Y=>bX d G b B Y (K7 G v a k) x
noncomputable abbrev Hy(lo a:ME)(B:Loc)(k x:KE):KE:=λ v Y=>bX d G lo B Y (K3 d G a v B k x) x
noncomputable abbrev F9(b:Nat)(k:KE):List MV->MH->Prop:=λ Z Y=>NY Y b Z k
noncomputable def ab(a:jO)(X:List ME)(B:Loc)(k x:KE):KE:=λ v Y=>OptK (FM v) λ b=>UX (yI a b) (k (.bool b) Y) (bX d G (.bool a X) B Y k x)
noncomputable def D9(k:KE):KE:=λ v Y=>OptK (FM v) λ b=>k (.bool b) Y
noncomputable abbrev Kj(f:Nat)(o:List Nat)(k x:KE):List MV->MH->Prop:=λ Z Y=>d.call f Z o Y k x
noncomputable abbrev K8(f:Nat)(k x:KE):List MV->MH->Prop:=λ Z Y=>d.new f Z Y k x
noncomputable def Gs(f:List Nat)(k:KE):KE:=λ v Y=>OptK (BQ G Y v) λ t=>k (.bool (f.any λ c=>BE t (G.ca c))) Y
noncomputable def Ln(f:Nat)(k:KE):KE:=λ v Y=>OptK (FF G Y v f) λ u=>k u Y
noncomputable abbrev Li(v:MV)(k:KE):KE:=λ j Y=>OptK (GA Y v j) λ u=>k u Y
noncomputable abbrev Nh(i:ME)(B:Loc)(k x:KE):KE:=λ v Y=>bX d G i B Y (Li v k) x
noncomputable abbrev L7(a:iX)(u:MV)(k:KE):KE:=λ v Y=>OptK (CU a u v) λ r=>k r Y
noncomputable abbrev Pd(a:iX)(b:ME)(B:Loc)(k x:KE):KE:=λ u Y=>bX d G b B Y (L7 a u k) x
noncomputable abbrev Hc(a:lS)(u:MV)(k:KE):KE:=λ v Y=>OptK (IP G a Y u v) λ r=>k (.bool r) Y
noncomputable abbrev Ol(a:lS)(b:ME)(B:Loc)(k x:KE):KE:=λ u Y=>bX d G b B Y (Hc G a u k) x
noncomputable def Lr(k:KE):KE:=λ v Y=>OptK (FM v) λ b=>k (.bool !b) Y
noncomputable def tupK(k:KE):List MV->MH->Prop:=λ Z Y=>Z.length<=aX/\k (.tup Z) Y
noncomputable def lstK(k:KE):List MV->MH->Prop:=λ Z Y=>Z.length<=aX/\∀n,Y n=aB->k (.ref n) (upd Y n (.list Z))
noncomputable def Fs(a:lS)(k:KE):KE:=λ u Y=>OptK (listOf Y u) λ l=>OptK (rb a l) λ b=>k (.bool b) Y
noncomputable abbrev Od(C m a:Nat)(k x:KE):List MV->MH->Prop:=λ Z Y=>d.meth C m (.ref a::Z) Y k x
noncomputable abbrev Ox(m a:Nat)(k:KE):List MV->MH->Prop:=λ Z Y=>OptK (g9 Y m a Z) λ r=>k r.1 (upd Y a (.list r.2))
noncomputable abbrev N1(a:Nat)(k:KE):List MV->MH->Prop:=λ Z Y=>OptK (Ax Y a Z) λ r=>k r Y
noncomputable abbrev Pr(m:Nat)(s:List Nat)(k:KE):List MV->MH->Prop:=λ Z Y=>OptK (WJ Y m s Z) λ r=>k r Y
end
section
variable{d:kP}{G:Gl}{B:Loc}{Y:MH}{k x:KE}
theorem r_sv:∀(e:ME){k:KE}{v:MV},qX G B e=aA v->k v Y->bX d G e B Y k x
 |.no=>λ h hk=>by cases h;exact hk|.c q=>λ h hk=>by cases q<;>(cases h;exact hk)|.neg _=>λ h hk=>by cases h;exact hk|.l _=>λ h hk=>OptK.some h hk|.g _=>λ h hk=>OptK.some h hk|.bin _ a b=>λ h hk=>by
  obtain⟨u,f,h⟩:=cA h;obtain⟨v,i,h⟩:=cA h;exact au.mpr (r_sv a f (r_sv b i (OptK.some h hk)))|.idx a b=>λ h hk=>by
  obtain⟨u,f,h⟩:=cA h;obtain⟨v,i,h⟩:=cA h;exact ZP.mpr (r_sv a f (r_sv b i (OptK.some (ZN h) hk)))|.attr ..|.slc ..|.call ..|.new ..|.meth ..|.bi ..|.lst ..|.tup ..|.cmp ..|.cmpNil ..|.bool ..|.not ..|.ite ..|.isin ..|.comp ..|.pick ..|.jrev ..|.lzip ..|.emp|.dead=>λ h y_=>on1 h
theorem r_svs:∀(X:List ME){K:List MV->MH->Prop}{vs:List MV},xG G B X=aA vs->K vs Y->dP d G X B Y K x:=by
 intro b;induction b with
 |nil=>
 intro y_ y_ h hk;cases h;exact hk|cons e X a=>
 intro y_ y_ h hk;obtain⟨v,vs,f,c,h⟩:=TV h;exact CQ.mpr (r_sv e f (a c (by rw[h];exact hk)))
theorem r_args{e:ME}{X:List ME}{K:List MV->MH->Prop}(h:bX d G e B Y (By d G X B K x) x):dP d G (e::X) B Y K x:=h
theorem r_args0{K:List MV->MH->Prop}(h:K [] Y):dP d G [] B Y K x:=h
theorem r_ite{t a b:ME}(h:bX d G t B Y (Et d G a b B k x) x):bX d G (.ite t a b) B Y k x:=h
theorem r_meth{e:ME}{m:Nat}{a:List ME}(h:bX d G e B Y (DE d G a B k x m) x):bX d G (.meth e m a) B Y k x:=h
theorem r_slc{e lo a:ME}(h:bX d G e B Y (Hy d G lo a B k x) x):bX d G (.slc e lo a) B Y k x:=h
theorem r_bi{b:Nat}{a:List ME}(h:dP d G a B Y (F9 b k) x):bX d G (.bi b a) B Y k x:=h
theorem r_bool{a:jO}{e E:ME}{X:List ME}(h:bX d G e B Y (ab d G a (E::X) B k x) x):bX d G (.bool a (e::E::X)) B Y k x:=h
theorem r_bool1{a:jO}{e:ME}(h:bX d G e B Y (D9 k) x):bX d G (.bool a [e]) B Y k x:=h
theorem r_call{f:Nat}{a:List ME}{o:List Nat}(h:d.hc f=aC)(hk:dP d G a B Y (Kj d f o k x) x):bX d G (.call f a o) B Y k x:=⟨h,hk⟩
theorem r_new{f:Nat}{a:List ME}(h:d.hn f=aC)(hk:dP d G a B Y (K8 d f k x) x):bX d G (.new f a) B Y k x:=⟨h,hk⟩
theorem r_isin{e:ME}{f:List Nat}{tp:Bool}(h:f.all G.ci=aC)(hk:bX d G e B Y (Gs G f k) x):bX d G (.isin e f tp) B Y k x:=⟨h,hk⟩
theorem r_attr{e:ME}{f:Nat}(h:bX d G e B Y (Ln G f k) x):bX d G (.attr e f) B Y k x:=h
theorem r_idx{e i:ME}(h:bX d G e B Y (Nh d G i B k x) x):bX d G (.idx e i) B Y k x:=h
theorem r_bin{c:iX}{a b:ME}(h:bX d G a B Y (Pd d G c b B k x) x):bX d G (.bin c a b) B Y k x:=h
theorem r_cmp{c:lS}{a b:ME}(h:bX d G a B Y (Ol d G c b B k x) x):bX d G (.cmp c a b) B Y k x:=h
theorem r_not{a:ME}(h:bX d G a B Y (Lr k) x):bX d G (.not a) B Y k x:=h
theorem r_tup{X:List ME}(h:dP d G X B Y (tupK k) x):bX d G (.tup X) B Y k x:=h
theorem r_lst{X:List ME}(h:dP d G X B Y (lstK k) x):bX d G (.lst X) B Y k x:=h
theorem r_nil{b:lS}{a:ME}(h:bX d G a B Y (Fs b k) x):bX d G (.cmpNil b a) B Y k x:=h
variable{H:KL}{F:KE}{y:KL}{z:List MS}
theorem t_asg{i:Nat}{e:ME}(h:bX d G e B Y (Gd d G i z B H F y x) x):cF d G (.asg (.l i) e::z) B Y H F y x:=h
theorem t_ls{n:List Nat}{e:ME}(h:bX d G e B Y (Cs d G n z B H F y x) x):cF d G (.asg (.ls n) e::z) B Y H F y x:=h
theorem t_attr{o e:ME}{f:Nat}(h:bX d G e B Y (Im d G o f z B H F y x) x):cF d G (.asg (.attr o f) e::z) B Y H F y x:=h
theorem t_sub{o i e:ME}(h:bX d G e B Y (Iq d G o i z B H F y x) x):cF d G (.asg (.sub o i) e::z) B Y H F y x:=h
theorem t_ex{e:ME}(h:bX d G e B Y (M5 d G z B H F y x) x):cF d G (.ex e::z) B Y H F y x:=h
theorem t_ite{e:ME}{a b:List MS}(h:bX d G e B Y (fq d G a b z B H F y x) x):cF d G (.ite e a b::z) B Y H F y x:=h
theorem t_ret{e:ME}(h:bX d G e B Y F x):cF d G (.ret e::z) B Y H F y x:=h
theorem m7{e:ME}(h:bX d G e B Y (λ v Y=>OptK (xY v) λ i=>x (.int i) Y) x):cF d G (.raiseLim e::z) B Y H F y x:=h
theorem sd{e:ME}(h:bX d G e B Y F F):cF d G (.tryLim e::z) B Y H F y x:=h
theorem t_cont(h:y B Y):cF d G (.cont::z) B Y H F y x:=h
theorem t_nil(h:H B Y):cF d G [] B Y H F y x:=h
theorem nY{e:ME}{b:List MS}(n:Nat)(h:lT (zG d G e b (sK d G z H F y x) F x) n B Y):cF d G (.whl e b::z) B Y H F y x:=⟨n,h⟩
theorem tD{g:List Nat}{kind:Nat}{a:List ME}{b:List MS}(h:dP d G a B Y (Jh d G g kind b z B H F y x) x):cF d G (.for_ g kind a b::z) B Y H F y x:=h
theorem fD{e:ME}{b:List MS}{bZ:KL}(h:bX d G e B Y (bj d G b B H bZ F x) x):zG d G e b H F x B Y bZ:=h
theorem lK{b:List MS}{bZ:KL}(h:cF d G b B Y bZ F bZ λ U U=>False):uU d G b F B Y bZ:=h
theorem fE{a:Loc->MH->KL->Prop}{n:Nat}(h:a B Y (lT a n)):lT a (n+1) B Y:=h
/-! a value comes back -/
variable{p:KE}{v u:MV}{vs:List MV}{K:List MV->MH->Prop}
theorem q_ls{n:List Nat}{X:Loc}(e:wN n v B=aA X)(h:cF d G z X Y H F y x):Cs d G n z B H F y x v Y:=OptK.some e h
theorem q_ls2{i j:Nat}{a b:MV}(h:cF d G z ((B.set i (aA a)).set j (aA b)) Y H F y x):Cs d G [i,j] z B H F y x (.tup [a,b]) Y:=h
theorem q_ls3{i j n:Nat}{a b c:MV}(h:cF d G z (((B.set i (aA a)).set j (aA b)).set n (aA c)) Y H F y x):Cs d G [i,j,n] z B H F y x (.tup [a,b,c]) Y:=h
theorem q_ats2{a C f:Nat}{fs:List (Nat×MV)}(h:Y a=aA (.inst C fs))(c:G.fo C f=aC)(b:(gE f iO.length&&gE fs.length 100)=aC)(hk:cF d G z B (upd Y a (.inst C (xR fs f v))) H F y x):ZO d G f v z B H F y x (.ref a) Y:=⟨a,C,fs,rfl,h,c,aO (bl b),aO (br b),hk⟩
theorem q_ats3{a C f:Nat}{fs:List (Nat×MV)}(c:G.fo C f=aC)(b:(gE f iO.length&&gE fs.length 100)=aC)(hk:cF d G z B (upd Y a (.inst C (xR fs f v))) H F y x):ZO d G f v z B H F y x (.ref a) (upd Y a (.inst C fs)):=⟨a,C,fs,rfl,upd_same ..,c,aO (bl b),aO (br b),by rw[mJ];exact hk⟩
theorem q_ite{a b:List MS}{c:Bool}(h:UX c (cF d G a B Y (sK d G z H F y x) F y x) (cF d G b B Y (sK d G z H F y x) F y x)):fq d G a b z B H F y x (.bool c) Y:=h
theorem q_itet{a b:List MS}{c:Bool}(e:c=aC)(h:cF d G a B Y (sK d G z H F y x) F y x):fq d G a b z B H F y x (.bool c) Y:=itP_t e h
theorem q_itef{a b:List MS}{c:Bool}(e:c=aG)(h:cF d G b B Y (sK d G z H F y x) F y x):fq d G a b z B H F y x (.bool c) Y:=itP_f e h
theorem q_tur{b:List MS}{bZ:KL}{c:Bool}(h:UX c (cF d G b B Y bZ F bZ x) (H B Y)):bj d G b B H bZ F x (.bool c) Y:=h
theorem q_turt{b:List MS}{bZ:KL}{c:Bool}(e:c=aC)(h:cF d G b B Y bZ F bZ x):bj d G b B H bZ F x (.bool c) Y:=itP_t e h
theorem q_turf{b:List MS}{bZ:KL}{c:Bool}(e:c=aG)(h:H B Y):bj d G b B H bZ F x (.bool c) Y:=itP_f e h
theorem q_args{X:List ME}(e:xG G B X=aA vs)(h:K (v::vs) Y):By d G X B K x v Y:=r_svs X e h
theorem q_it{a b:ME}{c:Bool}(h:UX c (bX d G a B Y k x) (bX d G b B Y k x)):Et d G a b B k x (.bool c) Y:=h
theorem q_itt{a b:ME}{c:Bool}(e:c=aC)(h:bX d G a B Y k x):Et d G a b B k x (.bool c) Y:=itP_t e h
theorem q_itf{a b:ME}{c:Bool}(e:c=aG)(h:bX d G b B Y k x):Et d G a b B k x (.bool c) Y:=itP_f e h
theorem q_bol{a:jO}{X:List ME}{c:Bool}(h:UX (yI a c) (k (.bool c) Y) (bX d G (.bool a X) B Y k x)):ab d G a X B k x (.bool c) Y:=h
theorem q_bolt{a:jO}{X:List ME}{c:Bool}(e:yI a c=aC)(h:k (.bool c) Y):ab d G a X B k x (.bool c) Y:=itP_t e h
theorem q_bolf{a:jO}{X:List ME}{c:Bool}(e:yI a c=aG)(h:bX d G (.bool a X) B Y k x):ab d G a X B k x (.bool c) Y:=itP_f e h
theorem q_iteof{a b:List MS}{c:Bool}(C:c=aC->cF d G a B Y (sK d G z H F y x) F y x)(W:c=aG->cF d G b B Y (sK d G z H F y x) F y x):fq d G a b z B H F y x (.bool c) Y:=itP_of C W
theorem q_turof{b:List MS}{bZ:KL}{c:Bool}(C:c=aC->cF d G b B Y bZ F bZ x)(W:c=aG->H B Y):bj d G b B H bZ F x (.bool c) Y:=itP_of C W
theorem q_itof{a b:ME}{c:Bool}(C:c=aC->bX d G a B Y k x)(W:c=aG->bX d G b B Y k x):Et d G a b B k x (.bool c) Y:=itP_of C W
theorem q_bolof{a:jO}{X:List ME}{c:Bool}(C:yI a c=aC->k (.bool c) Y)(W:yI a c=aG->bX d G (.bool a X) B Y k x):ab d G a X B k x (.bool c) Y:=itP_of C W
theorem q_bo1{c:Bool}(h:k (.bool c) Y):D9 k (.bool c) Y:=h
theorem q_at{a C f:Nat}{fs:List (Nat×MV)}(h:Y a=aA (.inst C fs))(c:G.fo C f=aC)(b:pX fs f=aA u)(hk:k u Y):Ln G f k (.ref a) Y:=OptK.some (by unfold FF;dsimp only;rw[h];dsimp only;rw[if_pos c,b]) hk
theorem q_ix2{a:Nat}{l:List MV}{i:Int}(h:Y a=aA (.list l))(e:rB l i=aA v)(hk:k v Y):Li (.ref a) k (.int i) Y:=by
 show OptK ((listOf Y (.ref a)).bind λ l=>rB l i) _;unfold listOf;dsimp only;rw[h];exact OptK.some e hk
theorem q_bn2{a:iX}{r:MV}(e:CU a u v=aA r)(h:k r Y):L7 a u k v Y:=OptK.some e h
theorem q_cm2{a:lS}{r:Bool}(e:IP G a Y u v=aA r)(h:k (.bool r) Y):Hc G a u k v Y:=OptK.some e h
theorem q_no{c:Bool}(h:k (.bool !c) Y):Lr k (.bool c) Y:=h
theorem q_tup(e:iL vs.length aX=aC)(h:k (.tup vs) Y):tupK k vs Y:=⟨aO e,h⟩
theorem q_lst(e:iL vs.length aX=aC)(h:∀n,Y n=aB->k (.ref n) (upd Y n (.list vs))):lstK k vs Y:=⟨aO e,h⟩
theorem q_nil{c:lS}{a:Nat}{l:List MV}(h:Y a=aA (.list l))(hk:OptK (rb c l) λ b=>k (.bool b) Y):Fs c k (.ref a) Y:=OptK.some (by unfold listOf;dsimp only;rw[h]) hk
theorem q_is{f:List Nat}{a C:Nat}{fs:List (Nat×MV)}(h:Y a=aA (.inst C fs))(b:G.ic C=aC)(hk:k (.bool (f.any λ c=>BE (.own C) (G.ca c))) Y):Gs G f k (.ref a) Y:=OptK.some (by unfold BQ;dsimp only;rw[h];dsimp only;rw[if_pos b]) hk
theorem q_is2{f:List Nat}{t:TC}(e:BQ G Y v=aA t)(hk:k (.bool (f.any λ c=>BE t (G.ca c))) Y):Gs G f k v Y:=OptK.some e hk
/-! two steps at once -/
theorem z_asg{i:Nat}{e:ME}(a:qX G B e=aA v)(h:cF d G z (B.set i (aA v)) Y H F y x):cF d G (.asg (.l i) e::z) B Y H F y x:=r_sv e a h
theorem z_ret{e:ME}(a:qX G B e=aA v)(h:F v Y):cF d G (.ret e::z) B Y H F y x:=r_sv e a h
theorem z_call{f:Nat}{a:List ME}{o:List Nat}(b:d.hc f=aC)(e:xG G B a=aA vs)(hk:d.call f vs o Y k x):bX d G (.call f a o) B Y k x:=⟨b,r_svs a e hk⟩
theorem z_new{f:Nat}{a:List ME}(b:d.hn f=aC)(e:xG G B a=aA vs)(hk:d.new f vs Y k x):bX d G (.new f a) B Y k x:=⟨b,r_svs a e hk⟩
theorem z_bi{b:Nat}{a:List ME}(e:xG G B a=aA vs)(hk:NY Y b vs k):bX d G (.bi b a) B Y k x:=r_svs (K:=F9 b k) a e hk
theorem z_tup{X:List ME}(e:xG G B X=aA vs)(q:iL vs.length aX=aC)(hk:k (.tup vs) Y):bX d G (.tup X) B Y k x:=r_svs X e (q_tup q hk)
theorem z_cmp{c:lS}{a b:ME}(e:qX G B a=aA u)(f:qX G B b=aA v)(hk:Hc G c u k v Y):bX d G (.cmp c a b) B Y k x:=r_cmp (r_sv a e (r_sv b f hk))
theorem z_isin{e:ME}{f:List Nat}{tp:Bool}(b:f.all G.ci=aC)(a:qX G B e=aA v)(hk:Gs G f k v Y):bX d G (.isin e f tp) B Y k x:=⟨b,r_sv e a hk⟩
theorem z_asga{i:Nat}{e:ME}{a C f:Nat}{fs:List (Nat×MV)}(b:qX G B e=aA (.ref a))(h:Y a=aA (.inst C fs))(c:G.fo C f=aC)(g:pX fs f=aA u)(hk:cF d G z (B.set i (aA u)) Y H F y x):cF d G (.asg (.l i) (.attr e f)::z) B Y H F y x:=r_sv e b (q_at (k:=Gd d G i z B H F y x) h c g hk)
theorem z_ats3{o e:ME}{f a C:Nat}{fs:List (Nat×MV)}(b:qX G B e=aA v)(h:qX G B o=aA (.ref a))(c:G.fo C f=aC)(g:(gE f iO.length&&gE fs.length 100)=aC)(hk:cF d G z B (upd Y a (.inst C (xR fs f v))) H F y x):cF d G (.asg (.attr o f) e::z) B (upd Y a (.inst C fs)) H F y x:=t_attr (r_sv e b (r_sv (k:=ZO d G f v z B H F y x) o h (q_ats3 c g hk)))
theorem z_ats{o e:ME}{f a C:Nat}{fs:List (Nat×MV)}(b:qX G B e=aA v)(i:qX G B o=aA (.ref a))(h:Y a=aA (.inst C fs))(c:G.fo C f=aC)(g:(gE f iO.length&&gE fs.length 100)=aC)(hk:cF d G z B (upd Y a (.inst C (xR fs f v))) H F y x):cF d G (.asg (.attr o f) e::z) B Y H F y x:=t_attr (r_sv e b (r_sv (k:=ZO d G f v z B H F y x) o i (q_ats2 h c g hk)))
/-! values -/
variable{K:MV->Prop}
theorem k_asB{b:Bool}{k:Bool->Prop}(h:k b):OptK (FM (.bool b)) k:=h
theorem k_attr{a C f:Nat}{fs:List (Nat×MV)}{u:MV}(h:Y a=aA (.inst C fs))(c:G.fo C f=aC)(b:pX fs f=aA u)(hk:K u):OptK (FF G Y (.ref a) f) K:=by unfold FF;dsimp only;rw[h];dsimp only;rw[if_pos c,b];exact hk
theorem r_at{e:ME}{a C f:Nat}{fs:List (Nat×MV)}{u:MV}(b:qX G B e=aA (.ref a))(h:Y a=aA (.inst C fs))(c:G.fo C f=aC)(g:pX fs f=aA u)(hk:k u Y):bX d G (.attr e f) B Y k x:=r_sv e b (k_attr h c g hk)
theorem dR{a:Nat}{l:List MV}(h:Y a=aA (.list l)):listOf Y (.ref a)=aA l:=by unfold listOf;dsimp only;rw[h]
theorem k_list{a:Nat}{l:List MV}{k:List MV->Prop}(h:Y a=aA (.list l))(hk:k l):OptK (listOf Y (.ref a)) k:=OptK.some (dR h) hk
theorem k_len{a:Nat}{l:List MV}(h:Y a=aA (.list l))(hk:k (.int l.length) Y):NY Y 0 [.ref a] k:=by
 show OptK ((listOf Y (.ref a)).map λ l=>MV.int l.length) _;rw[dR h];exact hk
theorem k_lenS{s:List Nat}(hk:k (.int s.length) Y):NY Y 0 [.str s] k:=hk
theorem fm{a b:Int}(h:0<b/\b.natAbs<kD)(hk:k (.tup [.int (a/b),.int (a%b)]) Y):NY Y 8 [.int a,.int b] k:=by
 show OptK (if 0<b/\b.natAbs<kD then aA (MV.tup [.int (a/b),.int (a%b)])else aB) _;rw[if_pos h];exact hk
theorem k_idx{a:Nat}{l:List MV}{i:Int}{v:MV}(h:Y a=aA (.list l))(e:rB l i=aA v)(hk:K v):OptK (GA Y (.ref a) (.int i)) K:=by
 show OptK ((listOf Y (.ref a)).bind λ l=>rB l i) _;rw[dR h];exact OptK.some e hk
theorem YS{s:List Nat}{i:Int}{c:Nat}(e:rB s i=aA c)(hk:K (.str [c])):OptK (GA Y (.str s) (.int i)) K:=by
 show OptK ((rB s i).map λ c=>MV.str [c]) _;rw[e];exact hk
theorem m_inst{b:List ME}{m a C:Nat}{fs:List (Nat×MV)}(h:Y a=aA (.inst C fs))(e:pX fs (mf m)=aB)(c:d.hm C m=aC)(hk:dP d G b B Y (Od d C m a k x) x):DE d G b B k x m (.ref a) Y:=by unfold DE;dsimp only;rw[h];exact⟨e,c,hk⟩
theorem m_list{b:List ME}{m a:Nat}{l:List MV}(h:Y a=aA (.list l))(c:IZ m=aC)(hk:dP d G b B Y (Ox m a k) x):DE d G b B k x m (.ref a) Y:=by unfold DE;dsimp only;rw[h];exact⟨c,hk⟩
theorem PW{b:List ME}{a:Nat}{X:List (List Nat×MV)}(h:Y a=aA (.sdict X))(c:a≠gC)(hk:dP d G b B Y (N1 a k) x):DE d G b B k x 32 (.ref a) Y:=by unfold DE;dsimp only;rw[h];exact⟨rfl,c,hk⟩
theorem m_str{a:List ME}{m:Nat}{s:List Nat}(b:JK m=aC)(hk:dP d G a B Y (Pr m s k) x):DE d G a B k x m (.str s) Y:=⟨b,hk⟩
theorem gQ{a:Nat}{l:List MV}{v:MV}{k:MV×List MV->Prop}(h:Y a=aA (.list l))(b:l.length<=aX)(hk:k (.none,l++[v])):OptK (g9 Y 29 a [v]) k:=by
 show OptK ((listOf Y (.ref a)).bind _) _;rw[dR h];show OptK (if l.length<=aX then aA (MV.none,l++[v])else aB) _;rw[if_pos b];exact hk
theorem Lv{e:ME}{a:Nat}{l:List MV}{v:MV}(b:qX G B e=aA v)(h:Y a=aA (.list l))(c:l.length<=aX)(hk:k .none (upd Y a (.list (l++[v])))):DE d G [e] B k x 29 (.ref a) Y:=m_list h rfl (r_svs [e] (by unfold xG;rw[b];rfl) (gQ h c hk))
theorem CN{a:Nat}{l:List MV}{v:MV}{k:MV×List MV->Prop}(h:Y a=aA (.list (l++[v])))(hk:k (v,l)):OptK (g9 Y 30 a []) k:=by
 show OptK ((listOf Y (.ref a)).bind _) _;rw[dR h];show OptK (((l++[v]).getLast?).map λ u=>(u,(l++[v]).dropLast)) _;rw[List.getLast?_concat,List.dropLast_concat];exact hk
theorem Gp{a C f:Nat}{N:List (Nat×MV)}{u:MV}{k:MH->Prop}(h:Y a=aA (.inst C N))(c:G.fo C f=aC)(e:gE f iO.length=aC)(b:gE N.length 100=aC)(hk:k (upd Y a (.inst C (xR N f u)))):NB G Y (.ref a) f u k:=⟨a,C,N,rfl,h,c,aO e,aO b,hk⟩
theorem ZT{a C f:Nat}{N:List (Nat×MV)}{u:MV}{k:MH->Prop}(c:G.fo C f=aC)(e:gE f iO.length=aC)(b:gE N.length 100=aC)(hk:k (upd Y a (.inst C (xR N f u)))):NB G (upd Y a (.inst C N)) (.ref a) f u k:=⟨a,C,N,rfl,upd_same ..,c,aO e,aO b,by rw[mJ];exact hk⟩
theorem k_cls{a C:Nat}{fs:List (Nat×MV)}{k:TC->Prop}(h:Y a=aA (.inst C fs))(b:G.ic C=aC)(hk:k (.own C)):OptK (BQ G Y (.ref a)) k:=by unfold BQ;dsimp only;rw[h];dsimp only;rw[if_pos b];exact hk
theorem nW{s t:List Nat}{a b:MV}(e:WG s a b=aA t)(hk:k (.str t) Y):Am G Y (.str s) a b k:=OptK.some e hk
theorem uW{a:Nat}{l:List MV}{s t:List Nat}{k:MV->Prop}(h:Y a=aA (.list l))(e:qE s l=aA t)(b:t.length<=aX)(hk:k (.str t)):OptK (WJ Y 25 s [.ref a]) k:=by
 show OptK ((listOf Y (.ref a)).bind _) _;rw[dR h];show OptK ((qE s l).bind λ t=>if t.length<=aX then aA (MV.str t)else aB) _;rw[e];show OptK (if t.length<=aX then aA (MV.str t)else aB) _;rw[if_pos b];exact hk
end
noncomputable def Ext(Y I:MH):Prop:=∀a o,Y a=aA o->I a=aA o
theorem Ext.refl(Y:MH):Ext Y Y:=λ U U e=>e
theorem Ext.trans{a b c:MH}(x:Ext a b)(y:Ext b c):Ext a c:=λ n o e=>y n o (x n o e)
theorem Ext.upd{a b:MH}(x:Ext a b){n:Nat}(h:a n=aB)(o:MO):Ext a (upd b n o):=λ m p e=>by
 rw[cE];·exact x m p e
 ·rintro rfl;rw[h]at e;cases e
theorem Ext.off{a b:MH}(x:Ext a b){n:Nat}(h:b n=aB):a n=aB:=by cases e:a n with
 |none=>rfl|some o=>rw[x n o e]at h;cases h
theorem Ext.new{a:MH}{n:Nat}(h:a n=aB)(o:MO):Ext a (Internal.upd a n o):=(Ext.refl a).upd h o
theorem call_in{T:i6}{G:Gl}{d f:Nat}{F:MF}{Z:List MV}{o:List Nat}{loc:Loc}{Y:MH}{k x:KE}(e:T.fn f=aA F)(b:bindM F Z o=aA loc)(h:cF (bY T G d) G F.body loc Y (λ U Y=>k .none Y) k (λ U U=>False) x):(bY T G (d+1)).call f Z o Y k x:=OptK.some e (OptK.some b h)
theorem dX{T:i6}{G:Gl}{d C m:Nat}{F:MF}{Z:List MV}{loc:Loc}{Y:MH}{k x:KE}(e:T.mth C m=aA F)(b:bindM F Z []=aA loc)(h:cF (bY T G d) G F.body loc Y (λ U Y=>k .none Y) k (λ U U=>False) x):(bY T G (d+1)).meth C m Z Y k x:=OptK.some e (OptK.some b h)
theorem PK{T:i6}{G:Gl}{d f C:Nat}{F:MF}{Z:List MV}{loc:Nat->Loc}{Y:MH}{k x:KE}(e:T.ini f=aA F)(c:G.ca f=C)(b:∀a,bindM F (.ref a::Z) []=aA (loc a))(h:∀a,Y a=aB->cF (bY T G d) G F.body (loc a) (upd Y a (.inst C [])) (λ U Y=>MV.none=.none/\k (.ref a) Y) (λ v Y=>v=.none/\k (.ref a) Y) (λ U U=>False) x):(bY T G (d+1)).new f Z Y k x:=OptK.some e λ a g=>by rw[c];exact OptK.some (b a) (h a g)
noncomputable def Ey:MS->Option (Nat×ME)
 |.asg t e=>(match t with
 |.attr o f=>(match o with
 |.l i=>if cB i 0=aC then aA (f,e)else aB|_=>aB)|_=>aB)|_=>aB
theorem af{s:MS}{p:Nat×ME}(h:Ey s=aA p):s=.asg (.attr (.l 0) p.1) p.2:=by cases s with
 |asg t e=>cases t with
  |attr o f=>cases o with
   |l i=>
 replace h:(if cB i 0=aC then aA (f,e)else aB)=aA p:=h;obtain⟨c,h⟩:=gZ h;rw[<-h,bI c]|_=>exact on1 h
  |_=>exact on1 h
 |_=>exact on1 h
noncomputable def z8(G:Gl)(C:Nat)(B:Loc):List MS->List (Nat×MV)->Option (List (Nat×MV))
 |[],N=>aA N|s::z,N=>(Ey s).bind λ p=>(qX G B p.2).bind λ v=>if(G.fo C p.1&&gE p.1 iO.length&&gE N.length 100)=aC then z8 G C B z (xR N p.1 v)else aB
theorem ZL{a:Type}{c:Prop}[Decidable c]{x:Option a}{r:a}(h:(if c then x else aB)=aA r):c/\x=aA r:=by
 by_cases q:c;·rw[if_pos q]at h;exact⟨q,h⟩
 ·rw[if_neg q]at h;cases h
theorem oi{g:kP}{G:Gl}{C a:Nat}{B:Loc}{Y:MH}{k x:KE}(f:B[0]?.join=aA (.ref a)):∀(z:List MS)(N F:List (Nat×MV)),z8 G C B z N=aA F->k (.ref a) (upd Y a (.inst C F))->cF g G z B (upd Y a (.inst C N)) (λ U Y=>MV.none=.none/\k (.ref a) Y) (λ v Y=>v=.none/\k (.ref a) Y) (λ U U=>False) x:=by
 intro e;induction e with
 |nil=>
 intro N F h hk;cases h;exact⟨rfl,hk⟩|cons s z b=>
 intro N F h hk;obtain⟨p,d,h⟩:=cA h;obtain⟨v,i,h⟩:=cA h;obtain⟨c,h⟩:=ZL h;rw[af d];exact t_attr (r_sv p.2 i (r_sv (.l 0) f (ZT (bl (bl c)) (br (bl c)) (br c) (b _ _ h hk))))
theorem rG{T:i6}{G:Gl}{d f:Nat}{F:MF}{Z:List MV}{N:List (Nat×MV)}{Y:MH}{k x:KE}(e:T.ini f=aA F)(B:Nat->Loc)(b:∀a,bindM F (.ref a::Z) []=aA (B a))(i:∀a,(B a)[0]?.join=aA (.ref a))(g:∀a,z8 G (G.ca f) (B a) F.body []=aA N)(h:∀a,Y a=aB->k (.ref a) (upd Y a (.inst (G.ca f) N))):(bY T G (d+1)).new f Z Y k x:=OptK.some e λ a c=>OptK.some (b a) (oi (i a) _ _ _ (g a) (h a c))
section
variable{L:List MV}{d:Nat}{Y:MH}{k x:KE}
theorem QH{a b:MV}(h:∀n,Y n=aB->k (.ref n) (upd Y n (.inst 149 [(5,a),(6,b),(7,.none)]))):(bY TB (G0 L) (d+1)).new 7 [a,b] Y k x:=rG (F:=I7) rfl (λ n=>[aA (.ref n),aA a,aA b]) (λ U=>rfl) (λ U=>rfl) (λ U=>rfl) h
end
section
variable{d:kP}{G:Gl}{B:Loc}{Y:MH}{k x:KE}
theorem mY{a b:List Nat}{K:MV->Prop}(h:a.length+b.length<=aX)(hk:K (.str (a++b))):OptK (CU .Add (.str a) (.str b)) K:=by
 show OptK (if a.length+b.length<=aX then aA (MV.str (a++b))else aB) K;rw[if_pos h];exact hk
theorem TA{a b:Int}{K:MV->Prop}(h:a.natAbs<kD)(hk:K (.int (a*b))):OptK (CU .Mult (.int a) (.int b)) K:=by
 show OptK (if a.natAbs<kD then aA (MV.int (a*b))else aB) K;rw[if_pos h];exact hk
theorem Bc{a b:Int}{K:MV->Prop}(h:0<b/\b.natAbs<kD)(hk:K (.int (a/b))):OptK (CU .FloorDiv (.int a) (.int b)) K:=by
 show OptK (if 0<b/\b.natAbs<kD then aA (MV.int (a/b))else aB) K;rw[if_pos h];exact hk
theorem fj{a b:Int}{K:MV->Prop}(h:0<b)(hk:K (.int (a%b))):OptK (CU .Mod (.int a) (.int b)) K:=by
 show OptK (if 0<b then aA (MV.int (a%b))else aB) K;rw[if_pos h];exact hk
theorem Lx{a b:Nat}{K:MV->Prop}(h:2<=a/\a<=16/\b<=90)(hk:K (.int ((a:Int)^b))):OptK (CU .Pow (.int a) (.int b)) K:=by
 show OptK (if 2<=(a:Int)/\(a:Int)<=16/\0<=(b:Int)/\(b:Int)<=90 then aA (MV.int ((a:Int)^(b:Int).toNat))else aB) K;rw[if_pos ⟨by lia,by lia,by lia,by lia⟩];exact hk
theorem Dj(v:MV):rp Y 2 v=(xY v).bind λ i=>if 0<=i/\i<1114112 then aA (.str [i.toNat])else aB:=rfl
theorem am{a:Type}{f:Int->Option a}(c:Int):(xY (.int c)).bind f=f c:=rfl
theorem di{P:Prop}[Decidable P]{b:Type}{a:b}(h:P):(if P then aA a else aB)=aA a:=if_pos h
theorem ix{i:Int}(q:0<=i/\i<1114112):rp Y 2 (.int i)=aA (.str [i.toNat]):=(Dj _).trans ((am i).trans (di q))
theorem WX{c:Nat}(h:c<1114112):rp Y 2 (.int c)=aA (.str [c]):=ix ⟨gL c,oK.mpr h⟩
theorem Cm(v:MV):NY Y 2 [v] k=OptK (rp Y 2 v) λ r=>k r Y:=rfl
theorem k_chr{c:Nat}(h:c<1114112)(hk:k (.str [c]) Y):NY Y 2 [.int c] k:=by rewrite[Cm,WX h];exact hk
theorem k_abs{i:Int}(hk:k (.int i.natAbs) Y):NY Y 3 [.int i] k:=hk
theorem k_ord{c:Nat}(hk:k (.int c) Y):NY Y 1 [.str [c]] k:=hk
theorem k_strS{s:List Nat}(hk:k (.str s) Y):NY Y 5 [.str s] k:=hk
theorem a0{a:Nat}{l:List MV}(h:Y a=aA (.list l))(hk:∀n,Y n=aB->k (.ref n) (upd Y n (.list l))):NY Y 6 [.ref a] k:=by
 haveI e:Cz Y 6 [.ref a]=aA l:=by show listOf Y (.ref a)=_;exact dR h
 unfold NY;rw[e];exact hk
theorem YV{e:ME}{a:Nat}{l:List MV}{s:List Nat}(b:qX G B e=aA (.ref a))(h:Y a=aA (.list l))(f:qE [] l.reverse=aA s)(c:s.length<=aX)(hk:k (.str s) Y):bX d G (.jrev [] e) B Y k x:=RV.mpr (r_sv e b (k_list h (OptK.some f ⟨c,hk⟩)))
theorem zU:∀l:List Nat,qE [] (l.map λ c=>.str [c])=aA l
 |[]=>rfl|[a]=>rfl|a::b::r=>by
  haveI :=zU (b::r);show((qE [] ((b::r).map λ c=>MV.str [c])).map λ t=>[a]++([]++t))=_;rw[this];rfl
theorem wG{S:Loc->MH->KE->Prop}{cond:Loc->MH->(Bool->MH->Prop)->Prop}{caps:Loc}{src:Option (Nat×List MV)}(g:AO src Y)(f:MV->MV)(n:∀l K,K aC Y->cond l Y K):∀(Z Q:List MV)(o:Option MV),Q.length+Z.length<=aX->(∀v∈Z,∀K:KE,K (f v) Y->S (aA v::caps) Y K)->(∀a,Y a=aB->k (.ref a) (upd Y a (.list (Q++Z.map f))))->pI S cond 1 src Z Q (o::caps) Y k:=by
 intro m;induction m with
 |nil=>
 intro Q o b U h;exact⟨g,b,λ a c=>by haveI :=h a c;rwa[xB,bB]at this⟩|cons v Z e=>
 intro Q o b i h;rw[aN]at b;refine⟨g,(F1 b),n _ _ (i v (aW ..) _ (e (Q++[f v]) (aA v) (by rw[aF];show Q.length+1+Z.length<=_;exact F1 b) (λ w j=>i w (aV _ j)) λ a c=>?_))⟩;rw[bJ];exact h a c
theorem lJ{p:List String}{K:List Nat}{kind:Nat}{a:List ME}{S:ME}{cond:List ME}(h:dP d G a B Y (λ Z Y=>OptK (lZ Y kind Z) λ q=>pI (λ B Y k=>bX d G S B Y k λ U U=>False) (λ B Y k=>AE d G cond B Y k) p.length q.1 q.2 [] (cJ p.length aB++K.map λ i=>B[i]?.join) Y k) x):bX d G (.comp p K kind a S cond) B Y k x:=h
end
theorem and_le{n m:Nat}{P:Prop}(h:iL n m=aC)(p:P):n<=m/\P:=⟨aO h,p⟩
local macro_rules |`(tactic|k_ownIn)=>do tpl [←`(tactic|k_ownIn)] "{F {assumption assumption } {E {A %upd_same _ _ _ } } {P {R {A %upd_some _ ?p {Y {B {assumption assumption } } } } } {C &p $0 } } {P {R {A %Ext.upd {Y {B {assumption assumption } } } {Y {B {assumption assumption } } } _ _ _ ?p } } {C &p $0 } } {P {R {A %Ext.trans {Y {B {assumption assumption } } } {Y {B {assumption assumption } } } _ _ ?p } } {C &p $0 } } {P {R {A {T {B {assumption assumption } } {A %Ext _ _ } } _ _ ?p } } {C &p $0 } } }"
local macro_rules |`(tactic|k_memK)=>do tpl [←`(tactic|k_ownIn)] ("{F"++("q_ls2;q_ls3;z_asg v R;z_ret v R;r_sv _ v R;r_svs _ vs R;q_args vs R;q_ls R;q_cm2 r R;q_bn2 r R;q_is2 t R;q_tup R;q_lst R;m_str R;and_le R;z_call vs RR;z_new vs RR;z_tup vs RR;z_cmp u v RR;z_isin v RR;z_bi vs R;r_call R;r_new R;r_isin R;r_at a C fs u RORR;z_asga a C fs u RORR;z_ats3 v a RRRR;z_ats v a C fs RROR;q_itet R;q_turt R;q_itt R;q_bolt R;itP_t R;q_itet A;q_turt A;q_itt A;q_bolt A;itP_t A;q_itef R;q_turf R;q_itf R;q_bolf R;itP_f R;q_itef A;q_turf A;q_itf A;q_bolf A;itP_f A;q_ats3 RR;q_at C fs u ORR;k_attr C fs u ORR;q_ats2 C fs ORR;m_inst C fs ORR;q_is C fs OR;k_cls C fs OR;q_ix2 l v OR;k_idx l v OR;m_list l OR;q_nil l O;k_list l O;k_len l O;k_chr W;t_nil;q_bo1;q_no;t_asg;t_ite;t_ret;t_ex;t_attr;t_ls;t_sub;t_cont;r_attr;r_ite;r_meth;r_slc;r_bi;r_bool;r_bool1;r_idx;r_bin;r_cmp;r_not;r_tup;r_lst;r_nil;r_args;r_args0;k_asB;k_lenS;k_abs;k_ord;k_strS;OptK.some a R".splitOn ";").foldl (fun o g=>let w:=g.splitOn " ";o++tW w.tail! (" %"++w.head!)) ""++" }")
section
variable{L:List MV}{d:Nat}{Y:MH}{k x:KE}
theorem Kk{v:MV}{t:TC}(e:BQ (G0 L) Y v=aA t)(h:k (.bool (BE t 0)) Y):(bY TB (G0 L) (d+1)).call 18 [v] [] Y k x:=by
 refine call_in (F:=Lg) (loc:=[aA v]) rfl rfl ?_;repeat k_memK
 refine OptK.some e ?_;rw[show[200].any (λ c=>BE t ((G0 L).ca c))=(BE t 0||aG)from rfl,lC];exact h
theorem Hi{v:MV}{t:TC}(e:BQ (G0 L) Y v=aA t)(h:k (.bool (BE t 438)) Y):(bY TB (G0 L) (d+1)).call 28 [v] [] Y k x:=by
 refine call_in (F:=Ky) (loc:=[aA v]) rfl rfl ?_;repeat k_memK
 refine OptK.some e ?_;rw[show[27].any (λ c=>BE t ((G0 L).ca c))=(BE t 438||aG)from rfl,lC];exact h
/-! numbers -/
noncomputable def Db(c:Nat):Bool:=Nat.ble 48 c&&Nat.ble c 57
noncomputable def dg:Nat->Nat->List Nat
 |0,_=>[]|f+1,m=>if m=0 then[]else(48+m%10)::dg f (m/10)
noncomputable def LI(m:Nat):List Nat:=if m=0 then[48]else(dg 20 m).reverse
noncomputable def zt:List Nat:=[48,49,50,51,52,53,54,55,56,57,97,98,99,100,101,102]
theorem w8:∀r:Nat,r<10->rB zt (r:Int)=aA (48+r):=by decide
theorem JA{j:kP}{l:Nat}{H:KL}{F:KE}:∀(f m:Nat)(G:List MV)(o:Option MV),m<10^f->G.length+f<=aX->(∀A,H [aA (.int (0:Nat)),aA (.int 10),aA (.ref l),A] (upd Y l (.list (G++(dg f m).map λ c=>.str [c]))))->lT (zG j (G0 L) (.cmp .Gt (.l 0) (.c (.i 0))) [.asg (.ls [0,3]) (.bi 8 [(.l 0),(.l 1)]),.ex (.meth (.l 2) 29 [(.idx (.g 48) (.l 3))])] H F x) (f+1) [aA (.int m),aA (.int 10),aA (.ref l),o] (upd Y l (.list G))
 |f,0,G,o,_,_,h=>by
  refine fE (fD ?_);repeat k_memK
  haveI e:dg f 0=[]:=by cases f<;>rfl
  have :=h o;rw[e,List.map_nil,List.append_nil]at this;exact this|0,m+1,G,o,b,_,h=>by lia|f+1,m+1,G,o,b,a,h=>by
  refine fE (fD ?_);repeat k_memK
  refine itP_t (decide_eq_true (by lia)) ?_;repeat k_memK
  refine fm ⟨by decide,by decide⟩ ?_;repeat k_memK
  haveI r:(m+1)%10<10:=Nat.mod_lt _ (by decide);refine YS (c:=48+(m+1)%10) (w8 _ r) ?_;repeat k_memK
  refine gQ (upd_same ..) (F1 a) ?_;rw[mJ];refine JA f ((m+1)/10) _ _ (by lia) (by rw[List.length_append];show G.length+1+f<=_;exact F1 a) λ A=>?_;rw[List.append_assoc];exact h A
theorem XC:∀f m:Nat,(dg f m).length<=f:=by
 intro b;induction b with
 |zero=>
 intro U;exact Nat.le_refl _|succ f a=>
 intro m;unfold dg;split;·exact Nat.zero_le _
 ·exact Nat.succ_le_succ (a _)
theorem Ju{m:Nat}(a:m<10^20)(h:∀I,Ext Y I->k (.str (LI m)) I):(bY TB (G0 L) (d+1)).call 55 [.int m,.int 10] [] Y k x:=by
  refine call_in (F:=Kt) (loc:=[aA (.int m),aA (.int 10),aB,aB]) rfl rfl ?_;repeat k_memK
  refine itP_of (λ e=>?_) λ e=>?_
  · have E:m=0:=by simpa using e
    rw[E]at h;repeat k_memK
    exact h Y (.refl Y)
  · haveI E:m≠0:=by simpa using e
    repeat k_memK
    intro l b;repeat k_memK
    refine nY 21 (JA 20 m [] aB a (by decide) λ A=>?_);repeat k_memK
    refine YV rfl (upd_same ..) (by rw[List.nil_append,<-List.map_reverse];exact zU _) (by rw[List.length_reverse];exact Nat.le_trans (XC 20 m) (by decide)) ?_;have :=h (upd Y l (.list ([]++(dg 20 m).map λ c=>.str [c]))) (.new b _);unfold LI at this;rw[if_neg E]at this;exact this
theorem RK{m:Nat}:(LI m).length<=20:=by
 unfold LI;split;·decide
 ·rw[List.length_reverse];exact XC 20 m
theorem Hf{m:Nat}(b:m<10^20)(h:∀I,Ext Y I->k (.str (LI m)) I):(bY TB (G0 L) (d+2)).call 56 [.int m,.int 10] [] Y k x:=by
 refine call_in (F:=Kp) (loc:=[aA (.int m),aA (.int 10),aB,aB,aB,aB]) rfl rfl ?_;repeat k_memK
 intro l c;repeat k_memK
 refine nY 1 (fE (fD ?_));repeat k_memK
 refine itP_f (decide_eq_false (by show¬(m:Int)>=((10:Nat):Int)^64;lia)) ?_;repeat k_memK
 refine Ju b λ I E=>?_;repeat k_memK
 refine YV rfl (l:=[]) (s:=[]) (by k_ownIn) rfl (by decide) ?_;refine mY (by haveI :=RK (m:=m);show _+0<=aX;unfold aX;exact F1 this) ?_;rw[List.append_nil];exact h _ λ a o e=>E _ _ (Ext.new c _ _ _ e)
noncomputable def pF(i:Int):List Nat:=(if i<0 then[45]else[])++LI i.natAbs
theorem K4{i:Int}(b:i.natAbs<10^20)(h:∀I,Ext Y I->k (.str (pF i)) I):(bY TB (G0 L) (d+3)).call 57 [.int i,.int 10] [] Y k x:=by
  refine call_in (F:=Ks) (loc:=[aA (.int i),aA (.int 10)]) rfl rfl ?_;have a:∀s:List Nat,s.length<=1->s=(if i<0 then[45]else[])->(bY TB (G0 L) (d+2)).call 56 [.int i.natAbs,.int 10] [] Y (λ v Y=>OptK (CU .Add (.str s) v) λ r=>k r Y) x:=λ s c e=>by
   refine Hf b λ I E=>mY (by haveI :=RK (m:=i.natAbs);unfold aX;exact F2 c this) ?_;rw[e];exact h _ E
  repeat k_memK
  refine itP_of (λ e=>?_) λ e=>?_
  · repeat k_memK
    exact a [45] (by decide) (by rw[if_pos (of_decide_eq_true e)])
  · repeat k_memK
    exact a [] (by decide) (by rw[if_neg (of_decide_eq_false e)])
theorem Il{i:Int}(a:i.natAbs<10^20)(h:∀I,Ext Y I->k (.str (pF i)) I):(bY TB (G0 L) (d+5)).call 66 [.int 53,.int i,.int 10] [] Y k x:=by
 refine call_in (F:=Lz) (loc:=[aA (.int 53),aA (.int i),aA (.int 10),aB,aB]) rfl rfl ?_;repeat k_memK
 refine Hi (t:=.int) rfl ?_;repeat k_memK
 refine call_in (F:=La) (loc:=[aA (.int i),aA (.int 10)]) rfl rfl ?_;repeat k_memK
 exact K4 a h
end
section
variable{L:List MV}{d:Nat}{Y:MH}{k x:KE}
noncomputable def wf(u:List Nat):Int:=u.foldl (λ(a:Int)(c:Nat)=>a*10+((c:Int)-48)) 0
noncomputable def Bj(m:Nat):Bool:=(LI m).all Db&&!(LI m).isEmpty&&(wf (LI m)==(m:Int))&&Nat.ble (LI m).length 4
theorem mj:(List.range 1001).all Bj=aC:=by decide+kernel
theorem YM:(List.range 1001).all (λ j=>KT (j:Int)==pF (j:Int)&&KT (-(j:Int))==pF (-(j:Int)))=aC:=by decide+kernel
theorem bc{i:Int}(h:i.natAbs<=1000):KT i=pF i:=by
 have q:=List.all_eq_true.mp YM i.natAbs (List.mem_range.mpr (Nat.lt_succ_of_le h));rcases Int.natAbs_eq i with e|e;·rw[e];exact bC (bl q)
 ·rw[e];exact bC (br q)
structure MM(u:List Nat)(m:Int):Prop where
 dig:∀c∈u,48<=c/\c<=57
 ne:u≠[]w:wf u=m
 len:u.length<=4
theorem QO{m:Nat}(h:m<=1000):MM (LI m) m:=by
 have q:=List.all_eq_true.mp mj m (List.mem_range.mpr (F1 h));refine⟨λ c a=>?_,λ e=>?_,bC (br (bl q)),Nat.le_of_ble_eq_true (br q)⟩
 ·have :=List.all_eq_true.mp (bl (bl (bl q))) c a;exact⟨Nat.le_of_ble_eq_true (bl this),Nat.le_of_ble_eq_true (br this)⟩
 ·have :=br (bl (bl q));rw[e]at this;cases this
theorem RU{u:List Nat}{c:Nat}(h:∀a∈u,a≠c):u.elem c=aG:=by cases e:u.elem c with
 |false=>rfl|true=>exact absurd rfl (h c (List.elem_iff.mp e))
theorem i7{c:Nat}{K:MV->Prop}(h:48<=c/\c<=57)(hk:K (.int ((c:Int)-48))):OptK (WJ Y 33 zt [.str [c]]) K:=by
 refine OptK.some (a:=.int ((c:Int)-48)) ?_ hk;show(if zt=[48,49,50,51,52,53,54,55,56,57,97,98,99,100,101,102]/\48<=c/\c<=57 then aA (MV.int ((c:Int)-48))else aB)=_;exact if_pos ⟨rfl,h⟩
theorem w1{a t:Int}(h:0<=a)(g:a+1<=t)(b:t<=1000000):a.natAbs<kD:=by unfold kD;lia
theorem w2{a t:Int}{c:Nat}(h:0<=a)(g:a+1<=t)(b:48<=c/\c<=57):0<=a*10+((c:Int)-48)/\a*10+((c:Int)-48)+1<=t*10:=by lia
theorem w3{n:Nat}(h:n+1<=6):6-n=(6-(n+1))+1:=(Nat.succ_pred_eq_of_pos (Nat.sub_pos_of_lt h)).symm
theorem PY{s:kP}{H:KL}{F:KE}{r:List Nat}:∀(u:List Nat)(G:Int)(o:Option MV),(∀c∈u,48<=c/\c<=57)->u.length<=6->0<=G->G+1<=10^(6-u.length)->(∀A,H [aA (.str r),aA (.int 10),aA (.int (u.foldl (λ(a:Int)(c:Nat)=>a*10+((c:Int)-48)) G)),A] Y)->tT (uU s (G0 L) [.asg (.l 2) (.bin .Add (.bin .Mult (.l 2) (.l 1)) (.meth (.g 48) 33 [(.l 3)]))] F) [3] aB (u.map λ c=>.str [c]) [aA (.str r),aA (.int 10),aA (.int G),o] Y H:=by
 intro t;induction t with
 |nil=>
 intro G o U U U U h;exact⟨trivial,h o⟩|cons c u j=>
 intro G o q n m i h;have f:=q c (List.mem_cons_self ..);rw[List.length_cons]at n i;haveI e:=w3 n;haveI p:(10:Int)^(6-u.length)=10^(6-(u.length+1))*10:=by rw[e,Int.pow_succ]
 have b:(10:Int)^(6-(u.length+1))<=1000000:=by
  have :(10:Nat)^(6-(u.length+1))<=10^6:=Nat.pow_le_pow_right (by decide) (Nat.sub_le _ _);have :=mQ.mpr this;rw[Int.natCast_pow]at this;exact this
 refine⟨trivial,OptK.some rfl (lK ?_)⟩;repeat k_memK
 refine TA (w1 m i b) ?_;repeat k_memK
 refine i7 f ?_;repeat k_memK
 exact j _ _ (λ c f=>q c (List.mem_cons_of_mem _ f)) (F1 n) (w2 m i f).1 (by rw[p];exact(w2 m i f).2) h
theorem Hq{u:List Nat}{m:Int}(a:MM u m)(h:k (.int m) Y):(bY TB (G0 L) (d+1)).call 67 [.str u,.int 10] [] Y k x:=by
  refine call_in (F:=Le) (loc:=[aA (.str u),aA (.int 10),aB,aB]) rfl rfl ?_;repeat k_memK
  refine tD ?_;repeat k_memK
  refine PY u 0 aB a.dig (by have :=a.len;exact lm this) (by decide) ?_ λ A=>?_
  ·have :(1:Int)<=10^(6-u.length):=Int.pow_pos (by decide);lia
  · repeat k_memK
    have :=a.w;unfold wf at this;rw[this];exact h
theorem UQ:∀u:List MV,allB (u.map λ U=>.bool aC)=aA aC:=by
 intro b;induction b with
 |nil=>exact rfl|cons _ u a=>
 show((allB (u.map λ U=>MV.bool aC)).map (aC&&·))=_;rw[a];rfl
theorem JP{P:Nat->Bool}(a:([48,49,50,51,52,53,54,55,56,57]:List Nat).all P=aC){c:Nat}(h:48<=c/\c<=57):P c=aC:=by
 have q:∀k,k<=9->48+k∈([48,49,50,51,52,53,54,55,56,57]:List Nat):=by decide
 have :=List.all_eq_true.mp a _ (q (c-48) (Nat.sub_le_sub_right h.2 48));rwa[Nat.add_sub_cancel' h.1]at this
theorem nb{b:Bool}(h:(!b)=aC):b=aG:=by cases b with
 |false=>rfl|true=>cases h
theorem NN(c:Nat)(h:48<=c/\c<=57):([48,49,50,51,52,53,54,55,56,57]:List Nat).elem c=aC:=JP (P:=λ c=>([48,49,50,51,52,53,54,55,56,57]:List Nat).elem c) (by decide) h
theorem Cn{a:Nat}{l:List MV}{b:Bool}(h:Y a=aA (.list l))(e:allB l=aA b)(hk:k (.bool b) Y):NY Y 7 [.ref a] k:=by
 show OptK ((listOf Y (.ref a)).bind λ l=>(allB l).map MV.bool) _;rw[dR h];show OptK ((allB l).map MV.bool) _;rw[e];exact hk
theorem H4{u:List Nat}{m:Int}(e:MM u m)(h:∀I,Ext Y I->k (.bool aC) I):(bY TB (G0 L) (d+1)).call 68 [.str u,.int 10] [] Y k x:=by
  refine call_in (F:=Lf) (loc:=[aA (.str u),aA (.int 10)]) rfl rfl ?_;repeat k_memK
  refine lJ ?_;repeat k_memK
  refine wG (src:=aB) (caps:=[aA (.int 10)]) trivial (λ U=>.bool aC) (λ U U h=>h) (u.map λ c=>MV.str [c]) [] aB (by rw[List.length_map];haveI :=e.len;unfold aX;show 0+_<=_;exact F1 this) (λ v f K j=>?_) λ a i=>?_
  · obtain⟨c,g,rfl⟩:=List.mem_map.mp f;repeat k_memK
    refine nW (t:=[48,49,50,51,52,53,54,55,56,57]) rfl ?_;refine OptK.some (a:=aC) ?_ j;show aA (List.elem c [48,49,50,51,52,53,54,55,56,57])=_;rw[NN c (e.dig c g)]
  · repeat k_memK
    refine Cn (upd_same ..) (b:=aC) (by rw[List.nil_append];exact UQ _) ?_;exact h _ (.new i _)
theorem WM{s:List Nat}{c:Nat}{K:MV->Prop}(h:s.getLast?≠aA c)(hk:K (.str s)):OptK (WJ Y 27 s [.str [c]]) K:=OptK.some (show(if s.getLast?=aA c then aB else aA (MV.str s))=_ from if_neg h) hk
theorem Jz{u:List Nat}(a:u.getLast?≠aA 35)(h:k (.tup [.str u,.int 0]) Y):(bY TB (G0 L) (d+1)).call 69 [.str u] [] Y k x:=by
 refine call_in (F:=L8) (loc:=[aA (.str u),aB]) rfl rfl ?_;repeat k_memK
 refine WM a ?_;repeat k_memK
 show k (.tup [.str u,.int ((u.length:Int)-u.length)]) Y;rw[Int.sub_self];exact h
theorem MM.last{u:List Nat}{m:Int}(a:MM u m):u.getLast?≠aA 35:=λ e=>by haveI :=(a.dig 35 (List.mem_of_getLast? e)).1;exact(Nat.not_succ_le_zero _ (F1 (l:=1) (r:=0) this))
noncomputable def Gn(m:Int):MO:=.inst 753 [(14,.int m),(15,.int 1),(16,.bool aC)]
theorem Iy{u:List Nat}{m:Int}(b:MM u m)(G:m.natAbs<=1000)(h:∀I a,Ext Y I->I a=aA (Gn m)->k (.ref a) I):(bY TB (G0 L) (d+2)).call 71 [.str u,.int 10] [] Y k x:=by
 refine call_in (F:=Lb) (loc:=[aA (.str u),aA (.int 10),aB,aB]) rfl rfl ?_;repeat k_memK
 refine Jz b.last ?_;repeat k_memK
 refine itP_f (decide_eq_false b.ne) ?_;repeat k_memK
 refine H4 b λ I E=>?_;repeat k_memK
 refine Hq b ?_;repeat k_memK
 refine TA (by unfold kD;exact F1 G) ?_;repeat k_memK
 refine rG (F:=Lq) rfl (λ n=>[aA (.ref n),aA (.int (m*10^Int.toNat 0)),aA (.int 1),aA (.bool aC)]) (λ U=>rfl) (λ U=>rfl) (λ U=>rfl) λ n c=>?_;refine h _ n (λ a o e=>Ext.new c _ _ _ (E _ _ e)) ?_;rw[upd_same,show m*10^Int.toNat 0=m from Int.mul_one m];rfl
theorem VI{S:Loc->MH->KE->Prop}{cond:Loc->MH->(Bool->MH->Prop)->Prop}:∀(Z:List MV)(o:Loc),o.length=2->(∀v∈Z,∀o:Loc,o.length=2->∃A,A.length=2/\ag 2 v o=aA A/\∀K:Bool->MH->Prop,K aG Y->cond A Y K)->(∀a,Y a=aB->k (.ref a) (upd Y a (.list [])))->pI S cond 2 aB Z [] o Y k:=by
 intro i;induction i with
 |nil=>
 intro o U U h;exact⟨trivial,Nat.zero_le _,h⟩|cons v Z b=>
 intro o j f h;obtain⟨A,G,e,c⟩:=f v (List.mem_cons_self ..) o j;exact⟨trivial,Nat.zero_le _,OptK.some e (c _ (b A G (λ w g=>f w (List.mem_cons_of_mem _ g)) h))⟩
theorem Ik{u:List Nat}{m:Int}(s:MM u m)(h:∀I,Ext Y I->k (.int u.length) I):(bY TB (G0 L) (d+1)).call 75 [.str u] [] Y k x:=by
  refine call_in (F:=L9) (loc:=[aA (.str u),aB]) rfl rfl ?_;repeat k_memK
  refine lJ ?_;repeat k_memK
  refine VI _ [aB,aB] rfl (λ v q o f=>?_) λ a r=>?_
  · obtain⟨⟨c,i⟩,j,rfl⟩:=List.mem_map.mp q;obtain⟨a,b,rfl⟩:=RB f;refine⟨_,rfl,rfl,λ K p=>?_⟩;have n:=s.dig c (by
 obtain⟨_,_,e⟩:=List.mem_zipIdx j;rw[e];exact List.getElem_mem ..);show bX _ _ (.cmp .In (.l 1) (.g 50)) _ _ _ _;repeat k_memK
    have :([101,115,102,100,108]:List Nat).elem c=aG:=nb (JP (P:=λ c=>!([101,115,102,100,108]:List Nat).elem c) (by decide) n);exact itP_f (A:=AE (bY TB (G0 L) d) (G0 L) [] _ _ _) this p
  · repeat k_memK
    exact h _ (.new r _)
theorem Eb{u:List Nat}{m:Int}(c:MM u m)(G:m.natAbs<=1000)(h:∀I a,Ext Y I->I a=aA (Gn m)->k (.ref a) I):(bY TB (G0 L) (d+3)).call 78 [.str u,.int 10] [] Y k x:=by
 refine call_in (F:=Kz) (loc:=[aA (.str u),aA (.int 10)]) rfl rfl ?_;repeat k_memK
 refine itP_f (RU λ a b e=>by have :=(c.dig a b).1;exact(Nat.not_succ_le_zero _ (F2 (l:=1) (r:=0) (Nat.le_of_eq e) this))) ?_;repeat k_memK
 refine itP_f (RU λ a b e=>by haveI :=(c.dig a b).1;exact(Nat.not_succ_le_zero _ (F2 (l:=1) (r:=0) (Nat.le_of_eq e) this))) ?_;repeat k_memK
 refine Ik c λ I E=>?_;repeat k_memK
 refine itP_f (decide_eq_false (Int.lt_irrefl _)) ?_;repeat k_memK
 exact Iy c G λ U a f b=>h _ a (E.trans f) b
theorem Ht{i:Int}(h:k (.int 1) Y):(bY TB (G0 L) (d+1)).call 44 [.int i,.int 1] [] Y k x:=by
 refine call_in (F:=Ll) (loc:=[aA (.int i),aA (.int 1)]) rfl rfl ?_;repeat k_memK
 refine nY 2 (fE (fD ?_));repeat k_memK
 refine fE (fD ?_);repeat k_memK
 refine itP_f (by show(!cH ((i.natAbs:Int)%1=0))=aG;rw[Int.emod_one];rfl) ?_;repeat k_memK
 exact h
theorem Kh{i:Int}(h:k (.int i) Y):(bY TB (G0 L) (d+2)).call 46 [.int i,.int 1] [] Y k x:=by
 refine call_in (F:=Lu) (loc:=[aA (.int i),aA (.int 1),aB]) rfl rfl ?_;repeat k_memK
 refine Ht ?_;repeat k_memK
 refine call_in (F:=L5) (loc:=[aA (.int (i/1)),aA (.int (1/1))]) rfl rfl ?_;repeat k_memK
 rw[Int.ediv_one];exact h
theorem Cj{s:List Nat}(a:s.take 1≠[35])(h:k (.tup [.str s,.int 10,.str []]) Y):(bY TB (G0 L) (d+1)).call 79 [.str s,.int 10] [] Y k x:=by
 refine call_in (F:=Kr) (loc:=[aA (.str s),aA (.int 10),aB,aB,aB,aB]) rfl rfl ?_;repeat k_memK
 refine nY 1 (fE (fD ?_));repeat k_memK
 refine nW (t:=s.take 1) rfl ?_;repeat k_memK
 refine itP_f (decide_eq_false a) ?_;repeat k_memK
 refine nW (t:=s) rfl ?_;repeat k_memK
 exact h
theorem SN{s:List Nat}{K:MV->Prop}(h:s.all (λ c=>c==43||c==45||c==46||(48<=c&&c<=57))=aC)(hk:K (.str s)):OptK (WJ Y 26 s []) K:=OptK.some (show(if s.all (λ c=>c==43||c==45||c==46||(48<=c&&c<=57))=aC then aA (MV.str s)else aB)=_ from if_pos h) hk
theorem SV{u:List Nat}(h:∀c∈u,48<=c/\c<=57):u.all (λ c=>c==43||c==45||c==46||(48<=c&&c<=57))=aC:=List.all_eq_true.mpr λ c a=>by
 have :=h c a;simp[this.1,this.2]
theorem G3{i:Int}(h:k (.int i) Y):(bY TB (G0 L) (d+3)).call 80 [.int 53,.int i,.int 1,.bool aC] [] Y k x:=by
 refine call_in (F:=Ko) (loc:=[aA (.int 53),aA (.int i),aA (.int 1),aA (.bool aC)]) rfl rfl ?_;repeat k_memK
 exact Kh h
theorem Kc{i:Int}(j:i.natAbs<=1000)(h:∀I,Ext Y I->k (.int i) I):(bY TB (G0 L) (d+4)).call 81 [.int 53,.str (pF i),.int 10] [] Y k x:=by
  refine call_in (F:=L6) (loc:=[aA (.int 53),aA (.str (pF i)),aA (.int 10),aB,aB,aB,aB,aB,aB]) rfl rfl ?_;have b:=QO j;by_cases q:i<0
  · have e:pF i=45::LI i.natAbs:=by unfold pF;rw[if_pos q];rfl
    rw[e];repeat k_memK
    refine SN (by rw[List.all_cons,SV b.dig];rfl) ?_;repeat k_memK
    refine Cj (λ z=>by cases z) ?_;repeat k_memK
    refine nW (t:=[45]) rfl ?_;repeat k_memK
    refine nW (t:=[45]) rfl ?_;repeat k_memK
    refine nW (t:=LI i.natAbs) rfl ?_;repeat k_memK
    refine Eb b j λ I a E g=>?_;unfold Gn at g;repeat k_memK
    refine G3 ?_;have :=h _ E;rwa[show i=-1*(i.natAbs:Int)by rw[Int.ofNat_natAbs_of_nonpos (mT q),Int.neg_mul_neg,Int.one_mul]]at this
  · haveI e:pF i=LI i.natAbs:=by unfold pF;rw[if_neg q];rfl
    rw[e];obtain⟨c,r,p⟩:∃c r,LI i.natAbs=c::r:=by cases o:LI i.natAbs with
 |nil=>exact absurd o b.ne|cons c r=>exact⟨c,r,rfl⟩
    rw[p]at b⊢;have f:=b.dig c (List.mem_cons_self ..);repeat k_memK
    refine SN (SV b.dig) ?_;repeat k_memK
    refine Cj (λ z=>by injection z with z;exact(Nat.not_succ_le_zero _ (F2 (l:=1) (r:=0) f.1 (Nat.le_of_eq z)))) ?_;repeat k_memK
    refine nW (t:=[c]) rfl ?_;repeat k_memK
    refine itP_f (decide_eq_false λ z=>by injection z with z;exact(Nat.not_succ_le_zero _ (F2 (l:=1) (r:=0) f.1 (Nat.le_of_eq z)))) ?_;repeat k_memK
    refine nW (t:=[c]) rfl ?_;repeat k_memK
    haveI n:¬([43]:List Nat)=[c]:=λ z=>by injection z with z;exact(Nat.not_succ_le_zero _ (F2 (l:=1) (r:=0) f.1 (Nat.le_of_eq z.symm)))
    haveI m:¬([45]:List Nat)=[c]:=λ z=>by injection z with z;exact(Nat.not_succ_le_zero _ (F2 (l:=1) (r:=0) f.1 (Nat.le_of_eq z.symm)))
    refine itP_f (by show(cH (([43]:List Nat)=[c])||(cH (([45]:List Nat)=[c])||aG))=aG;rw[decide_eq_false n,decide_eq_false m];rfl) ?_;repeat k_memK
    refine Eb b j λ I a E g=>?_;unfold Gn at g;repeat k_memK
    refine G3 ?_;haveI :=h _ E;rwa[show i=1*(i.natAbs:Int)by rw[Int.one_mul,Int.natAbs_of_nonneg (wT.mp q)]]at this
end
/-! the data, their texts -/
inductive T where|ch(c:Nat)|st(cs:List Nat)|nu(i:Int)|tr(b:Bool)|sy(j:Nat)|ve(ts:List T)|ls(ts:List T)(dot:Bool)|qt(q:Nat)(t:T)
noncomputable def ER:Nat->List Nat
 |0=>[97]|1=>[43]|2=>[46,46,46]|3=>[120,45,62,121,33]|_=>[45]
noncomputable def qn:Nat->List Nat
 |0=>[113,117,111,116,101]|1=>[113,117,97,115,105,113,117,111,116,101]|2=>[117,110,113,117,111,116,101]|_=>[117,110,113,117,111,116,101,45,115,112,108,105,99,105,110,103]
noncomputable def qs:Nat->List Nat
 |0=>[39]|1=>[96]|2=>[44]|_=>[44,64]
noncomputable def AS(c:Nat):List Nat:=if c=34\/c=92 then[92,c]else[c]
noncomputable def DG(c:Nat):List Nat:=if c=32 then[115,112,97,99,101]else if c=10 then[110,101,119,108,105,110,101]else[c]
noncomputable def gi(f:List Nat):List Nat:=34::(f.flatMap AS++[34])
mutual noncomputable def tx(w:Bool):T->List Nat
 |.ch c=>if w then 35::92::DG c else[c]|.st f=>if w then gi f else f|.nu i=>pF i|.tr b=>if b then[35,116]else[35,102]|.sy j=>ER j|.ve g=>35::40::(wB w g++[41])|.ls g V=>40::(wB w g++(if V then[32,46,32,53,41]else[41]))|.qt q t=>qs q++tx w t noncomputable def wB(w:Bool):List T->List Nat
 |[]=>[]|t::r=>tx w t++(match r with
 |[]=>[]|_::_=>32::wB w r)end
section
variable{L:List MV}{d:Nat}{Y:MH}{k x:KE}
noncomputable def oH(s:List Nat):List MV:=s.map λ c=>.str [c]
theorem rP{a:Nat}{l:List MV}{K:Option (Nat×List MV)×List MV->Prop}(h:Y a=aA (.list l))(hk:K (aA (a,l),l)):OptK (lZ Y 0 [.ref a]) K:=by
 refine OptK.some (a:=(aA (a,l),l)) ?_ hk;show(listOf Y (.ref a)).map (λ l=>(aA (a,l),l))=_;rw[dR h];rfl
noncomputable def ML:List Nat:=[65,66,67,68,69,70,71,72,73,74,75,76,77,78,79,80,81,82,83,84,85,86,87,88,89,90]
noncomputable def JG(s:List Nat):Bool:=s.all λ c=>!ML.contains c
theorem Aa{s:List Nat}{c:Nat}{K:MV->Prop}(h:s.contains c=aG)(hk:K (.int (-1))):OptK (WJ Y 7 s [.str [c]]) K:=OptK.some (show(if s.contains c=aC then aB else aA (MV.int (-1)))=_ from if_neg (by rw[h];exact cP)) hk
theorem VS{m:kP}{l:Nat}{H:KL}{F:KE}{f:Option MV}:∀(u:List Nat)(G:List MV)(D o2:Option MV),JG u=aC->G.length+u.length<=aX->(∀D o2,H [f,aA (.ref l),D,o2] (upd Y l (.list (G++oH u))))->tT (uU m (G0 L) [.asg (.l 3) (.meth (.g 87) 7 [(.l 2)]),.ex (.meth (.l 1) 29 [(.ite (.cmp .Lt (.l 3) (.c (.i 0))) (.l 2) (.idx (.g 86) (.l 3)))])] F) [2] aB (oH u) [f,aA (.ref l),D,o2] (upd Y l (.list G)) H:=by
 intro n;induction n with
 |nil=>
 intro G D o2 U U h;exact⟨trivial,by haveI :=h D o2;rwa[show oH []=[]from rfl,List.append_nil]at this⟩|cons c u b=>
 intro G D o2 j a h;rw[List.length_cons]at a;have y:=bl (show(!ML.contains c&&JG u)=aC from j);refine⟨trivial,OptK.some rfl (lK ?_)⟩;repeat k_memK
 refine Aa (s:=ML) (by cases e:ML.contains c with|false=>rfl|true=>rw[e]at y;cases y) ?_;repeat k_memK
 refine gQ (upd_same ..) (F1 a) ?_;rw[mJ];refine b _ _ _ (br (show(!ML.contains c&&JG u)=aC from j)) (by rw[List.length_append];show G.length+1+u.length<=_;exact F1 a) λ D o2=>?_;rw[List.append_assoc];exact h D o2
theorem UZ{u:List Nat}(c:JG u=aC)(b:u.length<=aX)(h:∀I,Ext Y I->k (.str u) I):(bY TB (G0 L) (d+1)).call 96 [.str u] [] Y k x:=by
 refine call_in (F:=Lw) (loc:=[aA (.str u),aB,aB,aB]) rfl rfl ?_;repeat k_memK
 intro l a;repeat k_memK
 refine tD ?_;repeat k_memK
 refine VS u [] aB aB c (by show 0+_<=_;exact F1 b) λ D o2=>?_;repeat k_memK
 refine uW (upd_same ..) (t:=u) (zU u) b ?_;exact h _ (.new a _)
noncomputable def JR:List Nat:=[97,98,99,100,101,102,103,104,105,106,107,108,109,110,111,112,113,114,115,116,117,118,119,120,121,122]
noncomputable def OB(c:Nat):Bool:=JR.elem c||([33,36,37,38,42,47,58,60,61,62,63,94,95,126]:List Nat).elem c
noncomputable def WF(c:Nat):Bool:=OB c||(([48,49,50,51,52,53,54,55,56,57]:List Nat).elem c||([43,45,46,64]:List Nat).elem c)
theorem itP_or{a b:Bool}{K:MV->Prop}(h:K (.bool (a||b))):UX (yI .Or a) (K (.bool a)) (K (.bool b)):=by cases a with
 |true=>exact h|false=>exact h
theorem Fh{c:Nat}(h:k (.bool (OB c)) Y):(bY TB (G0 L) (d+1)).call 97 [.str [c]] [] Y k x:=by
  refine call_in (F:=Kw) (loc:=[aA (.str [c])]) rfl rfl ?_;repeat k_memK
  refine itP_of (λ e=>?_) λ e=>?_
  ·have E:JR.elem c=aC:=e;show k (.bool (JR.elem c)) Y;unfold OB at h;rw[E]at h⊢;exact h
  · haveI E:JR.elem c=aG:=e;unfold OB at h;rw[E]at h;repeat k_memK
    exact h
end
section
variable{L:List MV}{d:Nat}{Y:MH}{k x:KE}
theorem J5{c:Nat}(h:k (.bool (WF c)) Y):(bY TB (G0 L) (d+2)).call 98 [.str [c]] [] Y k x:=by
  refine call_in (F:=Ku) (loc:=[aA (.str [c])]) rfl rfl ?_;repeat k_memK
  refine Fh ?_;repeat k_memK
  unfold WF at h;refine itP_of (λ e=>?_) λ e=>?_
  ·have E:OB c=aC:=e;rw[E]at h⊢;exact h
  · have E:OB c=aG:=e;rw[E]at h;repeat k_memK
    refine itP_of (λ e=>?_) λ e=>?_
    ·have E:([48,49,50,51,52,53,54,55,56,57]:List Nat).elem c=aC:=e;show k (.bool (([48,49,50,51,52,53,54,55,56,57]:List Nat).elem c)) Y;rw[E]at h⊢;exact h
    · haveI E:([48,49,50,51,52,53,54,55,56,57]:List Nat).elem c=aG:=e;rw[E]at h;repeat k_memK
      exact h
theorem QG{Φ:kP}{H:KL}{f:Option MV}:∀(u:List Nat)(o:Option MV),(u.all WF=aC->∀o,H [f,o] Y)->(u.all WF=aG->k (.bool aG) Y)->tT (uU (bY TB (G0 L) (d+2)) (G0 L) [.ite (.not (.call 98 [(.l 1)] [])) [.ret (.c (.b aG))] []] k) [1] aB (oH u) [f,o] Y H:=by
 intro g;induction g with
 |nil=>
 intro o h U;exact⟨trivial,h rfl o⟩|cons c u a=>
    intro o h K;refine⟨trivial,OptK.some rfl (lK ?_)⟩;repeat k_memK
    refine J5 ?_;repeat k_memK
    refine itP_of (λ e=>?_) λ e=>?_
    · have E:WF c=aG:=by cases q:WF c with|false=>rfl|true=>rw[q]at e;cases e
      repeat k_memK
      exact K (by rw[List.all_cons,E];rfl)
    · have E:WF c=aC:=by cases q:WF c with|true=>rfl|false=>rw[q]at e;cases e
      repeat k_memK
      refine a _ (λ q=>h (by rw[List.all_cons,E,q];rfl)) λ q=>K (by rw[List.all_cons,E,q];rfl)
noncomputable def t9(u:List Nat):Bool:=cH ([43]=u)||(cH ([45]=u)||(cH ([46,46,46]=u)||aG))
noncomputable def Az(u:List Nat):Bool:=t9 u||(match u with
 |[]=>aG|c::r=>OB c&&r.all WF)
theorem H9{c:Nat}{r:List Nat}(h:k (.bool (Az (c::r))) Y):(bY TB (G0 L) (d+3)).call 99 [.str (c::r)] [] Y k x:=by
  refine call_in (F:=Lc) (loc:=[aA (.str (c::r)),aB]) rfl rfl ?_;repeat k_memK
  refine itP_of (λ e=>?_) λ e=>?_
  · repeat k_memK
    have E:t9 (c::r)=aC:=e;rw[show Az (c::r)=(t9 (c::r)||(OB c&&r.all WF))from rfl,E]at h;exact h
  · haveI E:t9 (c::r)=aG:=e;rw[show Az (c::r)=(t9 (c::r)||(OB c&&r.all WF))from rfl,E]at h;repeat k_memK
    refine Fh ?_;repeat k_memK
    refine itP_of (λ q=>?_) λ q=>?_
    · have i:OB c=aG:=by cases z:OB c with|false=>rfl|true=>rw[z]at q;cases q
      rw[i]at h;repeat k_memK
      exact h
    · haveI i:OB c=aC:=by cases z:OB c with|true=>rfl|false=>rw[z]at q;cases q
      rw[i]at h;repeat k_memK
      refine tD ?_;repeat k_memK
      refine nW (t:=r) (by show aA (r.drop 0)=_;rfl) ?_;repeat k_memK
      refine QG (Φ:=bY TB (G0 L) 0) r aB (λ q o=>?_) λ q=>?_
      · rw[q]at h;repeat k_memK
        exact h
      ·rw[q]at h;exact h
theorem Ei{c:Nat}{r:List Nat}(a:48<=c/\c<=57\/c=45)(h:k (.bool aC) Y):(bY TB (G0 L) (d+1)).call 100 [.str (c::r)] [] Y k x:=by
  refine call_in (F:=Di) (loc:=[aA (.str (c::r))]) rfl rfl ?_;repeat k_memK
  rcases a with a|rfl
  ·have e:=NN c a;refine itP_t e ?_;show k (.bool (([48,49,50,51,52,53,54,55,56,57]:List Nat).elem c)) Y;rw[e];exact h
  · repeat k_memK
    exact h
theorem Dz{c:Nat}(b:c=32\/c=10)(h:∀I,Ext Y I->k (.str [c]) I):(bY TB (G0 L) (d+2)).call 101 [.str (DG c)] [] Y k x:=by
  refine call_in (F:=Dv) (loc:=[aA (.str (DG c)),aB,aB]) rfl rfl ?_;repeat k_memK
  refine tD ?_;repeat k_memK
  refine⟨trivial,OptK.some rfl (lK ?_)⟩;rcases b with rfl|rfl
  · repeat k_memK
    refine UZ (by decide) (by decide) λ I E=>?_;repeat k_memK
    exact h _ E
  · repeat k_memK
    refine UZ (by decide) (by decide) λ I E=>?_;repeat k_memK
    refine⟨trivial,OptK.some rfl (lK ?_)⟩;repeat k_memK
    refine UZ (by decide) (by decide) λ U a=>?_;repeat k_memK
    exact h _ (E.trans a)
noncomputable def Hw(c:Nat):MV:=if c=32 then .str [115,112,97,99,101]else if c=10 then .str [110,101,119,108,105,110,101]else .none
theorem Gb{c:Nat}(h:k (Hw c) Y):(bY TB (G0 L) (d+1)).call 102 [.str [c]] [] Y k x:=by
  refine call_in (F:=Do) (loc:=[aA (.str [c]),aB,aB]) rfl rfl ?_;repeat k_memK
  refine tD ?_;repeat k_memK
  refine⟨trivial,OptK.some rfl (lK ?_)⟩;repeat k_memK
  refine itP_of (λ e=>?_) λ e=>?_
  · have E:c=32:=by have :=of_decide_eq_true e;injection this with z;exact z.symm
    repeat k_memK
    rw[E]at h;exact h
  · haveI b:¬c=32:=by have :=of_decide_eq_false e;intro z;exact this (by rw[z])
    repeat k_memK
    refine⟨trivial,OptK.some rfl (lK ?_)⟩;repeat k_memK
    refine itP_of (λ e=>?_) λ e=>?_
    · haveI E:c=10:=by have :=of_decide_eq_true e;injection this with z;exact z.symm
      repeat k_memK
      rw[E]at h;exact h
    · haveI a:¬c=10:=by haveI :=of_decide_eq_false e;intro z;exact this (by rw[z])
      repeat k_memK
      unfold Hw at h;rw[if_neg b,if_neg a]at h;refine⟨trivial,?_⟩;repeat k_memK
      exact h
theorem Es{c:Nat}(b:c<1114112)(h:k (.str (35::92::DG c)) Y):(bY TB (G0 L) (d+2)).call 116 [.int c] [] Y k x:=by
  refine call_in (F:=Dc) (loc:=[aA (.int c),aB]) rfl rfl ?_;repeat k_memK
  refine Gb ?_;unfold Hw DG at*;by_cases q:c=32
  · rw[if_pos q]at h⊢;repeat k_memK
    exact h
  · rw[if_neg q]at h⊢;by_cases a:c=10
    · rw[if_pos a]at h⊢;repeat k_memK
      exact h
    · rw[if_neg a]at h⊢;repeat k_memK
      exact h
end
section
variable{L:List MV}{d:Nat}{Y:MH}{k x:KE}
noncomputable def iV(f:List Nat):List MV:=f.map λ c=>.int (c:Nat)
theorem zR(u:List Nat):qE [] (oH u)=aA u:=zU u
theorem MW{b:kP}{f:List Nat}{a:Nat}{K:KE}(o:Y a=aA (.list (iV f)))(G:f.length<=aX)(m:∀c∈f,c<1114112)(h:∀n,Y n=aB->K (.ref n) (upd Y n (.list (oH f)))):pI (λ B Y k=>bX b (G0 L) (.bi 2 [.l 0]) B Y k λ U U=>False) (λ B Y k=>AE b (G0 L) [] B Y k) 1 (aA (a,iV f)) (iV f) [] [aB] Y K:=by
  refine wG (caps:=[]) (src:=aA (a,iV f)) (dR o) (λ v=>match v with|.int i=>.str [i.toNat]|_=>.none) (λ U U h=>h) _ [] aB (by delta iV;rw[List.length_map];show 0+_<=_;exact F1 G) (λ v j q g=>?_) λ n p=>?_
  · obtain⟨c,e,rfl⟩:=List.mem_map.mp j;have :=m c e;repeat k_memK
    exact g
  ·have :=h n p;unfold oH at this;delta iV;rw[List.nil_append,List.map_map];exact this
noncomputable def fg(Y:MH)(a:Nat)(f:List Nat):Prop:=∃l,Y a=aA (.inst 191 [(9,.ref l),(7,.none)])/\Y l=aA (.list (iV f))
theorem Ci{a:Nat}{f:List Nat}(b:fg Y a f)(G:f.length<=aX)(g:∀c∈f,c<1114112)(h:∀I,Ext Y I->k (.str f) I):(bY TB (G0 L) (d+1)).call 16 [.ref a] [] Y k x:=by
 obtain⟨l,y,K⟩:=b;refine call_in (F:=Kv) (loc:=[aA (.ref a)]) rfl rfl ?_;repeat k_memK
 refine lJ ?_;repeat k_memK
 refine rP K ?_;refine MW K G g λ n e=>?_;repeat k_memK
 refine uW (upd_same ..) (zR f) G ?_;exact h _ (.new e _)
noncomputable abbrev Kq:List MS:=[.ite (.bool .Or [(.cmp .Eq (.l 2) (.c (.s [34]))),(.cmp .Eq (.l 2) (.c (.s [92])))]) [.ex (.meth (.l 1) 29 [(.c (.s [92]))])] [],.ex (.meth (.l 1) 29 [(.l 2)])]
theorem XN{e:kP}{l c:Nat}{H y:KL}{F:KE}{a:Option MV}{G:List MV}{b:KE}(f:G.length<=aX)(h:H [a,aA (.ref l),aA (.str [c])] (upd Y l (.list (G++[.str [c]])))):cF e (G0 L) [.ex (.meth (.l 1) 29 [(.l 2)])] [a,aA (.ref l),aA (.str [c])] (upd Y l (.list G)) H F y b:=by
 repeat k_memK
 refine gQ (upd_same ..) f ?_;rw[mJ];repeat k_memK
 exact h
theorem QY{e:kP}{l c:Nat}{H y:KL}{F:KE}{b:Option MV}{G:List MV}{a:KE}(f:G.length+1<=aX)(h:H [b,aA (.ref l),aA (.str [c])] (upd Y l (.list (G++[.str [92],.str [c]])))):cF e (G0 L) [.ex (.meth (.l 1) 29 [(.c (.s [92]))])] [b,aA (.ref l),aA (.str [c])] (upd Y l (.list G)) (λ B Y=>cF e (G0 L) [.ex (.meth (.l 1) 29 [(.l 2)])] B Y H F y a) F y a:=by
 repeat k_memK
 refine gQ (upd_same ..) (F1 f) ?_;rw[mJ];refine XN (by rw[List.length_append];exact f) ?_;rw[List.append_assoc];exact h
theorem ij{f:kP}{l c:Nat}{bZ:KL}{F:KE}{b:Option MV}{G:List MV}(a:G.length+1<=aX)(h:bZ [b,aA (.ref l),aA (.str [c])] (upd Y l (.list (G++oH (AS c))))):uU f (G0 L) Kq F [b,aA (.ref l),aA (.str [c])] (upd Y l (.list G)) bZ:=by
  refine lK ?_;repeat k_memK
  delta AS at h;refine itP_of (λ e=>?_) λ e=>?_
  · have E:c=34:=by have :=of_decide_eq_true e;injection this
    rw[if_pos (.inl E)]at h;exact itP_t e (QY a h)
  · have i:¬c=34:=by have :=of_decide_eq_false e;intro z;exact this (by rw[z])
    repeat k_memK
    refine itP_of (λ e=>?_) λ e=>?_
    · have E:c=92:=by have :=of_decide_eq_true e;injection this
      rw[if_pos (.inr E)]at h;exact QY a h
    · have g:¬c=92:=by have :=of_decide_eq_false e;intro z;exact this (by rw[z])
      rw[if_neg (by lia)]at h;exact t_nil (XN (F1 a) h)
theorem gp{g:kP}{l:Nat}{H:KL}{F:KE}{e:Option MV}:∀(u:List Nat)(G:List MV)(o:Option MV),G.length+2*u.length<=aX->(∀o,H [e,aA (.ref l),o] (upd Y l (.list (G++oH (u.flatMap AS)))))->tT (uU g (G0 L) Kq F) [2] aB (oH u) [e,aA (.ref l),o] (upd Y l (.list G)) H:=by
 intro f;induction f with
 |nil=>
 intro G o U h;exact⟨trivial,by have :=h o;rwa[show oH (([]:List Nat).flatMap AS)=[]from rfl,List.append_nil]at this⟩|cons c u a=>
    intro G o b h;rw[List.length_cons]at b;refine⟨trivial,OptK.some rfl (ij (F1 b) (a _ _ ?_ λ o=>?_))⟩
    · have :(oH (AS c)).length<=2:=by delta oH AS;split<;>exact Nat.le_of_ble_eq_true rfl
      rw[List.length_append];exact F2 b this
    ·have :=h o;unfold oH at this⊢;rw[List.flatMap_cons,List.map_append]at this;rw[List.append_assoc];exact this
theorem LH:∀u:List Nat,(u.flatMap AS).length<=2*u.length:=by
 intro b;induction b with
 |nil=>exact Nat.le_refl _|cons c u a=>
 rw[List.flatMap_cons,List.length_append,List.length_cons];have :=a;have :(AS c).length<=2:=by delta AS;split<;>exact Nat.le_of_ble_eq_true rfl
 lia
theorem De{a:Nat}{f:List Nat}(j:fg Y a f)(G:f.length<=1000)(i:∀c∈f,c<1114112)(h:∀I,Ext Y I->k (.str (gi f)) I):(bY TB (G0 L) (d+2)).call 117 [.ref a] [] Y k x:=by
  refine call_in (F:=Cp) (loc:=[aA (.ref a),aB,aB]) rfl rfl ?_;repeat k_memK
  intro l b;repeat k_memK
  refine tD ?_;repeat k_memK
  obtain⟨u,y,K⟩:=j;refine Ci ⟨u,Ext.new b _ _ _ y,Ext.new b _ _ _ K⟩ (by delta aX;exact lm G) i λ I E=>?_;have e:=MZ (show I l=aA (.list [.str [34]])from E _ _ (upd_same ..));have m:Ext Y I:=(Ext.new b _).trans E;repeat k_memK
  rw[<-e];have g:=LH f;refine gp f [.str [34]] aB (by delta aX;show 1+_<=_;exact F2 G G) λ o=>?_;repeat k_memK
  refine gQ (upd_same ..) (by rw[List.length_append];delta oH aX;rw[List.length_map];show 1+_<=_;exact F3 G G g) ?_;rw[mJ];repeat k_memK
  refine uW (upd_same ..) (t:=gi f) ?_ (by delta gi aX;rw[List.length_cons,List.length_append];show _+1+1<=_;exact F3 G G g) ?_
  · have :[MV.str [34]]++oH (f.flatMap AS)++[.str [34]]=oH (gi f):=by delta oH gi;rw[List.map_cons,List.map_append];rfl
    rw[this];exact zR _
  ·exact h _ (m.upd b _)
theorem Dw{i:Int}(h:k .none Y):(bY TB (G0 L) (d+1)).call 118 [.int i] [] Y k x:=by
 refine call_in (F:=Eh) (loc:=[aA (.int i)]) rfl rfl ?_;repeat k_memK
 exact h
end
noncomputable abbrev fZ:=List (List Nat×MV)
noncomputable def AC(M:Nat->Prop)(X:fZ)(Y:MH)(s:List Nat)(v:MV):Prop:=∃a i,v=.ref a/\¬M a/\Y a=aA (.inst 65 [(1,.int i),(2,.str s)])/\(X.find? (·.1==s)).map (·.2)=aA (.ref a)
mutual noncomputable def iG(M:Nat->Prop)(X:fZ)(Y:MH):T->MV->Prop
 |.ch c,v=>∃a,v=.ref a/\¬M a/\Y a=aA (.inst 170 [(8,.int (c:Nat))])|.st f,v=>∃a l,v=.ref a/\¬M a/\¬M l/\Y a=aA (.inst 191 [(9,.ref l),(7,.none)])/\Y l=aA (.list (iV f))|.nu i,v=>v=.int i|.tr b,v=>v=.bool b|.sy j,v=>AC M X Y (ER j) v|.ve g,v=>∃a l Z,v=.ref a/\¬M a/\¬M l/\Y a=aA (.inst 212 [(10,.ref l),(7,.none)])/\Y l=aA (.list Z)/\jC M X Y g Z|.ls g V,v=>tY M X Y V g v|.qt q t,v=>∃a b sv H,v=.ref a/\¬M a/\¬M b/\Y a=aA (.inst 149 [(5,sv),(6,.ref b),(7,.none)])/\Y b=aA (.inst 149 [(5,H),(6,.cst 44),(7,.none)])/\AC M X Y (qn q) sv/\iG M X Y t H noncomputable def jC(M:Nat->Prop)(X:fZ)(Y:MH):List T->List MV->Prop
 |[],Z=>Z=[]|t::g,Z=>∃v r,Z=v::r/\iG M X Y t v/\jC M X Y g r noncomputable def tY(M:Nat->Prop)(X:fZ)(Y:MH)(V:Bool):List T->MV->Prop
 |[],v=>v=if V then .int 5 else .cst 44|t::g,v=>∃a B G,v=.ref a/\¬M a/\Y a=aA (.inst 149 [(5,B),(6,G),(7,.none)])/\iG M X Y t B/\tY M X Y V g G end
section
variable{M:Nat->Prop}{X p:fZ}{Y I:MH}
noncomputable def fV(M:Nat->Prop)(Y I:MH):Prop:=∀a o,¬M a->Y a=aA o->I a=aA o
noncomputable def jM(X p:fZ):Prop:=∀s v,(X.find? (·.1==s)).map (·.2)=aA v->(p.find? (·.1==s)).map (·.2)=aA v
theorem AC.conv{M2:Nat->Prop}(c:∀a,M2 a->M a)(x:fV M Y I)(e:jM X p){s:List Nat}{v:MV}:AC M X Y s v->AC M2 p I s v:=by
 intro h;obtain⟨a,i,y,K,d,b⟩:=h;exact⟨a,i,y,λ z=>K (c a z),x a _ K d,e _ _ b⟩
mutual theorem iG.conv{M2:Nat->Prop}(c:∀a,M2 a->M a)(x:fV M Y I)(e:jM X p):∀(t:T)(v:MV),iG M X Y t v->iG M2 p I t v
 |.ch _,_,h=>by unfold iG at h⊢;obtain⟨a,y,K,d⟩:=h;exact⟨a,y,λ z=>K (c a z),x a _ K d⟩|.st _,_,h=>by unfold iG at h⊢;obtain⟨a,l,y,K,d,f,i⟩:=h;exact⟨a,l,y,λ z=>K (c a z),λ z=>d (c l z),x a _ K f,x l _ d i⟩|.nu _,_,h=>by unfold iG at h⊢;exact h|.tr _,_,h=>by unfold iG at h⊢;exact h|.sy _,_,h=>by unfold iG at h⊢;exact h.conv c x e|.ve g,_,h=>by unfold iG at h⊢;obtain⟨a,l,Z,y,K,d,f,i,P⟩:=h;exact⟨a,l,Z,y,λ z=>K (c a z),λ z=>d (c l z),x a _ K f,x l _ d i,jC.conv c x e g Z P⟩|.ls g _,v,h=>by unfold iG at h⊢;exact tY.conv c x e g v h|.qt _ t,_,h=>by unfold iG at h⊢;obtain⟨a,b,sv,H,y,K,d,f,i,P,j⟩:=h;exact⟨a,b,sv,H,y,λ z=>K (c a z),λ z=>d (c b z),x a _ K f,x b _ d i,P.conv c x e,iG.conv c x e t H j⟩theorem jC.conv{M2:Nat->Prop}(c:∀a,M2 a->M a)(x:fV M Y I)(e:jM X p):∀(g:List T)(Z:List MV),jC M X Y g Z->jC M2 p I g Z
 |[],_,h=>by unfold jC at h⊢;exact h|t::g,_,h=>by unfold jC at h⊢;obtain⟨v,r,y,K,d⟩:=h;exact⟨v,r,y,iG.conv c x e t v K,jC.conv c x e g r d⟩theorem tY.conv{M2:Nat->Prop}(c:∀a,M2 a->M a)(x:fV M Y I)(e:jM X p){V:Bool}:∀(g:List T)(v:MV),tY M X Y V g v->tY M2 p I V g v
 |[],_,h=>by unfold tY at h⊢;exact h|t::g,_,h=>by unfold tY at h⊢;obtain⟨a,B,G,y,K,d,f,i⟩:=h;exact⟨a,B,G,y,λ z=>K (c a z),x a _ K d,iG.conv c x e t B f,tY.conv c x e g G i⟩end
theorem AC.mono(x:fV M Y I)(e:jM X p){s:List Nat}{v:MV}(h:AC M X Y s v):AC M p I s v:=h.conv (λ U z=>z) x e
theorem iG.mono(x:fV M Y I)(e:jM X p)(t:T)(v:MV)(h:iG M X Y t v):iG M p I t v:=iG.conv (λ U z=>z) x e t v h
theorem jC.mono(x:fV M Y I)(e:jM X p)(g:List T)(Z:List MV)(h:jC M X Y g Z):jC M p I g Z:=jC.conv (λ U z=>z) x e g Z h
theorem tY.mono(x:fV M Y I)(e:jM X p){V:Bool}(g:List T)(v:MV)(h:tY M X Y V g v):tY M p I V g v:=tY.conv (λ U z=>z) x e g v h
theorem jM.refl(X:fZ):jM X X:=λ U U h=>h
theorem Ext.m(x:Ext Y I):fV M Y I:=λ a o U e=>x a o e
noncomputable def OI:T->TC
 |.ch _=>.own 170|.st _=>.own 191|.nu _=>.int|.tr _=>.bool|.sy _=>.own 65|.ve _=>.own 212|.ls [] V=>if V then .int else .own 38|.ls (_::_) _=>.own 149|.qt _ _=>.own 149
theorem EX{L:List MV}{a C:Nat}{N:List (Nat×MV)}(h:Y a=aA (.inst C N))(b:(G0 L).ic C=aC):BQ (G0 L) Y (.ref a)=aA (.own C):=by unfold BQ;dsimp only;rw[h];dsimp only;rw[if_pos b]
theorem t5{L:List MV}{V:Bool}:∀(g:List T)(v:MV),tY M X Y V g v->BQ (G0 L) Y v=aA (OI (.ls g V)):=by
 intro d;induction d with
 |nil=>
 intro v h;unfold tY at h;rw[h];cases V<;>rfl|cons t g b=>
 intro v h;unfold tY at h;obtain⟨a,B,G,rfl,_,c,_,_⟩:=h;exact EX c rfl
theorem cz{L:List MV}:∀(t:T)(v:MV),iG M X Y t v->BQ (G0 L) Y v=aA (OI t)
 |.ch _,_,h=>by unfold iG at h;obtain⟨a,rfl,_,c⟩:=h;exact EX c rfl|.st _,_,h=>by unfold iG at h;obtain⟨a,l,rfl,_,_,c,_⟩:=h;exact EX c rfl|.nu _,_,h=>by unfold iG at h;rw[h];rfl|.tr _,_,h=>by unfold iG at h;rw[h];rfl|.sy _,_,h=>by unfold iG at h;obtain⟨a,i,rfl,_,c,_⟩:=h;exact EX c rfl|.ve _,_,h=>by unfold iG at h;obtain⟨a,l,Z,rfl,_,_,c,_⟩:=h;exact EX c rfl|.ls g V,v,h=>by unfold iG at h;exact t5 g v h|.qt _ _,_,h=>by unfold iG at h;obtain⟨a,b,sv,H,rfl,_,_,c,_⟩:=h;exact EX c rfl
end
/-! the printer -/
noncomputable def NS:Option Int->MV
 |aB=>.none|aA l=>.int l
noncomputable def FX(r:Option Int)(n:Nat):Prop:=∀l,r=aA l->(n:Int)<=l
noncomputable def OJ(u:List (List Nat)):List MV:=u.map .str
structure tQ(b:MH)(p pc wt:Nat)(w:Bool)(lim:Option Int)(tb:MV)(ps:List (List Nat))(W:List MV)(mh:MH):Prop where
 ext:Ext b mh
 pr:mh p=aA (.inst 1205 [(28,.bool w),(20,.int 53),(29,.int 10),(13,NS lim),(26,tb),(30,.ref pc),(31,.int ps.flatten.length),(32,.ref wt)])pp:mh pc=aA (.list (OJ ps))pw:mh wt=aA (.list W)fp:b p=aB
 fpc:b pc=aB
 fwt:b wt=aB
 ne:pc≠wt
 nep:ps.length<=100000/\W.length<=100000
section
variable{b Y:MH}{p P A:Nat}{w:Bool}{r:Option Int}{Q:MV}{ps:List (List Nat)}{W:List MV}{L:List MV}{d:Nat}{k x:KE}
theorem tQ.p_ne(S:tQ b p P A w r Q ps W Y):p≠P/\p≠A:=by
 constructor;·intro e;have :=S.pr;rw[e,S.pp]at this;cases this
 ·intro e;have :=S.pr;rw[e,S.pw]at this;cases this
theorem vL{s:List Nat}(S:tQ b p P A w r Q ps W Y)(g:ps.length<100000)(a:FX r (ps.flatten.length+s.length)->∀I,tQ b p P A w r Q (ps++[s]) W I->k .none I)(f:∀l,r=aA l->¬FX r (ps.flatten.length+s.length)->∀I,Ext b I->x (.int l) I):(bY TB (G0 L) (d+1)).meth 1205 0 [.ref p,.str s] Y k x:=by
 refine dX (F:=YG) (loc:=[aA (.ref p),aA (.str s)]) rfl rfl ?_;haveI y:=S.pr;haveI K:=S.pp;obtain⟨h,i⟩:=S.p_ne;repeat k_memK
 refine gQ K (by unfold OJ aX;rw[List.length_map];exact F1 g) ?_;have j:upd Y P (.list (OJ ps++[.str s])) p=aA (.inst 1205 [(28,.bool w),(20,.int 53),(29,.int 10),(13,NS r),(26,Q),(30,.ref P),(31,.int ps.flatten.length),(32,.ref A)]):=by rw[cE _ _ h];exact y
 have c:tQ b p P A w r Q (ps++[s]) W (upd (upd Y P (.list (OJ ps++[.str s]))) p (.inst 1205 [(28,.bool w),(20,.int 53),(29,.int 10),(13,NS r),(26,Q),(30,.ref P),(31,.int (ps.flatten.length+s.length)),(32,.ref A)])):=by
    refine⟨(S.ext.upd S.fpc _).upd S.fp _,?_,?_,?_,S.fp,S.fpc,S.fwt,S.ne,?_,S.nep.2⟩
    ·rw[upd_same,List.flatten_append,List.length_append];show _=aA (MO.inst 1205 [_,_,_,_,_,_,(31,.int (((ps.flatten.length+(s++[]).length:Nat)):Int)),_]);rw[List.append_nil,Int.natCast_add]
    ·rw[cE _ _ h.symm,upd_same];unfold OJ;rw[List.map_append];rfl
    ·rw[cE _ _ i.symm,cE _ _ S.ne.symm];exact S.pw
    ·rw[List.length_append];exact g
 repeat k_memK
 cases r with
 |none=>
    repeat k_memK
    exact a (λ U e=>nomatch e) _ c|some l=>
    repeat k_memK
    refine itP_of (λ e=>?_) λ e=>?_
    · refine m7 ?_;repeat k_memK
      exact f l rfl (λ q=>by have :=q l rfl;have :=of_decide_eq_true e;rw[Int.natCast_add]at*;omega) _ c.ext
    · repeat k_memK
      exact a (λ G q=>by cases q;have :=of_decide_eq_false e;rw[Int.natCast_add];omega) _ c
theorem tQ.push(S:tQ b p P A w r Q ps W Y)(v:MV)(h:W.length<100000):tQ b p P A w r Q ps (W++[v]) (upd Y A (.list (W++[v]))):=⟨S.ext.upd S.fwt _,by rw[cE _ _ S.p_ne.2];exact S.pr,by rw[cE _ _ S.ne];exact S.pp,upd_same ..,S.fp,S.fpc,S.fwt,S.ne,S.nep.1,by rw[List.length_append];exact h⟩
theorem tQ.popped{v:MV}(S:tQ b p P A w r Q ps (W++[v]) Y):tQ b p P A w r Q ps W (upd Y A (.list W)):=⟨S.ext.upd S.fwt _,by rw[cE _ _ S.p_ne.2];exact S.pr,by rw[cE _ _ S.ne];exact S.pp,upd_same ..,S.fp,S.fpc,S.fwt,S.ne,S.nep.1,by have :=S.nep.2;rw[List.length_append]at this;exact F1 this⟩
theorem xu{v:MV}{K:MV×List MV->Prop}(S:tQ b p P A w r Q ps W Y)(h:W.length<100000)(hk:K (.none,W++[v])):OptK (g9 Y 29 A [v]) K:=gQ S.pw (by unfold aX;exact F1 h) hk
end
mutual noncomputable def Wf(q:Bool):T->Prop
 |.ch c=>c<=300|.st f=>f.length<=5/\∀c∈f,c<=300|.nu i=>i.natAbs<=1000|.tr _=>True|.sy j=>j<5|.ve g=>g.length<=5/\NE q g|.ls g V=>(V=aC->g≠[])/\NE q g|.qt j t=>j<4/\q=aC/\Wf q t noncomputable def NE(q:Bool):List T->Prop
 |[]=>True|t::g=>Wf q t/\NE q g end
structure xT(es:fZ)(mh:MH)(tb:Nat):Prop where
 ex:∃rows byt rl,mh tb=aA (.inst 128 [(3,.ref rows),(4,.ref byt)])/\mh byt=aA (.sdict es)/\byt≠gC/\mh rows=aA (.list rl)ent:∀e∈es,∃a i,e.2=.ref a/\mh a=aA (.inst 65 [(1,.int i),(2,.str e.1)])
section
variable{M:Nat->Prop}{X:fZ}{b Y:MH}{L:List MV}{d:Nat}{k x:KE}
theorem xT.mono{I:MH}(x:Ext Y I){Q:Nat}(t:xT X Y Q):xT X I Q:=by
 obtain⟨⟨A,f,N,y,K,l,h⟩,c⟩:=t;exact⟨⟨A,f,N,x _ _ y,x _ _ K,l,x _ _ h⟩,λ e g=>by obtain⟨a,i,P,j⟩:=c e g;exact⟨a,i,P,x _ _ j⟩⟩
noncomputable def AL(X:fZ)(s:List Nat):MV:=((X.find? (·.1==s)).map (·.2)).getD .none
theorem xT.at{Q:Nat}(t:xT X Y Q)(s:List Nat):AL X s=.none\/∃a i,AL X s=.ref a/\Y a=aA (.inst 65 [(1,.int i),(2,.str s)]):=by
 delta AL;cases e:X.find? (·.1==s)with
 |none=>exact .inl rfl|some p=>
 obtain⟨a,i,y,K⟩:=t.ent p (List.mem_of_find?_eq_some e);haveI :=bC (List.find?_some (p:=λ x:List Nat×MV=>x.1==s) e);rw[this]at K;exact .inr ⟨a,i,y,K⟩
theorem QJ{a:Nat}{s:List Nat}{K:MV->Prop}(h:Y a=aA (.sdict X))(hk:K (AL X s)):OptK (Ax Y a [.str s,.none]) K:=by
 refine OptK.some (a:=AL X s) ?_ hk;haveI c:dictOf Y a=aA X:=by delta dictOf;rw[h]
 show(dictOf Y a).map (λ X=>(match X.find? (·.1==s)with|aA e=>e.2|aB=>MV.none))=_;rw[c];delta AL;refine congrArg aA ?_;dsimp only;cases X.find? (·.1==s)<;>rfl
theorem Ao{Q:Nat}{s:List Nat}(t:xT X Y Q)(h:k (AL X s) Y):(bY TB (G0 L) (d+1)).meth 128 7 [.ref Q,.str s] Y k x:=by
 obtain⟨⟨A,f,N,y,K,a,-⟩,-⟩:=t;refine dX (F:=Dr) (loc:=[aA (.ref Q),aA (.str s)]) rfl rfl ?_;repeat k_memK
 refine PW K a ?_;repeat k_memK
 exact QJ K h
theorem C2{a c:Nat}{o A:MO}(y:Y a=aA o)(K:Y c=aA A)(n:a≠c):IY (G0 L) Y (.ref a) (.ref c)=aA aG:=by
 show(if(aC,a)=(aC,c)then aA aC else if pL (G0 L) Y (aC,a)=aC/\pL (G0 L) Y (aC,c)=aC then aA aG else aB)=_;rw[if_neg (λ e=>n (dU e).2),if_pos];constructor;·show(Y a).isSome=aC;rw[y];rfl
 ·show(Y c).isSome=aC;rw[K];rfl
theorem mq{a:Nat}:IY (G0 L) Y (.ref a) (.ref a)=aA aC:=by
 show(if(aC,a)=(aC,a)then aA aC else _)=_;rw[if_pos rfl]
theorem zr{c:Nat}{o:MO}(h:Y c=aA o):IY (G0 L) Y (.cst 44) (.ref c)=aA aG:=by
 show(if(aG,44)=(aC,c)then aA aC else if pL (G0 L) Y (aG,44)=aC/\pL (G0 L) Y (aC,c)=aC then aA aG else aB)=_;rw[if_neg (λ e=>by cases e),if_pos];refine⟨rfl,?_⟩;show(Y c).isSome=aC;rw[h];rfl
theorem yQ{c:Nat}{o:MO}(h:Y c=aA o):IY (G0 L) Y (.ref c) (.cst 44)=aA aG:=by
 show(if(aC,c)=(aG,44)then aA aC else if pL (G0 L) Y (aC,c)=aC/\pL (G0 L) Y (aG,44)=aC then aA aG else aB)=_;rw[if_neg (λ e=>by cases e),if_pos];refine⟨?_,rfl⟩;show(Y c).isSome=aC;rw[h];rfl
theorem u8:∀j<5,∀i<4,ER j≠qn i:=by decide
theorem wY{c C:Nat}{i:Int}{s:List Nat}{N:List (Nat×MV)}{a:Nat}(h:Y c=aA (.inst 65 [(1,.int i),(2,.str s)]))(f:Y a=aA (.inst C N))(n:(MO.inst C N)≠.inst 65 [(1,.int i),(2,.str s)]):IY (G0 L) Y (.ref a) (.ref c)=aA aG:=C2 f h λ e=>by rw[e,h]at f;exact n (bH f).symm
theorem Ef{c:Nat}{i:Int}{m:Nat}(f:m<4){q:Bool}(h:Y c=aA (.inst 65 [(1,.int i),(2,.str (qn m))])):∀(t:T)(v:MV),Wf q t->iG M X Y t v->IY (G0 L) Y v (.ref c)=aA aG
 |.ch _=>λ U U r=>by obtain⟨a,rfl,_,r⟩:=r;exact wY h r (by intro e;cases e)|.st _=>λ U U r=>by obtain⟨a,l,rfl,_,_,r,_⟩:=r;exact wY h r (by intro e;cases e)|.nu _=>λ U U r=>by rw[r];rfl|.tr _=>λ U U r=>by rw[r];rfl|.sy j=>λ U w r=>by
  obtain⟨a,y,rfl,_,r,_⟩:=r;exact wY h r (by intro e;injection e with u s;injection s with z n;injection n with p A;injection p with C g;injection g with o;exact u8 j w m f o)|.ve _=>λ U U r=>by obtain⟨a,l,Z,rfl,_,_,r,_⟩:=r;exact wY h r (by intro e;cases e)|.ls [] V=>λ v U r=>by
  rw[r];cases V;·exact zr h
  ·rfl|.ls (_::_) _=>λ U U r=>by obtain⟨a,B,G,rfl,_,r,_⟩:=r;exact wY h r (by intro e;cases e)|.qt _ _=>λ U U r=>by obtain⟨a,b,sv,H,rfl,_,_,r,_⟩:=r;exact wY h r (by intro e;cases e)
noncomputable abbrev qB:List MS:=[.asg (.l 4) (.meth (.l 1) 7 [(.l 3)]),.ite (.bool .And [(.cmp .IsNot (.l 4) (.c .nil)),(.cmp .Is (.attr (.l 0) 5) (.l 4))]) [.ret (.l 2)] []]
theorem q_turn{Q a:Nat}{B G:MV}{s n:List Nat}{o:Option MV}{bZ:KL}{F:KE}(t:xT X Y Q)(i:Y a=aA (.inst 149 [(5,B),(6,G),(7,.none)])){r:Bool}(h:AL X n=.none/\r=aG\/∃c,AL X n=.ref c/\IY (G0 L) Y B (.ref c)=aA r)(y:r=aC->F (.str s) Y)(K:r=aG->bZ [aA (.ref a),aA (.ref Q),aA (.str s),aA (.str n),aA (AL X n)] Y):uU (bY TB (G0 L) (d+1)) (G0 L) qB F [aA (.ref a),aA (.ref Q),aA (.str s),aA (.str n),o] Y bZ:=by
  refine lK ?_;obtain⟨A,f,N,j,-⟩:=t.ex;repeat k_memK
  refine Ao t ?_;rcases h with⟨e,g⟩|⟨c,e,g⟩
  · rw[e]at K⊢;repeat k_memK
    exact K g
  · rw[e]at K⊢;repeat k_memK
    refine OptK.some g ?_;repeat k_memK
    refine itP_of (λ z=>?_) λ z=>?_
    · repeat k_memK
      exact y z
    · repeat k_memK
      exact K z
noncomputable def q4:List MV:=[.tup [.str (qs 0),.str (qn 0)],.tup [.str (qs 1),.str (qn 1)],.tup [.str (qs 2),.str (qn 2)],.tup [.str (qs 3),.str (qn 3)]]
theorem yd{Q a:Nat}{B G:MV}{H:KL}{F:KE}(t:xT X Y Q)(f:Y a=aA (.inst 149 [(5,B),(6,G),(7,.none)]))(g:∀n c,n<4->AL X (qn n)=.ref c->IY (G0 L) Y B (.ref c)=aA aG)(h:∀D o2 R,H [aA (.ref a),aA (.ref Q),D,o2,R] Y):tT (uU (bY TB (G0 L) (d+1)) (G0 L) qB F) [2,3] aB q4 [aA (.ref a),aA (.ref Q),aB,aB,aB] Y H:=by
 have one:∀n,n<4->AL X (qn n)=.none/\aG=aG\/∃c,AL X (qn n)=.ref c/\IY (G0 L) Y B (.ref c)=aA aG:=λ n j=>by
  rcases t.at (qn n)with e|⟨c,i,e,-⟩;·exact .inl ⟨e,rfl⟩
  ·exact .inr ⟨c,e,g n c j e⟩
 refine⟨trivial,OptK.some rfl (q_turn t f (one 0 (by decide)) (λ e=>nomatch e) λ U=>⟨trivial,OptK.some rfl (q_turn t f (one 1 (by decide)) (λ e=>nomatch e) λ U=>⟨trivial,OptK.some rfl (q_turn t f (one 2 (by decide)) (λ e=>nomatch e) λ U=>⟨trivial,OptK.some rfl (q_turn t f (one 3 (by decide)) (λ e=>nomatch e) λ U=>⟨trivial,h _ _ _⟩)⟩)⟩)⟩)⟩
noncomputable def Bk(i:Nat):MV:=.tup [.str (qs i),.str (qn i)]
theorem ai{t:Loc->MH->KL->Prop}{u w j:Nat}{H:KL}{P:Loc->Prop}(a:∀i B(bZ:KL),i<j->P B->(∀F,P F->bZ F Y)->t ((B.set u (aA (.str (qs i)))).set w (aA (.str (qn i)))) Y bZ)(c:∀B(bZ:KL),P B->t ((B.set u (aA (.str (qs j)))).set w (aA (.str (qn j)))) Y bZ)(r:List MV):∀(n i:Nat)(B:Loc),i+n=j->P B->tT t [u,w] aB ((List.range' i (n+1)).map Bk++r) B Y H:=by
 intro g;induction g with
 |zero=>
 intro i B e p;exact⟨trivial,OptK.some rfl (by obtain rfl:i=j:=e;exact c _ _ p)⟩|succ n f=>
 intro i B e p;exact⟨trivial,OptK.some rfl (a i _ _ (F1 (Nat.le_of_eq e)) p λ F o=>f (i+1) F (by rw[<-e,Nat.add_assoc,Nat.add_comm 1]) o)⟩
theorem XM:∀j,j<4->∃r,q4=(List.range' 0 (j+1)).map Bk++r:=Gz ⟨_,rfl⟩ ⟨_,rfl⟩ ⟨_,rfl⟩ ⟨_,rfl⟩
theorem th{Q a:Nat}{B G:MV}{H:KL}{F:KE}{m:Nat}(t:xT X Y Q)(j:Y a=aA (.inst 149 [(5,B),(6,G),(7,.none)]))(v:m<4)(o:∀n c,n<m->AL X (qn n)=.ref c->IY (G0 L) Y B (.ref c)=aA aG)(u:AL X (qn m)=B)(q:∃c,B=.ref c)(h:F (.str (qs m)) Y):tT (uU (bY TB (G0 L) (d+1)) (G0 L) qB F) [2,3] aB q4 [aA (.ref a),aA (.ref Q),aB,aB,aB] Y H:=by
 haveI one:∀n,n<m->AL X (qn n)=.none/\aG=aG\/∃c,AL X (qn n)=.ref c/\IY (G0 L) Y B (.ref c)=aA aG:=λ n g=>by
  rcases t.at (qn n)with e|⟨c,i,e,-⟩;·exact .inl ⟨e,rfl⟩
  ·exact .inr ⟨c,e,o n c g e⟩
 obtain⟨c,rfl⟩:=q;haveI f:AL X (qn m)=.none/\aC=aG\/∃I,AL X (qn m)=.ref I/\IY (G0 L) Y (.ref c) (.ref I)=aA aC:=.inr ⟨c,u,mq⟩;obtain⟨r,e⟩:=XM m v;rw[e];refine ai (P:=λ l=>∃D o2 R,l=[aA (.ref a),aA (.ref Q),D,o2,R]) (λ i l bZ s p k=>?_) (λ l bZ p=>?_) r m 0 _ (Nat.zero_add m) ⟨_,_,_,rfl⟩
 ·obtain⟨D,o2,R,rfl⟩:=p;exact q_turn t j (one i s) (λ e=>nomatch e) λ U=>k _ ⟨_,_,_,rfl⟩
 ·obtain⟨D,o2,R,rfl⟩:=p;exact q_turn t j f (λ U=>h) λ e=>nomatch e
end
section
variable{M:Nat->Prop}{X:fZ}{b Y:MH}{L:List MV}{d:Nat}{k x:KE}
theorem YX{Q a:Nat}{q V:Bool}{t:T}{g:List T}(f:xT X Y Q)(w:tY M X Y V (t::g) (.ref a))(v:Wf q t)(h:k .none Y):(bY TB (G0 L) (d+2)).call 111 [.ref a,.ref Q] [] Y k x:=by
 obtain⟨S,B,G,e,_,r,o,l⟩:=w;cases e;refine call_in (F:=rj) (loc:=[aA (.ref a),aA (.ref Q),aB,aB,aB]) rfl rfl ?_;repeat k_memK
 cases g with
 |nil=>
    refine OptK.some (t5 [] G l) ?_;cases V
    · repeat k_memK
      exact h
    · repeat k_memK
      exact h|cons H m=>
    obtain⟨c,C,u,rfl,_,y,_,j⟩:=l;repeat k_memK
    cases m with
 |nil=>
      rw[j]at y⊢;cases V
      · repeat k_memK
        refine tD ?_;repeat k_memK
        refine yd f r (λ n I z e=>?_) λ D o2 R=>?_
        · rcases f.at (qn n)with E|⟨N,i,E,K⟩;·rw[E]at e;cases e
          ·rw[E]at e;cases e;exact Ef z K t B v o
        · repeat k_memK
          exact h
      · repeat k_memK
        exact h|cons J A=>
      obtain⟨s,_,_,rfl,_,p,_,_⟩:=j;repeat k_memK
      refine OptK.some (a:=aC) (by show(IY (G0 L) Y (.ref s) (.cst 44)).map (!·)=_;rw[yQ p];rfl) ?_;repeat k_memK
      exact h
theorem yo:∀n<4,∀m<4,qn n=qn m->n=m:=by decide
theorem WZ{Q a:Nat}{q:Bool}{j:Nat}{t:T}(f:xT X Y Q)(p:iG M X Y (.qt j t) (.ref a))(g:Wf q (.qt j t))(h:k (.str (qs j)) Y):(bY TB (G0 L) (d+2)).call 111 [.ref a,.ref Q] [] Y k x:=by
 obtain⟨V,R,sv,H,e,_,_,w,G,C,_⟩:=p;cases e;refine call_in (F:=rj) (loc:=[aA (.ref a),aA (.ref Q),aB,aB,aB]) rfl rfl ?_;repeat k_memK
 obtain⟨s,i,rfl,_,y,K⟩:=C;refine tD ?_;repeat k_memK
 refine th f w g.1 (λ n c m e=>?_) (by unfold AL;rw[K];rfl) ⟨s,rfl⟩ h;rcases f.at (qn n)with E|⟨N,O,E,B⟩;·rw[E]at e;cases e
 ·rw[E]at e;cases e;refine wY B y λ z=>?_;injection z with S v;injection v with J D;injection D with A I;injection A with P o;injection o with u;have :=yo _ g.1 n (Nat.lt_trans m g.1) u;exact(Nat.not_succ_le_zero _ (F2 (l:=1) (r:=0) m (Nat.le_of_eq this)))
end
/-! the tasks -/
inductive It where|pc(s:List Nat)|da(t:T)|ta(ts:List T)(dot:Bool)
noncomputable def Hh(M:Nat->Prop)(X:fZ)(b:MH):It->MV->Prop
 |.pc s,v=>v=.tup [.int 0,.str s]|.da t,v=>∃u,v=.tup [.int 1,u]/\iG M X b t u|.ta g V,v=>∃u,v=.tup [.int 2,u]/\tY M X b V g u
noncomputable def yA(M:Nat->Prop)(X:fZ)(b:MH):List It->List MV->Prop
 |[],Z=>Z=[]|i::n,Z=>∃v r,Z=v::r/\Hh M X b i v/\yA M X b n r
noncomputable def vJ:List T->List It
 |[]=>[]|t::r=>vJ r++[.da t,.pc [32]]
noncomputable def vI:List T->List It
 |[]=>[]|t::r=>vJ r++[.da t]
noncomputable def tU(w:Bool):It->List Nat×List It
 |.pc s=>(s,[])|.da (.ls (t::g) V)=>([40],[.ta g V,.da t])|.da (.ls [] _)=>([40,41],[])|.da (.ve g)=>([35,40],.pc [41]::vI g)|.da (.qt j t)=>(qs j,[.da t])|.da t=>(tx w t,[])|.ta [] aG=>([41],[])|.ta [] aC=>([32,46,32],[.pc [41],.da (.nu 5)])|.ta (t::g) V=>([32],[.ta g V,.da t])
noncomputable def B7(q:Bool):It->Prop
 |.pc _=>True|.da t=>Wf q t|.ta g _=>NE q g
noncomputable def GB(q:Bool)(X:fZ)(b:MH)(Q:MV):Prop:=match q with
 |aC=>∃a,Q=.ref a/\xT X b a|aG=>Q=.none
section
variable{M:Nat->Prop}{X:fZ}{b Y:MH}{p P A:Nat}{w q:Bool}{r:Option Int}{Q:MV}{ps:List (List Nat)}{W:List MV}{L:List MV}{d:Nat}{k x:KE}
theorem zx{t:T}{v:MV}(S:tQ b p P A w r Q ps W Y)(n:iG M X Y t v)(e:Wf q t)(s:BE (OI t) 149=aG)(z:BE (OI t) 212=aG)(h:∀I,Ext Y I->k (.str (tU w (.da t)).1) I):(bY TB (G0 L) (d+6)).meth 1205 1 [.ref p,v] Y k x:=by
 have y:=S.pr;refine dX (F:=WK) (loc:=[aA (.ref p),aA v,aB]) rfl rfl ?_;repeat k_memK
 refine Kk (cz t v n) ?_;cases t with
 |ch c=>
    unfold Wf at e;obtain⟨a,rfl,_,m⟩:=n;repeat k_memK
    refine OptK.some (yQ m) ?_;repeat k_memK
    cases w
    · repeat k_memK
      exact h _ (.refl _)
    · repeat k_memK
      refine Es (F1 e) ?_;exact h _ (.refl _)|st f=>
    obtain⟨a,l,rfl,_,_,m,u⟩:=n;repeat k_memK
    refine OptK.some (yQ m) ?_;repeat k_memK
    cases w
    · repeat k_memK
      refine Ci ⟨l,m,u⟩ (by have :=e.1;unfold aX;lia) (λ c o=>by have :=e.2 c o;exact F1 this) λ I E=>h _ E
    · repeat k_memK
      refine De ⟨l,m,u⟩ (by have :=e.1;lia) (λ c o=>by have :=e.2 c o;exact F1 this) λ I E=>h _ E|nu i=>
    unfold Wf at e;subst n;repeat k_memK
    refine Dw ?_;repeat k_memK
    exact Il (by lia) λ I E=>h _ E|tr t=>
    subst n;repeat k_memK
    cases t
    · repeat k_memK
      exact h _ (.refl _)
    · repeat k_memK
      exact h _ (.refl _)|sy j=>
    obtain⟨a,i,rfl,_,m,_⟩:=n;repeat k_memK
    refine OptK.some (yQ m) ?_;repeat k_memK
    exact h _ (.refl _)|ls g V=>cases g with
  |nil=>
      cases V
      · subst n;repeat k_memK
        exact h _ (.refl _)
      ·exact absurd rfl (e.1 rfl)|cons=>cases s
 |ve=>cases z|qt=>cases s
end
section
variable{M:Nat->Prop}{X:fZ}{b Y:MH}{p P A:Nat}{w q:Bool}{r:Option Int}{Q:MV}{ps:List (List Nat)}{W:List MV}{L:List MV}{d:Nat}{k x:KE}
noncomputable def uy(M:Nat->Prop)(X:fZ)(b:MH)(p P A:Nat)(w:Bool)(r:Option Int)(Q:MV)(ps:List (List Nat))(W:List MV)(i:It)(k:MH->Prop):Prop:=FX r (ps.flatten.length+(tU w i).1.length)->∀Z I,yA M X b (tU w i).2 Z->tQ b p P A w r Q (ps++[(tU w i).1]) (W++Z) I->k I
noncomputable def LQ(b:MH)(r:Option Int)(ps:List (List Nat))(s:List Nat)(x:KE):Prop:=∀l,r=aA l->¬FX r (ps.flatten.length+s.length)->∀I,Ext b I->x (.int l) I
theorem WC(W:List MV)(a c:MV):W++[a]++[c]=W++[a,c]:=by rw[List.append_assoc];rfl
section
variable{B:Loc}{H:KL}{F:KE}{y:KL}{z:List MS}
theorem mE{a:kP}{e:ME}{v:MV}{g:Nat}{m:Int}(S:tQ b p P A w r Q ps W Y)(c:W.length<100000)(f:B[0]?.join=aA (.ref p))(i:(G0 L).gv g=aA (.int m))(h:∀K:KE,K v Y->bX a (G0 L) e B Y K x)(hk:∀I,tQ b p P A w r Q ps (W++[.tup [.int m,v]]) I->cF a (G0 L) z B I H F y x):cF a (G0 L) (.ex (.meth (.attr (.l 0) 32) 29 [.tup [.g g,e]])::z) B Y H F y x:=t_ex (r_meth (r_at f S.pr rfl rfl (m_list S.pw rfl (r_args (r_tup (r_args (r_sv (.g g) i (r_args (h _ (r_args0 (and_le rfl (r_args0 (xu S c (hk _ (S.push _ c)))))))))))))))
theorem Lo{e:ME}{s:List Nat}(S:tQ b p P A w r Q ps W Y)(c:ps.length<100000)(g:B[0]?.join=aA (.ref p))(f:∀K:KE,K (.str s) Y->bX (bY TB (G0 L) (d+1)) (G0 L) e B Y K x)(hk:FX r (ps.flatten.length+s.length)->∀I,tQ b p P A w r Q (ps++[s]) W I->cF (bY TB (G0 L) (d+1)) (G0 L) z B I H F y x)(a:LQ b r ps s x):cF (bY TB (G0 L) (d+1)) (G0 L) (.ex (.meth (.l 0) 0 [e])::z) B Y H F y x:=t_ex (r_meth (r_sv (.l 0) g (m_inst S.pr rfl rfl (r_args (f _ (r_args0 (vL S c hk a)))))))
end
theorem A0{g:List T}{V:Bool}{v:MV}(S:tQ b p P A w r Q ps W Y)(z:ps.length<100000)(l:W.length<99990)(n:tY M X b V g v)(f:uy M X b p P A w r Q ps W (.ta g V) (k .none))(c:LQ b r ps (tU w (.ta g V)).1 x):(bY TB (G0 L) (d+2)).meth 1205 4 [.ref p,v] Y k x:=by
 refine dX (F:=OX) (loc:=[aA (.ref p),aA v]) rfl rfl ?_;have y:=S.pr;cases g with
 |nil=>
    cases V
    · rw[n];repeat k_memK
      refine vL S z (λ o I i=>?_) c;repeat k_memK
      exact f o [] _ rfl (by rw[List.append_nil];exact i)
    · rw[n];repeat k_memK
      refine vL S z (λ o I i=>?_) c;refine mE i (lm l) rfl rfl (λ K h=>r_sv _ rfl h) λ Z m=>?_;refine mE m (by rw[List.length_append];show W.length+1<_;exact F1 l) rfl rfl (λ K h=>r_sv _ rfl h) λ s j=>?_;rw[WC]at j;repeat k_memK
      exact f o _ _ ⟨_,_,rfl,rfl,_,_,rfl,⟨_,rfl,rfl⟩,rfl⟩ j|cons t g=>
    obtain⟨a,B,G,rfl,_,e,C,u⟩:=n;haveI D:=S.ext _ _ e;repeat k_memK
    refine OptK.some (yQ D) ?_;repeat k_memK
    refine vL S z (λ o I i=>?_) c;refine mE i (lm l) rfl rfl (λ K h=>r_at rfl (i.ext _ _ e) rfl rfl h) λ Z m=>?_;refine mE m (by rw[List.length_append];show W.length+1<_;exact F1 l) rfl rfl (λ K h=>r_at rfl (m.ext _ _ e) rfl rfl h) λ s j=>?_;rw[WC]at j;repeat k_memK
    exact f o _ _ ⟨_,_,rfl,⟨_,rfl,u⟩,_,_,rfl,⟨_,rfl,C⟩,rfl⟩ j
theorem xo{t:T}(h:BE (OI t) 149=aC):(∃u g V,t=.ls (u::g) V)\/∃j u,t=.qt j u:=by cases(t)with
 |ls g V=>cases g with
  |nil=>cases V<;>exact bft h|cons u g=>exact .inl ⟨u,g,V,rfl⟩
 |qt j u=>exact .inr ⟨j,u,rfl⟩|_=>exact bft h
theorem J1{t:T}{v:MV}(S:tQ b p P A w r Q ps W Y)(O:ps.length<100000)(R:W.length<99990)(hr:iG M X b t v)(J:Wf q t)(ht:GB q X b Q)(hp:BE (OI t) 149=aC)(D:uy M X b p P A w r Q ps W (.da t) (k .none))(u:LQ b r ps (tU w (.da t)).1 x):(bY TB (G0 L) (d+3)).meth 1205 2 [.ref p,v] Y k x:=by
  refine dX (F:=PF) (loc:=[aA (.ref p),aA v,aB]) rfl rfl ?_;have y:=S.pr;have C:=hr;rcases xo hp with⟨t,G,V,rfl⟩|⟨j,t,rfl⟩
  · skip;obtain⟨a,B,s,rfl,_,n,a1,a3⟩:=hr;have i:FX r (ps.flatten.length+1)->∀I,tQ b p P A w r Q (ps++[[40]]) W I->cF (bY TB (G0 L) (d+2)) (G0 L) [.ex (.meth (.attr (.l 0) 32) 29 [(.tup [(.g 115),(.attr (.l 1) 6)])]),.ex (.meth (.attr (.l 0) 32) 29 [(.tup [(.g 114),(.attr (.l 1) 5)])])] [aA (.ref p),aA (.ref a),aA .none] I (λ U Y=>k .none Y) k (λ U U=>False) x:=λ o I z=>by
     refine mE z (lm R) rfl rfl (λ K h=>r_at rfl (z.ext _ _ n) rfl rfl h) λ Z E=>?_;refine mE E (by rw[List.length_append];show W.length+1<_;exact F1 R) rfl rfl (λ K h=>r_at rfl (E.ext _ _ n) rfl rfl h) λ a6 S3=>?_;rw[WC]at S3;repeat k_memK
     exact D o _ _ ⟨_,_,rfl,⟨_,rfl,a3⟩,_,_,rfl,⟨_,rfl,a1⟩,rfl⟩ S3
    cases q with
 |false=>
     have e:Q=.none:=ht;rw[e]at y;repeat k_memK
     exact vL S O i u|true=>
     obtain⟨a2,e,f⟩:=ht;rw[e]at y;haveI a5:Wf aC t:=J.2.1;repeat k_memK
     refine YX (f.mono S.ext) (tY.mono S.ext.m (.refl _) _ _ (by exact C)) a5 ?_;repeat k_memK
     exact vL S O i u
  · skip;obtain⟨a,c,sv,H,rfl,_,_,n,N,_,a4⟩:=hr;haveI hq:q=aC:=by exact J.2.1
    subst hq;obtain⟨a2,e,f⟩:=ht;rw[e]at y;repeat k_memK
    refine WZ (f.mono S.ext) (iG.mono S.ext.m (.refl _) _ _ C) J ?_;repeat k_memK
    refine vL S O (λ o I z=>?_) u;refine mE z (lm R) rfl rfl (λ K h=>r_attr (r_at rfl (z.ext _ _ n) rfl rfl (k_attr (z.ext _ _ N) rfl rfl h))) λ Z E=>?_;repeat k_memK
    exact D o _ _ ⟨_,_,rfl,⟨_,rfl,a4⟩,rfl⟩ E
end
noncomputable def pl:Nat->List MV
 |0=>[]|n+1=>.int n::pl n
theorem VU(n:Nat):vC ((n:Int)-1) (-1)=pl n:=by
 haveI e:∀n:Nat,vC ((n:Int)-1) (-1)=(eM n).map λ(i:Nat)=>MV.int ((n:Int)-1-i):=λ n=>by
  delta vC;rw[show(n:Int)-1- -1=n from Int.sub_add_cancel (n:Int) 1,gP]
 rw[e];induction n with
 |zero=>rfl|succ n a=>
  rw[pE,nB,iN];unfold pl;rw[<-a];congr 1;·congr 1;lia
  ·refine List.map_congr_left λ i U=>?_;show MV.int _=MV.int _;congr 1;lia
theorem NF{n:Nat}{Y:MH}{K:Option (Nat×List MV)×List MV->Prop}(h:n<=1000)(hk:K (aB,pl n)):OptK (lZ Y 3 [.int ((n:Int)-1),.int (-1),.int (-1)]) K:=by
 refine OptK.some (a:=(aB,pl n)) ?_ hk;show(if(-1:Int)=-1/\((n:Int)-1).natAbs<=aX/\(-1:Int).natAbs<=aX then aA (aB,vC ((n:Int)-1) (-1))else aB)=_;rw[if_pos ⟨rfl,by delta aX;lia,by decide⟩,VU]
theorem qH{a:Type}(l:List a)(n:Nat):rB l (n:Int)=l[n]?:=by delta rB;rw[if_pos (gL n),gP]
section
variable{M:Nat->Prop}{X:fZ}{b Y:MH}{p P A:Nat}{w q:Bool}{f:Option Int}{Q:MV}{ps:List (List Nat)}{W:List MV}{L:List MV}{d:Nat}{k x:KE}
theorem jC.get:∀{ts:List T}{Z:List MV}{n:Nat}{t:T},jC M X b ts Z->ts[n]?=aA t->∃v,Z[n]?=aA v/\iG M X b t v
 |[],_,_,_,_,e=>by cases e|t::ts,Z,0,I,r,e=>by unfold jC at r;obtain⟨v,r,rfl,h,_⟩:=r;cases e;exact⟨v,rfl,h⟩|t::ts,Z,n+1,I,r,e=>by unfold jC at r;obtain⟨v,r,rfl,_,h⟩:=r;exact jC.get (ts:=ts) (n:=n) h e
theorem jC.len:∀{g:List T}{Z:List MV},jC M X b g Z->Z.length=g.length:=by
 intro c;induction c with
 |nil=>
 intro U r;delta jC at r;rw[r];rfl|cons t g a=>
 intro Z r;unfold jC at r;obtain⟨v,r,rfl,_,h⟩:=r;rw[List.length_cons,List.length_cons,a h]
theorem yA.app:∀{n R:List It}{Z s:List MV},yA M X b n Z->yA M X b R s->yA M X b (n++R) (Z++s):=by
 intro j;induction j with
 |nil=>
 intro U U U h K;rw[show _=[]from h];exact K|cons i n a=>
 intro U U U c K;obtain⟨v,r,e,h,g⟩:=c;exact⟨v,r++_,by rw[e];rfl,h,a g K⟩
theorem yA.len:∀{n:List It}{Z:List MV},yA M X b n Z->Z.length=n.length:=by
 intro j;induction j with
 |nil=>
 intro U h;rw[show _=[]from h];rfl|cons i n a=>
 intro U c;obtain⟨v,r,e,h,g⟩:=c;rw[e,List.length_cons,List.length_cons,a g]
theorem ZJ:∀g:List T,(vJ g).length=2*g.length:=by
 intro c;induction c with
 |nil=>exact rfl|cons t r a=>unfold vJ;rw[List.length_append,a];show _+2=2*(r.length+1);simp+arith
noncomputable abbrev vB:List MS:=[.ex (.meth (.attr (.l 0) 32) 29 [(.tup [(.g 114),(.idx (.attr (.l 1) 10) (.l 2))])]),.ite (.cmp .Gt (.l 2) (.c (.i 0))) [.ex (.meth (.attr (.l 0) 32) 29 [(.tup [(.g 113),(.c (.s [32]))])])] []]
theorem xt{J:kP}{a l:Nat}{G:List T}{Z:List MV}{H:KL}{F:KE}(D:b a=aA (.inst 212 [(10,.ref l),(7,.none)]))(C:b l=aA (.list Z))(E:jC M X b G Z)(z:W.length+2*G.length<99990):∀(n:Nat)(V:List MV)(Y:MH)(o:Option MV),n<G.length->yA M X b (vJ (G.drop (n+1))) V->tQ b p P A w f Q ps (W++V) Y->(∀V Y o,yA M X b (vI G) V->tQ b p P A w f Q ps (W++V) Y->H [aA (.ref p),aA (.ref a),o] Y)->tT (uU J (G0 L) vB F) [2] aB (pl (n+1)) [aA (.ref p),aA (.ref a),o] Y H:=by
 intro n;induction n with
 |zero=>
  intro V Y o e s S h;obtain⟨t,j⟩:∃t,G[0]?=aA t:=⟨_,List.getElem?_eq_getElem e⟩;obtain⟨v,B,c⟩:=E.get j;have m:=s.len;rw[ZJ,List.length_drop]at m;have g:V.length<=2*G.length:=m▸Nat.mul_le_mul_left 2 (Nat.sub_le ..);refine⟨trivial,OptK.some rfl (lK ?_)⟩;refine mE S (by rw[List.length_append];exact F2 z g) rfl rfl (λ K h=>r_idx (r_at rfl (S.ext _ _ D) rfl rfl (r_sv (.l 2) rfl (k_idx (i:=((0:Nat):Int)) (S.ext _ _ C) (by rw[qH];exact B) h)))) λ R u=>?_;repeat k_memK
  refine⟨trivial,h (V++[.tup [.int 1,v]]) R _ ?_ (by rw[<-List.append_assoc];exact u)⟩;cases G with
  |nil=>cases j|cons O r=>
  cases j;exact yA.app s ⟨_,_,rfl,⟨_,rfl,c⟩,rfl⟩
 |succ n N=>
  intro V Y o e s S h;obtain⟨t,j⟩:∃t,G[n+1]?=aA t:=⟨_,List.getElem?_eq_getElem e⟩;obtain⟨v,B,c⟩:=E.get j;haveI m:=s.len;rw[ZJ,List.length_drop]at m;have g:V.length<=2*G.length:=m▸Nat.mul_le_mul_left 2 (Nat.sub_le ..);refine⟨trivial,OptK.some rfl (lK ?_)⟩;refine mE S (by rw[List.length_append];exact F2 z g) rfl rfl (λ K h=>r_idx (r_at rfl (S.ext _ _ D) rfl rfl (r_sv (.l 2) rfl (k_idx (i:=((n+1:Nat):Int)) (S.ext _ _ C) (by rw[qH];exact B) h)))) λ R u=>?_;repeat k_memK
  refine itP_t (decide_eq_true (Int.ofNat_lt.mpr (Nat.succ_pos n))) ?_;refine mE u (by rw[List.length_append,List.length_append];show W.length+V.length+1<_;exact F2 z g) rfl rfl (λ K h=>r_sv _ rfl h) λ y I=>?_;repeat k_memK
  rw[WC,List.append_assoc]at I;refine N _ y _ (Nat.lt_of_succ_lt e) ?_ I h;rw[List.drop_eq_getElem_cons e];haveI :G[n+1]=t:=Option.some.inj ((List.getElem?_eq_getElem e).symm.trans j);rw[this];exact yA.app s ⟨_,_,rfl,⟨_,rfl,c⟩,_,_,rfl,rfl,rfl⟩
theorem xb{t:T}(h:BE (OI t) 212=aC):∃g,t=.ve g:=by cases(t)with
 |ve g=>exact⟨g,rfl⟩|ls g V=>cases g with|nil=>cases V<;>exact bft h|cons u g=>exact bft h
 |_=>exact bft h
theorem jk{w:Bool}{t:T}(h:BE (OI t) 149=aG)(g:BE (OI t) 212=aG):(tU w (.da t)).2=[]:=by cases(t)with
 |ls G V=>cases G with|nil=>rfl|cons u G=>exact btf h
 |qt j u=>exact btf h|ve G=>exact btf g|_=>rfl
theorem SP{t:T}{v:MV}(S:tQ b p P A w f Q ps W Y)(hl:ps.length<100000)(hW:W.length<99900)(N:iG M X b t v)(z:Wf q t)(ht:GB q X b Q)(s:uy M X b p P A w f Q ps W (.da t) (k .none))(c:LQ b f ps (tU w (.da t)).1 x):(bY TB (G0 L) (d+7)).meth 1205 3 [.ref p,v] Y k x:=by
  refine dX (F:=QN) (loc:=[aA (.ref p),aA v,aB]) rfl rfl ?_;have y:=S.pr;have i:=iG.mono S.ext.m (.refl X) _ _ N;repeat k_memK
  refine OptK.some (cz t v i) ?_;repeat k_memK
  by_cases hp:BE (OI t) 149=aC
  · refine itP_t (by show(BE (OI t) 149||aG)=aC;rw[hp];rfl) ?_;repeat k_memK
    refine J1 S hl (lm hW) N z ht hp ?_ c;intro o Z I y C;repeat k_memK
    exact s o Z I y C
  · have j:=Bool.eq_false_iff.mpr hp;refine itP_f (by show(BE (OI t) 149||aG)=aG;rw[j];rfl) ?_;repeat k_memK
    refine OptK.some (cz t v i) ?_;repeat k_memK
    by_cases hv:BE (OI t) 212=aC
    · refine itP_t (by show(BE (OI t) 212||aG)=aC;rw[hv];rfl) ?_;obtain⟨g,rfl⟩:=xb hv;unfold iG at N;unfold Wf at z;obtain⟨a,l,Z,rfl,_,_,ha,B,D⟩:=N;haveI J:=D.len;repeat k_memK
      refine vL S hl (λ o I U=>?_) c;refine mE U (lm hW) rfl rfl (λ K h=>r_sv _ rfl h) λ H u=>?_;have a1:=u.ext _ _ ha;have a2:=u.ext _ _ B;refine tD ?_;repeat k_memK
      rw[J];refine NF (n:=g.length) (by have :=z.1;lia) ?_;have G:∀V Y,yA M X b (vI g) V->tQ b p P A w f Q (ps++[[35,40]]) ((W++[.tup [.int 0,.str [41]]])++V) Y->k .none Y:=λ V Y hV O=>by
       rw[List.append_assoc]at O;exact s o _ _ ⟨_,_,rfl,rfl,hV⟩ O
      cases g with
 |nil=>
        refine⟨trivial,?_⟩;repeat k_memK
        exact G [] _ rfl (by rw[List.append_nil];exact u)|cons t0 r=>
        refine xt (W:=W++[.tup [.int 0,.str [41]]]) ha B D (by rw[List.length_append];have :=z.1;show W.length+1+_<_;lia) r.length [] H aB (Nat.lt_succ_self _) ?_ (by rw[List.append_nil];exact u) λ V Y R hV O=>?_;·rw[show(t0::r).drop (r.length+1)=[]from List.drop_length (l:=t0::r)];rfl
        · repeat k_memK
          exact G V Y hV O
    · have e:=Bool.eq_false_iff.mpr hv;refine itP_f (by show(BE (OI t) 212||aG)=aG;rw[e];rfl) ?_;repeat k_memK
      refine zx S i z j e λ I E=>?_;have U:tQ b p P A w f Q ps W I:=⟨S.ext.trans E,E _ _ S.pr,E _ _ S.pp,E _ _ S.pw,S.fp,S.fpc,S.fwt,S.ne,S.nep⟩;have y:=U.pr;repeat k_memK
      refine vL U hl (λ o I u=>?_) c;repeat k_memK
      refine s o [] _ ?_ (by rw[List.append_nil];exact u);rw[jk j e];rfl
end
noncomputable def H0(w V:Bool):List T->List Nat
 |[]=>if V then[32,46,32,53,41]else[41]|t::r=>32::(tx w t++H0 w V r)
noncomputable def B0(w:Bool):It->List Nat
 |.pc s=>s|.da t=>tx w t|.ta g V=>H0 w V g
noncomputable def FU(w:Bool):List It->List Nat
 |[]=>[]|i::n=>FU w n++B0 w i
theorem BR(w:Bool):∀n R:List It,FU w (n++R)=FU w R++FU w n:=by
 intro b;induction b with
 |nil=>
 intro R;exact(bB _).symm|cons i n a=>
 intro R;show FU w (n++R)++B0 w i=FU w R++(FU w n++B0 w i);rw[a R,bJ]
mutual noncomputable def sT:T->Nat
 |.ve g=>2+sA g|.ls g _=>4+sA g|.qt _ t=>1+sT t|_=>1 noncomputable def sA:List T->Nat
 |[]=>0|t::r=>sT t+1+sA r end
theorem JB(g:List T)(V:Bool):sT (.ls g V)=4+sA g:=rfl
theorem NH(g:List T):sT (.ve g)=2+sA g:=rfl
theorem RP(j:Nat)(t:T):sT (.qt j t)=1+sT t:=rfl
theorem qC(t:T)(r:List T):sA (t::r)=sT t+1+sA r:=rfl
theorem G5(w:Bool)(j:Nat)(t:T):tx w (.qt j t)=qs j++tx w t:=rfl
theorem wK(w:Bool)(t:T):wB w [t]=tx w t++[]:=rfl
theorem wL(w:Bool)(t u:T)(r:List T):wB w (t::u::r)=tx w t++32::wB w (u::r):=rfl
noncomputable def sI:It->Nat
 |.pc _=>1|.da t=>sT t|.ta g _=>3+sA g
noncomputable def LL:List It->Nat
 |[]=>0|i::n=>sI i+LL n
theorem KW:∀z:List (List Nat),qE [] (OJ z)=aA z.flatten
 |[]=>rfl|[s]=>by show aA s=aA (s++[]);rw[bB]|s::u::r=>by
  haveI :=KW (u::r);show((qE [] (OJ (u::r))).map λ t=>s++([]++t))=_;rw[this];rfl
theorem GJ:∀n R:List It,LL (n++R)=LL n+LL R:=by
 intro b;induction b with
 |nil=>
 intro R;exact(kO _).symm|cons i n a=>
 intro R;show sI i+LL (n++R)=sI i+LL n+LL R;rw[a R,Nat.add_assoc]
theorem ye:∀g:List T,LL (vJ g)=sA g:=by
 intro b;induction b with
 |nil=>exact rfl|cons t r a=>
 show LL (vJ r++[.da t,.pc [32]])=_;rw[GJ,a,qC];show sA r+(sT t+(1+0))=_;simp+arith
theorem yy(w V:Bool):∀(t:T)(g:List T),wB w (t::g)++(if V then[32,46,32,53,41]else[41])=tx w t++H0 w V g:=by
 intro a c;induction c generalizing a with
 |nil=>
 revert a;intro t;rw[wK,bB];rfl|cons u r b=>
 revert a;intro t;rw[wL,bJ];exact congrArg (λ z=>tx w t++32::z) (b u)
theorem zy(w:Bool):∀(t:T)(r:List T),wB w (t::r)=FU w (vJ r++[.da t]):=by
 intro a c;induction c generalizing a with
 |nil=>
 revert a;intro t;rw[wK,bB];rfl|cons u r b=>
 revert a;intro t;rw[wL];show _=FU w ((vJ r++[.da u,.pc [32]])++[.da t]);rw[BR,BR,b u,BR];show _=([]++tx w t)++((([]++[32])++tx w u)++FU w (vJ r));simp[FU,B0]
theorem jq{w q:Bool}:∀i:It,B7 q i->B0 w i=(tU w i).1++FU w (tU w i).2
 |.pc s=>λ U=>(bB _).symm|.da (.ls (t::g) V)=>λ U=>by
  show tx w (.ls (t::g) V)=[40]++FU w [.ta g V,.da t];unfold tx;rw[yy];show _=[40]++(([]++tx w t)++H0 w V g);rfl|.da (.ls [] V)=>λ h=>by
  cases V;·show tx w (.ls [] aG)=_;rfl
  ·exact absurd rfl (by have :Wf q (.ls [] aC):=h;exact this.1 rfl)|.da (.ve g)=>λ U=>by
  show tx w (.ve g)=[35,40]++FU w (.pc [41]::vI g);unfold tx;show _=[35,40]++(FU w (vI g)++[41]);cases g with
  |nil=>unfold wB vI;rfl|cons t r=>rw[zy];rfl
 |.da (.qt j t)=>λ U=>by exact G5 w j t|.da (.ch _)=>λ U=>(bB _).symm|.da (.st _)=>λ U=>(bB _).symm|.da (.nu _)=>λ U=>(bB _).symm|.da (.tr _)=>λ U=>(bB _).symm|.da (.sy _)=>λ U=>(bB _).symm|.ta [] aG=>λ U=>rfl|.ta [] aC=>λ U=>by
  show[32,46,32,53,41]=[32,46,32]++(([]++tx w (.nu 5))++[41]);haveI :tx w (.nu 5)=[53]:=by unfold tx;decide
  rw[this];rfl|.ta (t::g) V=>λ U=>rfl
theorem JT{w:Bool}:∀i:It,LL (tU w i).2+1<=sI i
 |.pc _=>aZ _|.da (.ls (t::g) V)=>by show 3+sA g+(sT t+0)+1<=sT (.ls (t::g) V);rw[JB,qC];exact F0|.da (.ls [] V)=>by show 0+1<=sT (.ls [] V);rw[JB];exact F0|.da (.ve g)=>by
  show 1+LL (vI g)+1<=sT (.ve g);rw[NH];cases g with
  |nil=>exact aZ _|cons t r=>
  show 1+LL (vJ r++[.da t])+1<=_;rw[GJ,ye];show 1+(sA r+(sT t+0))+1<=_;rw[qC];exact F0
 |.da (.qt j t)=>by show sT t+0+1<=sT (.qt j t);rw[RP];exact F0|.da (.ch _)=>aZ _|.da (.st _)=>aZ _|.da (.nu _)=>aZ _|.da (.tr _)=>aZ _|.da (.sy _)=>aZ _|.ta [] aG=>by show 0+1<=3+sA [];exact F0|.ta [] aC=>aZ _|.ta (t::g) V=>by show 3+sA g+(sT t+0)+1<=3+sA (t::g);rw[qC];exact F0
theorem qw:∀n:List It,n.length<=LL n:=by
 intro b;induction b with
 |nil=>exact aZ _|cons i n a=>
 have :=JT (w:=aC) i;have :=a;show n.length+1<=sI i+LL n;lia
theorem G4{q:Bool}:∀g:List T,NE q g->∀i∈vJ g,B7 q i:=by
 intro b;induction b with
 |nil=>
 intro U i h;cases h|cons t r a=>
    intro w i h;rcases cZ.mp h with h|h;·exact a w.2 i h
    · rcases cD.mp h with rfl|h;·exact w.1
      ·rw[bU.mp h];trivial
theorem j0{w q:Bool}:∀i:It,B7 q i->∀j∈(tU w i).2,B7 q j
 |.da (.ls (t::g) V)=>λ h j a=>by
  have P:Wf q (.ls (t::g) V):=h;rcases cD.mp a with rfl|a;·exact P.2.2
  ·rw[bU.mp a];exact P.2.1|.da (.ve g)=>λ h j a=>by
  have P:Wf q (.ve g):=h;rcases cD.mp a with rfl|a;·trivial
  ·cases g with
  |nil=>cases a|cons t r=>
  have K:=P.2;rcases cZ.mp a with a|a;·exact G4 r K.2 j a
  ·rw[bU.mp a];exact K.1
 |.da (.qt i t)=>λ h j a=>by
  have P:Wf q (.qt i t):=h;rw[bU.mp a];exact P.2.2|.ta (t::g) V=>λ h j a=>by
  have P:NE q (t::g):=h;rcases cD.mp a with rfl|a;·exact P.2
  ·rw[bU.mp a];exact P.1|.ta [] aC=>λ U j a=>by
  rcases cD.mp a with rfl|a;·trivial
  ·rw[bU.mp a];show Wf q (.nu 5);unfold Wf;decide|.pc _|.da (.ls [] _)|.da (.ch _)|.da (.st _)|.da (.nu _)|.da (.tr _)|.da (.sy _)|.ta [] aG=>λ U U a=>by cases a
section
variable{M:Nat->Prop}{es:fZ}{b Y:MH}{p P A:Nat}{w q:Bool}{f:Option Int}{Q:MV}{ps:List (List Nat)}{W:List MV}{L:List MV}{d:Nat}{k x:KE}
theorem yA.snoc:∀{n:List It}{i:It}{W:List MV},yA M es b (n++[i]) W->∃a v,W=a++[v]/\yA M es b n a/\Hh M es b i v:=by
 intro m;induction m with
 |nil=>
 intro i U c;obtain⟨v,r,e,h,g⟩:=c;exact⟨[],v,by rw[e,show r=[]from g];rfl,rfl,h⟩|cons j n l=>
 intro i U c;obtain⟨v,r,e,h,g⟩:=c;obtain⟨a,u,s,K,o⟩:=l g;exact⟨v::a,u,by rw[e,s];rfl,⟨_,_,rfl,h,K⟩,o⟩
noncomputable abbrev Kn:List MS:=[.ite (.cmp .Eq (.l 2) (.g 113)) [.ex (.meth (.l 0) 0 [(.l 3)])] [.ite (.cmp .Eq (.l 2) (.g 114)) [.ex (.meth (.l 0) 3 [(.l 3)])] [.ex (.meth (.l 0) 4 [(.l 3)])]]]
noncomputable abbrev Ix:List MS:=.asg (.ls [2,3]) (.meth (.attr (.l 0) 32) 30 [])::Kn
theorem FX.le{n m:Nat}(h:n<=m)(o:FX f m):FX f n:=λ l e=>by have :=o l e;lia
section
variable{H again:KL}{F:KE}{D o2 R:Option MV}{i:It}{v:MV}
noncomputable def Eu(M:Nat->Prop)(es:fZ)(b:MH)(p P A:Nat)(w:Bool)(f:Option Int)(Q:MV)(ps:List (List Nat))(W:List MV)(i:It)(again:KL)(D:Option MV):Prop:=FX f (ps.flatten.length+(tU w i).1.length)->∀o2 R Z I,yA M es b (tU w i).2 Z->tQ b p P A w f Q (ps++[(tU w i).1]) (W++Z) I->again [aA (.ref p),D,o2,R] I
theorem jb(z:GB q es b Q)(m:ps.length<100000)(r:W.length<99900):∀(i:It)(v:MV),Hh M es b i v->B7 q i->tQ b p P A w f Q ps W Y->LQ b f ps (tU w i).1 x->Eu M es b p P A w f Q ps W i again D->Cs (bY TB (G0 L) (d+7)) (G0 L) [2,3] Kn [aA (.ref p),D,o2,R] again F again x v Y
 |.pc s=>λ v h n S a c=>by
  obtain rfl:v=.tup [.int 0,.str s]:=h;have y:=S.pr;repeat k_memK
  refine vL S m (λ o I j=>?_) a;repeat k_memK
  exact c o _ _ [] I rfl (by rw[List.append_nil];exact j)|.da t=>λ v h n S a c=>by
  obtain⟨u,rfl,l⟩:=h;haveI y:=S.pr;repeat k_memK
  refine SP S m r l n z (λ o Z I e j=>?_) a;repeat k_memK
  exact c o _ _ Z I e j|.ta g V=>λ v h n S a c=>by
  obtain⟨u,rfl,l⟩:=h;have y:=S.pr;repeat k_memK
  refine A0 S m (lm r) l (λ o Z I e j=>?_) a;repeat k_memK
  exact c o _ _ Z I e j
end
theorem VO{H:KL}{F:KE}{D:Option MV}(ht:GB q es b Q):∀(N:Nat)(n:List It)(W:List MV)(ps:List (List Nat))(Y:MH)(o2 g:Option MV),yA M es b n W->(∀i∈n,B7 q i)->LL n<=N->ps.length+N<=90000->FX f ps.flatten.length->tQ b p P A w f Q ps W Y->(FX f (ps.flatten.length+(FU w n).length)->∀z I o2 g,z.flatten=ps.flatten++FU w n->tQ b p P A w f Q z [] I->H [aA (.ref p),D,o2,g] I)->(∀l,f=aA l->¬FX f (ps.flatten.length+(FU w n).length)->∀I,Ext b I->x (.int l) I)->lT (zG (bY TB (G0 L) (d+7)) (G0 L) (.cmpNil .NotEq (.attr (.l 0) 32)) Ix H F x) (N+1) [aA (.ref p),D,o2,g] Y:=by
 have c:∀(ps:List (List Nat))(Y:MH)(o2 g:Option MV)(N:Nat),FX f ps.flatten.length->tQ b p P A w f Q ps [] Y->(FX f (ps.flatten.length+0)->∀z I o2 g,z.flatten=ps.flatten++[]->tQ b p P A w f Q z [] I->H [aA (.ref p),D,o2,g] I)->lT (zG (bY TB (G0 L) (d+7)) (G0 L) (.cmpNil .NotEq (.attr (.l 0) 32)) Ix H F x) (N+1) [aA (.ref p),D,o2,g] Y:=λ ps Y o2 g N u S h=>by
    refine fE (fD ?_);haveI y:=S.pr;have K:=S.pw;repeat k_memK
    exact h u ps _ _ _ (List.append_nil _).symm S
 intro N;induction N with
 |zero=>
  intro n W ps Y o2 g O hw J V u S h r;cases n with
  |nil=>
 have e:W=[]:=O;subst e;exact c ps Y o2 g 0 u S h|cons i n=>
  have :=JT (w:=w) i;have :sI i+LL n<=0:=J;lia
 |succ N ih=>
    intro n W ps Y o2 g O hw J V u S h r;rcases List.eq_nil_or_concat n with rfl|⟨n,i,rfl⟩
    ·have e:W=[]:=O;subst e;exact c ps Y o2 g (N+1) u S h
    · rw[List.concat_eq_append]at*;obtain⟨a,v,rfl,G,hi⟩:=O.snoc;have X:=hw i (List.mem_append_right _ (List.mem_singleton.mpr rfl));haveI ee:=jq (w:=w) i X;haveI R:=JT (w:=w) i;rw[GJ]at J;have B:LL n+(sI i+0)<=N+1:=J;haveI a3:a.length<=LL n:=by rw[G.len];exact qw n
      have t:FU w (n++[i])=(tU w i).1++FU w (n++(tU w i).2):=by
       rw[BR,BR];show([]++B0 w i)++FU w n=_;rw[List.nil_append,ee,List.append_assoc]
      have m:∀s:List Nat,(ps++[s]).flatten=ps.flatten++s:=λ s=>by rw[List.flatten_append];show ps.flatten++(s++[])=_;rw[List.append_nil]
      have len:ps.flatten.length+(FU w (n++[i])).length=(ps++[(tU w i).1]).flatten.length+(FU w (n++(tU w i).2)).length:=by rw[t,m,List.length_append,List.length_append];simp+arith
      refine fE (fD ?_);have y:=S.pr;haveI K:=S.pw;repeat k_memK
      refine itP_t (by rw[List.isEmpty_eq_false_iff.mpr (by simp)];rfl) ?_;repeat k_memK
      refine CN K (jb (M:=M) (es:=es) ht (F1 V) (F3 V a3 B) i v hi X S.popped (λ l e q I E=>r l e (λ o=>q (o.le (by rw[t,List.length_append];exact F0))) I E) λ o o2 g Z I a2 S'=>?_);refine ih (n++(tU w i).2) (a++Z) _ I o2 g (G.app a2) (λ j C=>?_) (by rw[GJ];exact F2 R B) (by rw[List.length_append];show ps.length+1+N<=_;exact F1 V) (by rw[m,List.length_append];exact o) S' (λ o z U o2 g e a1=>h (by rw[len];exact o) z U o2 g (by rw[e,m,t,List.append_assoc]) a1) (λ l e q U E=>r l e (by rw[len];exact q) U E);rcases List.mem_append.mp C with C|C;·exact hw j (List.mem_append_left _ C)
      ·exact j0 i X j C
theorem wb{t:T}{v:MV}(S:tQ b p P A w f Q [] [] Y)(r:iG M es b t v)(j:Wf q t)(n:GB q es b Q)(m:FX f 0)(B:sT t<=90000)(s:(tx w t).length<=100000)(a:FX f (tx w t).length->∀I,Ext b I->k (.str (tx w t)) I)(g:∀l,f=aA l->¬FX f (tx w t).length->∀I,Ext b I->x (.int l) I):(bY TB (G0 L) (d+8)).meth 1205 5 [.ref p,v] Y k x:=by
  refine dX (F:=PQ) (loc:=[aA (.ref p),aA v,aB,aB]) rfl rfl ?_;refine mE S (by show 0<100000;decide) rfl rfl (λ K h=>r_sv _ rfl h) λ Z D=>?_;have e:FU w [It.da t]=tx w t:=rfl;refine nY 90001 (VO n 90000 [.da t] _ [] Z aB aB ⟨_,_,rfl,⟨_,rfl,r⟩,rfl⟩ (λ i u=>by rw[List.mem_singleton.mp u];exact j) B (by show 0+90000<=90000;decide) m D (λ o z I o2 R e c=>?_) λ l e q=>?_)
  · have y:=c.pr;haveI C:=c.pp;haveI E:z.flatten=tx w t:=e;repeat k_memK
    refine uW C (t:=tx w t) (by rw[<-E];exact KW z) (by exact lm s) ?_;exact a (by rw[show([]:List (List Nat)).flatten.length+(FU w [It.da t]).length=(tx w t).length from Nat.zero_add _]at o;exact o) _ c.ext
  ·exact g l e (by rw[show([]:List (List Nat)).flatten.length+(FU w [It.da t]).length=(tx w t).length from Nat.zero_add _]at q;exact q)
end
section
variable{M:Nat->Prop}{es:fZ}{b Y:MH}{p P A:Nat}{w q:Bool}{lim:Option Int}{Q:MV}{ps:List (List Nat)}{W:List MV}{L:List MV}{d:Nat}{k x:KE}
theorem bq(h:∀p P A I,tQ Y p P A w lim Q [] [] I->k (.ref p) I):(bY TB (G0 L) (d+1)).new 119 [.bool w,.int 53,.int 10,NS lim,Q] Y k x:=by
 refine PK (F:=Ct) (C:=1205) (loc:=λ n=>[aA (.ref n),aA (.bool w),aA (.int 53),aA (.int 10),aA (NS lim),aA Q]) rfl rfl (λ n=>rfl) λ p g=>?_;repeat k_memK
 intro P i;obtain⟨j,c⟩:=eQ i;repeat k_memK
 intro A a;obtain⟨m,a⟩:=eQ a;obtain⟨l,a⟩:=eQ a;obtain⟨_,f⟩:=eQ a;repeat k_memK
 refine⟨rfl,h p P A _ ⟨((((Ext.new g _).upd c _).upd g _).upd f _).upd g _,upd_same ..,?_,?_,g,c,f,λ e=>l e.symm,by decide,by decide⟩⟩;·rw[cE _ _ j,cE _ _ (λ e=>l e.symm),cE _ _ j,upd_same];rfl
 ·rw[cE _ _ m,upd_same]
structure Cf(Y:MH)(lim:Option Int)(s:List Nat)(k x:KE):Prop where
 ok:FX lim s.length->∀mh',Ext Y mh'->k (.str s) mh'
 no:∀l,lim=aA l->¬FX lim s.length->∀mh',Ext Y mh'->x (.int l) mh'
theorem KS{t:T}{v:MV}(i:iG M es Y t v)(s:Wf q t)(o:GB q es Y Q)(z:FX lim 0)(m:sT t<=90000)(u:(tx w t).length<=100000)(H:Cf Y lim (tx w t) k x){B:Loc}{g e f:ME}{a:Bool}(j:g=.c (.b a))(G:a=w)(y:qX (G0 L) B e=aA (NS lim))(K:qX (G0 L) B f=aA Q)(n:B[0]?.join=aA v)(r:B[1]?.join=aA (.int 53))(h:B[2]?.join=aA (.int 10)):bX (bY TB (G0 L) (d+8)) (G0 L) (.meth (.new 119 [g,.l 1,.l 2,e,f]) 5 [.l 0]) B Y k x:=by
 subst j G;refine r_meth (r_new rfl (r_args (r_sv (.c (.b a)) rfl (r_args (r_sv (.l 1) r (r_args (r_sv (.l 2) h (r_args (r_sv e y (r_args (r_sv f K (r_args0 ?_))))))))))));refine bq λ p P A I S=>?_;refine m_inst S.pr rfl rfl (r_args (r_sv (.l 0) n (r_args0 ?_)));exact wb S i s o z m u H.ok H.no
theorem Dn{t:T}{v:MV}(f:iG M es Y t v)(e:Wf q t)(c:GB q es Y Q)(g:FX lim 0)(h:sT t<=90000)(a:(tx aC t).length<=100000)(H:Cf Y lim (tx aC t) k x):(bY TB (G0 L) (d+9)).call 120 [v,NS lim,Q] [3,4] Y k x:=by
 refine call_in (F:=IN) (loc:=[aA v,aA (.int 53),aA (.int 10),aA (NS lim),aA Q]) rfl rfl ?_;refine t_ret (KS f e c g h a H rfl rfl rfl rfl rfl rfl rfl)
theorem yw{t:T}{v:MV}(f:iG M es Y t v)(c:Wf q t)(g:GB q es Y Q)(i:sT t<=90000)(a:(tx aC t).length<=100000)(h:∀I,Ext Y I->k (.str (tx aC t)) I):(bY TB (G0 L) (d+9)).call 120 [v,Q] [4] Y k x:=by
 refine call_in (F:=IN) (loc:=[aA v,aA (.int 53),aA (.int 10),aA .none,aA Q]) rfl rfl ?_;exact t_ret (KS (lim:=aB) f c g (λ U e=>nomatch e) i a ⟨λ U=>h,λ U e=>nomatch e⟩ rfl rfl rfl rfl rfl rfl rfl)
theorem Fm{t:T}{v:MV}(c:iG M es Y t v)(f:Wf aG t)(g:sT t<=90000)(a:(tx aG t).length<=100000)(h:∀I,Ext Y I->k (.str (tx aG t)) I):(bY TB (G0 L) (d+9)).call 121 [v] [] Y k x:=by
 refine call_in (F:=Ee) (loc:=[aA v,aA (.int 53),aA (.int 10),aA .none]) rfl rfl ?_;exact t_ret (KS (lim:=aB) (q:=aG) (es:=es) c f rfl (λ U e=>nomatch e) g a ⟨λ U=>h,λ U e=>nomatch e⟩ rfl rfl rfl rfl rfl rfl rfl)
theorem td{t:T}{v:MV}{l:Int}(i:iG M es Y t v)(f:Wf q t)(h:GB q es Y Q)(c:0<=l)(g:sT t<=90000)(a:(tx aC t).length<=100000)(y:((tx aC t).length:Int)<=l->∀I,Ext Y I->k (.str (tx aC t)) I)(K:¬((tx aC t).length:Int)<=l->∀I,Ext Y I->k (.int l) I):(bY TB (G0 L) (d+10)).call 134 [v,.int l,Q] [] Y k x:=by
 refine call_in (F:=xw) (loc:=[aA v,aA (.int l),aA Q]) rfl rfl ?_;refine sd (r_call rfl (r_svs _ rfl ?_));exact Dn (lim:=aA l) i f h (λ G e=>by cases e;exact c) g a ⟨λ o=>y (o l rfl),λ G e o I E=>by cases e;exact K (λ z=>o λ G e=>by cases e;exact z) I E⟩
/-! the ring -/
noncomputable def ET(b:MH)(a:Nat):Prop:=b a=aA (.inst 149 [(5,.int 7),(6,.ref a),(7,.none)])
theorem UE{a:Nat}(f:ET b a)(S:tQ b p P A w lim Q ps W Y)(n:ps.length<100000)(g:W.length<99990)(c:FX lim (ps.flatten.length+1)->∀I,tQ b p P A w lim Q (ps++[[32]]) (W++[.tup [.int 2,.ref a],.tup [.int 1,.int 7]]) I->k .none I)(e:LQ b lim ps [32] x):(bY TB (G0 L) (d+2)).meth 1205 4 [.ref p,.ref a] Y k x:=by
 refine dX (F:=OX) (loc:=[aA (.ref p),aA (.ref a)]) rfl rfl ?_;have y:=S.pr;have m:=S.ext _ _ f;repeat k_memK
 refine OptK.some (yQ m) ?_;repeat k_memK
 refine vL S n (λ o I j=>?_) e;refine mE j (lm g) rfl rfl (λ K h=>r_at rfl (j.ext _ _ f) rfl rfl h) λ Z l=>?_;refine mE l (by rw[List.length_append];show W.length+1<_;exact F1 g) rfl rfl (λ K h=>r_at rfl (l.ext _ _ f) rfl rfl h) λ r i=>?_;rw[WC]at i;repeat k_memK
 exact c o _ i
noncomputable def RC(es:fZ)(b:MH)(Q:MV):Prop:=Q=.none\/∃a,Q=.ref a/\xT es b a
theorem VT{a c:Nat}(g:ET Y a)(f:xT es Y c)(h:k .none Y):(bY TB (G0 L) (d+2)).call 111 [.ref a,.ref c] [] Y k x:=by
 refine call_in (F:=rj) (loc:=[aA (.ref a),aA (.ref c),aB,aB,aB]) rfl rfl ?_;have e:Y a=_:=g;repeat k_memK
 refine OptK.some (a:=aC) (by show(IY (G0 L) Y (.ref a) (.cst 44)).map (!·)=_;rw[yQ e];rfl) ?_;repeat k_memK
 exact h
theorem VZ{a:Nat}(j:ET b a)(S:tQ b p P A w lim Q ps W Y)(r:ps.length<100000)(s:W.length<99990)(u:RC es b Q)(i:FX lim (ps.flatten.length+1)->∀I,tQ b p P A w lim Q (ps++[[40]]) (W++[.tup [.int 2,.ref a],.tup [.int 1,.int 7]]) I->k .none I)(c:LQ b lim ps [40] x):(bY TB (G0 L) (d+3)).meth 1205 2 [.ref p,.ref a] Y k x:=by
  refine dX (F:=PF) (loc:=[aA (.ref p),aA (.ref a),aB]) rfl rfl ?_;have y:=S.pr;have G:FX lim (ps.flatten.length+1)->∀I,tQ b p P A w lim Q (ps++[[40]]) W I->cF (bY TB (G0 L) (d+2)) (G0 L) [.ex (.meth (.attr (.l 0) 32) 29 [(.tup [(.g 115),(.attr (.l 1) 6)])]),.ex (.meth (.attr (.l 0) 32) 29 [(.tup [(.g 114),(.attr (.l 1) 5)])])] [aA (.ref p),aA (.ref a),aA .none] I (λ U Y=>k .none Y) k (λ U U=>False) x:=λ o I m=>by
    refine mE m (lm s) rfl rfl (λ K h=>r_at rfl (m.ext _ _ j) rfl rfl h) λ Z t=>?_;refine mE t (by rw[List.length_append];show W.length+1<_;exact F1 s) rfl rfl (λ K h=>r_at rfl (t.ext _ _ j) rfl rfl h) λ v n=>?_;rw[WC]at n;repeat k_memK
    exact i o _ n
  rcases u with e|⟨z,e,f⟩
  · rw[e]at y;repeat k_memK
    exact vL S r G c
  · rw[e]at y;repeat k_memK
    refine VT (S.ext _ _ j) (f.mono S.ext) ?_;repeat k_memK
    exact vL S r G c
end
section
variable{M:Nat->Prop}{es:fZ}{b Y:MH}{p P A:Nat}{w q:Bool}{Q:MV}{ps:List (List Nat)}{L:List MV}{d:Nat}{k x:KE}
theorem YR(h:RC es b Q):∃q,GB q es b Q:=by
 rcases h with h|h;·exact⟨aG,h⟩
 ·exact⟨aC,h⟩
theorem VN{a l:Nat}{H:KL}{F:KE}{D:Option MV}(u:ET b a)(i:RC es b Q)(n:∀I,Ext b I->x (.int l) I):∀(N:Nat)(s:Bool)(ps:List (List Nat))(Y:MH)(o2 R:Option MV),l+1<=ps.flatten.length+N->ps.flatten.length<=l->ps.length+N<=90000->tQ b p P A w (aA (l:Nat)) Q ps (.tup [.int 2,.ref a]::(if s then[.tup [.int 1,.int 7]]else[])) Y->lT (zG (bY TB (G0 L) (d+7)) (G0 L) (.cmpNil .NotEq (.attr (.l 0) 32)) Ix H F x) (N+1) [aA (.ref p),D,o2,R] Y:=by
 obtain⟨q,i⟩:=YR i;intro N;induction N with
 |zero=>intro s ps Y o2 R y K;lia|succ N j=>
 intro s ps Y o2 R y K g S;have m:∀s:List Nat,(ps++[s]).flatten=ps.flatten++s:=λ s=>by rw[List.flatten_append];show ps.flatten++(s++[])=_;rw[List.append_nil]
 have c:∀s:List Nat,LQ b (aA (l:Int)) ps s x:=λ s G e q I E=>by cases e;exact n I E
 have p1:=S.pr;have p2:=S.pw;refine fE (fD ?_);cases s with
 |true=>
 repeat k_memK
 refine CN (l:=[.tup [.int 2,.ref a]]) p2 ?_;have f:tQ b p P A w (aA (l:Int)) Q ps [.tup [.int 2,.ref a]] _:=tQ.popped (W:=[.tup [.int 2,.ref a]]) (v:=.tup [.int 1,.int 7]) S;have p3:=f.pr;repeat k_memK
 refine SP (M:=λ U=>False) (t:=.nu 7) (q:=q) f (F1 g) (by show 1<99900;decide) rfl (by unfold Wf;decide) i (λ o Z I r h=>?_) (c _);have e:Z=[]:=r;subst e;repeat k_memK
 have z:(tU w (.da (.nu 7))).1=[55]:=by show tx w (.nu 7)=_;unfold tx;decide
 rw[z]at h o;have :=o l rfl;exact j aG (ps++[[55]]) I _ _ (by rw[m,List.length_append];show _<=_+1+N;exact F1 y) (by rw[m,List.length_append];show _+1<=_;have :((ps.flatten.length+1:Nat):Int)<=l:=this;lia) (by rw[List.length_append];show _+1+N<=_;exact F1 g) h|false=>
 repeat k_memK
 refine CN (l:=[]) p2 ?_;have f:tQ b p P A w (aA (l:Int)) Q ps [] _:=tQ.popped (W:=[]) (v:=.tup [.int 2,.ref a]) S;have p3:=f.pr;repeat k_memK
 refine UE u f (F1 g) (by show 0<99990;decide) (λ o I h=>?_) (c _);repeat k_memK
 have :=o l rfl;exact j aC (ps++[[32]]) I _ _ (by rw[m,List.length_append];show _<=_+1+N;exact F1 y) (by rw[m,List.length_append];show _+1<=_;have :((ps.flatten.length+1:Nat):Int)<=l:=this;lia) (by rw[List.length_append];show _+1+N<=_;exact F1 g) h
theorem ZZ{a l:Nat}(g:ET Y a)(i:RC es Y Q)(j:l<=1000)(h:∀I,Ext Y I->k (.int l) I):(bY TB (G0 L) (d+10)).call 134 [.ref a,.int l,Q] [] Y k x:=by
 refine call_in (F:=xw) (loc:=[aA (.ref a),aA (.int l),aA Q]) rfl rfl ?_;refine sd (r_call rfl (r_svs _ rfl ?_));refine call_in (F:=IN) (loc:=[aA (.ref a),aA (.int 53),aA (.int 10),aA (.int l),aA Q]) rfl rfl ?_;refine t_ret (r_meth (r_new rfl (r_svs _ rfl ?_)));refine bq (w:=aC) (lim:=aA (l:Int)) λ p P A I S=>?_;refine m_inst S.pr rfl rfl (r_svs _ rfl ?_);refine dX (F:=PQ) (loc:=[aA (.ref p),aA (.ref a),aB,aB]) rfl rfl ?_;refine mE S (by show 0<100000;decide) rfl rfl (λ K h=>r_sv _ rfl h) λ Z c=>?_;refine nY 1002 (fE (fD ?_));have p1:=c.pr;have p2:=c.pw;repeat k_memK
 refine CN (l:=[]) p2 ?_;have f:tQ Y p P A aC (aA (l:Int)) Q [] [] _:=tQ.popped (W:=[]) (v:=.tup [.int 1,.ref a]) c;have p3:=f.pr;repeat k_memK
 refine dX (F:=QN) (loc:=[aA (.ref p),aA (.ref a),aB]) rfl rfl ?_;have n:=f.ext _ _ g;repeat k_memK
 refine VZ g f (by show 0<100000;decide) (by show 0<99990;decide) i (λ o I m=>?_) (λ G e q I E=>by cases e;exact h I E);repeat k_memK
 have :=o l rfl;exact VN g i h 1000 aC [[40]] I _ _ (by show l+1<=1+1000;exact F1 j) (by show 1<=l;have :((0+1:Nat):Int)<=l:=this;lia) (by show 1+1000<=90000;decide) m
end
structure JY(mh:MH)(dk c:Nat):Prop where
 ex:∃(n t:Int)(cs:List Int),mh dk=aA (.list [.ref c,.int n,.int t])/\mh c=aA (.list (cs.map .int))/\0<=n/\0<=t/\∀i∈cs,0<=i
 ne:dk≠c
section
variable{M:Nat->Prop}{B:MH}{L:List MV}{d:Nat}{k x:KE}
theorem sj{a:Nat}{l:List MV}{j:Int}{u:MV}{K:MH->Prop}(h:B a=aA (.list l))(b:0<=j/\j.toNat<l.length)(hk:K (upd B a (.list (l.set j.toNat u)))):YZ B (.ref a) (.int j) u K:=⟨a,rfl,.inl ⟨j,l,rfl,h,b.1,b.2,hk⟩⟩
theorem yf{a:Nat}{l:List MV}{v:MV}{K:MV×List MV->Prop}(h:B a=aA (.list (v::l)))(hk:K (v,l)):OptK (g9 B 30 a [.int 0]) K:=by
 show OptK ((listOf B (.ref a)).bind _) _;rw[dR h];exact hk
theorem fV.upd{I:MH}(x:fV M B I){a:Nat}(h:M a)(o:MO):fV M B (Internal.upd I a o):=λ n p m e=>by
 rw[cE];·exact x n p m e
 ·rintro rfl;exact m h
theorem fV.refl(M:Nat->Prop)(B:MH):fV M B B:=λ U U U e=>e
theorem fV.trans{a b c:MH}(x:fV M a b)(y:fV M b c):fV M a c:=λ n o m e=>y n o m (x n o m e)
theorem s4{x:Int}(h:0<=x/\x<4294966297):x.natAbs<kD:=by unfold kD;omega
theorem LB{W c many:Nat}(D:JY B W c)(y:M W)(K:M c)(H:0<many/\many<=100000)(h:∀(r:Nat)I,r<many->JY I W c->fV M B I->(∀a,B a=aB->I a=aB)->(∀a o,a≠W->a≠c->B a=aA o->I a=aA o)->k (.int r) I):(bY TB (G0 L) (d+1)).call 124 [.ref W,.int many] [] B k x:=by
 refine call_in (F:=Du) (loc:=[aA (.ref W),aA (.int many),aB,aB]) rfl rfl ?_;obtain⟨⟨n,t,f,s,C,w,u,l⟩,p⟩:=D;have G:∀(v:Int)I,0<=v->v<many->JY I W c->fV M B I->(∀a,B a=aB->I a=aB)->(∀a o,a≠W->a≠c->B a=aA o->I a=aA o)->k (.int v) I:=λ v I S P D' E N O=>by
  obtain⟨r,e⟩:=wE S;rw[e]at P⊢;exact h r I (oK.mp P) D' E N O
 have b:(0:Int)<many:=oK.mpr H.1;repeat k_memK
 cases f with
 |nil=>
    repeat k_memK
    refine sj s ⟨by decide,Nat.le_of_ble_eq_true rfl⟩ ?_;have J:upd B W (.list [.ref c,.int n,.int (t+1)]) W=aA (.list [.ref c,.int n,.int (t+1)]):=upd_same ..;show cF _ _ _ _ (upd B W (.list [.ref c,.int n,.int (t+1)])) _ _ _ _;repeat k_memK
    generalize Z:(n%4294966297+1640531527*(t+1))%4294966297=X;refine TA (s4 (Z▸⟨kZ _ (by decide),kF _ (by decide)⟩)) ?_;repeat k_memK
    generalize hY:(X*X+122949823*(t+1))%4294966237=Y;refine TA (s4 (hY▸⟨kZ _ (by decide),Int.lt_trans (kF _ (by decide)) (by decide)⟩)) ?_;repeat k_memK
    refine fj b ?_;refine G _ _ (kZ _ (mR b)) (kF _ b) ⟨⟨n,t+1,[],upd_same ..,by rw[cE _ _ (λ e=>p e.symm)];exact C,w,hO u (Int.le_add_of_nonneg_right (by decide)),λ U h=>nomatch h⟩,p⟩ ((fV.refl M B).upd y _) (λ a m=>?_) λ a o Q R e=>by rw[cE _ _ Q];exact e
    rw[cE];·exact m
    ·rintro rfl;rw[s]at m;cases m|cons i f=>
    repeat k_memK
    refine Bc ⟨b,Nat.lt_of_le_of_lt H.2 (by decide)⟩ ?_;repeat k_memK
    refine sj C ⟨by decide,by rw[List.length_map,List.length_cons];exact Nat.succ_pos _⟩ ?_;show cF _ _ _ _ (upd B c (.list (.int (i/many)::f.map .int))) _ _ _ _;haveI J:upd B c (.list (.int (i/many)::f.map .int)) W=aA (.list [.ref c,.int n,.int t]):=by rw[cE _ _ p];exact s
    haveI V:=l i (List.mem_cons_self ..);have g:∀o:MO,(∀a,B a=aB->upd B c o a=aB)/\(∀a A,a≠W->a≠c->B a=aA A->upd B c o a=aA A):=λ o=>by
      refine⟨λ a m=>?_,λ a A Q R e=>by rw[cE _ _ R];exact e⟩;rw[cE];·exact m
      ·rintro rfl;rw[C]at m;cases m
    repeat k_memK
    refine itP_of (λ z=>?_) λ z=>?_
    · repeat k_memK
      refine yf (upd_same ..) ?_;rw[mJ];repeat k_memK
      refine fj b ?_;exact G _ _ (kZ _ (mR b)) (kF _ b) ⟨⟨n,t,f,by rw[cE _ _ p];exact s,upd_same ..,w,u,λ j q=>l j (List.mem_cons_of_mem _ q)⟩,p⟩ ((fV.refl M B).upd K _) (g _).1 (g _).2
    · repeat k_memK
      refine fj b ?_;exact G _ _ (kZ _ (mR b)) (kF _ b) ⟨⟨n,t,(i/many)::f,J,upd_same ..,w,u,λ j q=>by
 rcases List.mem_cons.mp q with rfl|q;·exact Int.ediv_nonneg V (mT b)
 ·exact l j (List.mem_cons_of_mem _ q)⟩,p⟩ ((fV.refl M B).upd K _) (g _).1 (g _).2
noncomputable abbrev KZ:List Nat:=[34,92,40,41,59,32,10,9,13,35,39,124]
theorem py(r:Nat)(h:r<12):∃c:Nat,c<=300/\rB (KZ.map λ(c:Nat)=>MV.int (c:Int)) (r:Int)=aA (.int c):=by
 have P:r<KZ.length:=h;refine⟨KZ[r],Nat.le_of_ble_eq_true (List.all_eq_true.mp (show KZ.all (λ c=>Nat.ble c 300)=aC from rfl) _ (List.getElem_mem P)),?_⟩;rw[qH,List.getElem?_map,List.getElem?_eq_getElem P];rfl
theorem wa{W c:Nat}(D:JY B W c)(y:M W)(K:M c)(h:∀(r:Nat)I,r<=300->JY I W c->fV M B I->k (.int r) I):(bY TB (G0 L) (d+2)).call 126 [.ref W] [] B k x:=by
  refine call_in (F:=Df) (loc:=[aA (.ref W)]) rfl rfl ?_;repeat k_memK
  refine LB (many:=2) D y K ⟨by decide,by decide⟩ λ r I Q q E N O=>?_;repeat k_memK
  refine itP_of (λ z=>?_) λ z=>?_
  · repeat k_memK
    intro l a;haveI J:JY (upd I l (.list [.int 34,.int 92,.int 40,.int 41,.int 59,.int 32,.int 10,.int 9,.int 13,.int 35,.int 39,.int 124])) W c:=by
     obtain⟨⟨n,t,f,j,o,r⟩,u⟩:=q;exact⟨⟨n,t,f,upd_some _ j a,upd_some _ o a,r⟩,u⟩
    repeat k_memK
    refine LB (many:=12) J y K ⟨by decide,by decide⟩ λ g Z b p i A s=>?_;obtain⟨⟨n,t,f,j,o,_⟩,u⟩:=q;haveI v:l≠W:=λ e=>by rw[e,j]at a;cases a
    haveI P:l≠c:=λ e=>by rw[e,o]at a;cases a
    haveI G:=s l _ v P (upd_same ..);haveI C:fV M B Z:=(E.trans (Ext.m (Ext.new a _))).trans i;obtain⟨H,w,e⟩:=py g b;exact k_idx G e (h H _ w p C)
  · repeat k_memK
    exact LB (many:=301) q y K ⟨by decide,by decide⟩ λ g Z b p i A s=>h g _ (F1 b) p (E.trans i)
end
section
variable{M:Nat->Prop}{Y:MH}{d:Nat}{k x:KE}
theorem vM{S:Loc->MH->KE->Prop}{cond:Loc->MH->(Bool->MH->Prop)->Prop}{caps:Loc}{src:Option (Nat×List MV)}{vs0:List MV}(P:MH->List MV->Prop)(i:∀Y G,P Y G->AO src Y)(j:∀l Y K,K aC Y->cond l Y K)(h:vs0.length<=1000)(BW:∀v G Y(K:KE),vs0[G.length]?=aA v->P Y G->(∀u I,P I (G++[u])->K u I)->S (aA v::caps) Y K)(hk:∀G Y,G.length=vs0.length->P Y G->∀a,Y a=aB->k (.ref a) (upd Y a (.list G))):∀(Z G:List MV)(o:Option MV)(Y:MH),vs0.drop G.length=Z->G.length<=vs0.length->P Y G->pI S cond 1 src Z G (o::caps) Y k:=by
 intro m;induction m with
 |nil=>
 intro G o Y e g b;have :G.length=vs0.length:=by
  have :=congrArg oB e;rw[eA]at this;exact Nat.le_antisymm g (Nat.le_of_sub_eq_zero this)
 exact⟨i _ _ b,by unfold aX;exact(F2 h (Nat.le_of_eq this)),hk G Y this b⟩|cons v Z f=>
 intro G o Y e g b;have y:vs0[G.length]?=aA v:=by
  have :=congrArg (λ l:List MV=>l[0]?) e;rw[BN]at this;exact this
 have C:G.length<vs0.length:=(dE.mp y).1;refine⟨i _ _ b,by unfold aX;exact F2 h C,j _ _ _ (BW v G Y _ y b λ u I c=>f (G++[u]) (aA v) I ?_ (by rw[aF];exact C) c)⟩;rw[aF];show vs0.drop (G.length+1)=Z;rw[<-List.drop_drop,e];rfl
theorem UD{S:Loc->MH->KE->Prop}{cond:Loc->MH->(Bool->MH->Prop)->Prop}{src:Option (Nat×List MV)}(j:AO src Y)(p:MV->Bool):∀(Z G:List MV)(o:Option MV),G.length+Z.length<=aX->(∀v∈Z,∀K,K (p v) Y->cond [aA v] Y K)->(∀v∈Z,∀K:KE,K v Y->S [aA v] Y K)->(∀a,Y a=aB->k (.ref a) (upd Y a (.list (G++Z.filter p))))->pI S cond 1 src Z G [o] Y k:=by
 intro l;induction l with
 |nil=>
 intro G o c U U h;exact⟨j,c,λ a f=>by have :=h a f;rwa[List.filter_nil,bB]at this⟩|cons v Z e=>
 intro G o c i g h;rw[aN]at c;refine⟨j,(F1 c),i v (aW ..) _ ?_⟩;cases q:p v with
 |true=>
 refine g v (aW ..) _ (e (G++[v]) (aA v) (by rw[aF];show G.length+1+Z.length<=_;exact F1 c) (λ w b=>i w (aV _ b)) (λ w b=>g w (aV _ b)) λ a f=>?_);have :=h a f;rw[List.filter_cons_of_pos q]at this;rw[bJ];exact this|false=>
 refine e G (aA v) (F1 c) (λ w b=>i w (aV _ b)) (λ w b=>g w (aV _ b)) λ a f=>?_;haveI :=h a f;rwa[List.filter_cons_of_neg (by rw[q];exact cP)]at this
theorem xq:∀f:List Int,NU (f.map .int)=aA f.sum:=by
 intro b;induction b with
 |nil=>exact rfl|cons c f a=>
 show(NU (f.map .int)).map (c+·)=_;rw[a];rfl
theorem t6{a:Nat}{f:List Int}(h:Y a=aA (.list (f.map .int)))(hk:k (.int f.sum) Y):NY Y 4 [.ref a] k:=by
 show OptK ((listOf Y (.ref a)).bind λ l=>(NU l).map MV.int) _;rw[dR h];show OptK ((NU (f.map .int)).map MV.int) _;rw[xq];exact hk
theorem Ag:∀f:List Int,(∀c∈f,0<=c)->0<=f.sum:=by
 intro b;induction b with
 |nil=>
 intro U;exact FN _|cons c f a=>
 intro h;rw[AQ];exact Int.add_nonneg (h c (aW ..)) (a λ c e=>h c (aV _ e))
theorem zi{G:Gl}{l t:List MV}{a:Nat}{u v:MV}(b:G.kl a=aA l)(e:WG l u v=aA t)(hk:∀n,Y n=aB->k (.ref n) (upd Y n (.list t))):Am G Y (.cst a) u v k:=OptK.some b (OptK.some e hk)
noncomputable abbrev L0(j:List Int):List MV:=j.map .int
theorem NW{e:kP}{j:List Int}{b:KE}{B:Loc}{i:Nat}(f:B[i]?.join=aA (.cst 1324))(h:∀a,Y a=aB->k (.ref a) (upd Y a (.list ((j.take 24).map .int)))):bX e (G0 (L0 j)) (.slc (.l i) .no (.c (.i 24))) B Y k b:=by
 refine r_slc (r_sv (.l i) f (r_sv _ rfl (r_sv _ rfl (zi (l:=L0 j) (t:=(j.take 24).map .int) rfl ?_ h))));show aA (((j.map MV.int).take 24).drop 0)=_;rw[yL,List.map_take]
theorem Dm{j:List Int}(h:∀W c I,Y W=aB->Y c=aB->Ext Y I->JY I W c->k (.ref W) I):(bY TB (G0 (L0 j)) (d+1)).call 123 [.cst 1324] [] Y k x:=by
  refine call_in (F:=Bm) (loc:=[aA (.cst 1324),aB]) rfl rfl ?_;refine t_asg (lJ (r_args (NW rfl λ a G=>r_args0 ?_)));refine rP (upd_same ..) ?_;refine wG (caps:=[]) (src:=aA (a,(j.take 24).map .int)) (dR (upd_same ..)) (λ v=>match v with|.int i=>.int ((i.natAbs:Int)%10^90)|_=>.none) (λ U U h=>h) _ [] aB (by rw[bF,fW];unfold aX;show 0+_<=_;omega) (λ v s K m=>?_) λ r y=>?_
  · obtain⟨i,_,rfl⟩:=dF.mp s;repeat k_memK
    exact m
  · haveI E:[]++((j.take 24).map MV.int).map (λ v=>match v with|.int i=>MV.int ((i.natAbs:Int)%10^90)|_=>.none)=((j.take 24).map λ i=>((i.natAbs:Int)%10^90)).map .int:=by rw[fP,iN,iN];rfl
    rw[E];generalize u:(j.take 24).map (λ i=>((i.natAbs:Int)%10^90))=f;have o:∀c∈f,0<=c:=λ c B=>by
     rw[<-u]at B;obtain⟨i,_,rfl⟩:=dF.mp B;exact kZ _ (by decide)
    haveI t:f.length<=24:=by rw[<-u,bF,fW];omega
    have w:=upd_same (upd Y a (.list ((j.take 24).map .int))) r (.list (f.map .int));obtain⟨_,p⟩:=eQ y;have n:Ext Y (upd (upd Y a (.list ((j.take 24).map .int))) r (.list (f.map .int))):=(Ext.new G _).upd p _;generalize upd (upd Y a (.list ((j.take 24).map .int))) r (.list (f.map .int))=q at w n;refine t_ret (r_lst (r_args (lJ (r_args (r_sv (.l 1) rfl (r_args0 ?_))))));refine rP w ?_;refine UD (src:=aA (r,f.map .int)) (dR w) (λ v=>match v with|.int i=>cH (i>=10^18)|_=>aG) _ [] aB (by rw[bF];unfold aX;show 0+_<=_;exact F1 t) (λ v s K m=>?_) (λ v s K m=>?_) λ A g=>?_
    · obtain⟨i,_,rfl⟩:=dF.mp s;show bX _ _ (.cmp .GtE (.l 0) (.bin .Pow (.c (.i 10)) (.c (.i 18)))) _ _ _ _;repeat k_memK
      show UX (cH (i>=10^18)) (K aC q) (K aG q);refine itP_of (λ e=>?_) λ e=>?_
      ·have :K (cH (i>=10^18)) q:=m;rwa[e]at this
      ·haveI :K (cH (i>=10^18)) q:=m;rwa[e]at this
    · obtain⟨i,_,rfl⟩:=dF.mp s;repeat k_memK
      exact m
    · haveI D:upd q A (.list ([]++(f.map MV.int).filter λ v=>match v with|.int i=>cH (i>=10^18)|_=>aG)) r=aA (.list (f.map .int)):=upd_some _ w g;repeat k_memK
      refine t6 D ?_;repeat k_memK
      intro W z;obtain⟨C,b⟩:=eQ z;refine h W A _ (n.off b) (n.off g) ((n.upd (n.off g) _).upd (n.off b) _) ⟨⟨_,_,f.filter λ i=>cH (i>=10^18),upd_same ..,?_,?_,FN _,λ i H=>o i (kX.mp H).1⟩,C⟩;·rw[cE _ _ C.symm,upd_same,fP,List.filter_map];rfl
      ·have :=Ag f o;rw[bF];omega
end
noncomputable def Nu:List Nat:=[99,104,97,114]
noncomputable def Fx:List Nat:=[115,116,114,105,110,103]
noncomputable def xa:List Nat:=[110,117,109,98,101,114]
noncomputable def Nz:List Nat:=[116,114,117,116,104]
noncomputable def uo:List Nat:=[115,121,109,98,111,108]
noncomputable def Py:List Nat:=[118,101,99,116,111,114]
noncomputable def Pz:List Nat:=[100,111,116,116,101,100]
noncomputable def Q0:List Nat:=[108,105,115,116]
mutual noncomputable def TR(M:Nat->Prop)(Y:MH):T->MV->Prop
 |.ch c,v=>v=.tup [.str [99,104,97,114],.int (c:Nat)]|.st f,v=>∃l,v=.tup [.str [115,116,114,105,110,103],.ref l]/\¬M l/\Y l=aA (.list (iV f))|.nu i,v=>v=.tup [.str [110,117,109,98,101,114],.int i]|.tr b,v=>v=.tup [.str [116,114,117,116,104],.bool b]|.sy j,v=>v=.tup [.str [115,121,109,98,111,108],.str (ER j)]|.ve g,v=>∃l Z,v=.tup [.str [118,101,99,116,111,114],.ref l]/\¬M l/\Y l=aA (.list Z)/\FZ M Y g Z|.ls g V,v=>∃l Z,v=.tup [.str (if V then[100,111,116,116,101,100]else[108,105,115,116]),.ref l]/\¬M l/\Y l=aA (.list Z)/\FZ M Y g Z|.qt _ _,_=>False noncomputable def FZ(M:Nat->Prop)(Y:MH):List T->List MV->Prop
 |[],Z=>Z=[]|t::g,Z=>∃v r,Z=v::r/\TR M Y t v/\FZ M Y g r end
section
variable{M:Nat->Prop}{Y I:MH}{d:Nat}{k x:KE}{L:List MV}
mutual theorem TR.mono(x:fV M Y I):∀(t:T)(v:MV),TR M Y t v->TR M I t v
 |.ch _,_,h=>by exact h|.st _,_,h=>by obtain⟨l,y,K,a⟩:=h;exact⟨l,y,K,x l _ K a⟩|.nu _,_,h=>by exact h|.tr _,_,h=>by exact h|.sy _,_,h=>by exact h|.ve g,_,h=>by obtain⟨l,Z,y,K,a,b⟩:=h;exact⟨l,Z,y,K,x l _ K a,FZ.mono x g Z b⟩|.ls g _,_,h=>by obtain⟨l,Z,y,K,a,b⟩:=h;exact⟨l,Z,y,K,x l _ K a,FZ.mono x g Z b⟩|.qt _ _,_,h=>by exact h.elim theorem FZ.mono(x:fV M Y I):∀(g:List T)(Z:List MV),FZ M Y g Z->FZ M I g Z
 |[],_,h=>by exact h|t::g,_,h=>by obtain⟨v,r,y,K,a⟩:=h;exact⟨v,r,y,TR.mono x t v K,FZ.mono x g r a⟩end
theorem FZ.snoc{t:T}{v:MV}(h:TR M Y t v):∀{g:List T}{Z:List MV},FZ M Y g Z->FZ M Y (g++[t]) (Z++[v]):=by
 intro b;induction b with
 |nil=>
 intro Z r;subst r;show FZ M Y [t] [v];exact⟨v,[],rfl,h,rfl⟩|cons u g a=>
 intro Z r;obtain⟨w,r,rfl,y,K⟩:=r;show FZ M Y (u::(g++[t])) (w::(r++[v]));exact⟨w,_,rfl,y,a K⟩
theorem FZ.len:∀{g:List T}{Z:List MV},FZ M Y g Z->Z.length=g.length:=by
 intro b;induction b with
 |nil=>
 intro U r;rw[r];rfl|cons t g a=>
 intro U r;obtain⟨v,r,rfl,_,h⟩:=r;rw[List.length_cons,List.length_cons,a h]
noncomputable def OU:Nat->Nat
 |0=>12|n+1=>5*OU n+11
noncomputable def AU:T->Bool
 |.ve _=>aG|.ls _ _=>aG|.qt _ _=>aG|_=>aC
noncomputable def Dp:Nat->T->Prop
 |0,t=>AU t=aC|n+1,t=>match t with
 |.ve g=>∀u∈g,Dp n u|.ls g _=>∀u∈g,Dp n u|.qt _ _=>False|_=>True
theorem j5{t:T}(h:AU t=aC):∀n,Dp n t
 |0=>h|n+1=>by cases t<;>first|trivial|cases h
noncomputable def Sm(n:Nat)(t:T):Prop:=((∀w,(tx w t).length<=OU n)/\sT t<=OU n)/\Dp n t
theorem RL(n:Nat):∀g:List T,(∀t∈g,Sm n t)->(∀w,(wB w g).length<=g.length*(OU n+1))/\sA g<=g.length*(OU n+1)
 |[]=>λ U=>⟨λ U=>Nat.zero_le _,Nat.zero_le _⟩|[t]=>λ h=>by
  have :=(h t (List.mem_cons_self ..)).1;refine⟨λ w=>?_,?_⟩;·rw[wK,List.append_nil];have :=this.1 w;show _<=1*_;exact F1 this
  ·rw[qC];haveI :=this.2;show _+1+0<=1*_;lia|t::u::r=>λ h=>by
  have y:=(h t (List.mem_cons_self ..)).1;have K:=RL n (u::r) λ t b=>h t (List.mem_cons_of_mem _ b);refine⟨λ w=>?_,?_⟩
  ·rw[wL,List.length_append,List.length_cons,List.length_cons (a:=t),Nat.add_mul];have :=y.1 w;have :=K.1 w;lia
  ·rw[qC,List.length_cons (a:=t),Nat.add_mul];have :=y.2;have :=K.2;lia
theorem Cq{n:Nat}{g:List T}(h:∀t∈g,Sm n t)(c:g.length<=5):(∀w,(wB w g).length+6<=OU (n+1))/\sA g+6<=OU (n+1):=by
 obtain⟨a,b⟩:=RL n g h;haveI e:OU (n+1)=5*(OU n+1)+6:=by show 5*OU n+11=_;simp+arith
 haveI :=Nat.mul_le_mul_right (OU n+1) c;rw[e];exact⟨λ w=>by haveI :=a w;lia,(F2 b this)⟩
structure DS(M:Nat->Prop)(Y:MH)(dk c:Nat):Prop where
 D:JY Y dk c
 m1:M dk
 m2:M c
 al:∀a,M a->(Y a).isSome
noncomputable def M2(W c:Nat):Nat->Prop:=λ a=>a=W\/a=c
theorem DS.sub{W c:Nat}(S:DS M Y W c)(x:fV (M2 W c) Y I):fV M Y I:=λ a o n e=>x a o (λ q=>n (q.elim (λ z=>z▸S.m1) λ z=>z▸S.m2)) e
theorem DS.next{W c:Nat}(S:DS M Y W c)(x:fV (M2 W c) Y I)(D:JY I W c):DS M I W c:=⟨D,S.m1,S.m2,λ a b=>by
  by_cases q:M2 W c a
  · obtain⟨⟨_,_,_,f,e,_⟩,_⟩:=D;rcases q with rfl|rfl;·rw[f];rfl
    ·rw[e];rfl
  ·obtain⟨o,g⟩:=aS.mp (S.al a b);rw[x a o q g];rfl⟩
theorem DS.new{W c n:Nat}(S:DS M Y W c)(b:Y n=aB)(o:MO):DS M (upd Y n o) W c:=S.next (Ext.m (Ext.new b o)) (by
 obtain⟨⟨a,t,f,g,h,r⟩,e⟩:=S.D;exact⟨⟨a,t,f,upd_some _ g b,upd_some _ h b,r⟩,e⟩)
theorem DS.off{W c n:Nat}(S:DS M Y W c)(a:Y n=aB):¬M n:=λ m=>by have :=S.al n m;rw[a]at this;cases this
theorem nU{W c many:Nat}(S:DS M Y W c)(a:0<many/\many<=100000)(h:∀(r:Nat)I,r<many->DS M I W c->fV (M2 W c) Y I->k (.int r) I):(bY TB (G0 L) (d+1)).call 124 [.ref W,.int many] [] Y k x:=LB (M:=M2 W c) S.D (.inl rfl) (.inr rfl) a λ r I b D E U U=>h r I b (S.next E D) E
theorem be{W c:Nat}(S:DS M Y W c)(h:∀(r:Nat)I,r<=300->DS M I W c->fV (M2 W c) Y I->k (.int r) I):(bY TB (G0 L) (d+2)).call 126 [.ref W] [] Y k x:=wa (M:=M2 W c) S.D (.inl rfl) (.inr rfl) λ r I a D E=>h r I a (S.next E D) E
theorem Ch{j:List Int}(h:∀(m:Nat)I,m<=3->Ext Y I->k (.int m) I):(bY TB (G0 (L0 j)) (d+1)).call 125 [.cst 1324,.int 1,.int 3] [] Y k x:=by
  refine call_in (F:=Bo) (loc:=[aA (.cst 1324),aA (.int 1),aA (.int 3),aB,aB]) rfl rfl ?_;refine t_ls (r_tup (r_args (r_sv (.l 1) rfl (r_args (r_bi (r_args (lJ (r_args (NW rfl λ a p=>r_args0 ?_)))))))));refine rP (upd_same ..) ?_;refine wG (caps:=[]) (src:=aA (a,(j.take 24).map .int)) (dR (upd_same ..)) (λ v=>match v with|.int i=>.int (i.natAbs:Int)|_=>.none) (λ U U h=>h) _ [] aB (by rw[List.length_map,List.length_take];delta aX;show 0+_<=_;lia) (λ v q K r=>?_) λ g f=>?_
  · obtain⟨i,_,rfl⟩:=List.mem_map.mp q;repeat k_memK
    exact r
  · haveI o:[]++((j.take 24).map MV.int).map (λ v=>match v with|.int i=>MV.int (i.natAbs:Int)|_=>.none)=((j.take 24).map λ i=>(i.natAbs:Int)).map .int:=by rw[List.nil_append,List.map_map,List.map_map];rfl
    rw[o];obtain⟨_,b⟩:=eQ f;have c:Ext Y (upd (upd Y a (.list ((j.take 24).map .int))) g (.list (((j.take 24).map λ i=>(i.natAbs:Int)).map .int))):=(Ext.new p _).upd b _;refine r_args0 (t6 (upd_same ..) ?_);repeat k_memK
    generalize((j.take 24).map λ i=>(i.natAbs:Int)).sum=s;have t:∀(m:Nat)(s:Int),m<=3->cF (bY TB (G0 (L0 j)) d) (G0 (L0 j)) [.ret (.l 3)] [aA (.cst 1324),aA (.int 1),aA (.int 3),aA (.int m),aA (.int s)] (upd (upd Y a (.list ((j.take 24).map .int))) g (.list (((j.take 24).map λ i=>(i.natAbs:Int)).map .int))) (λ U Y=>k .none Y) k (λ U U=>False) x:=λ m s n=>t_ret (r_sv (.l 3) rfl (h m _ n c));refine nY 3 (fE (fD ?_));repeat k_memK
    refine itP_of (λ e=>?_) λ e=>?_
    · repeat k_memK
      refine fE (fD ?_);repeat k_memK
      refine itP_of (λ e=>?_) λ e=>?_
      · repeat k_memK
        refine fE (fD ?_);repeat k_memK
        exact h 3 _ (by decide) c
      · repeat k_memK
        exact h 2 _ (by decide) c
    · repeat k_memK
      exact h 1 _ (by decide) c
end
section
variable{M:Nat->Prop}{Y:MH}{d:Nat}{k x:KE}{L:List MV}{W c:Nat}
theorem zC{n:Nat}{K:Option (Nat×List MV)×List MV->Prop}(h:n<=1000)(hk:K (aB,kJ n)):OptK (lZ Y 1 [.int n]) K:=by
 refine OptK.some (a:=(aB,kJ n)) ?_ hk;show(if(n:Int).natAbs<=aX then aA (aB,kJ n)else aB)=_;rw[if_pos (show n<=aX from lm h)]
theorem nV(n:Nat):(kJ n).length=n:=by unfold kJ;rw[List.length_map,List.length_range,gP]
noncomputable def a9(M:Nat->Prop)(Y:MH)(W c n:Nat)(k:KE):Prop:=∀t v I,TR M I t v->Wf aG t->Sm n t->DS M I W c->fV (M2 W c) Y I->k v I
theorem CY{n:Nat}{t:T}(h:∀w,(tx w t).length<=12)(e:sT t<=12)(a:AU t=aC:=by rfl):Sm n t:=by
 have :12<=OU n:=by induction n with
 |zero=>exact Nat.le_refl _|succ n b=>show 12<=5*OU n+11;exact F1 b
 exact⟨⟨λ w=>Nat.le_trans (h w) this,Nat.le_trans e this⟩,j5 a n⟩
theorem KJ{i:Int}(h:i.natAbs<=1000):(pF i).length<=5:=by
 have :=(QO h).len;unfold pF;split<;>rw[List.length_append]<;>(show _<=5;simp only[List.length_cons,List.length_nil];exact F1 this)
noncomputable abbrev Nm:List MS:=[.ite (.cmp .Eq (.l 2) (.c (.i 0))) [.ret (.tup [(.c (.s [99,104,97,114])),(.call 126 [(.l 0)] [])])] [],.ite (.cmp .Lt (.l 2) (.c (.i 3))) [.ret (.tup [(.c (.s [115,116,114,105,110,103])),(.comp ["nth"] [0] 1 [(.call 124 [(.l 0),(.c (.i 6))] [])] (.call 126 [(.l 1)] []) [])])] [],.ite (.cmp .Eq (.l 2) (.c (.i 3))) [.ret (.tup [(.c (.s [110,117,109,98,101,114])),(.bin .Sub (.call 124 [(.l 0),(.c (.i 2001))] []) (.c (.i 1000)))])] [],.ite (.cmp .Eq (.l 2) (.c (.i 4))) [.ret (.tup [(.c (.s [116,114,117,116,104])),(.cmp .Eq (.call 124 [(.l 0),(.c (.i 2))] []) (.c (.i 1)))])] [],.ite (.cmp .Eq (.l 2) (.c (.i 5))) [.ret (.tup [(.c (.s [115,121,109,98,111,108])),(.idx (.lst [(.c (.s [97])),(.c (.s [43])),(.c (.s [46,46,46])),(.c (.s [120,45,62,121,33])),(.c (.s [45]))]) (.call 124 [(.l 0),(.c (.i 5))] []))])] []]
theorem Gc:∀j:Nat,j<5->rB ([.str [97],.str [43],.str [46,46,46],.str [120,45,62,121,33],.str [45]]:List MV) (j:Int)=aA (.str (ER j)):=Kx rfl rfl rfl rfl rfl
theorem uq:∀j<5,∀w,(tx w (.sy j)).length<=12:=by decide
theorem JI{n r:Nat}{D R:Option MV}{H y:KL}(S:DS M Y W c)(h:a9 M Y W c n k)(hr:5<r->H [aA (.ref W),D,aA (.int r),R] Y):cF (bY TB (G0 L) (d+2)) (G0 L) Nm [aA (.ref W),D,aA (.int r),R] Y H k y x:=by
  repeat k_memK
  refine itP_of (λ e=>?_) λ e0=>?_
  · repeat k_memK
    refine be S λ F I t Q E=>?_;repeat k_memK
    refine h (.ch F) _ I (by rfl) (by exact t) (CY (λ w=>?_) (Nat.le_of_ble_eq_true rfl)) Q E;unfold tx DG;split
    · split;·decide
      · split;·decide
        ·exact Nat.le_of_ble_eq_true rfl
    ·exact Nat.le_of_ble_eq_true rfl
  have n0:¬(r:Int)=0:=of_decide_eq_false e0;repeat k_memK
  refine itP_of (λ e=>?_) λ X=>?_
  · repeat k_memK
    refine lJ (r_args (r_call rfl ?_));repeat k_memK
    refine nU (many:=6) S ⟨by decide,by decide⟩ λ m P b i j=>?_;repeat k_memK
    refine zC (F1 b) ?_;refine vM (src:=aB) (vs0:=kJ m) (caps:=[aA (.ref W)]) (λ I G=>∃f:List Nat,G=iV f/\(∀c∈f,c<=300)/\DS M I W c/\fV (M2 W c) Y I) (λ U U U=>trivial) (λ U U U h=>h) (by rw[nV];exact F1 b) (λ v G Z K U B V=>?_) (λ G Z g B a u=>?_) (kJ m) [] aB P rfl (Nat.zero_le _) ⟨[],rfl,(λ U h=>nomatch h),i,j⟩
    · obtain⟨f,rfl,o,p,z⟩:=B;repeat k_memK
      refine be p λ F J t S3 O=>V _ _ ⟨f++[F],by unfold iV;rw[List.map_append];rfl,λ c A=>?_,S3,z.trans O⟩;rcases List.mem_append.mp A with q|q;·exact o c q
      ·rw[List.mem_singleton.mp q];exact t
    · obtain⟨f,rfl,o,p,z⟩:=B;have s:f.length<=5:=by rw[nV]at g;unfold iV at g;rw[List.length_map]at g;exact(F2 b (Nat.le_of_eq g))
      repeat k_memK
      refine h (.st f) _ _ (by exact⟨a,rfl,p.off u,upd_same ..⟩) (by exact⟨s,o⟩) (CY (λ w=>?_) (Nat.le_of_ble_eq_true rfl)) (p.new u _) (z.trans (Ext.m (Ext.new u _)));unfold tx gi;haveI :=LH f;split;·rw[List.length_cons,List.length_append];show _+1+1<=_;exact F3 s s this
      ·exact lm s
  have n1:¬(r:Int)<3:=of_decide_eq_false X;repeat k_memK
  refine itP_of (λ e=>?_) λ e2=>?_
  · repeat k_memK
    refine nU (many:=2001) S ⟨by decide,by decide⟩ λ m P b i j=>?_;repeat k_memK
    refine h (.nu ((m:Int)-1000)) _ _ (by unfold TR;rfl) (by unfold Wf;lia) (CY (λ w=>?_) (Nat.le_of_ble_eq_true rfl)) i j;exact Nat.le_trans (KJ (by lia)) (by decide)
  repeat k_memK
  refine itP_of (λ e=>?_) λ N=>?_
  · repeat k_memK
    refine nU (many:=2) S ⟨by decide,by decide⟩ λ m P b i j=>?_;repeat k_memK
    refine h (.tr (cH ((m:Int)=1))) _ _ (by rfl) (by trivial) (CY (λ w=>?_) (Nat.le_of_ble_eq_true rfl)) i j;unfold tx;split<;>decide
  repeat k_memK
  refine itP_of (λ e=>?_) λ C=>?_
  · repeat k_memK
    intro l g;have i:=S.new g (.list [.str [97],.str [43],.str [46,46,46],.str [120,45,62,121,33],.str [45]]);haveI nl:=S.off g;repeat k_memK
    refine nU (many:=5) i ⟨by decide,by decide⟩ λ m P b p j=>?_;haveI hL:=i.sub j _ _ nl (upd_same ..);refine k_idx hL (Gc m b) (r_args0 (and_le rfl ?_));exact h (.sy m) _ _ (by rfl) (by exact b) (CY (uq m b) (Nat.le_of_ble_eq_true rfl)) p ((Ext.m (Ext.new g _)).trans j)
  have n2:¬(r:Int)=3:=of_decide_eq_false e2;have n3:¬(r:Int)=4:=of_decide_eq_false N;have n4:¬(r:Int)=5:=of_decide_eq_false C;repeat k_memK
  exact hr (by lia)
theorem ZR{q:Bool}{t:T}(h:Wf q t):∀{g:List T},NE q g->NE q (g++[t]):=by
 intro b;induction b with
 |nil=>
 intro U;show NE q [t];exact⟨h,trivial⟩|cons u g a=>
 intro w;show NE q (u::(g++[t]));exact⟨w.1,a w.2⟩
theorem nv:∀(n:Nat)(Y:MH)(k x:KE),DS M Y W c->a9 M Y W c n k->(bY TB (G0 L) (d+n+3)).call 127 [.ref W,.int n] [] Y k x:=by
 intro z_;induction z_ with
 |zero=>
    intro Y k x S h;refine call_in (d:=d+2) (F:=u7) (loc:=[aA (.ref W),aA (.int (0:Nat)),aB,aB]) rfl rfl ?_;repeat k_memK
    refine nU (many:=6) S ⟨by decide,by decide⟩ λ r P hr D A=>?_;refine JI (n:=0) D (λ t v I y C j h4 h5=>h t v I y C j h4 (A.trans h5)) λ q=>by lia|succ n a1=>
    intro Y k x S h;refine call_in (d:=d+n+3) (F:=u7) (loc:=[aA (.ref W),aA (.int (n+1:Nat)),aB,aB]) rfl rfl ?_;repeat k_memK
    refine itP_t (decide_eq_true (Int.natCast_pos.mpr (Nat.succ_pos n))) ?_;repeat k_memK
    refine nU (many:=10) S ⟨by decide,by decide⟩ λ r P hr D A=>?_;haveI up:a9 M P W c (n+1) k:=λ t v I y C j h4 h5=>h t v I y C j h4 (A.trans h5);refine JI (d:=d+n+1) (n:=n+1) D up λ q=>?_;have b:∀(m:Nat)Z,m<=5->DS M Z W c->fV (M2 W c) Y Z->OptK (lZ Z 1 [.int m]) λ X=>pI (λ loc Y k=>bX (bY TB (G0 L) (d+n+3)) (G0 L) (.call 127 [(.l 1),(.bin .Sub (.l 2) (.c (.i 1)))] []) loc Y k λ U U=>False) (λ loc Y k=>AE (bY TB (G0 L) (d+n+3)) (G0 L) [] loc Y k) 1 X.1 X.2 [] [aB,aA (.ref W),aA (.int (n+1:Nat))] Z (λ v Y=>cF (bY TB (G0 L) (d+n+3)) (G0 L) [.ite (.cmp .Gt (.l 2) (.c (.i 7))) [.ret (.tup [(.c (.s [118,101,99,116,111,114])),(.l 3)])] [],.ret (.tup [(.ite (.bool .And [(.cmp .Eq (.l 2) (.c (.i 7))),(.cmpNil .NotEq (.l 3))]) (.c (.s [100,111,116,116,101,100])) (.c (.s [108,105,115,116]))),(.l 3)])] [aA (.ref W),aA (.int (n+1:Nat)),aA (.int r),aA v] Y (λ U Y=>k .none Y) k (λ U U=>False) x):=λ m Z o E B=>by
      refine zC (lm o) ?_;refine vM (src:=aB) (vs0:=kJ m) (caps:=[aA (.ref W),aA (.int (n+1:Nat))]) (λ I G=>∃g,FZ M I g G/\NE aG g/\(∀t∈g,Sm n t)/\DS M I W c/\fV (M2 W c) Y I) (λ U U U=>trivial) (λ U U U h=>h) (by rw[nV];exact lm o) (λ v G f K U hp hK=>?_) (λ G f hl hp a Q=>?_) (kJ m) [] aB Z rfl (Nat.zero_le _) ⟨[],(by rfl),(by trivial),(λ U h=>nomatch h),E,B⟩
      · obtain⟨g,y,C,j,J,E3⟩:=hp;repeat k_memK
        show(bY TB (G0 L) (d+n+3)).call 127 [.ref W,.int (((n+1:Nat):Int)-1)] [] f K λ U U=>False;rw[Jg];refine a1 f K (λ U U=>False) J λ t v a2 g1 g2 g3 R O=>hK _ _ ⟨g++[t],FZ.snoc g1 (FZ.mono (J.sub O) _ _ y),ZR g2 C,λ u N=>?_,R,E3.trans O⟩;rcases List.mem_append.mp N with q|q;·exact j u q
        ·rw[List.mem_singleton.mp q];exact g3
      · obtain⟨g,y,C,j,J,E3⟩:=hp;have lt:g.length<=5:=by rw[nV]at hl;have :=y.len;exact(F3 o (Nat.le_of_eq hl) (Nat.le_of_eq this.symm))
        obtain⟨u1,u2⟩:=Cq j lt;have R:=J.new Q (.list G);have O:=E3.trans (Ext.m (Ext.new Q (.list G)));have na:=J.off Q;have H:upd f a (.list G) a=aA (.list G):=upd_same ..;have g1:=FZ.mono (Ext.m (Ext.new Q (.list G))) _ _ y;have p:∀V:Bool,(V=aC->g≠[])->k (.tup [.str (if V then[100,111,116,116,101,100]else[108,105,115,116]),.ref a]) (upd f a (.list G)):=λ V hd=>h (.ls g V) _ _ (by exact⟨a,G,rfl,na,H,g1⟩) (by exact⟨hd,C⟩) ⟨⟨λ w=>by
 have :=u1 w;rw[List.length_cons,List.length_append];split<;>(simp only[List.length_cons,List.length_nil];lia),by rw[JB];exact F1 u2⟩,λ u N=>(j u N).2⟩ R O;repeat k_memK
        refine itP_of (λ z=>?_) λ z=>?_
        · repeat k_memK
          exact h (.ve g) _ _ (by exact⟨a,G,rfl,na,H,g1⟩) (by exact⟨lt,C⟩) ⟨⟨λ w=>by
 have :=u1 w;rw[List.length_cons,List.length_cons,List.length_append];show _+1+1+1<=_;exact F1 this,by rw[NH];exact F1 u2⟩,λ u N=>(j u N).2⟩ R O
        · repeat k_memK
          refine itP_of (λ z=>?_) λ z=>?_
          · refine k_asB (itP_f ?_ (r_sv _ rfl ?_));·cases e:cH ((r:Int)=7)with
 |false=>exact e|true=>rw[show yI .And (cH ((r:Int)=7))=!cH ((r:Int)=7)from rfl,e]at z;cases z
            · repeat k_memK
              exact p aG λ e=>nomatch e
          · repeat k_memK
            cases g with
 |nil=>
              haveI :G=[]:=by exact y
              subst this;repeat k_memK
              exact p aG λ e=>nomatch e|cons t g=>
              obtain⟨v0,r0,rfl,_⟩:=y;repeat k_memK
              exact p aC λ U e=>nomatch e
    refine t_asg (lJ (r_args (r_call rfl (r_args (r_sv (.l 0) rfl (r_args (r_ite ?_)))))));repeat k_memK
    refine itP_of (λ z=>?_) λ z=>?_
    · repeat k_memK
      refine nU (many:=6) D ⟨by decide,by decide⟩ λ m Z o E B=>?_;exact r_args0 (b m Z (F1 o) E (A.trans B))
    · repeat k_memK
      refine nU (many:=4) D ⟨by decide,by decide⟩ λ m Z o E B=>?_;exact r_args0 (b m Z (F1 o) E (A.trans B))
end
section
variable{M:Nat->Prop}{Y:MH}{d:Nat}{k x:KE}{L:List MV}
theorem OW{a:Nat}(h:a<=300):a<1114112:=(F1 h)
theorem Fo{f:List Nat}{l:Nat}{w:Bool}(b:Y l=aA (.list (iV f)))(G:f.length<=5/\∀c∈f,c<=300)(h:∀I,Ext Y I->k (.str (if w then gi f else f)) I):(bY TB (G0 L) (d+1)).call 128 [.ref l,.bool w] [] Y k x:=by
 refine call_in (F:=G7) (loc:=[aA (.ref l),aA (.bool w)]) rfl rfl ?_;cases w with
 |false=>
    repeat k_memK
    refine lJ ?_;repeat k_memK
    refine rP b ?_;refine MW b (by delta aX;lia) (λ c j=>OW (G.2 c j)) λ n g=>?_;repeat k_memK
    refine uW (upd_same ..) (zR f) (by delta aX;lia) ?_;exact h _ (.new g _)|true=>
    have e:=LH f;repeat k_memK
    refine lJ ?_;repeat k_memK
    refine rP b ?_;refine wG (caps:=[]) (src:=aA (l,iV f)) (dR b) (λ v=>match v with|.int i=>.str (AS i.toNat)|_=>.none) (λ U U h=>h) _ [] aB (by delta iV aX;rw[List.length_map];show 0+_<=_;lia) (λ v o K s=>?_) λ n g=>?_
    · obtain⟨c,j,rfl⟩:=List.mem_map.mp o;have m:=OW (G.2 c j);have a:K (.str (AS c)) Y:=s;delta AS at a;repeat k_memK
      refine(itP_of (λ z=>?_) λ z=>?_)
      · have q:c=34\/c=92:=by
         rcases eK.mp (show(cH ((34:Int)=c)||(cH ((92:Int)=c)||aG))=aC from z)with z|z;·have :=of_decide_eq_true z;lia
         ·rw[lC]at z;have :=of_decide_eq_true z;lia
        rw[if_pos q]at a;repeat k_memK
        exact a
      · have q:¬(c=34\/c=92):=λ q=>by
         haveI p:(cH ((34:Int)=c)||(cH ((92:Int)=c)||aG))=aG:=z;rcases q with rfl|rfl<;>cases p
        rw[if_neg q]at a;repeat k_memK
        exact a
    · haveI r:[]++(iV f).map (λ v=>match v with|.int i=>MV.str (AS i.toNat)|_=>.none)=OJ (f.map AS):=by delta iV OJ;rw[List.nil_append,List.map_map,List.map_map];rfl
      rw[r];repeat k_memK
      refine uW (upd_same ..) (t:=f.flatMap AS) (by rw[KW,List.flatMap_def]) (by delta aX;lia) ?_;repeat k_memK
      refine mY (by delta aX;show 1+_<=_;lia) ?_;repeat k_memK
      refine mY (by delta aX;rw[List.length_append];show 1+_+1<=_;lia) ?_;exact h _ (.new g _)
theorem FZ.get:∀{ts:List T}{Z:List MV}{n:Nat}{v:MV},FZ M Y ts Z->Z[n]?=aA v->∃t,ts[n]?=aA t/\TR M Y t v
 |[],_,n,_,r,e=>by rw[r]at e;rw[List.getElem?_nil]at e;cases e|t::ts,_,0,v,r,e=>by obtain⟨u,r,rfl,h,_⟩:=r;cases e;exact⟨t,rfl,h⟩|t::ts,_,n+1,v,r,e=>by obtain⟨u,r,rfl,_,h⟩:=r;exact FZ.get (ts:=ts) (n:=n) h e
theorem RI{q:Bool}:∀{g:List T},NE q g->∀t∈g,Wf q t:=by
 intro b;induction b with
 |nil=>
 intro U t h;exact nomatch h|cons u g a=>
 intro w t h;rcases List.mem_cons.mp h with rfl|h;·exact w.1
 ·exact a w.2 t h
theorem QR(w:Bool):∀(g:List T)(t:T),t∈g->(tx w t).length<=(wB w g).length
 |[]=>λ U h=>nomatch h|[u]=>λ t h=>by rw[List.mem_singleton.mp h,wK,List.append_nil];exact Nat.le_refl _|u::v::r=>λ t h=>by
  rw[wL,List.length_append,List.length_cons];rcases List.mem_cons.mp h with rfl|h;·exact F0
  ·haveI :=QR w (v::r) t h;exact F1 this
theorem IX(w:Bool):∀g:List T,g.length<=(wB w g).length+1
 |[]=>Nat.zero_le _|[u]=>by rw[wK,List.append_nil];show 1<=_;exact F0|u::v::r=>by
  haveI :=IX w (v::r);rw[wL];simp only[List.length_append,List.length_cons]at*;exact F1 this
theorem GO(w:Bool):∀g:List T,qE [32] (OJ (g.map (tx w)))=aA (wB w g)
 |[]=>rfl|[t]=>by rw[wK,List.append_nil];rfl|t::u::r=>by
  haveI :=GO w (u::r);show((qE [32] (OJ ((u::r).map (tx w)))).map λ s=>tx w t++([32]++s))=_;rw[this,wL];rfl
theorem Ad{b:kP}{G:Gl}{B:Loc}{u:List (Nat×List Nat)}{a pG:ME}(h:bX b G a B Y (λ V Y=>bX b G pG B Y (λ d Y=>OptK (xY V) λ i=>k (AK u i d) Y) x) x):bX b G (.pick u a pG) B Y k x:=h
theorem dh(c:Nat):AK [(32,[115,112,97,99,101]),(10,[110,101,119,108,105,110,101])] (c:Int) (.str [c])=.str (DG c):=by
  delta AK DG;by_cases q:c=32;·rw[q];rfl
  · haveI e:((32:Int)==(c:Int))=aG:=beq_eq_false_iff_ne.mpr (by lia);by_cases a:c=10;·rw[a];rfl
    ·haveI b:((10:Int)==(c:Int))=aG:=beq_eq_false_iff_ne.mpr (by lia);rw[if_neg q,if_neg a,List.find?_cons_of_neg (by show¬((32:Int)==(c:Int))=aC;rw[e];exact cP),List.find?_cons_of_neg (by show¬((10:Int)==(c:Int))=aC;rw[b];exact cP)];rfl
theorem wu{i:Int}(h:i.natAbs<=1000)(hk:k (.str (pF i)) Y):NY Y 5 [.int i] k:=by
 haveI e:rp Y 5 (.int i)=aA (.str (pF i)):=by
  show(if i.natAbs<10^20/\(KT i).length<=aX then aA (MV.str (KT i))else aB)=_;haveI :=KJ h;rw[bc h,if_pos ⟨by lia,by exact lm this⟩]
 haveI a:NY Y 5 [.int i] k=OptK (rp Y 5 (.int i)) λ r=>k r Y:=rfl;rw[a,e];exact hk
theorem rY{w:Bool}{t:T}{v:MV}(a:TR M Y t v)(e:Wf aG t)(n:AU t=aC)(h:∀I,Ext Y I->k (.str (tx w t)) I):(bY TB (G0 L) (d+2)).call 129 [v,.bool w] [] Y k x:=by
 refine call_in (F:=pq) (loc:=[aA v,aA (.bool w),aB,aB,aB]) rfl rfl ?_;cases t with
 |ch c=>
  subst a;have o:=OW e;repeat k_memK
  cases w with
  |true=>
  iterate 3 k_memK
  with_reducible refine Ad ?_
  iterate 4 k_memK
  haveI g:∀K:MV->Prop,K (.str (DG c))->OptK (xY (.int c)) λ i=>K (AK [(32,[115,112,97,99,101]),(10,[110,101,119,108,105,110,101])] i (.str [c])):=λ K h=>by
   show K (AK _ (c:Int) _);rw[dh];exact h
  refine g (λ v=>OptK (CU .Add (.str [35,92]) v) λ r=>k r Y) ?_;refine mY (by delta DG;split<;>(try split)<;>exact Nat.le_of_ble_eq_true rfl) ?_;exact h _ (.refl _)|false=>
  repeat k_memK
  exact h _ (.refl _)
 |st f=>
  obtain⟨l,rfl,_,m⟩:=a;repeat k_memK
  exact Fo m e h|nu i=>
  subst a;repeat k_memK
  refine wu e ?_;exact h _ (.refl _)|tr b=>
  subst a;cases b with
  |true=>
  repeat k_memK
  exact h _ (.refl _)|false=>
  repeat k_memK
  exact h _ (.refl _)
 |sy j=>
  subst a;repeat k_memK
  exact h _ (.refl _)|_=>cases n
noncomputable abbrev pB(w:Bool)(g:List T)(Y:MH)(I:MH)(G:List MV):Prop:=G=OJ ((g.take G.length).map (tx w))/\Ext Y I
theorem TE{w:Bool}:∀(n:Nat)(t:T)(v:MV)(Y:MH)(k x:KE),TR M Y t v->Wf aG t->Dp n t->(tx w t).length<=1000->(∀I,Ext Y I->k (.str (tx w t)) I)->(bY TB (G0 L) (d+n+2)).call 129 [v,.bool w] [] Y k x:=by
 intro n;induction n with
 |zero=>intro t v Y k x s r J C h;exact rY s r J h|succ n X=>
 intro t v Y k x s r J C h;have p:∀(g:List T)(Z:List MV)(l:Nat)(Q:KE),Y l=aA (.list Z)->FZ M Y g Z->NE aG g->(∀u∈g,Dp n u)->g.length<=1000->(wB w g).length<=1000->(∀a I,Ext Y I->I a=aA (.list (OJ (g.map (tx w))))->Q (.ref a) I)->OptK (lZ Y 0 [.ref l]) λ q=>pI (λ loc Y k=>bX (bY TB (G0 L) (d+n+2)) (G0 L) (.call 129 [(.l 0),(.l 1)] []) loc Y k λ U U=>False) (λ loc Y k=>AE (bY TB (G0 L) (d+n+2)) (G0 L) [] loc Y k) 1 q.1 q.2 [] [aB,aA (.bool w)] Y Q:=λ g Z l Q C o N R e O hQ=>by
      refine rP C ?_;refine vM (src:=aA (l,Z)) (vs0:=Z) (caps:=[aA (.bool w)]) (pB w g Y) (λ I G y=>dR (y.2 _ _ C)) (λ U U U h=>h) (by rw[o.len];exact e) (λ v G H K hv y hK=>?_) (λ G H P y a A=>?_) Z [] aB Y rfl (Nat.zero_le _) ⟨rfl,.refl _⟩
      · obtain⟨u,W,S⟩:=o.get hv;have B:=List.mem_of_getElem? W;repeat k_memK
        refine X u v H K (λ U U=>False) (TR.mono y.2.m _ _ S) (RI N u B) (R u B) (Nat.le_trans (QR w g u B) O) λ a1 E=>hK _ _ ⟨?_,y.2.trans E⟩;rw[List.length_append];show G++[.str (tx w u)]=OJ ((g.take (G.length+1)).map (tx w));rw[List.take_add_one,W,List.map_append];delta OJ;rw[List.map_append];exact congrArg (·++[MV.str (tx w u)]) y.1
      ·refine hQ a _ (y.2.upd (y.2.off A) _) ?_;rw[upd_same,y.1,P,o.len,List.take_length]
 cases t with
 |ve g=>
      obtain⟨l,Z,rfl,_,z,o⟩:=s;have e:(wB w g).length+3<=1000:=by
        have :(tx w (.ve g)).length=(wB w g).length+3:=by rw[List.length_cons,List.length_cons,List.length_append];rfl
        exact(F2 C (Nat.le_of_eq this.symm))
      refine call_in (d:=d+n+2) (F:=pq) (loc:=[aA (.tup [.str [118,101,99,116,111,114],.ref l]),aA (.bool w),aB,aB,aB]) rfl rfl ?_;repeat k_memK
      refine lJ (r_args (r_sv (.l 3) rfl (r_args0 (p g Z l _ z o r.2 J (by have :=r.1;lia) (F1 e) λ a I E A=>?_))));repeat k_memK
      refine uW A (GO w g) (by delta aX;exact F1 e) ?_;repeat k_memK
      refine mY (by delta aX;show 2+_<=_;exact F1 e) ?_;repeat k_memK
      refine mY (by delta aX;rw[List.length_append];show 2+_+1<=_;exact F1 e) ?_;exact h _ E|ls g V=>
      obtain⟨l,Z,rfl,_,z,o⟩:=s;have e:(wB w g).length+2<=1000:=by
        have :(tx w (.ls g V)).length>=(wB w g).length+2:=by rw[List.length_cons,List.length_append];split<;>(simp only[List.length_cons,List.length_nil];lia)
        exact F2 C this
      have D:g.length<=1000:=by
       haveI :=IX w g;exact F2 e this
      refine call_in (d:=d+n+2) (F:=pq) (loc:=[aA (.tup [.str (if V then[100,111,116,116,101,100]else[108,105,115,116]),.ref l]),aA (.bool w),aB,aB,aB]) rfl rfl ?_;cases V with
  |true=>
        repeat k_memK
        refine lJ (r_args (r_sv (.l 3) rfl (r_args0 (p g Z l _ z o r.2 J D (F1 e) λ a I E A=>?_))));repeat k_memK
        refine uW A (GO w g) (by unfold aX;exact F1 e) ?_;repeat k_memK
        refine mY (by unfold aX;show 1+_<=_;exact F1 e) ?_;repeat k_memK
        refine mY (by unfold aX;rw[List.length_append];show 1+_+5<=_;exact F1 e) ?_;exact h _ E|false=>
        repeat k_memK
        refine lJ (r_args (r_sv (.l 3) rfl (r_args0 (p g Z l _ z o r.2 J D (F1 e) λ a I E A=>?_))));repeat k_memK
        refine uW A (GO w g) (by delta aX;exact F1 e) ?_;repeat k_memK
        refine mY (by delta aX;show 1+_<=_;exact F1 e) ?_;repeat k_memK
        refine mY (by delta aX;rw[List.length_append];show 1+_+1<=_;exact F1 e) ?_;exact h _ E
 |ch c=>exact rY s r rfl h|st f=>exact rY s r rfl h|nu i=>exact rY s r rfl h|tr b=>exact rY s r rfl h|sy j=>exact rY s r rfl h|qt _ _=>exact False.elim s
end
noncomputable def sH(M:Nat->Prop)(Y:MH)(u:MV):List MV->MV->Prop
 |[],v=>v=u|x::B,v=>∃a G,v=.ref a/\¬M a/\Y a=aA (.inst 149 [(5,x),(6,G),(7,.none)])/\sH M Y u B G
section
variable{M:Nat->Prop}{X:fZ}{Y I:MH}{d:Nat}{k x:KE}{L:List MV}
theorem sH.mono{u:MV}(e:fV M Y I):∀(B:List MV)(v:MV),sH M Y u B v->sH M I u B v:=by
 intro i;induction i with
 |nil=>
 intro U h;exact h|cons _ B b=>
 intro U c;obtain⟨a,G,y,K,g,f⟩:=c;exact⟨a,G,y,K,e a _ K g,b G f⟩
theorem sH.rep{dot:Bool}:∀{g:List T}{Z:List MV}{v:MV},jC M X Y g Z->sH M Y (if dot then .int 5 else .cst 44) Z v->tY M X Y dot g v:=by
 intro e;induction e with
 |nil=>
 intro Z v r c;subst r;exact c|cons t g b=>
 intro Z v r c;obtain⟨u,r,rfl,y,K⟩:=r;obtain⟨a,G,f,N,h,i⟩:=c;exact⟨a,u,G,f,N,h,y,b K i⟩
noncomputable abbrev Ob:List MS:=[.asg (.l 2) (.new 7 [(.idx (.l 0) (.l 3)),(.l 2)])]
theorem nz{b:MH}{l:Nat}{Z:List MV}{u:MV}{H:KL}{F:KE}(p:∀a,M a->(b a).isSome)(j:b l=aA (.list Z)):∀(n:Nat)(Y:MH)(v:MV)(o:Option MV),n<=Z.length->Ext b Y->sH M Y u (Z.drop n) v->(∀I i o,Ext b I->sH M I u Z i->H [aA (.ref l),aA u,aA i,o] I)->tT (uU (bY TB (G0 L) (d+1)) (G0 L) Ob F) [3] aB (pl n) [aA (.ref l),aA u,aA v,o] Y H:=by
 intro q;induction q with
 |zero=>
 intro Y v o U E c h;exact⟨trivial,h Y v o E c⟩|succ n e=>
 intro Y v o g E c h;haveI r:Z[n]?=aA Z[n]:=List.getElem?_eq_getElem g;refine⟨trivial,OptK.some rfl (lK ?_)⟩;refine t_asg (r_new rfl (r_args (r_idx (r_sv (.l 0) rfl (r_sv (.l 3) rfl (k_idx (E _ _ j) (by rw[qH];exact r) (r_args (r_sv (.l 2) rfl (r_args0 (QH λ a f=>?_))))))))));repeat k_memK
 refine e _ (.ref a) _ (Nat.le_of_succ_le g) (E.upd (E.off f) _) ?_ h;rw[List.drop_eq_getElem_cons g];refine⟨a,v,rfl,λ m=>?_,upd_same ..,c.mono (Ext.m (Ext.new f _))⟩;have :=p a m;rw[E.off f]at this;cases this
theorem fv{l:Nat}{Z:List MV}{tl:MV}(b:∀a,M a->(Y a).isSome)(e:Y l=aA (.list Z))(G:Z.length<=1000)(h:∀v I,Ext Y I->sH M I tl Z v->k v I):(bY TB (G0 L) (d+2)).call 17 [.ref l,tl] [] Y k x:=by
 refine call_in (F:=Ls) (loc:=[aA (.ref l),aA tl,aB,aB]) rfl rfl ?_;repeat k_memK
 refine tD ?_;repeat k_memK
 refine NF G ?_;refine nz (M:=M) b e Z.length Y tl aB (Nat.le_refl _) (.refl _) (by rw[List.drop_length];rfl) λ I i o E c=>?_;repeat k_memK
 exact h i I E c
/-! the table -/
noncomputable def HF:List (List Nat):=[ER 0,ER 1,ER 2,ER 3,ER 4,qn 0,qn 1,qn 2,qn 3]
structure TS(M:Nat->Prop)(Y:MH)(tb rows byt:Nat)(X:fZ):Prop where
 h1:Y tb=aA (.inst 128 [(3,.ref rows),(4,.ref byt)])ntb:¬M tb
 h2:Y byt=aA (.sdict X)h3:∃rl,Y rows=aA (.list rl)/\rl.length=X.length
 mr:M rows
 mb:M byt
 ne:byt≠gC
 ent:∀e∈X,∃a i,e.2=.ref a/\¬M a/\Y a=aA (.inst 65 [(1,.int i),(2,.str e.1)])nm:∀e∈X,e.1∈HF
 nd:(X.map (·.1)).Nodup
 al:∀a,M a->(Y a).isSome
noncomputable def M3(A f:Nat):Nat->Prop:=λ a=>a=A\/a=f
theorem UV:∀(m l:List (List Nat)),l.Nodup->(∀x∈l,x∈m)->l.length<=m.length:=by
 intro f;induction f with
 |nil=>
  intro l U h;cases l with
  |nil=>exact Nat.le_refl _|cons a l=>exact absurd (h a (List.mem_cons_self ..)) (by simp)
 |cons a m c=>
  intro l e h;have :=c (l.erase a) (e.erase a) λ x g=>by
   have b:=(List.Nodup.mem_erase_iff e).mp g;exact(List.mem_cons.mp (h x b.2)).resolve_left b.1
  have :l.length<=(l.erase a).length+1:=by
   by_cases q:a∈l;·rw[List.length_erase_of_mem q];lia
   ·rw[List.erase_of_not_mem q];exact F0
  rw[List.length_cons];lia
theorem TS.len{Q A f:Nat}(S:TS M Y Q A f X):X.length<=9:=by
 have :=UV HF (X.map (·.1)) S.nd λ x b=>by
  obtain⟨e,a,rfl⟩:=List.mem_map.mp b;exact S.nm e a
 rw[List.length_map]at this;exact this
theorem TS.tab{Q A f:Nat}(S:TS M Y Q A f X):xT X Y Q:=by
 obtain⟨N,b,_⟩:=S.h3;exact⟨⟨A,f,N,S.h1,S.h2,S.ne,b⟩,λ e c=>by obtain⟨a,i,y,_,K⟩:=S.ent e c;exact⟨a,i,y,K⟩⟩
theorem TS.sub{Q A f:Nat}(S:TS M Y Q A f X)(e:fV (M3 A f) Y I):fV M Y I:=λ a o n h=>e a o (λ q=>n (q.elim (λ z=>z▸S.mr) λ z=>z▸S.mb)) h
theorem TS.ext{Q A f:Nat}(S:TS M Y Q A f X)(e:Ext Y I):TS M I Q A f X:=by
 obtain⟨N,g,j⟩:=S.h3;exact⟨e _ _ S.h1,S.ntb,e _ _ S.h2,⟨N,e _ _ g,j⟩,S.mr,S.mb,S.ne,λ p b=>by obtain⟨a,i,y,c,K⟩:=S.ent p b;exact⟨a,i,y,c,e _ _ K⟩,S.nm,S.nd,λ a h=>by obtain⟨o,l⟩:=aS.mp (S.al a h);rw[e _ _ l];rfl⟩
noncomputable def z9(M:Nat->Prop)(Y:MH)(Q A f:Nat)(X:fZ)(R:fZ->MH->MV->Prop)(k:KE):Prop:=∀v I p,R p I v->TS M I Q A f p->jM X p->fV (M3 A f) Y I->k v I
theorem my{s:List Nat}{Q:Nat}(t:xT X Y Q)(h:AL X s=.none):X.find? (·.1==s)=aB:=by
 delta AL at h;cases e:X.find? (·.1==s)with
 |none=>rfl|some p=>
 rw[e]at h;obtain⟨a,i,y,_⟩:=t.ent p (List.mem_of_find?_eq_some e);have :p.2=.none:=h;rw[y]at this;cases this
theorem s9{Q A f:Nat}{s:List Nat}(S:TS M Y Q A f X)(hs:s∈HF)(h:z9 M Y Q A f X (λ X Y v=>AC M X Y s v) k):(bY TB (G0 L) (d+2)).meth 128 6 [.ref Q,.str s] Y k x:=by
  refine dX (F:=ue) (loc:=[aA (.ref Q),aA (.str s),aB]) rfl rfl ?_;have y:=S.h1;repeat k_memK
  refine PW S.h2 S.ne ?_;repeat k_memK
  refine QJ S.h2 ?_;have K:∀{a:Nat},AL X s=.ref a->(X.find? (·.1==s)).map (·.2)=aA (.ref a):=λ{a}e=>by
   delta AL at e;cases q:(X.find? (·.1==s)).map (·.2)with
 |none=>rw[q]at e;cases e|some v=>rw[q]at e;exact congrArg aA e
  rcases S.tab.at s with e|⟨a,i,e,l⟩
  · have C:=my S.tab e;rw[e];obtain⟨N,H,t⟩:=S.h3;have l9:=S.len;repeat k_memK
    refine rG (F:=I5) rfl (λ n=>[aA (.ref n),aA (.int N.length),aA (.str s)]) (λ U=>rfl) (λ U=>rfl) (λ U=>rfl) λ n r=>?_;have D:∀a,M a->a≠n:=λ a l e=>by have :=S.al a l;rw[e,r]at this;cases this
    haveI nr:=D A S.mr;haveI nb:=D f S.mb;have a1:Q≠n:=λ e=>by have :=S.h1;rw[e,r]at this;cases this
    have w:A≠f:=λ e=>by rw[e,S.h2]at H;cases H
    haveI J:Q≠A:=λ e=>S.ntb (e▸S.mr);haveI z:Q≠f:=λ e=>S.ntb (e▸S.mb);haveI g1:upd Y n (.inst 65 [(1,.int N.length),(2,.str s)]) Q=aA (.inst 128 [(3,.ref A),(4,.ref f)]):=upd_some _ S.h1 r;haveI g2:upd Y n (.inst 65 [(1,.int N.length),(2,.str s)]) A=aA (.list N):=upd_some _ H r;show cF _ _ _ _ (upd Y n (.inst 65 [(1,.int N.length),(2,.str s)])) _ _ _ _;repeat k_memK
    refine gQ g2 (by delta aX;exact(F2 (Nat.le_of_eq t) l9)) ?_;haveI g3:upd (upd Y n (.inst 65 [(1,.int N.length),(2,.str s)])) A (.list (N++[.ref n])) Q=aA (.inst 128 [(3,.ref A),(4,.ref f)]):=by rw[cE _ _ J];exact g1
    haveI g4:upd (upd Y n (.inst 65 [(1,.int N.length),(2,.str s)])) A (.list (N++[.ref n])) f=aA (.sdict X):=by rw[cE _ _ w.symm];exact upd_some _ S.h2 r
    repeat k_memK
    refine⟨f,rfl,.inr ⟨s,X,rfl,g4,C,by exact lm l9,?_⟩⟩;have Z:fV (M3 A f) Y (upd (upd (upd Y n (.inst 65 [(1,.int N.length),(2,.str s)])) A (.list (N++[.ref n]))) f (.sdict (X++[(s,.ref n)]))):=((Ext.m (Ext.new r _)).upd (.inl rfl) _).upd (.inr rfl) _;have P:∀o R:MO,upd (upd (upd Y n (.inst 65 [(1,.int N.length),(2,.str s)])) A o) f R n=aA (.inst 65 [(1,.int N.length),(2,.str s)]):=λ o R=>by rw[cE _ _ nb.symm,cE _ _ nr.symm,upd_same]
    have W:¬M n:=λ m=>D n m rfl;haveI S':TS M (upd (upd (upd Y n (.inst 65 [(1,.int N.length),(2,.str s)])) A (.list (N++[.ref n]))) f (.sdict (X++[(s,.ref n)]))) Q A f (X++[(s,.ref n)]):=by
      refine⟨by rw[cE _ _ z];exact g3,S.ntb,upd_same ..,⟨N++[.ref n],by rw[cE _ _ w,upd_same],by rw[List.length_append,List.length_append,t];rfl⟩,S.mr,S.mb,S.ne,λ p c=>?_,λ p c=>?_,?_,λ a l=>?_⟩
      · rcases List.mem_append.mp c with q|q
        ·obtain⟨a,i,j,g,O⟩:=S.ent p q;exact⟨a,i,j,g,S.sub Z _ _ g O⟩
        ·rw[List.mem_singleton.mp q];exact⟨n,_,rfl,W,P _ _⟩
      · rcases List.mem_append.mp c with q|q;·exact S.nm p q
        ·rw[List.mem_singleton.mp q];exact hs
      ·rw[List.map_append,List.nodup_append];refine⟨S.nd,by simp,λ a l b G=>?_⟩;rw[List.mem_singleton.mp G];rintro rfl;obtain⟨p,c,e⟩:=List.mem_map.mp l;haveI :=List.find?_eq_none.mp C p c;exact this (by rw[e];exact beq_self_eq_true _)
      · by_cases j:a=f;·rw[j,upd_same];rfl
        · rw[cE _ _ j];by_cases g:a=A;·rw[g,upd_same];rfl
          ·rw[cE _ _ g];obtain⟨o,ho⟩:=aS.mp (S.al a l);rw[upd_some _ ho r];rfl
    repeat k_memK
    refine h (.ref n) _ _ ⟨n,_,rfl,W,P _ _,?_⟩ S' (λ u B E=>?_) Z
    ·rw[List.find?_append,C];show(([(s,MV.ref n)].find? λ p=>p.1==s)).map (·.2)=_;rw[List.find?_cons_of_pos (p:=λ p:List Nat×MV=>p.1==s) (beq_self_eq_true s)];rfl
    ·rw[List.find?_append];cases q:X.find? (·.1==u)with
 |none=>rw[q]at E;cases E|some p=>rw[q]at E;exact E
  · rw[e];repeat k_memK
    obtain⟨p,c,e2⟩:=bO.mp (K e);obtain⟨V,i',j,g,O⟩:=S.ent p (List.mem_of_find?_eq_some c);rw[e2]at j;cases j;exact h (.ref a) Y X ⟨a,i,rfl,g,l,K e⟩ S (.refl _) (fV.refl _ _)
theorem bp:∀j<5,ER j∈HF:=by decide
theorem jM.trans{a b c:fZ}(x:jM a b)(y:jM b c):jM a c:=λ s v h=>y s v (x s v h)
theorem WP:∀g:List T,g.length<=sA g:=by
 intro b;induction b with
 |nil=>exact Nat.le_refl _|cons t g a=>rw[qC,List.length_cons];haveI :=a;exact F1 this
theorem wn:∀(g:List T)(t:T),t∈g->sT t<=sA g:=by
 intro b;induction b with
 |nil=>
 intro U h;exact nomatch h|cons u g a=>
 intro t h;rw[qC];rcases List.mem_cons.mp h with rfl|h;·exact F0
 ·haveI :=a t h;exact F1 this
theorem vY{Q A f:Nat}{t:T}{v:MV}(S:TS M Y Q A f X)(o:TR M Y t v)(u:Wf aG t)(z:AU t=aC)(h:z9 M Y Q A f X (λ X Y v=>iG M X Y t v) k):(bY TB (G0 L) (d+3)).call 130 [v,.ref Q] [] Y k x:=by
 refine call_in (F:=iy) (loc:=[aA v,aA (.ref Q),aB,aB,aB]) rfl rfl ?_;have g:∀n,Y n=aB->¬M n:=λ n e m=>by have :=S.al n m;rw[e]at this;cases this
 cases t with
 |ch c=>
 subst o;repeat k_memK
 refine rG (F:=I8) rfl (λ n=>[aA (.ref n),aA (.int c)]) (λ U=>rfl) (λ U=>rfl) (λ U=>rfl) λ n e=>?_;exact h _ _ X (by exact⟨n,rfl,g n e,upd_same ..⟩) (S.ext (Ext.new e _)) (.refl _) (Ext.m (Ext.new e _))|st P=>
 obtain⟨l,rfl,_,C⟩:=o;repeat k_memK
 refine a0 C λ a s=>?_;repeat k_memK
 refine rG (F:=I9) rfl (λ n=>[aA (.ref n),aA (.ref a)]) (λ U=>rfl) (λ U=>rfl) (λ U=>rfl) λ n e=>?_;obtain⟨_,q⟩:=eQ e;exact h _ _ X (by exact⟨n,a,rfl,g n q,g a s,upd_same ..,upd_some _ (upd_same ..) e⟩) (S.ext ((Ext.new s _).trans (Ext.new e _))) (.refl _) (Ext.m ((Ext.new s _).trans (Ext.new e _)))|nu i=>
 subst o;repeat k_memK
 exact h _ _ X (by rfl) S (.refl _) (fV.refl _ _)|tr b=>
 subst o;repeat k_memK
 exact h _ _ X (by rfl) S (.refl _) (fV.refl _ _)|sy j=>
 subst o;have y:=S.h1;repeat k_memK
 exact s9 S (bp j u) λ v I p r w D B=>h v I p (by exact r) w D B|_=>cases z
theorem jC.snoc{t:T}{v:MV}(h:iG M X Y t v):∀{g:List T}{Z:List MV},jC M X Y g Z->jC M X Y (g++[t]) (Z++[v]):=by
 intro b;induction b with
 |nil=>
 intro Z r;subst r;show jC M X Y [t] [v];exact⟨v,[],rfl,h,rfl⟩|cons u g a=>
 intro Z r;obtain⟨w,r,rfl,y,K⟩:=r;show jC M X Y (u::(g++[t])) (w::(r++[v]));exact⟨w,_,rfl,y,a K⟩
theorem ZX{R A f:Nat}:∀(n:Nat)(t:T)(v:MV)(X:fZ)(Y:MH)(k x:KE),TS M Y R A f X->TR M Y t v->Wf aG t->Dp n t->sT t<=900->z9 M Y R A f X (λ X Y v=>iG M X Y t v) k->(bY TB (G0 L) (d+n+3)).call 130 [v,.ref R] [] Y k x:=by
 intro n;induction n with
 |zero=>intro t v X Y k x S V J hd hs h;exact vY S V J hd h|succ n ih=>
 intro t v X Y k x S V J hd hs h;have B:∀(g:List T)(Z:List MV)(l:Nat)(Q:KE),Y l=aA (.list Z)->¬M l->FZ M Y g Z->NE aG g->(∀u∈g,Dp n u)->sA g<=900->(∀a s I p,I a=aA (.list s)->¬M a->s.length=g.length->jC M p I g s->TS M I R A f p->jM X p->fV (M3 A f) Y I->Q (.ref a) I)->OptK (lZ Y 0 [.ref l]) λ q=>pI (λ loc Y k=>bX (bY TB (G0 L) (d+n+3)) (G0 L) (.call 130 [(.l 0),(.l 1)] []) loc Y k λ U U=>False) (λ loc Y k=>AE (bY TB (G0 L) (d+n+3)) (G0 L) [] loc Y k) 1 q.1 q.2 [] [aB,aA (.ref R)] Y Q:=λ g Z l Q hl hM o ap ao y hQ=>by
      have C:=WP g;refine rP hl ?_;refine vM (src:=aA (l,Z)) (vs0:=Z) (caps:=[aA (.ref R)]) (λ I G=>∃p,jC M p I (g.take G.length) G/\TS M I R A f p/\jM X p/\fV (M3 A f) Y I) (λ I G hp=>by obtain⟨p,_,w,_,E⟩:=hp;exact dR (S.sub E _ _ hM hl)) (λ U U U h=>h) (by rw[o.len];exact F2 y C) (λ v G H K hv hp hK=>?_) (λ G H a4 hp a O=>?_) Z [] aB Y rfl (Nat.zero_le _) ⟨X,(by show jC M X Y [] [];rfl),S,.refl _,fV.refl _ _⟩
      · obtain⟨u,hu,a6⟩:=o.get hv;obtain⟨p,a1,w,L1,E1⟩:=hp;have a2:=List.mem_of_getElem? hu;repeat k_memK
        refine ih u v p H K (λ U U=>False) w (TR.mono (S.sub E1) _ _ a6) (RI ap u a2) (ao u a2) (by have :=wn g u a2;exact F2 y this) λ v3 a5 a3 r3 S3 L3 E3=>hK _ _ ⟨a3,?_,S3,L1.trans L3,E1.trans E3⟩;rw[List.length_append];show jC M a3 a5 (g.take (G.length+1)) _;rw[List.take_add_one,hu];exact jC.snoc r3 (jC.mono (w.sub E3) L3 _ _ a1)
      · obtain⟨p,a1,w,L1,E1⟩:=hp;haveI e:g.take G.length=g:=by rw[a4,o.len,List.take_length]
        rw[e]at a1;have na:¬M a:=λ m=>by have :=w.al a m;rw[O]at this;cases this
        exact hQ a G _ p (upd_same ..) na (by rw[a4,o.len]) (jC.mono (Ext.m (Ext.new O _)) (.refl _) _ _ a1) (w.ext (Ext.new O _)) L1 (E1.trans (Ext.m (Ext.new O _)))
 cases t with
 |ve g=>
      obtain⟨l,Z,rfl,nl,W,o⟩:=V;refine call_in (d:=d+n+3) (F:=iy) (loc:=[aA (.tup [.str [118,101,99,116,111,114],.ref l]),aA (.ref R),aB,aB,aB]) rfl rfl ?_;repeat k_memK
      refine lJ (r_args (r_sv (.l 3) rfl (r_args0 (B g Z l _ W nl o J.2 hd (by rw[NH]at hs;exact F1 hs) λ a s I p O na U r w D E'=>?_))));repeat k_memK
      refine rG (F:=Gm) rfl (λ n=>[aA (.ref n),aA (.ref a)]) (λ U=>rfl) (λ U=>rfl) (λ U=>rfl) λ n hn=>?_;haveI nM:¬M n:=λ m=>by have :=w.al n m;rw[hn]at this;cases this
      exact h _ _ p (by exact⟨n,a,s,rfl,nM,na,upd_same ..,upd_some _ O hn,jC.mono (Ext.m (Ext.new hn _)) (.refl _) _ _ r⟩) (w.ext (Ext.new hn _)) D (E'.trans (Ext.m (Ext.new hn _)))|ls g dot=>
      obtain⟨l,Z,rfl,nl,W,o⟩:=V;have y:sA g<=900:=by rw[JB]at hs;exact F1 hs
      have C:=WP g;refine call_in (d:=d+n+3) (F:=iy) (loc:=[aA (.tup [.str (if dot then[100,111,116,116,101,100]else[108,105,115,116]),.ref l]),aA (.ref R),aB,aB,aB]) rfl rfl ?_;cases dot with
  |true=>
        repeat k_memK
        refine lJ (r_args (r_sv (.l 3) rfl (r_args0 (B g Z l _ W nl o J.2 hd y λ a s I p O na hl r w D E'=>?_))));repeat k_memK
        refine fv w.al O (F3 y C (Nat.le_of_eq hl)) λ z H E2 N=>?_;exact h _ _ p (by exact sH.rep (dot:=aC) (jC.mono E2.m (.refl _) _ _ r) N) (w.ext E2) D (E'.trans E2.m)|false=>
        repeat k_memK
        refine lJ (r_args (r_sv (.l 3) rfl (r_args0 (B g Z l _ W nl o J.2 hd y λ a s I p O na hl r w D E'=>?_))));repeat k_memK
        refine fv w.al O (F3 y C (Nat.le_of_eq hl)) λ z H E2 N=>?_;exact h _ _ p (by exact sH.rep (dot:=aG) (jC.mono E2.m (.refl _) _ _ r) N) (w.ext E2) D (E'.trans E2.m)
 |ch c=>exact vY S V J rfl h|st P=>exact vY S V J rfl h|nu i=>exact vY S V J rfl h|tr b=>exact vY S V J rfl h|sy j=>exact vY S V J rfl h|qt _ _=>exact False.elim V
end
/-! the lexer -/
noncomputable def iw(a:List Nat)(p:Nat):MO:=.inst 1000 [(2,.str a),(20,.int 53),(21,.int p),(22,.bool aC)]
noncomputable def LX(Y:MH)(W:Nat)(a:List Nat)(p:Nat):Prop:=Y W=aA (iw a p)
noncomputable def gf(w:List Nat)(v:MV)(a b:Nat):MO:=.inst 859 [(11,.str w),(17,v),(18,.int a),(19,.int b)]
noncomputable def XL(W:Nat)(Y I:MH):Prop:=∀a o,a≠W->Y a=aA o->I a=aA o
theorem XL.refl(W:Nat)(Y:MH):XL W Y Y:=λ U U U e=>e
theorem XL.trans{W:Nat}{a b c:MH}(x:XL W a b)(y:XL W b c):XL W a c:=λ n o m e=>y n o m (x n o m e)
theorem XL.ext{W:Nat}{a b c:MH}(x:XL W a b)(y:Ext b c):XL W a c:=λ n o m e=>y n o (x n o m e)
theorem XL.set{W:Nat}{a b:MH}(x:XL W a b)(o:MO):XL W a (upd b W o):=λ n A m e=>by rw[cE _ _ m];exact x n A m e
theorem AX{a:List Nat}{p c:Nat}{r:List Nat}(h:a.drop p=c::r):a[p]?=aA c/\p<a.length:=by
 have :=congrArg (λ l:List Nat=>l[0]?) h;rw[BN]at this;have e:a[p]?=aA c:=this;exact⟨e,(dE.mp e).1⟩
theorem cC{txt u r:List Nat}{p:Nat}(h:txt.drop p=u++r):txt.drop (p+u.length)=r:=by rw[<-List.drop_drop,h,List.drop_left]
theorem eO{a u r:List Nat}{p:Nat}(h:a.drop p=u++r)(b:p<=a.length):p+u.length<=a.length:=by
 haveI :=congrArg oB h;rw[eA,aF]at this;lia
theorem BU{a:List Nat}{p:Nat}(h:a.drop p=[])(b:p<=a.length):p=a.length:=by
 have :=congrArg oB h;rw[eA]at this;haveI :a.length-p=0:=this;lia
theorem HN{c u r:List Nat}{p q:Nat}(h:c.drop p=u++r)(d:q=p+u.length):WG c (.int p) (.int q)=aA u:=by
 show((WT (.int p)).bind λ a=>(WT (.int q)).map λ b=>(upTo c b).drop (a.getD 0))=_;haveI f:WT (.int (p:Nat))=aA (aA p):=by
  show(if 0<=(p:Int)then aA (aA (p:Int).toNat)else aB)=_;rw[if_pos (gL p),gP]
 haveI e:WT (.int (q:Nat))=aA (aA q):=by
  show(if 0<=(q:Int)then aA (aA (q:Int).toNat)else aB)=_;rw[if_pos (gL q),gP]
 rw[f,e];show aA ((c.take q).drop p)=aA u;rw[d,yW,Nat.add_sub_cancel_left,h,List.take_left]
theorem EV{c r:List Nat}{p q:Nat}(h:c.drop p=r):WG c (.int p) (.int q)=aA (r.take (q-p)):=by
 show((WT (.int p)).bind λ a=>(WT (.int q)).map λ b=>(upTo c b).drop (a.getD 0))=_;haveI e:WT (.int (p:Nat))=aA (aA p):=by
  show(if 0<=(p:Int)then aA (aA (p:Int).toNat)else aB)=_;rw[if_pos (gL p),gP]
 haveI d:WT (.int (q:Nat))=aA (aA q):=by
  show(if 0<=(q:Int)then aA (aA (q:Int).toNat)else aB)=_;rw[if_pos (gL q),gP]
 rw[e,d];show aA ((c.take q).drop p)=_;rw[yW,h]
section
variable{Y:MH}{d:Nat}{k x:KE}{L:List MV}{W:Nat}{a:List Nat}{p:Nat}
theorem sX{s:List Nat}{n c:Nat}{K:MV->Prop}(h:s[n]?=aA c)(hk:K (.str [c])):OptK (GA Y (.str s) (.int n)) K:=YS (by rw[qH];exact h) hk
theorem LX.set(Y:MH)(W:Nat)(a:List Nat)(p:Nat):LX (upd Y W (iw a p)) W a p:=upd_same ..
noncomputable def yi(c:Nat):Bool:=([32,10,9,13,12]:List Nat).elem c
noncomputable abbrev Md:List MS:=[.asg (.l 1) (.idx (.attr (.l 0) 2) (.attr (.l 0) 21)),.ite (.cmp .Eq (.l 1) (.c (.s [59]))) [.asg (.l 2) (.meth (.attr (.l 0) 2) 7 [(.c (.s [10])),(.attr (.l 0) 21)]),.asg (.attr (.l 0) 21) (.ite (.cmp .Lt (.l 2) (.c (.i 0))) (.bi 0 [(.attr (.l 0) 2)]) (.l 2))] [.ite (.cmp .In (.l 1) (.g 83)) [.asg (.attr (.l 0) 21) (.bin .Add (.attr (.l 0) 21) (.c (.i 1)))] [.ret .no]]]
theorem ZB{sp s:List Nat}(X:LX Y W a p)(e:a.drop p=sp++s)(j:p<=a.length)(g:sp=[]\/sp=[32])(q:∀c r,s=c::r->c≠59/\yi c=aG)(h:∀I,LX I W a (p+sp.length)->XL W Y I->k .none I):(bY TB (G0 L) (d+1)).meth 1000 9 [.ref W] Y k x:=by
  refine dX (F:=d8) (loc:=[aA (.ref W),aB,aB]) rfl rfl ?_;have b:∀(N p:Nat)Y(D o2:Option MV),LX Y W a p->a.drop p=s->p<=a.length->k .none Y->lT (zG (bY TB (G0 L) d) (G0 L) (.cmp .Lt (.attr (.l 0) 21) (.bi 0 [(.attr (.l 0) 2)])) Md (λ loc Y=>cF (bY TB (G0 L) d) (G0 L) [] loc Y (λ U Y=>k .none Y) k (λ U U=>False) x) k x) (N+1) [aA (.ref W),D,o2] Y:=λ N p Y D o2 X e j hk=>by
    have i:Y W=_:=X;unfold iw at i;refine fE (fD ?_);repeat k_memK
    cases s with
 |nil=>
   have :=BU e j;refine itP_f (decide_eq_false (by show¬(p:Int)<(a.length:Int);lia)) ?_;repeat k_memK
   exact hk|cons c r=>
   obtain⟨m,f⟩:=AX e;obtain⟨o,t⟩:=q c r rfl;refine itP_t (decide_eq_true (by show(p:Int)<(a.length:Int);lia)) ?_;repeat k_memK
   refine sX m ?_;repeat k_memK
   refine itP_f (decide_eq_false (by intro z;injection z with z;exact o z)) ?_;repeat k_memK
   exact hk
  rcases g with rfl|rfl;·exact nY 1 (b 0 p Y aB aB X e j (h Y X (XL.refl _ _)))
  · haveI i:Y W=_:=X;unfold iw at i;obtain⟨m,f⟩:=AX e;refine nY 2 (fE (fD ?_));repeat k_memK
    refine itP_t (decide_eq_true (by show(p:Int)<(a.length:Int);lia)) ?_;repeat k_memK
    refine sX m ?_;repeat k_memK
    have n:LX (upd Y W (iw a (p+1))) W a (p+1):=LX.set ..;refine b 0 (p+1) (upd Y W (iw a (p+1))) _ _ n (cC (u:=[32]) e) (F1 f) (h _ n ((XL.refl _ _).set _))
theorem pA{w:List Nat}{v:MV}{e:Nat}(X:LX Y W a p)(h:∀g I,Y g=aB->I g=aA (gf w v p e)->LX I W a e->XL W Y I->k (.ref g) I):(bY TB (G0 L) (d+2)).meth 1000 10 [.ref W,.str w,v,.int e] Y k x:=by
 refine dX (F:=RJ) (loc:=[aA (.ref W),aA (.str w),aA v,aA (.int e),aB]) rfl rfl ?_;haveI f:Y W=_:=X;unfold iw at f;repeat k_memK
 refine rG (F:=Ia) rfl (λ n=>[aA (.ref n),aA (.str w),aA v,aA (.int p),aA (.int e)]) (λ U=>rfl) (λ U=>rfl) (λ U=>rfl) λ n b=>?_;obtain⟨i,c⟩:=eQ b;refine h n _ c (upd_same ..) ?_ (((XL.refl _ _).set _).ext (Ext.new b _));exact upd_some _ (upd_same ..) b
end
noncomputable def OA(c:Nat):Bool:=([32,10,9,13,12,40,41,34,59]:List Nat).elem c
noncomputable def s7(c:Nat):Bool:=([91,93,123,125,124]:List Nat).elem c
noncomputable def MU(r:List Nat):Prop:=∀c s,r=c::s->OA c=aC
noncomputable def qW(u:List Nat):Bool:=u.all λ c=>!OA c&&!s7 c
section
variable{M:Nat->Prop}{y:fZ}{Y:MH}{d:Nat}{k x:KE}{L:List MV}{W:Nat}{f:List Nat}{p:Nat}
theorem Gx{s:List Nat}{c:Nat}{b:Bool}{K:Bool->Prop}(h:s.elem c=b)(hk:K (!b)):OptK (IP (G0 L) .NotIn Y (.str [c]) (.str s)) K:=by
 refine OptK.some (a:=!b) ?_ hk;show(aA (s.elem c)).map (!·)=_;rw[h];rfl
noncomputable abbrev Nn:List MS:=[.ite (.cmp .In (.idx (.attr (.l 0) 2) (.l 2)) (.g 85)) [.dead] [],.asg (.l 2) (.bin .Add (.l 2) (.c (.i 1)))]
noncomputable abbrev Lh(i:Nat):ME:=.bool .And [(.cmp .Lt (.l i) (.bi 0 [(.attr (.l 0) 2)])),(.cmp .NotIn (.idx (.attr (.l 0) 2) (.l i)) (.g 84))]
theorem jn{o:kP}{H:KL}{F:KE}{q:Nat}{r:List Nat}(X:LX Y W f q)(m:MU r){D:Option MV}:∀(u:List Nat)(p:Nat),f.drop p=u++r->p<=f.length->qW u=aC->H [aA (.ref W),D,aA (.int (p+u.length:Nat))] Y->lT (zG o (G0 L) (Lh 2) Nn H F x) (u.length+1) [aA (.ref W),D,aA (.int p)] Y:=by
 intro n;induction n with
 |nil=>
  intro p b i U h;have t:Y W=_:=X;refine fE (fD ?_);repeat k_memK
  cases r with
  |nil=>
 have :=BU b i;have l:cH ((p:Int)<(f.length:Int))=aG:=decide_eq_false (by lia);refine itP_t (by show(!cH ((p:Int)<(f.length:Int)))=aC;rw[l];rfl) ?_;refine k_asB (itP_f l ?_);exact h|cons c s=>
  obtain⟨e,a⟩:=AX b;refine itP_f (by show(!cH ((p:Int)<(f.length:Int)))=aG;rw[decide_eq_true (by lia)];rfl) ?_;repeat k_memK
  refine sX e ?_;repeat k_memK
  refine itP_f (by show(!OA c)=aG;rw[m c s rfl];rfl) ?_;exact h
 |cons c u g=>
  intro p b i j h;haveI t:Y W=_:=X;obtain⟨e,a⟩:=AX b;have w1:=bl (show((!OA c&&!s7 c)&&qW u)=aC from j);have w2:OA c=aG:=by cases q:OA c with|false=>rfl|true=>rw[q]at w1;cases w1
  have w3:s7 c=aG:=by cases q:s7 c with|false=>rfl|true=>rw[w2,q]at w1;cases w1
  refine fE (fD ?_);repeat k_memK
  refine itP_f (by show(!cH ((p:Int)<(f.length:Int)))=aG;rw[decide_eq_true (by lia)];rfl) ?_;repeat k_memK
  refine sX e ?_;repeat k_memK
  refine itP_t (by show(!OA c)=aC;rw[w2];rfl) ?_;repeat k_memK
  refine sX e ?_;repeat k_memK
  refine g (p+1) (cC (u:=[c]) b) (F1 a) (br (show((!OA c&&!s7 c)&&qW u)=aC from j)) ?_;rw[show p+1+u.length=p+(c::u).length by rw[List.length_cons];simp+arith];exact h
theorem uj{q:Nat}{u r:List Nat}(X:LX Y W f q)(e:f.drop p=u++r)(a:p<=f.length)(c:qW u=aC)(b:MU r)(h:k (.int (p+u.length:Nat)) Y):(bY TB (G0 L) (d+1)).meth 1000 11 [.ref W,.int p] Y k x:=by
 refine dX (F:=RX) (loc:=[aA (.ref W),aA (.int p),aB]) rfl rfl ?_;repeat k_memK
 refine nY (u.length+1) (jn X b u p e a c ?_);repeat k_memK
 exact h
noncomputable def BV(Y:MH)(W:Nat)(f w:List Nat)(V:MH->MV->Prop)(e:Nat)(k:KE):Prop:=∀g v a I,Y g=aB->I g=aA (gf w v a e)->LX I W f e->XL W Y I->V I v->k (.ref g) I
theorem LV:∀j<5,qW (ER j)=aC/\JG (ER j)=aC/\Az (ER j)=aC/\ER j≠[46]:=by decide
theorem MY{i:Int}(h:i.natAbs<=1000):∀c∈pF i,c=45\/48<=c/\c<=57:=λ c a=>by
  rcases List.mem_append.mp a with q|q
  · split at q;·exact .inl (List.mem_singleton.mp q)
    ·cases q
  ·exact .inr ((QO h).dig c q)
theorem CS{i:Int}(h:i.natAbs<=1000):∃c r,pF i=c::r/\(c=45/\r≠[]\/48<=c/\c<=57):=by
 have a:=QO h;unfold pF;by_cases q:i<0;·rw[if_pos q];exact⟨45,LI i.natAbs,rfl,.inl ⟨rfl,a.ne⟩⟩
 ·rw[if_neg q];cases e:LI i.natAbs with
 |nil=>exact absurd e a.ne|cons c r=>exact⟨c,r,rfl,.inr (a.dig c (by rw[e];exact List.mem_cons_self ..))⟩
theorem GU{P:Nat->Bool}(a:(P 45&&([48,49,50,51,52,53,54,55,56,57]:List Nat).all P)=aC){c:Nat}(h:c=45\/48<=c/\c<=57):P c=aC:=by
 rcases h with rfl|h;·exact bl a
 ·exact JP (br a) h
theorem JH{i:Int}(h:i.natAbs<=1000):qW (pF i)=aC/\JG (pF i)=aC:=⟨List.all_eq_true.mpr λ c a=>GU (P:=λ c=>!OA c&&!s7 c) (by decide) (MY h c a),List.all_eq_true.mpr λ c a=>GU (P:=λ c=>!ML.contains c) (by decide) (MY h c a)⟩
theorem jg{i:Int}(h:i.natAbs<=1000):Az (pF i)=aG/\pF i≠[46]:=by
 obtain⟨c,r,e,a⟩:=CS h;rw[e];have q:=GU (P:=λ c=>!OB c&&(!Nat.beq c 43&&!Nat.beq c 46)) (by decide) (a.imp And.left id);have b:c≠46:=Nat.ne_of_beq_eq_false (nb (br (br q)));have g:t9 (c::r)=aG:=by
  unfold t9;rw[decide_eq_false λ z=>Nat.ne_of_beq_eq_false (nb (bl (br q))) (List.cons.inj z).1.symm,decide_eq_false λ z=>?_,decide_eq_false λ z=>b (List.cons.inj z).1.symm];rfl;obtain⟨l,j⟩:=List.cons.inj z;rcases a with⟨_,a⟩|a;·exact a j.symm
  ·rw[<-l]at a;exact absurd a.1 (by decide)
 refine⟨?_,λ z=>b (List.cons.inj z).1⟩;show(t9 (c::r)||(OB c&&r.all WF))=aG;rw[g,nb (bl q)];rfl
theorem te{u:List Nat}(a:u≠[])(h:k (.bool (Az u)) Y):(bY TB (G0 L) (d+3)).call 99 [.str u] [] Y k x:=by cases u with
 |nil=>exact absurd rfl a|cons c r=>exact H9 h
theorem vj{u:List Nat}{c:Nat}{r:List Nat}(e:u=c::r)(a:48<=c/\c<=57\/c=45)(h:k (.bool aC) Y):(bY TB (G0 L) (d+1)).call 100 [.str u] [] Y k x:=by subst e;exact Ei a h
theorem Gf{i:Int}{q:Nat}(a:i.natAbs<=1000)(X:LX Y W f q)(h:∀I,Ext Y I->k (.int i) I):(bY TB (G0 L) (d+5)).meth 1000 16 [.ref W,.str (pF i),.int p] Y k x:=by
 refine dX (F:=SW) (loc:=[aA (.ref W),aA (.str (pF i)),aA (.int p),aB]) rfl rfl ?_;haveI b:Y W=_:=X;repeat k_memK
 refine Kc a λ I E=>?_;repeat k_memK
 exact h _ E
theorem A2{u r:List Nat}{w:List Nat}{V:MH->MV->Prop}(X:LX Y W f p)(N:f.drop p=u++r)(hp:p<=f.length)(U:qW u=aC)(S:MU r)(O:u.length<=100)(hk:(u=[46]/\w=[46]/\∀Y v,v=.none->V Y v)\/(∃j,j<5/\u=ER j/\w=uo/\∀Y v,v=.str (ER j)->V Y v)\/(∃i:Int,i.natAbs<=1000/\u=pF i/\w=xa/\∀Y v,v=.int i->V Y v))(h:BV Y W f w V (p+u.length) k):(bY TB (G0 L) (d+6)).meth 1000 15 [.ref W] Y k x:=by
  refine dX (F:=SR) (loc:=[aA (.ref W),aB,aB,aB,aB]) rfl rfl ?_;haveI X':Y W=_:=X;repeat k_memK
  refine uj X N hp U S ?_;repeat k_memK
  refine nW (HN N rfl) ?_;repeat k_memK
  rcases hk with⟨rfl,rfl,t⟩|⟨j,R,rfl,rfl,t⟩|⟨i,D,rfl,rfl,t⟩
  · repeat k_memK
    exact pA X λ g I l b q C=>h g .none p I l b q C (t _ _ rfl)
  · obtain⟨_,G,A,K⟩:=LV j R;refine itP_f (decide_eq_false K) ?_;repeat k_memK
    refine UZ G (by exact lm O) λ P E=>?_;have a:LX P W f p:=E _ _ X;have J:P W=_:=a;repeat k_memK
    refine te (by intro z;rw[z]at A;cases A) ?_;rw[A];repeat k_memK
    exact pA a λ g I l b q C=>h g _ p I (E.off l) b q (λ n o m z=>C n o m (E n o z)) (t _ _ rfl)
  · obtain⟨g1,G⟩:=JH D;obtain⟨A,K⟩:=jg D;obtain⟨c,s,e,B⟩:=CS D;refine itP_f (decide_eq_false K) ?_;repeat k_memK
    refine UZ G (by exact lm O) λ P E=>?_;have a:LX P W f p:=E _ _ X;haveI J:P W=_:=a;repeat k_memK
    refine te (by rw[e];intro z;cases z) ?_;rw[A];repeat k_memK
    refine vj e (by rcases B with⟨B,_⟩|B;exact .inr B;exact .inl B) ?_;repeat k_memK
    refine Gf D a λ Z H=>?_;haveI Q:LX Z W f p:=H _ _ a;repeat k_memK
    exact pA Q λ g I l b q C=>h g _ p I (E.off (H.off l)) b q (λ n o m z=>C n o m (H n o (E n o z))) (t _ _ rfl)
end
section
variable{M:Nat->Prop}{es:fZ}{Y:MH}{d:Nat}{k x:KE}{L:List MV}{W:Nat}{b:List Nat}{p:Nat}
noncomputable abbrev Nd:List MS:=[.asg (.l 2) (.bin .Add (.l 2) (.c (.i 1)))]
theorem pg{o:kP}{H:KL}{F:KE}{q:Nat}{r:List Nat}(X:LX Y W b q)(m:MU r){D R o4:Option MV}:∀(u:List Nat)(p:Nat),b.drop p=u++r->p<=b.length->qW u=aC->H [aA (.ref W),D,aA (.int (p+u.length:Nat)),R,o4] Y->lT (zG o (G0 L) (Lh 2) Nd H F x) (u.length+1) [aA (.ref W),D,aA (.int p),R,o4] Y:=by
 intro t;induction t with
 |nil=>
  intro p e i U h;have n:Y W=_:=X;refine fE (fD ?_);repeat k_memK
  cases r with
  |nil=>
 have :=BU e i;have j:cH ((p:Int)<(b.length:Int))=aG:=decide_eq_false (by lia);refine itP_t (by show(!cH ((p:Int)<(b.length:Int)))=aC;rw[j];rfl) ?_;refine k_asB (itP_f j ?_);exact h|cons c s=>
  obtain⟨f,a⟩:=AX e;refine itP_f (by show(!cH ((p:Int)<(b.length:Int)))=aG;rw[decide_eq_true (by lia)];rfl) ?_;repeat k_memK
  refine sX f ?_;repeat k_memK
  refine itP_f (by show(!OA c)=aG;rw[m c s rfl];rfl) ?_;exact h
 |cons c u g=>
  intro p e i l h;haveI n:Y W=_:=X;obtain⟨f,a⟩:=AX e;have w1:=bl (show((!OA c&&!s7 c)&&qW u)=aC from l);haveI w2:OA c=aG:=by cases q:OA c with|false=>rfl|true=>rw[q]at w1;cases w1
  refine fE (fD ?_);repeat k_memK
  refine itP_f (by show(!cH ((p:Int)<(b.length:Int)))=aG;rw[decide_eq_true (by lia)];rfl) ?_;repeat k_memK
  refine sX f ?_;repeat k_memK
  refine itP_t (by show(!OA c)=aC;rw[w2];rfl) ?_;repeat k_memK
  refine g (p+1) (cC (u:=[c]) e) (F1 a) (br (show((!OA c&&!s7 c)&&qW u)=aC from l)) ?_;rw[show p+1+u.length=p+(c::u).length by rw[List.length_cons];simp+arith];exact h
theorem eh(c:Nat):∃a u,DG c=a::u/\qW u=aC:=by
  delta DG;split;·exact⟨_,_,rfl,by decide⟩
  · split;·exact⟨_,_,rfl,by decide⟩
    ·exact⟨_,_,rfl,by decide⟩
theorem nc{c:Nat}{r:List Nat}(Z:∀a,M a->(Y a).isSome)(X:LX Y W b p)(D:b.drop p=35::92::(DG c++r))(hp:p<=b.length)(hr:MU r)(h:BV Y W b [99,104,97,114] (λ Y v=>iG M es Y (.ch c) v) (p+2+(DG c).length) k):(bY TB (G0 L) (d+3)).meth 1000 14 [.ref W] Y k x:=by
  refine dX (F:=RS) (loc:=[aA (.ref W),aB,aB,aB,aB]) rfl rfl ?_;haveI X':Y W=_:=X;obtain⟨a,u,B,S⟩:=eh c;have w:b.drop (p+2)=DG c++r:=cC (u:=[35,92]) D;haveI C:b.drop (p+3)=u++r:=by
   have :=cC (u:=[35,92,a]) (txt:=b) (p:=p) (r:=u++r) (by rw[D,B];rfl);exact this
  have i:=eO w (eO (u:=[35,92]) D hp);haveI j:p+2+(u.length+1)<=b.length:=by rw[B]at i;exact i
  repeat k_memK
  refine itP_f (decide_eq_false (by show¬((p:Int)+2=(b.length:Int));lia)) ?_;repeat k_memK
  show cF _ _ _ [aA (.ref W),aA (.int p),aA (.int ((p+3:Nat):Int)),aB,aB] Y _ _ _ _;refine nY (u.length+1) (pg X hr u (p+3) C (F1 j) S ?_);haveI N:p+3+u.length=p+2+(DG c).length:=by rw[B,List.length_cons];simp+arith
  rw[N];repeat k_memK
  refine nW (t:=DG c) (HN (p:=p+2) w rfl) ?_;repeat k_memK
  have G:∀P,Ext Y P->cF (bY TB (G0 L) (d+2)) (G0 L) [.ite (.cmp .Is (.l 4) (.c .nil)) [.dead] [],.ret (.meth (.l 0) 10 [(.c (.s [99,104,97,114])),(.new 8 [(.bi 1 [(.l 4)])]),(.l 2)])] [aA (.ref W),aA (.int p),aA (.int (p+2+(DG c).length:Nat)),aA (.str (DG c)),aA (.str [c])] P (λ U Y=>k .none Y) k (λ U U=>False) x:=λ P E=>by
    have K:LX P W b p:=E _ _ X;haveI R:P W=_:=K;repeat k_memK
    refine rG (F:=I8) rfl (λ n=>[aA (.ref n),aA (.int c)]) (λ U=>rfl) (λ U=>rfl) (λ U=>rfl) λ n y=>?_;have A:=E.trans (Ext.new y (.inst 170 [(8,.int c)]));have H:LX (upd P n (.inst 170 [(8,.int c)])) W b p:=A _ _ X;have Q:upd P n (.inst 170 [(8,.int c)]) W=_:=H;haveI O:n≠W:=λ e=>by rw[e,K]at y;cases y
    show dP _ _ _ _ (upd P n (.inst 170 [(8,.int c)])) _ _;repeat k_memK
    refine pA H λ g I V a2 a3 J=>h g (.ref n) p I (A.off V) a2 a3 (λ m o z e=>J m o z (A m o e)) ?_;refine⟨n,rfl,λ m=>?_,J n _ O (upd_same ..)⟩;have :=Z n m;rw[E.off y]at this;cases this
  by_cases q:c=32\/c=10
  · have :(DG c).length≠1:=by rcases q with rfl|rfl<;>decide
    refine itP_f (decide_eq_false (by show¬((DG c).length:Int)=1;lia)) ?_;repeat k_memK
    refine Dz q λ P E=>?_;exact G P E
  · have e:DG c=[c]:=by delta DG;rw[if_neg (by lia),if_neg (by lia)]
    refine itP_t (decide_eq_true (by show((DG c).length:Int)=1;rw[e];rfl)) ?_;have f:=G Y (.refl _);rw[e]at f⊢;exact r_sv (.l 3) rfl f
theorem Jq{f:List Nat}(r:∀a,M a->(Y a).isSome)(G:f.length<=aX)(h:∀v I,Ext Y I->iG M es I (.st f) v->(∀a,v=.ref a->Y a=aB)->k v I):(bY TB (G0 L) (d+2)).call 15 [.str f] [] Y k x:=by
  refine call_in (F:=Lp) (loc:=[aA (.str f)]) rfl rfl ?_;repeat k_memK
  refine lJ ?_;repeat k_memK
  refine wG (caps:=[]) (src:=aB) trivial (λ v=>match v with|.str [c]=>.int (c:Nat)|_=>.none) (λ U U h=>h) (f.map λ c=>MV.str [c]) [] aB (by rw[List.length_map];show 0+_<=_;exact F1 G) (λ v s K o=>?_) λ n j=>?_
  · obtain⟨c,_,rfl⟩:=List.mem_map.mp s;repeat k_memK
    exact o
  · haveI q:[]++(f.map λ c=>MV.str [c]).map (λ v=>match v with|.str [c]=>MV.int (c:Nat)|_=>.none)=iV f:=by rw[List.nil_append,List.map_map];rfl
    rw[q];repeat k_memK
    refine rG (F:=I9) rfl (λ m=>[aA (.ref m),aA (.ref n)]) (λ U=>rfl) (λ U=>rfl) (λ U=>rfl) λ m l=>?_;obtain⟨_,g⟩:=eQ l;have i:∀n,Y n=aB->¬M n:=λ n j m=>by have :=r n m;rw[j]at this;cases this
    refine h (.ref m) _ ((Ext.new j _).trans (Ext.new l _)) ?_ λ a e=>by cases e;exact g
    exact⟨m,n,rfl,i m g,i n j,upd_same ..,upd_some _ (upd_same ..) l⟩
end
section
variable{M:Nat->Prop}{es:fZ}{Y:MH}{d:Nat}{k x:KE}{L:List MV}{W:Nat}{f:List Nat}{p:Nat}
noncomputable abbrev Lm:List MS:=[.ite (.cmp .GtE (.l 3) (.bi 0 [(.attr (.l 0) 2)])) [.dead] [],.asg (.l 4) (.idx (.attr (.l 0) 2) (.l 3)),.ite (.cmp .Eq (.l 4) (.c (.s [34]))) [.ret (.meth (.l 0) 10 [(.c (.s [115,116,114,105,110,103])),(.call 15 [(.meth (.c (.s [])) 25 [(.l 2)])] []),(.bin .Add (.l 3) (.c (.i 1)))])] [],.ite (.cmp .Eq (.l 4) (.c (.s [92]))) [.asg (.l 3) (.bin .Add (.l 3) (.c (.i 1))),.asg (.l 4) (.slc (.attr (.l 0) 2) (.l 3) (.bin .Add (.l 3) (.c (.i 1)))),.ite (.cmp .Eq (.l 4) (.c (.s []))) [.dead] [],.ite (.bool .And [(.cmp .NotEq (.l 4) (.c (.s [34]))),(.cmp .NotEq (.l 4) (.c (.s [92])))]) [.dead] []] [],.ex (.meth (.l 2) 29 [(.l 4)]),.asg (.l 3) (.bin .Add (.l 3) (.c (.i 1)))]
theorem ig{l:Nat}{H:KL}{P:List Nat}{r:List Nat}{e:Nat}(hM:∀a,M a->(Y a).isSome)(X:LX Y W f p)(E:Y l=aB)(s:P.length<=1000)(hK:BV Y W f [115,116,114,105,110,103] (λ Y v=>iG M es Y (.st P) v) e k):∀(u done:List Nat)(q:Nat)(o:Option MV),done++u=P->f.drop q=u.flatMap AS++(34::r)->q<=f.length->e=q+(u.flatMap AS).length+1->lT (zG (bY TB (G0 L) (d+2)) (G0 L) (.c (.b aC)) Lm H k x) (u.length+1) [aA (.ref W),aA (.int p),aA (.ref l),aA (.int q),o] (upd Y l (.list (oH done))):=by
 intro z_;induction z_ with
 |nil=>
    intro done q o h n hq A;have F:LX (upd Y l (.list (oH done))) W f p:=upd_some _ X E;have a5:upd Y l (.list (oH done)) W=_:=F;obtain⟨D,w⟩:=AX n;obtain rfl:e=q+1:=A;refine fE (fD ?_);repeat k_memK
    refine itP_f (decide_eq_false (by show¬((q:Int)>=(f.length:Int));lia)) ?_;repeat k_memK
    refine sX D ?_;repeat k_memK
    refine uW (upd_same ..) (zR done) (by rw[List.append_nil]at h;rw[h];exact lm s) ?_;repeat k_memK
    have V:∀a,M a->(upd Y l (.list (oH done)) a).isSome:=λ a ha=>by
     obtain⟨o,ho⟩:=aS.mp (hM a ha);rw[upd_some _ ho E];rfl
    refine Jq (M:=M) (es:=es) V (by rw[List.append_nil]at h;rw[h];exact lm s) λ v Z E2 hv U=>?_;have G:LX Z W f p:=E2 _ _ F;have a6:Z W=_:=G;repeat k_memK
    have E0:Ext Y Z:=(Ext.new E _).trans E2;rw[List.append_nil]at h;subst h;refine pA (e:=q+1) G λ g I a1 a2 a3 a4=>hK g v p I (E0.off a1) a2 a3 (λ m o z e=>a4 m o z (E0 m o e)) ?_;obtain⟨a,ll,y,K,h3,h4,J⟩:=hv;have na:a≠W:=λ z=>by rw[z,G]at h4;cases h4
    have nl:ll≠W:=λ z=>by rw[z,G]at J;cases J
    exact⟨a,ll,y,K,h3,a4 _ _ na h4,a4 _ _ nl J⟩|cons c u O=>
    intro done q o h n hq A;have F:LX (upd Y l (.list (oH done))) W f p:=upd_some _ X E;have a5:upd Y l (.list (oH done)) W=_:=F;have ldn:done.length<=1000:=by rw[<-h,List.length_append]at s;exact F1 s
    have R:(done++[c])++u=P:=by rw[List.append_assoc];exact h
    have C:∀i:Nat,f.drop (i+1)=u.flatMap AS++(34::r)->i+1<=f.length->e=i+1+(u.flatMap AS).length+1->lT (zG (bY TB (G0 L) (d+2)) (G0 L) (.c (.b aC)) Lm H k x) (u.length+1) [aA (.ref W),aA (.int p),aA (.ref l),aA (.int (i+1:Nat)),aA (.str [c])] (upd Y l (.list (oH done++[.str [c]]))):=λ i g1 g2 g3=>by
     have :=O (done++[c]) (i+1) (aA (.str [c])) R g1 g2 g3;rw[show oH (done++[c])=oH done++[MV.str [c]]by unfold oH;rw[List.map_append];rfl]at this;exact this
    have S:(oH done).length<=aX:=by unfold oH aX;rw[List.length_map];exact lm ldn
    rw[List.flatMap_cons,List.append_assoc]at n;rw[List.flatMap_cons,List.length_append]at A;refine fE (fD ?_);repeat k_memK
    by_cases B:c=34\/c=92
    · have ee:AS c=[92,c]:=by unfold AS;rw[if_pos B]
      rw[ee]at n A;obtain⟨D,w⟩:=AX n;have j:f.drop (q+1)=[c]++(u.flatMap AS++(34::r)):=cC (u:=[92]) n;have Q:f.drop (q+1+1)=u.flatMap AS++(34::r):=cC (u:=[c]) j;have N:=eO j (F1 w);refine itP_f (decide_eq_false (by show¬((q:Int)>=(f.length:Int));lia)) ?_;repeat k_memK
      refine sX D ?_;repeat k_memK
      refine nW (t:=[c]) (HN (p:=q+1) (q:=q+1+1) j rfl) ?_;repeat k_memK
      have go:=C (q+1) Q N (by rw[A];show q+(2+_)+1=_;simp+arith);rcases B with rfl|rfl
      · repeat k_memK
        refine gQ (upd_same ..) S ?_;rw[mJ];repeat k_memK
        exact go
      · repeat k_memK
        refine gQ (upd_same ..) S ?_;rw[mJ];repeat k_memK
        exact go
    · have ee:AS c=[c]:=by unfold AS;rw[if_neg B]
      rw[ee]at n A;obtain⟨D,w⟩:=AX n;have j:f.drop (q+1)=u.flatMap AS++(34::r):=cC (u:=[c]) n;refine itP_f (decide_eq_false (by show¬((q:Int)>=(f.length:Int));lia)) ?_;repeat k_memK
      refine sX D ?_;repeat k_memK
      refine itP_f (decide_eq_false (by intro z;injection z with z;exact B (.inl z))) ?_;repeat k_memK
      refine itP_f (decide_eq_false (by intro z;injection z with z;exact B (.inr z))) ?_;repeat k_memK
      refine gQ (upd_same ..) S ?_;rw[mJ];repeat k_memK
      exact C q j (F1 w) (by rw[A];show q+(1+_)+1=_;simp+arith)
theorem aw{P r:List Nat}(i:∀a,M a->(Y a).isSome)(X:LX Y W f p)(g:f.drop p=34::(P.flatMap AS++34::r))(h:p<=f.length)(c:P.length<=1000)(j:BV Y W f [115,116,114,105,110,103] (λ Y v=>iG M es Y (.st P) v) (p+(gi P).length) k):(bY TB (G0 L) (d+3)).meth 1000 12 [.ref W] Y k x:=by
 refine dX (F:=SK) (loc:=[aA (.ref W),aB,aB,aB,aB]) rfl rfl ?_;have n:Y W=_:=X;repeat k_memK
 intro l m;repeat k_memK
 have b:f.drop (p+1)=P.flatMap AS++34::r:=cC (u:=[34]) g;have :=eO (u:=[34]) g h;refine nY (P.length+1) (ig (e:=p+(gi P).length) i X m c j P [] (p+1) aB rfl b this ?_);rw[List.length_cons,List.length_append];show p+(_+1+1)=_;simp+arith
theorem GN{c:Nat}{r:List Nat}(X:LX Y W f p)(b:f.drop p=35::c::r)(e:p<=f.length)(a:ML.contains c=aG)(h:∀I,Ext Y I->LX I W f p->cF (bY TB (G0 L) (d+5)) (G0 L) [.ite (.cmp .Eq (.l 2) (.c (.s [40]))) [.ret (.meth (.l 0) 10 [(.c (.s [35,40])),(.c .nil),(.bin .Add (.l 1) (.c (.i 2)))])] [],.ite (.bool .Or [(.cmp .Eq (.l 2) (.c (.s [116]))),(.cmp .Eq (.l 2) (.c (.s [102])))]) [.ret (.meth (.l 0) 10 [(.c (.s [98,111,111,108,101,97,110])),(.cmp .Eq (.l 2) (.c (.s [116]))),(.bin .Add (.l 1) (.c (.i 2)))])] [],.ite (.cmp .Eq (.l 2) (.c (.s [92]))) [.ret (.meth (.l 0) 14 [])] [],.ite (.bool .And [(.cmp .NotEq (.l 2) (.c (.s []))),(.cmp .In (.l 2) (.g 92))]) [.asg (.l 3) (.meth (.l 0) 11 [(.l 1)]),.ret (.meth (.l 0) 10 [(.c (.s [110,117,109,98,101,114])),(.meth (.l 0) 16 [(.slc (.attr (.l 0) 2) (.l 1) (.l 3)),(.l 1)]),(.l 3)])] [],.dead] [aA (.ref W),aA (.int p),aA (.str [c]),aB] I (λ U Y=>k .none Y) k (λ U U=>False) x):(bY TB (G0 L) (d+6)).meth 1000 13 [.ref W] Y k x:=by
 refine dX (F:=SI) (loc:=[aA (.ref W),aB,aB,aB]) rfl rfl ?_;have j:Y W=_:=X;repeat k_memK
 refine nW (t:=[c]) ?_ ?_;·exact(EV (p:=p+1) (q:=p+2) (cC (u:=[35]) b)).trans (by rw[show p+2-(p+1)=1 by simp+arith];rfl)
 repeat k_memK
 refine UZ (by show(!ML.contains c&&aC)=aC;rw[a];rfl) (by show 1<=_;decide) λ I E=>?_;repeat k_memK
 exact h I E (E _ _ X)
theorem YP{r:List Nat}(X:LX Y W f p)(i:f.drop p=35::40::r)(q:p<=f.length)(h:BV Y W f [35,40] (λ U U=>True) (p+2) k):(bY TB (G0 L) (d+6)).meth 1000 13 [.ref W] Y k x:=by
 refine GN X i q (by decide) λ P E a=>?_;have c:P W=_:=a;repeat k_memK
 exact pA (e:=p+2) a λ g I l b j n=>h g _ p I (E.off l) b j (λ m o z e=>n m o z (E m o e)) trivial
theorem bh{b:Bool}{r:List Nat}(X:LX Y W f p)(s:f.drop p=(if b then[35,116]else[35,102])++r)(t:p<=f.length)(h:BV Y W f [98,111,111,108,101,97,110] (λ U v=>v=.bool b) (p+2) k):(bY TB (G0 L) (d+6)).meth 1000 13 [.ref W] Y k x:=by cases b with
 |true=>
 refine GN (c:=116) X s t (by decide) λ P E a=>?_;have j:P W=_:=a;repeat k_memK
 exact pA (e:=p+2) a λ g I l i n q=>h g _ p I (E.off l) i n (λ m o z e=>q m o z (E m o e)) rfl|false=>
 refine GN (c:=102) X s t (by decide) λ P E a=>?_;have j:P W=_:=a;repeat k_memK
 exact pA (e:=p+2) a λ g I l i n q=>h g _ p I (E.off l) i n (λ m o z e=>q m o z (E m o e)) rfl
theorem bw{c:Nat}{r:List Nat}(t:∀a,M a->(Y a).isSome)(X:LX Y W f p)(j:f.drop p=35::92::(DG c++r))(i:p<=f.length)(q:MU r)(h:BV Y W f [99,104,97,114] (λ Y v=>iG M es Y (.ch c) v) (p+2+(DG c).length) k):(bY TB (G0 L) (d+6)).meth 1000 13 [.ref W] Y k x:=by
 refine GN (c:=92) X j i (by decide) λ P E b=>?_;have n:P W=_:=b;repeat k_memK
 refine nc (M:=M) (es:=es) (λ a s=>?_) b j i q λ g v a I w B y A u=>h g v a I (E.off w) B y (λ m o z e=>A m o z (E m o e)) u;obtain⟨o,l⟩:=aS.mp (t a s);rw[E _ _ l];rfl
end
section
variable{M:Nat->Prop}{es:fZ}{Y I:MH}{d:Nat}{k x:KE}{L:List MV}{W:Nat}{g:List Nat}{p:Nat}
theorem XL.off{n:Nat}(e:XL W Y I)(a:LX I W g p)(h:I n=aB):Y n=aB:=by cases q:Y n with
 |none=>rfl|some o=>
 by_cases z:n=W;·rw[z,a]at h;cases h
 ·rw[e n o z q]at h;cases h
theorem wU{q:Nat}{n:Nat}(e:XL W Y I)(a:LX I W g q)(h:I n=aB):Y n=aB:=by cases z:Y n with
 |none=>rfl|some o=>
 by_cases y:n=W;·rw[y,a]at h;cases h
 ·rw[e n o y z]at h;cases h
theorem s3{q:Nat}(e:XL W Y I)(f:LX I W g q)(c:∀a,M a->(Y a).isSome):∀a,M a->(I a).isSome:=λ a b=>by
 by_cases y:a=W;·rw[y,f];rfl
 ·obtain⟨o,h⟩:=aS.mp (c a b);rw[e a o y h];rfl
noncomputable abbrev Pc:List MS:=[.ite (.cmp .In (.l 2) (.c (.s [40,41,39,96]))) [.ret (.meth (.l 0) 10 [(.l 2),(.c .nil),(.bin .Add (.l 1) (.c (.i 1)))])] [],.ite (.cmp .Eq (.l 2) (.c (.s [44]))) [.asg (.l 3) (.ite (.cmp .Eq (.slc (.attr (.l 0) 2) (.bin .Add (.l 1) (.c (.i 1))) (.bin .Add (.l 1) (.c (.i 2)))) (.c (.s [64]))) (.c (.s [44,64])) (.c (.s [44]))),.ret (.meth (.l 0) 10 [(.l 3),(.c .nil),(.bin .Add (.l 1) (.bi 0 [(.l 3)]))])] [],.ite (.cmp .Eq (.l 2) (.c (.s [34]))) [.ret (.meth (.l 0) 12 [])] [],.ite (.cmp .Eq (.l 2) (.c (.s [35]))) [.ret (.meth (.l 0) 13 [])] [],.ret (.meth (.l 0) 15 [])]
theorem FC{n r:List Nat}{c:Nat}(X:LX Y W g p)(i:g.drop p=n++(c::r))(s:p<=g.length)(a:n=[]\/n=[32])(o:c≠59/\yi c=aG)(h:∀I,LX I W g (p+n.length)->XL W Y I->cF (bY TB (G0 L) (d+6)) (G0 L) Pc [aA (.ref W),aA (.int (p+n.length:Nat)),aA (.str [c]),aB] I (λ U Y=>k .none Y) k (λ U U=>False) x):(bY TB (G0 L) (d+7)).meth 1000 8 [.ref W] Y k x:=by
 refine dX (F:=PT) (loc:=[aA (.ref W),aB,aB,aB]) rfl rfl ?_;have w:Y W=_:=X;repeat k_memK
 refine ZB X i s a (λ l S e=>by injection e with t v;rw[<-t];exact o) λ P j m=>?_;have q:P W=_:=j;have b:g.drop (p+n.length)=c::r:=cC i;obtain⟨f,u⟩:=AX b;repeat k_memK
 refine itP_f (decide_eq_false (by show¬(((p+n.length:Nat):Int)=(g.length:Int));lia)) ?_;repeat k_memK
 refine sX f ?_;exact h P j m
theorem xf{sp:List Nat}(X:LX Y W g p)(i:g.drop p=sp)(j:p<=g.length)(c:sp=[])(h:BV Y W g [101,110,100] (λ U U=>True) p k):(bY TB (G0 L) (d+7)).meth 1000 8 [.ref W] Y k x:=by
 refine dX (F:=PT) (loc:=[aA (.ref W),aB,aB,aB]) rfl rfl ?_;have m:Y W=_:=X;subst c;repeat k_memK
 refine ZB (sp:=[]) (s:=[]) X i j (.inl rfl) (λ U U e=>nomatch e) λ P a f=>?_;have l:P W=_:=a;have :=BU i j;repeat k_memK
 refine itP_t (decide_eq_true (by show(((p+0:Nat):Int)=(g.length:Int));lia)) ?_;repeat k_memK
 refine rG (F:=Ia) rfl (λ n=>[aA (.ref n),aA (.str [101,110,100]),aA .none,aA (.int (p+0:Nat)),aA (.int (p+0:Nat))]) (λ U=>rfl) (λ U=>rfl) (λ U=>rfl) λ n b=>?_;exact h n _ _ _ (wU f a b) (upd_same ..) (upd_some _ a b) (f.ext (Ext.new b _)) trivial
theorem RT{sp r:List Nat}{c:Nat}(X:LX Y W g p)(m:g.drop p=sp++(c::r))(t:p<=g.length)(b:sp=[]\/sp=[32])(j:c=40\/c=41\/c=39\/c=96)(h:BV Y W g [c] (λ U U=>True) (p+sp.length+1) k):(bY TB (G0 L) (d+7)).meth 1000 8 [.ref W] Y k x:=by
 refine FC X m t b (by rcases j with rfl|rfl|rfl|rfl<;>decide) λ P a i=>?_;have l:P W=_:=a;have G:(bY TB (G0 L) (d+6)).meth 1000 10 [.ref W,.str [c],.none,.int ((p+sp.length:Nat)+1)] P k x:=pA (e:=p+sp.length+1) a λ f I o q n s=>h f _ _ I (wU i a o) q n (i.trans s) trivial;have e:([40,41,39,96]:List Nat).elem c=aC:=by rcases j with rfl|rfl|rfl|rfl<;>rfl
 repeat k_memK
 exact G
theorem ry{sp r:List Nat}{at_:Bool}(X:LX Y W g p)(l:g.drop p=sp++((if at_ then[44,64]else[44])++r))(y:p<=g.length)(j:sp=[]\/sp=[32])(A:at_=aG->∀c s,r=c::s->c≠64)(h:BV Y W g (if at_ then[44,64]else[44]) (λ U U=>True) (p+sp.length+(if at_ then 2 else 1)) k):(bY TB (G0 L) (d+7)).meth 1000 8 [.ref W] Y k x:=by cases at_ with
 |true=>
 refine FC (c:=44) (r:=64::r) X l y j (by decide) λ P a i=>?_;have v:P W=_:=a;have b:g.drop (p+sp.length)=[44,64]++r:=cC l;repeat k_memK
 refine nW (t:=[64]) ?_ ?_;·exact(EV (p:=p+sp.length+1) (q:=p+sp.length+2) (cC (u:=[44]) b)).trans (by rw[show p+sp.length+2-(p+sp.length+1)=1 by simp+arith];rfl)
 repeat k_memK
 exact pA (e:=p+sp.length+2) a λ f I n m o w=>h f _ _ I (wU i a n) m o (i.trans w) trivial|false=>
 refine FC (c:=44) (r:=r) X l y j (by decide) λ P a i=>?_;have v:P W=_:=a;have b:g.drop (p+sp.length)=[44]++r:=cC l;repeat k_memK
 refine nW (t:=r.take 1) ?_ ?_;·exact(EV (p:=p+sp.length+1) (q:=p+sp.length+2) (cC (u:=[44]) b)).trans (by rw[show p+sp.length+2-(p+sp.length+1)=1 by simp+arith])
 repeat k_memK
 refine itP_f (decide_eq_false (λ z=>?_)) ?_;·cases r with
 |nil=>cases z|cons c s=>exact A rfl c s rfl (by injection z)
 repeat k_memK
 exact pA (e:=p+sp.length+1) a λ f I n m o w=>h f _ _ I (wU i a n) m o (i.trans w) trivial
noncomputable def FP:T->List Nat
 |.ch _=>[99,104,97,114]|.st _=>Fx|.nu _=>xa|.tr _=>[98,111,111,108,101,97,110]|.sy _=>uo|_=>[]
noncomputable def ru(M:Nat->Prop)(es:fZ)(t:T)(Y:MH)(v:MV):Prop:=match t with
 |.sy j=>v=.str (ER j)|t=>iG M es Y t v
theorem NQ:∀c:Nat,c=45\/48<=c/\c<=57->([40,41,39,96]:List Nat).elem c=aG/\c≠44/\c≠34/\c≠35/\c≠59/\yi c=aG:=λ c h=>by
 have q:=GU (P:=λ c=>!([40,41,39,96]:List Nat).elem c&&(!Nat.beq c 44&&(!Nat.beq c 34&&(!Nat.beq c 35&&(!Nat.beq c 59&&!yi c))))) (by decide) h;haveI f:∀{n:Nat},(!Nat.beq c n)=aC->c≠n:=λ z=>Nat.ne_of_beq_eq_false (nb z);exact(⟨nb (bl q),f (bl (br q)),f (bl (br (br q))),f (bl (br (br (br q)))),f (bl (br (br (br (br q))))),nb (br (br (br (br (br q)))))⟩)
theorem ir:∀j<5,∃c r,ER j=c::r/\([40,41,39,96]:List Nat).elem c=aG/\c≠44/\c≠34/\c≠35/\c≠59/\yi c=aG:=Kx ⟨_,_,rfl,by decide⟩ ⟨_,_,rfl,by decide⟩ ⟨_,_,rfl,by decide⟩ ⟨_,_,rfl,by decide⟩ ⟨_,_,rfl,by decide⟩
theorem ZY{n u r:List Nat}{w:List Nat}{V:MH->MV->Prop}(X:LX Y W g p)(b:g.drop p=n++(u++r))(q:p<=g.length)(m:n=[]\/n=[32])(D:qW u=aC)(Q:MU r)(F:u.length<=100)(y:∃c s,u=c::s/\([40,41,39,96]:List Nat).elem c=aG/\c≠44/\c≠34/\c≠35/\c≠59/\yi c=aG)(hk:(u=[46]/\w=[46]/\∀Y v,v=.none->V Y v)\/(∃j,j<5/\u=ER j/\w=uo/\∀Y v,v=.str (ER j)->V Y v)\/(∃i:Int,i.natAbs<=1000/\u=pF i/\w=xa/\∀Y v,v=.int i->V Y v))(h:BV Y W g w V (p+n.length+u.length) k):(bY TB (G0 L) (d+7)).meth 1000 8 [.ref W] Y k x:=by
 obtain⟨c,s,e,S,O,B,E,R,G⟩:=y;have o:g.drop p=n++(c::(s++r)):=by rw[b,e];rfl
 refine FC X o q m ⟨R,G⟩ λ P l t=>?_;have C:P W=_:=l;repeat k_memK
 refine itP_f (decide_eq_false (by intro z;injection z with z;exact O z)) ?_;repeat k_memK
 refine itP_f (decide_eq_false (by intro z;injection z with z;exact B z)) ?_;repeat k_memK
 refine itP_f (decide_eq_false (by intro z;injection z with z;exact E z)) ?_;repeat k_memK
 exact A2 l (cC b) (eO b q|>λ z=>z) D Q F hk λ f v a I N A K J H=>h f v a I (wU t l N) A K (t.trans J) H
theorem dq{t:T}{n r:List Nat}(N:∀a,M a->(Y a).isSome)(w:Wf aG t)(K:AU t=aC)(X:LX Y W g p)(D:g.drop p=n++(tx aC t++r))(y:p<=g.length)(o:n=[]\/n=[32])(H:MU r)(h:BV Y W g (FP t) (ru M es t) (p+n.length+(tx aC t).length) k):(bY TB (G0 L) (d+7)).meth 1000 8 [.ref W] Y k x:=by cases t with
 |ch c=>
 have l:g.drop p=n++(35::92::(DG c++r)):=D;refine FC X l y o (by decide) λ P m q=>?_;have z:P W=_:=m;repeat k_memK
 have e:p+n.length+(tx aC (.ch c)).length=p+n.length+2+(DG c).length:=by show p+n.length+(35::92::DG c).length=_;rw[List.length_cons,List.length_cons];simp+arith
 rw[e]at h;exact bw (M:=M) (es:=es) (s3 q m N) m (cC l) (eO l y) H λ f v a I B G E F A=>h f v a I (wU q m B) G E (q.trans F) A|st V=>
 have l:g.drop p=n++(34::(V.flatMap AS++34::r)):=by
  rw[D];show n++((34::(V.flatMap AS++[34]))++r)=_;rw[List.cons_append,List.append_assoc];rfl
 delta Wf at w;refine FC X l y o (by decide) λ P m q=>?_;have z:P W=_:=m;unfold iw at z;repeat k_memK
 exact aw (M:=M) (es:=es) (s3 q m N) m (cC l) (eO l y) (by lia) λ f v a I B G E F A=>h f v a I (wU q m B) G E (q.trans F) A|tr b=>
 have l:g.drop p=n++(35::((if b then 116 else 102)::r)):=by rw[D];cases b<;>rfl
 have J:g.drop (p+n.length)=(if b then[35,116]else[35,102])++r:=by rw[cC l];cases b<;>rfl
 refine FC X l y o (by decide) λ P m q=>?_;have z:P W=_:=m;repeat k_memK
 have e:(tx aC (.tr b)).length=2:=by cases b<;>rfl
 rw[e]at h;exact bh m J (eO l y) λ f v a I B G E F A=>h f v a I (wU q m B) G E (q.trans F) (by exact A)|nu i=>
 obtain⟨c,s,e,C⟩:=CS w;have :=KJ w;refine ZY (u:=pF i) X D y o (JH w).1 H (lm this) ⟨c,s,e,NQ c (by rcases C with⟨C,_⟩|C;exact .inl C;exact .inr C)⟩ (.inr (.inr ⟨i,w,rfl,rfl,λ Y v e=>by exact e⟩)) h|sy j=>refine ZY (u:=ER j) X D y o (LV j w).1 H ((by decide:∀j<5,(ER j).length<=100) j w) (ir j w) (.inr (.inl ⟨j,w,rfl,rfl,λ Y v e=>e⟩)) h|_=>cases K
end
/-! the reader -/
noncomputable def LJ(w:List Nat)(s:Nat)(u:Nat)(st:Int)(a:MV):MO:=.inst 1021 [(11,.str w),(18,.int s),(10,.ref u),(23,.int st),(24,a)]
structure vG(mh:MH)(rd lx fr tb:Nat)(txt:List Nat)(p:Nat)(FL:List MV):Prop where
 rdo:mh rd=aA (.inst 1106 [(25,.ref lx),(26,.ref tb),(27,.ref fr)])lxo:LX mh lx txt p
 fro:mh fr=aA (.list FL)len:FL.length<=1000
noncomputable def XR(W B:Nat)(Y I:MH):Prop:=∀a o,a≠W->a≠B->Y a=aA o->I a=aA o
section
variable{M:Nat->Prop}{g:fZ}{Y I:MH}{d:Nat}{k x:KE}{L:List MV}{i W fr Q:Nat}{f:List Nat}{p:Nat}{A:List MV}
theorem vG.ne(S:vG Y i W fr Q f p A):i≠W/\i≠fr/\W≠fr:=by
 have y:=S.rdo;have K:Y W=_:=S.lxo;have a:=S.fro;refine⟨λ e=>?_,λ e=>?_,λ e=>?_⟩;·rw[e,K]at y;cases y
 ·rw[e,a]at y;cases y
 ·rw[e,a]at K;cases K
theorem XR.refl(W fr:Nat)(Y:MH):XR W fr Y Y:=λ U U U U e=>e
theorem XR.trans{a b c:MH}(x:XR W fr a b)(y:XR W fr b c):XR W fr a c:=λ n o q u e=>y n o q u (x n o q u e)
theorem XL.r(x:XL W Y I):XR W fr Y I:=λ n o q y_ e=>x n o q e
theorem Ext.r(x:Ext Y I):XR W fr Y I:=λ n o y_ y_ e=>x n o e
theorem XR.set{o:MO}(x:XR W fr Y I):XR W fr Y (upd I fr o):=λ n R q u e=>by rw[cE _ _ u];exact x n R q u e
theorem vG.ext(S:vG Y i W fr Q f p A)(e:Ext Y I):vG I i W fr Q f p A:=⟨e _ _ S.rdo,e _ _ S.lxo,e _ _ S.fro,S.len⟩
theorem vG.lex{q:Nat}(S:vG Y i W fr Q f p A)(e:XL W Y I)(X:LX I W f q):vG I i W fr Q f q A:=⟨e _ _ S.ne.1 S.rdo,X,e _ _ (λ z=>S.ne.2.2 z.symm) S.fro,S.len⟩
theorem vG.set{s:List MV}(S:vG Y i W fr Q f p A)(a:s.length<=1000):vG (upd Y fr (.list s)) i W fr Q f p s:=⟨by rw[cE _ _ S.ne.2.1];exact S.rdo,by show upd Y fr _ W=_;rw[cE _ _ S.ne.2.2];exact S.lxo,upd_same ..,a⟩
theorem vZ{a:Type}(l:List a)(v:a):rB (l++[v]) (-1)=aA v:=by
 unfold rB;rw[if_neg (by decide),if_pos (by rw[List.length_append];show 0<=(-1:Int)+((l.length+1:Nat):Int);lia),List.length_append];show(l++[v])[((-1:Int)+((l.length+1:Nat):Int)).toNat]?=_;rw[show((-1:Int)+((l.length+1:Nat):Int)).toNat=l.length by lia];exact List.getElem?_concat_length ..
theorem ZU{a:Type}(l:List a)(v:a):rB (l++[v]) (((l++[v]).length:Int)-1)=aA v:=by
 rw[List.length_append];show rB (l++[v]) (((l.length+1:Nat):Int)-1)=_;rw[show((l.length+1:Nat):Int)-1=(l.length:Int)by lia,qH];exact List.getElem?_concat_length ..
noncomputable def s5(w:List Nat):Prop:=w=[108,105,115,116]\/w=[118,101,99,116,111,114]
theorem SX{V u s st:Nat}{w:List Nat}{a v:MV}{G:List MV}{start:MV}(S:vG Y i W fr Q f p (A++[.ref V]))(h:Y V=aA (LJ w s u st a))(e:s5 w)(n:Y u=aA (.list G))(j:G.length<=1000)(m:st=0->k (.bool aG) (upd Y u (.list (G++[v]))))(y:st=1->k (.bool aG) (upd Y V (LJ w s u 2 v)))(b:st=0\/st=1):(bY TB (G0 L) (d+1)).meth 1106 20 [.ref i,v,start] Y k x:=by
  refine dX (F:=KU) (loc:=[aA (.ref i),aA v,aA start,aB,aB,aB]) rfl rfl ?_;have o:=S.rdo;have c:=S.fro;have q:cH (w=[113,117,111,116,97,116,105,111,110])=aG:=decide_eq_false (by rcases e with rfl|rfl<;>decide);repeat k_memK
  refine nY 1 (fE (fD ?_));repeat k_memK
  refine itP_f (by show(!cH (((A++[MV.ref V]).length:Int)>0))=aG;rw[decide_eq_true (by rw[List.length_append];show((A.length+1:Nat):Int)>0;lia)];rfl) ?_;repeat k_memK
  refine k_idx c (ZU A (.ref V)) ?_;repeat k_memK
  refine itP_f (decide_eq_false (by rw[List.length_append];show¬((A.length+1:Nat):Int)=0;lia)) ?_;repeat k_memK
  refine nY 1 (fE (fD ?_));repeat k_memK
  refine itP_f (decide_eq_false (Int.lt_irrefl _)) ?_;repeat k_memK
  refine k_idx c (vZ A (.ref V)) ?_;repeat k_memK
  rcases b with rfl|rfl
  · repeat k_memK
    refine gQ n (by exact lm j) ?_;repeat k_memK
    exact m rfl
  · repeat k_memK
    have l:Y V=aA (.inst 1021 [(11,.str w),(18,.int s),(10,.ref u),(23,.int (1:Nat)),(24,a)]):=h;exact y rfl
theorem xk{V a e:Nat}{w:List Nat}{v:MV}{vec:Bool}(S:vG Y i W fr Q f p A)(m:A.length<1000)(z:Y V=aA (gf w v a e))(y:w=if vec then[35,40]else[40])(h:∀Z u I,Y Z=aB->Y u=aB->Z≠u->I Z=aA (LJ (if vec then[118,101,99,116,111,114]else[108,105,115,116]) a u 0 (.cst 44))->I u=aA (.list [])->vG I i W fr Q f p (A++[.ref Z])->XR W fr Y I->k (.bool aC) I):(bY TB (G0 L) (d+2)).meth 1106 17 [.ref i,.ref V] Y k x:=by
 refine dX (F:=GG) (loc:=[aA (.ref i),aA (.ref V),aB,aB]) rfl rfl ?_;have B:=S.rdo;have l:=S.fro;subst y;cases vec with
 |false=>
 repeat k_memK
 intro u j;repeat k_memK
 refine rG (F:=qp) rfl (λ n=>[aA (.ref n),aA (.str [108,105,115,116]),aA (.int a),aA (.ref u)]) (λ U=>rfl) (λ U=>rfl) (λ U=>rfl) λ Z c=>?_;obtain⟨q,b⟩:=eQ c;have E:Ext Y (upd (upd Y u (.list [])) Z (LJ [108,105,115,116] a u 0 (.cst 44))):=(Ext.new j _).trans (Ext.new c _);have t:=E _ _ l;show dP _ _ _ _ (upd (upd Y u (.list [])) Z (LJ [108,105,115,116] a u 0 (.cst 44))) _ _;repeat k_memK
 refine gQ t (by unfold aX;exact F1 m) ?_;repeat k_memK
 have s:fr≠Z:=λ e=>by rw[e,b]at l;cases l
 have o:fr≠u:=λ e=>by rw[e,j]at l;cases l
 exact h Z u _ b j q (by rw[cE _ _ s.symm,upd_same];rfl) (by rw[cE _ _ o.symm];exact upd_some _ (upd_same ..) c) ((S.ext E).set (by rw[List.length_append];exact m)) (Ext.r E).set|true=>
 repeat k_memK
 intro u j;repeat k_memK
 refine rG (F:=qp) rfl (λ n=>[aA (.ref n),aA (.str [118,101,99,116,111,114]),aA (.int a),aA (.ref u)]) (λ U=>rfl) (λ U=>rfl) (λ U=>rfl) λ Z c=>?_;obtain⟨q,b⟩:=eQ c;have E:Ext Y (upd (upd Y u (.list [])) Z (LJ [118,101,99,116,111,114] a u 0 (.cst 44))):=(Ext.new j _).trans (Ext.new c _);have t:=E _ _ l;show dP _ _ _ _ (upd (upd Y u (.list [])) Z (LJ [118,101,99,116,111,114] a u 0 (.cst 44))) _ _;repeat k_memK
 refine gQ t (by unfold aX;exact F1 m) ?_;repeat k_memK
 have s:fr≠Z:=λ e=>by rw[e,b]at l;cases l
 have o:fr≠u:=λ e=>by rw[e,j]at l;cases l
 exact h Z u _ b j q (by rw[cE _ _ s.symm,upd_same];rfl) (by rw[cE _ _ o.symm];exact upd_some _ (upd_same ..) c) ((S.ext E).set (by rw[List.length_append];exact m)) (Ext.r E).set
theorem JS{V a e:Nat}{w:List Nat}{v:MV}(S:vG Y i W fr Q f p A)(t:Y V=aA (gf w v a e))(m:w≠[40]/\w≠[35,40]/\∀j<4,qs j≠w)(h:k (.bool aG) Y):(bY TB (G0 L) (d+2)).meth 1106 17 [.ref i,.ref V] Y k x:=by
 refine dX (F:=GG) (loc:=[aA (.ref i),aA (.ref V),aB,aB]) rfl rfl ?_;have q:=decide_eq_false m.1;have u:=decide_eq_false m.2.1;repeat k_memK
 refine tD ?_;repeat k_memK
 have one:∀j,j<4->∀(D o2:Option MV)(bZ:KL),(∀D o2,bZ [aA (.ref i),aA (.ref V),D,o2] Y)->uU (bY TB (G0 L) (d+1)) (G0 L) [.ite (.cmp .Eq (.l 2) (.attr (.l 1) 11)) [.ex (.meth (.attr (.l 0) 27) 29 [(.new 108 [(.c (.s [113,117,111,116,97,116,105,111,110])),(.attr (.l 1) 18),(.lst [(.meth (.attr (.l 0) 26) 6 [(.l 3)])])])]),.ret (.c (.b aC))] []] k [aA (.ref i),aA (.ref V),aA (.str (qs j)),aA (.str (qn j))] Y bZ:=λ j o D o2 bZ n=>by
  have r:=decide_eq_false (m.2.2 j o);refine lK ?_;repeat k_memK
  exact n _ _
 refine⟨trivial,OptK.some rfl (one 0 (by decide) aB aB _ λ U U=>⟨trivial,OptK.some rfl (one 1 (by decide) aB aB _ λ U U=>⟨trivial,OptK.some rfl (one 2 (by decide) aB aB _ λ U U=>⟨trivial,OptK.some rfl (one 3 (by decide) aB aB _ λ U U=>⟨trivial,?_⟩)⟩)⟩)⟩)⟩;repeat k_memK
 exact h
end
structure IC(M:Nat->Prop)(es:fZ)(mh:MH)(tb:Nat):Prop where
 tab:xT es mh tb
 off:∀e∈es,∀a,e.2=.ref a->¬M a
section
variable{M:Nat->Prop}{X:fZ}{Y I:MH}{d:Nat}{k x:KE}{L:List MV}{D W B Q:Nat}{f:List Nat}{p:Nat}{A:List MV}
theorem D5{V u s:Nat}{a:MV}{G:List MV}{g:MV}(S:vG Y D W B Q f p (A++[.ref V]))(i:Y V=aA (LJ [108,105,115,116] s u 0 a))(e:Y u=aA (.list G))(b:G≠[])(h:k .none (upd Y V (LJ [108,105,115,116] s u 1 a))):(bY TB (G0 L) (d+1)).meth 1106 18 [.ref D,g] Y k x:=by
 refine dX (F:=SU) (loc:=[aA (.ref D),aA g,aB]) rfl rfl ?_;have j:=S.rdo;have c:=S.fro;repeat k_memK
 refine itP_f (by rw[List.isEmpty_eq_false_iff.mpr (by simp)]) ?_;repeat k_memK
 refine k_idx c (vZ A (.ref V)) ?_;repeat k_memK
 refine itP_f (by show G.isEmpty=aG;cases G with|nil=>exact absurd rfl b|cons _ _=>rfl) ?_;repeat k_memK
 exact h
theorem UC{V u s:Nat}{a:MV}{acc:List MV}{g:MV}(S:vG Y D W B Q f p (A++[.ref V]))(j:Y V=aA (LJ [118,101,99,116,111,114] s u 0 a))(h:∀n I,Y n=aB->vG I D W B Q f p A->XR W B Y I->I n=aA (.inst 212 [(10,.ref u),(7,.none)])->k (.ref n) I):(bY TB (G0 L) (d+2)).meth 1106 19 [.ref D,g] Y k x:=by
 refine dX (F:=KP) (loc:=[aA (.ref D),aA g,aB]) rfl rfl ?_;have t:=S.rdo;have c:=S.fro;have l:V≠B:=λ e=>by rw[e,c]at j;cases j
 have G:A.length<=1000:=by have :=S.len;rw[List.length_append]at this;exact F1 this
 repeat k_memK
 refine itP_f (by rw[List.isEmpty_eq_false_iff.mpr (by simp)]) ?_;repeat k_memK
 refine k_idx c (vZ A (.ref V)) ?_;repeat k_memK
 refine CN c ?_;show cF _ _ _ _ (upd Y B (.list A)) _ _ _ _;have m:=S.set G;have o:=(cE Y (.list A) l).trans j;repeat k_memK
 refine rG (F:=Gm) rfl (λ n=>[aA (.ref n),aA (.ref u)]) (λ U=>rfl) (λ U=>rfl) (λ U=>rfl) λ n b=>?_;obtain⟨q,i⟩:=eQ b;exact h n _ i (m.ext (Ext.new b _)) ((XR.refl _ _ _).set.trans (Ext.r (Ext.new b _))) (upd_same ..)
theorem VQ{V u s:Nat}{st:Nat}{b:MV}{G:List MV}{g:MV}(H:∀a,M a->(Y a).isSome)(S:vG Y D W B Q f p (A++[.ref V]))(o:Y V=aA (LJ [108,105,115,116] s u st b))(w:st=0\/st=2)(K:Y u=aA (.list G))(j:G.length<=1000)(C:u≠B)(h:∀v I,vG I D W B Q f p A->XR W B Y I->sH M I b G v->k v I):(bY TB (G0 L) (d+3)).meth 1106 19 [.ref D,g] Y k x:=by
  refine dX (F:=KP) (loc:=[aA (.ref D),aA g,aB]) rfl rfl ?_;have N:=S.rdo;have m:=S.fro;have n:V≠B:=λ e=>by rw[e,m]at o;cases o
  have y:A.length<=1000:=by have :=S.len;rw[List.length_append]at this;exact F1 this
  have i:∀a,M a->(upd Y B (.list A) a).isSome:=λ a J=>by
    by_cases q:a=B;·rw[q,upd_same];rfl
    ·rw[cE _ _ q];exact H a J
  have l:upd Y B (.list A) u=aA (.list G):=by rw[cE _ _ C];exact K
  have z:=S.set y;rcases w with rfl|rfl
  · repeat k_memK
    refine itP_f (by rw[List.isEmpty_eq_false_iff.mpr (by simp)]) ?_;repeat k_memK
    refine k_idx m (vZ A (.ref V)) ?_;repeat k_memK
    refine CN m ?_;show cF _ _ _ _ (upd Y B (.list A)) _ _ _ _;have t:=(cE Y (.list A) n).trans o;repeat k_memK
    exact fv i l j λ v I E c=>h v I (z.ext E) ((XR.refl _ _ _).set.trans (Ext.r E)) c
  · repeat k_memK
    refine itP_f (by rw[List.isEmpty_eq_false_iff.mpr (by simp)]) ?_;repeat k_memK
    refine k_idx m (vZ A (.ref V)) ?_;repeat k_memK
    refine CN m ?_;show cF _ _ _ _ (upd Y B (.list A)) _ _ _ _;have t:=(cE Y (.list A) n).trans o;repeat k_memK
    exact fv i l j λ v I E c=>h v I (z.ext E) ((XR.refl _ _ _).set.trans (Ext.r E)) c
theorem az{s:List Nat}(T:IC M X Y Q)(o:∃a,AL X s=.ref a)(h:∀v,AC M X Y s v->k v Y):(bY TB (G0 L) (d+2)).meth 128 6 [.ref Q,.str s] Y k x:=by
 obtain⟨a,e⟩:=o;obtain⟨⟨H,P,N,y,K,r,t⟩,KB⟩:=T.tab;refine dX (F:=ue) (loc:=[aA (.ref Q),aA (.str s),aB]) rfl rfl ?_;repeat k_memK
 refine PW K r ?_;repeat k_memK
 refine QJ K ?_;rw[e];repeat k_memK
 have c:(X.find? (·.1==s)).map (·.2)=aA (.ref a):=by
  unfold AL at e;cases q:(X.find? (·.1==s)).map (·.2)with
 |none=>rw[q]at e;cases e|some v=>rw[q]at e;exact congrArg aA e
 obtain⟨l,n,j⟩:=bO.mp c;have b:=List.mem_of_find?_eq_some n;obtain⟨V,i,g,m⟩:=KB l b;have :=bC (List.find?_some (p:=λ x:List Nat×MV=>x.1==s) n);rw[j]at g;cases g;rw[this]at m;exact h (.ref a) ⟨a,i,rfl,T.off l b a j,m,c⟩
theorem ii{t:T}{g a e:Nat}{v:MV}(S:vG Y D W B Q f p A)(T:IC M X Y Q)(o:AU t=aC)(l:Y g=aA (gf (FP t) v a e))(i:ru M X t Y v)(n:∀j,t=.sy j->∃a,AL X (ER j)=.ref a)(h:∀u,iG M X Y t u->k u Y):(bY TB (G0 L) (d+3)).meth 1106 1 [.ref D,.ref g] Y k x:=by
 refine dX (F:=YJ) (loc:=[aA (.ref D),aA (.ref g)]) rfl rfl ?_;have q:=S.rdo;obtain⟨⟨H,P,N,y,-⟩,-⟩:=T.tab;cases t with
 |sy j=>
 have m:v=.str (ER j):=i;subst m;have b:Y g=aA (.inst 859 [(11,.str [115,121,109,98,111,108]),(17,.str (ER j)),(18,.int a),(19,.int e)]):=l;repeat k_memK
 exact az T (n j rfl) λ v i=>h v (by exact i)|ch c=>
 have b:Y g=aA (.inst 859 [(11,.str [99,104,97,114]),(17,v),(18,.int a),(19,.int e)]):=l;repeat k_memK
 exact h v i|st c=>
 have b:Y g=aA (.inst 859 [(11,.str [115,116,114,105,110,103]),(17,v),(18,.int a),(19,.int e)]):=l;repeat k_memK
 exact h v i|nu c=>
 have b:Y g=aA (.inst 859 [(11,.str [110,117,109,98,101,114]),(17,v),(18,.int a),(19,.int e)]):=l;repeat k_memK
 exact h v i|tr c=>
 have b:Y g=aA (.inst 859 [(11,.str [98,111,111,108,101,97,110]),(17,v),(18,.int a),(19,.int e)]):=l;repeat k_memK
 exact h v i|_=>cases o
/-! the reader's loop -/
noncomputable abbrev dB:List MS:=[.ite (.meth (.l 0) 20 [(.l 2),(.attr (.l 1) 18)]) [.ret (.meth (.l 0) 21 [(.l 2)])] []]
noncomputable abbrev Mt:List MS:=[.asg (.l 1) (.meth (.attr (.l 0) 25) 8 []),.ite (.cmp .Eq (.attr (.l 1) 11) (.c (.s [101,110,100]))) [.ite (.cmpNil .Eq (.attr (.l 0) 27)) [.ret (.g 4)] [],.dead] [],.ite (.meth (.l 0) 17 [(.l 1)]) [.cont] [],.ite (.cmp .Eq (.attr (.l 1) 11) (.c (.s [46]))) [.ex (.meth (.l 0) 18 [(.l 1)]),.cont] [],.asg (.l 2) (.ite (.cmp .Eq (.attr (.l 1) 11) (.c (.s [41]))) (.meth (.l 0) 19 [(.l 1)]) (.meth (.l 0) 1 [(.l 1)])),.ite (.meth (.l 0) 20 [(.l 2),(.attr (.l 1) 18)]) [.ret (.meth (.l 0) 21 [(.l 2)])] []]
noncomputable abbrev UB(L:List MV)(d:Nat)(H:KL)(K x:KE):Loc->MH->KL->Prop:=zG (bY TB (G0 L) (d+8)) (G0 L) (.c (.b aC)) Mt H K x
noncomputable def yh(L:List MV)(d:Nat)(M:Nat->Prop)(X:fZ)(Y:MH)(D W B Q:Nat)(f:List Nat)(p:Nat)(A:List MV)(t:T)(N:Nat)(H:KL)(K x:KE):Prop:=∀v g w C a e I,vG I D W B Q f p A->XR W B Y I->iG M X I t v->I g=aA (gf w C a e)->cF (bY TB (G0 L) (d+8)) (G0 L) dB [aA (.ref D),aA (.ref g),aA v] I (lT (UB L d H K x) N) K (lT (UB L d H K x) N) x
theorem IC.ext{b:MH}(T:IC M X b Q)(x:Ext b Y):IC M X Y Q:=⟨T.tab.mono x,T.off⟩
theorem uT{b:MH}(x:Ext b Y)(y:XR W B Y I)(K:b W=aB)(C:b B=aB):Ext b I:=λ a o e=>y a o (λ z=>by rw[z,K]at e;cases e) (λ z=>by rw[z,C]at e;cases e) (x a o e)
theorem DR(y:XR W B Y I)(e:vG I D W B Q f p A)(h:∀a,M a->(Y a).isSome):∀a,M a->(I a).isSome:=λ a g=>by
  by_cases b:a=W
  ·have :I W=_:=e.lxo;rw[b,this];rfl
  · by_cases c:a=B;·rw[c,e.fro];rfl
    ·obtain⟨o,i⟩:=aS.mp (h a g);rw[y a o b c i];rfl
noncomputable def qQ(X:fZ)(t:T):Prop:=∃M Y v,iG M X Y t v
theorem qQ.sy{j:Nat}(h:qQ X (.sy j)):∃a,AL X (ER j)=.ref a:=by
 obtain⟨M,Y,v,r⟩:=h;obtain⟨a,i,_,_,_,e⟩:=r;exact⟨a,by unfold AL;rw[e];rfl⟩
theorem OO:∀t:T,AU t=aC->cH (FP t=[101,110,100])=aG/\cH (FP t=[46])=aG/\cH (FP t=[41])=aG/\(FP t≠[40]/\FP t≠[35,40]/\∀j<4,qs j≠FP t)
 |.ch _,_=>by refine⟨rfl,rfl,rfl,?_⟩;show([99,104,97,114]:List Nat)≠[40]/\([99,104,97,114]:List Nat)≠[35,40]/\∀j<4,qs j≠[99,104,97,114];decide|.st _,_=>by refine⟨rfl,rfl,rfl,?_⟩;show Fx≠_/\Fx≠_/\∀j<4,qs j≠Fx;decide|.nu _,_=>by refine⟨rfl,rfl,rfl,?_⟩;show xa≠_/\xa≠_/\∀j<4,qs j≠xa;decide|.tr _,_=>by refine⟨rfl,rfl,rfl,?_⟩;show([98,111,111,108,101,97,110]:List Nat)≠[40]/\([98,111,111,108,101,97,110]:List Nat)≠[35,40]/\∀j<4,qs j≠[98,111,111,108,101,97,110];decide|.sy _,_=>by refine⟨rfl,rfl,rfl,?_⟩;show uo≠_/\uo≠_/\∀j<4,qs j≠uo;decide
theorem IT{b:MH}{t:T}{N:Nat}{n r:List Nat}{H:KL}{K:KE}{R o2:Option MV}(S:vG Y D W B Q f p A)(T:IC M X b Q)(E:Ext b Y)(y:b W=aB)(C:b B=aB)(P:∀a,M a->(Y a).isSome)(q:Wf aG t)(c:AU t=aC)(G:qQ X t)(J:f.drop p=n++(tx aC t++r))(V:p<=f.length)(m:n=[]\/n=[32])(U:MU r)(h:yh L d M X Y D W B Q f (p+n.length+(tx aC t).length) A t N H K x):lT (UB L d H K x) (N+1) [aA (.ref D),R,o2] Y:=by
 refine fE (fD ?_);have r1:=S.rdo;have X':Y W=_:=S.lxo;repeat k_memK
 refine dq (M:=M) (es:=X) P q c S.lxo J V m U λ g v a I a1 l F o O=>?_;have i:=S.lex o F;have Z:=i.rdo;have s:=l;obtain⟨w1,w2,w3,w⟩:=OO t c;repeat k_memK
 refine JS i l w ?_;repeat k_memK
 refine ii i (T.ext (uT E o.r y C)) c l O (λ j e=>by subst e;exact G.sy) λ u z=>?_;exact h u g _ _ _ _ I i o.r z l
end
/-! whole data are read -/
mutual noncomputable def cT:T->Nat
 |.ve g=>2+cL g|.ls g V=>(if V then 4 else 2)+cL g|.qt _ t=>1+cT t|.ch _=>1|.st _=>1|.nu _=>1|.tr _=>1|.sy _=>1 noncomputable def cL:List T->Nat
 |[]=>0|t::r=>cT t+cL r end
theorem dw:∀t:T,1<=cT t
 |.ve _=>by unfold cT;exact F0|.ls _ V=>by unfold cT;cases V<;>simp<;>lia|.qt _ _=>by unfold cT;exact F0|.ch _=>aZ _|.st _=>aZ _|.nu _=>aZ _|.tr _=>aZ _|.sy _=>aZ _
noncomputable def eT(n:List Nat):List T->List Nat
 |[]=>[]|t::r=>n++(tx aC t++eT [32] r)
theorem QK:∀g:List T,eT [] g=wB aC g
 |[]=>rfl|[t]=>by rw[wK];rfl|t::u::r=>by rw[wL,<-QK (u::r)];rfl
theorem Ff{r:List Nat}(h:MU r):∀g:List T,MU (eT [32] g++r):=by
 intro d;induction d with
 |nil=>exact h|cons t g a=>
 exact λ c s e=>by
  haveI E:32::(tx aC t++eT [32] g++r)=c::s:=e;injection E with b _;rw[<-b];rfl
theorem LP{c:Nat}{r:List Nat}(h:OA c=aC):MU (c::r):=λ a s e=>by injection e with b _;rw[<-b];exact h
section
variable{M:Nat->Prop}{y:fZ}{Y I:MH}{d:Nat}{k x:KE}{L:List MV}{W:Nat}{b:List Nat}{p:Nat}
theorem fh{n r:List Nat}{e:Bool}(X:LX Y W b p)(o:b.drop p=n++((if e then[35,40]else[40])++r))(j:p<=b.length)(i:n=[]\/n=[32])(h:BV Y W b (if e then[35,40]else[40]) (λ U U=>True) (p+n.length+(if e then 2 else 1)) k):(bY TB (G0 L) (d+7)).meth 1000 8 [.ref W] Y k x:=by cases e with
 |false=>exact RT (c:=40) (r:=r) X o j i (.inl rfl) h|true=>
 have f:b.drop p=n++(35::(40::r)):=o;refine FC X f j i (by decide) λ P l m=>?_;haveI q:P W=_:=l;repeat k_memK
 exact YP l (cC f) (eO f j) λ g v a I t z s u w=>h g v a I (wU m l t) z s (m.trans u) w
end
noncomputable def yN(L:List MV)(d:Nat)(X:fZ)(b:MH)(i W B Q:Nat)(c:List Nat)(H:KL)(K x:KE)(t:T):Prop:=∀(M:Nat->Prop)(Y:MH)(p:Nat)(o:List MV)(N:Nat)(n r:List Nat)(D o2:Option MV),vG Y i W B Q c p o->IC M X b Q->Ext b Y->(∀a,M a->(Y a).isSome)->c.drop p=n++(tx aC t++r)->p<=c.length->(n=[]\/n=[32])->MU r->o.length+cT t<=1000->yh L d M X Y i W B Q c (p+n.length+(tx aC t).length) o t N H K x->lT (UB L d H K x) (N+cT t) [aA (.ref i),D,o2] Y
section
variable{M:Nat->Prop}{R:fZ}{b Y I:MH}{d:Nat}{x:KE}{L:List MV}{D W B Q:Nat}{g:List Nat}{p:Nat}{A:List MV}{H:KL}{K:KE}
structure IA(M:Nat->Prop)(R:fZ)(j Y:MH)(D W B Q:Nat)(g:List Nat)(p:Nat)(A:List MV)(V u a:Nat)(w:List Nat)(st:Nat)(i:MV)(G:List MV)(ts:List T):Prop where
 S:vG Y D W B Q g p (A++[.ref V])X:XR W B j Y
 f:Y V=aA (LJ w a u st i)l:Y u=aA (.list G)r:jC M R Y ts G
 n1:j V=aB
 n2:j u=aB
 m:∀a,M a->(Y a).isSome
 e1:M W/\M B/\M V/\M u
 nt:u≠B
variable{j:MH}{V u a:Nat}{w:List Nat}{st:Nat}{i:MV}{G:List MV}{ts0:List T}
theorem IA.ne(S:IA M R j Y D W B Q g p A V u a w st i G ts0):V≠W/\V≠B/\u≠W/\u≠B/\V≠u/\D≠V/\D≠u:=by
 have y:=S.f;have C:=S.l;have h:Y W=_:=S.S.lxo;haveI k:=S.S.fro;have c:=S.S.rdo;refine⟨λ e=>?_,λ e=>?_,λ e=>?_,λ e=>?_,λ e=>?_,λ e=>?_,λ e=>?_⟩;·rw[e,h]at y;cases y
 ·rw[e,k]at y;cases y
 ·rw[e,h]at C;cases C
 ·exact S.nt e
 ·rw[e,C]at y;cases y
 ·rw[e,y]at c;cases c
 ·rw[e,C]at c;cases c
theorem IA.step{q:Nat}(S:IA M R j Y D W B Q g p A V u a w st i G ts0)(y:XR W B Y I)(c:vG I D W B Q g q (A++[.ref V])):IA M R j I D W B Q g q A V u a w st i G ts0:=by
 obtain⟨k,h,s,n,-⟩:=S.ne;exact⟨c,S.X.trans y,y _ _ k h S.f,y _ _ s n S.l,S.r.mono (λ a o m e=>y a o (λ z=>m (z▸S.e1.1)) (λ z=>m (z▸S.e1.2.1)) e) (jM.refl _) _ _,S.n1,S.n2,DR y c S.m,S.e1,S.nt⟩
theorem IA.set(S:IA M R j Y D W B Q g p A V u a w st i G ts0){c:Nat}(f:c=V\/c=u)(o:MO):vG (upd Y c o) D W B Q g p (A++[.ref V])/\XR W B j (upd Y c o)/\jC M R (upd Y c o) ts0 G/\∀a,M a->(upd Y c o a).isSome:=by
  obtain⟨k,h,l,n,E,v,y⟩:=S.ne;haveI s:M c:=by rcases f with rfl|rfl;exact S.e1.2.2.1;exact S.e1.2.2.2
  haveI t:j c=aB:=by rcases f with rfl|rfl;exact S.n1;exact S.n2
  refine⟨⟨?_,?_,?_,S.S.len⟩,λ a F z C e=>?_,S.r.mono ((fV.refl M Y).upd s o) (jM.refl _) _ _,λ a m=>?_⟩;·rw[cE _ _ (by rcases f with rfl|rfl;exact v;exact y)];exact S.S.rdo
  ·show upd Y c o W=_;rw[cE _ _ (by rcases f with rfl|rfl;exact k.symm;exact l.symm)];exact S.S.lxo
  ·rw[cE _ _ (by rcases f with rfl|rfl;exact h.symm;exact n.symm)];exact S.S.fro
  · rw[cE];·exact S.X a F z C e
    ·rintro rfl;rw[t]at e;cases e
  · by_cases q:a=c;·rw[q,upd_same];rfl
    ·rw[cE _ _ q];exact S.m a m
theorem IA.add{t:T}{v:MV}(S:IA M R j Y D W B Q g p A V u a w st i G ts0)(h:iG M R Y t v):IA M R j (upd Y u (.list (G++[v]))) D W B Q g p A V u a w st i (G++[v]) (ts0++[t]):=by
 obtain⟨y,C,e,c⟩:=S.set (.inr rfl) (.list (G++[v]));exact⟨y,C,by rw[cE _ _ S.ne.2.2.2.2.1];exact S.f,upd_same ..,jC.snoc (h.mono ((fV.refl M Y).upd S.e1.2.2.2 _) (jM.refl _) _ _) e,S.n1,S.n2,c,S.e1,S.nt⟩
theorem IA.frm{e:Nat}{c:MV}(S:IA M R j Y D W B Q g p A V u a w st i G ts0):IA M R j (upd Y V (LJ w a u e c)) D W B Q g p A V u a w e c G ts0:=by
 obtain⟨y,C,h,f⟩:=S.set (.inl rfl) (LJ w a u e c);exact⟨y,C,upd_same ..,by rw[cE _ _ S.ne.2.2.2.2.1.symm];exact S.l,h,S.n1,S.n2,f,S.e1,S.nt⟩
theorem wk(hw:s5 w)(HT:IC M R b Q)(E:Ext b j)(n:b W=aB)(P:b B=aB):∀(C:List T)(G:List MV)(ts0:List T)(Y:MH)(p:Nat)(o r:List Nat)(N:Nat)(q o2:Option MV),IA M R j Y D W B Q g p A V u a w 0 i G ts0->(∀t∈C,yN L d R b D W B Q g H K x t)->g.drop p=eT o C++r->p<=g.length->(o=[]\/o=[32])->MU r->A.length+1+cL C<=1000->G.length+cL C<=1000->(∀I O q o2,IA M R j I D W B Q g (p+(eT o C).length) A V u a w 0 i O (ts0++C)->O.length=G.length+C.length->lT (UB L d H K x) N [aA (.ref D),q,o2] I)->lT (UB L d H K x) (N+cL C) [aA (.ref D),q,o2] Y:=by
 intro z_;induction z_ with
 |nil=>
 intro G ts0 Y p o r N q o2 S U U U U U U U h;exact h Y G q o2 (by rw[List.append_nil];exact S) rfl|cons t C a3=>
 intro G ts0 Y p o r N q o2 S IH hd hp a1 hr b1 b2 h;unfold cL at b1 b2;haveI F:=dw t;have k:g.drop p=o++(tx aC t++(eT [32] C++r)):=by rw[hd];show o++(tx aC t++eT [32] C)++r=_;rw[List.append_assoc,List.append_assoc]
 rw[show N+cL (t::C)=N+cL C+cT t by show N+(cT t+cL C)=_;simp+arith];refine IH t (List.mem_cons_self ..) M Y p _ _ _ _ q o2 S.S HT (uT E S.X n P) S.m k hp a1 (Ff hr C) (by rw[List.length_append];show A.length+1+_<=_;exact F1 b1) ?_;intro v Z w' c s e I S' y hv ht;have S2:=S.step y S';have r1:=S'.rdo;unfold gf at ht;repeat k_memK
 refine SX (st:=0) S' S2.f hw S2.l (F1 b2) (λ U=>?_) (λ z=>by cases z) (.inl rfl);repeat k_memK
 haveI a4:p+o.length+(tx aC t).length<=g.length:=eO (cC k) (eO k hp);refine a3 _ _ _ _ [32] r N _ _ (S2.add hv) (λ t ht=>IH t (List.mem_cons_of_mem _ ht)) (cC (cC k)) a4 (.inr rfl) hr (F1 b1) (by rw[List.length_append];show G.length+1+_<=_;exact F2 b2 F) λ a2 J q o2 S3 l3=>?_;refine h a2 J q o2 ?_ (by rw[l3,List.length_append];show G.length+1+C.length=G.length+(C.length+1);simp+arith);rw[show p+(eT o (t::C)).length=p+o.length+(tx aC t).length+(eT [32] C).length by show p+(o++(tx aC t++eT [32] C)).length=_;rw[List.length_append,List.length_append];simp+arith];rw[List.append_assoc]at S3;exact S3
end
section
variable{M:Nat->Prop}{R:fZ}{b Y I:MH}{d:Nat}{x:KE}{L:List MV}{D W B P:Nat}{g:List Nat}{p:Nat}{F:List MV}{H:KL}{K:KE}{G:List T}{N:Nat}{U o2:Option MV}
theorem IC.open{Z C:Nat}{V:MH}(T:IC M R b P)(E:Ext b V)(y:b W=aB)(f:b B=aB)(n:V Z=aB)(q:V C=aB):IC (λ a=>M a\/a=W\/a=B\/a=Z\/a=C) R b P:=⟨T.tab,λ e l a o m=>by
 obtain⟨S,i,h,c⟩:=T.tab.ent e l;rw[o]at h;cases h;rcases m with m|rfl|rfl|rfl|rfl;·exact T.off e l a o m
 ·rw[y]at c;cases c
 ·rw[f]at c;cases c
 ·rw[E _ _ c]at n;cases n
 ·rw[E _ _ c]at q;cases q⟩
theorem EJ{vec:Bool}{w s:List Nat}(S:vG Y D W B P g p F)(T:IC M R b P)(E:Ext b Y)(n:b W=aB)(i:b B=aB)(hM:∀a,M a->(Y a).isSome)(IH:∀t∈G,yN L d R b D W B P g H K x t)(hd:g.drop p=w++((if vec then[35,40]else[40])++(wB aC G++s)))(hp:p<=g.length)(a6:w=[]\/w=[32])(hs:MU s)(u:F.length+2+cL G<=1000)(h:∀J q I Z C a Q U o2,(∀a,M a->J a)->IC J R b P->XR W B Y q->(∀a,M a->(q a).isSome)->IA J R q I D W B P g (p+w.length+(if vec then 2 else 1)+(wB aC G).length) F Z C a (if vec then[118,101,99,116,111,114]else[108,105,115,116]) 0 (.cst 44) Q G->Q.length=G.length->lT (UB L d H K x) N [aA (.ref D),U,o2] I):lT (UB L d H K x) (N+cL G+1) [aA (.ref D),U,o2] Y:=by
 refine fE (fD ?_);have r1:=S.rdo;haveI X':Y W=_:=S.lxo;repeat k_memK
 refine fh S.lxo hd hp a6 λ z v a q a1 a2 a3 O V=>?_;have S1:=S.lex O a3;have r2:=S1.rdo;haveI al:=a2;have w1:cH ((if vec then[35,40]else[40]:List Nat)=[101,110,100])=aG:=by cases vec<;>rfl
 repeat k_memK
 refine xk (vec:=vec) S1 (F1 u) a2 rfl λ Z C o n1 n2 n3 f l X y=>?_;repeat k_memK
 have M1:=DR O.r S1 hM;haveI q1:g.drop (p+w.length+(if vec then 2 else 1))=wB aC G++s:=by
  have :=cC (cC hd);cases vec<;>exact this
 haveI q2:p+w.length+(if vec then 2 else 1)<=g.length:=by
  have :=eO (cC hd) (eO hd hp);cases vec<;>exact this
 haveI A:IA (λ a=>M a\/a=W\/a=B\/a=Z\/a=C) R q o D W B P g (p+w.length+(if vec then 2 else 1)) F Z C a (if vec then[118,101,99,116,111,114]else[108,105,115,116]) 0 (.cst 44) [] []:=by
    refine⟨X,y,f,l,by rfl,n1,n2,λ c m=>?_,⟨.inr (.inl rfl),.inr (.inr (.inl rfl)),.inr (.inr (.inr (.inl rfl))),.inr (.inr (.inr (.inr rfl)))⟩,λ e=>?_⟩
    · rcases m with m|rfl|rfl|rfl|rfl;·exact DR y X M1 c m
      ·have :o c=_:=X.lxo;rw[this];rfl
      ·rw[X.fro];rfl
      ·rw[f];rfl
      ·rw[l];rfl
    ·have :=S1.fro;rw[<-e,n2]at this;cases this
 refine wk (ts0:=[]) (by cases vec;exact .inl rfl;exact .inr rfl) (T.open (uT E O.r n i) n i n1 n2) (uT E O.r n i) n i G [] o _ [] s N _ _ A IH (by rw[QK];exact q1) q2 (.inl rfl) hs (F1 u) (by show 0+_<=_;exact F1 u) λ a5 Q U o2 S3 l3=>?_;rw[QK]at S3;exact h _ q a5 Z C a Q U o2 (λ V m=>.inl m) (T.open (uT E O.r n i) n i n1 n2) O.r M1 S3 (by rw[l3];show 0+_=_;simp+arith)
variable{k:MH}{Z C a:Nat}{w:List Nat}{st:Nat}{j:MV}{Q:List MV}
theorem GY{r:List Nat}(S:IA M R k Y D W B P g p F Z C a w st j Q G)(q:g.drop p=41::r)(t:p<=g.length)(h:∀f v c e I,I f=aA (gf [41] v c e)->IA M R k I D W B P g (p+1) F Z C a w st j Q G->(bY TB (G0 L) (d+8)).meth 1106 19 [.ref D,.ref f] I (λ u Y=>cF (bY TB (G0 L) (d+8)) (G0 L) dB [aA (.ref D),aA (.ref f),aA u] Y (lT (UB L d H K x) N) K (lT (UB L d H K x) N) x) x):lT (UB L d H K x) (N+1) [aA (.ref D),U,o2] Y:=by
 refine fE (fD ?_);have A:=S.S.rdo;haveI z:Y W=_:=S.S.lxo;repeat k_memK
 refine RT (c:=41) (sp:=[]) (r:=r) S.S.lxo q t (.inl rfl) (by decide) λ f v c i E m o n V=>?_;have l:=S.step n.r (S.S.lex n o);have y:=l.S.rdo;haveI s:=m;repeat k_memK
 refine JS l.S m (by decide) ?_;repeat k_memK
 exact h f v c _ i m l
theorem ko(y:b W=aB)(i:b B=aB)(IH:∀t∈G,yN L d R b D W B P g H K x t):yN L d R b D W B P g H K x (.ve G):=by
 intro M Y p F N h r U o2 S T E hM hd hp a5 hr u hK;unfold cT at u⊢;rw[show N+(2+cL G)=N+1+cL G+1 by simp+arith];have a1:g.drop p=h++([35,40]++(wB aC G++(41::r))):=by
  rw[hd];show h++((35::40::(wB aC G++[41]))++r)=_;rw[List.cons_append,List.cons_append,List.append_assoc];rfl
 refine EJ (vec:=aC) S T E y i hM IH a1 hp a5 (LP rfl) (F1 u) λ M' A s Z C a Q U o2 w1 T1 y1 O S1 J=>?_;haveI q1:g.drop (p+h.length+2+(wB aC G).length)=41::r:=cC (cC (cC a1));haveI q2:p+h.length+2+(wB aC G).length<=g.length:=eO (cC (cC a1)) (eO (cC a1) (eO a1 hp));refine GY S1 q1 q2 λ V v c e a3 ht S3=>?_;refine UC (acc:=Q) S3.S S3.f λ n a2 n4 S4 y4 v4=>?_;haveI a4:a2 V=_:=y4 V _ (λ z=>by have :a3 W=_:=S3.S.lxo;rw[z,this]at ht;cases ht) (λ z=>by have :=S3.S.fro;rw[z,this]at ht;cases ht) ht;haveI n0:A n=aB:=by cases q:A n with
 |none=>rfl|some o=>
      by_cases z1:n=W;·have :a3 W=_:=S3.S.lxo;rw[<-z1,n4]at this;cases this
      · by_cases z2:n=B;·have :=S3.S.fro;rw[<-z2,n4]at this;cases this
        ·rw[S3.X _ _ z1 z2 q]at n4;cases n4
 haveI l4:a2 C=_:=y4 C _ S3.ne.2.2.1 S3.nt S3.l;rw[show p+h.length+(tx aC (.ve G)).length=p+h.length+2+(wB aC G).length+1 by show p+h.length+(35::40::(wB aC G++[41])).length=_;rw[List.length_cons,List.length_cons,List.length_append];show _+(_+1+1+1)=_;simp+arith]at hK;refine hK _ V _ _ _ _ a2 S4 ((y1.trans S3.X).trans y4) ?_ a4;exact⟨n,C,Q,rfl,(λ m=>by have :=O _ m;rw[n0]at this;cases this),(λ m=>by have :=O _ m;rw[S3.n2]at this;cases this),v4,l4,S3.r.conv w1 (λ a o m e=>y4 a o (λ z=>m (z▸S3.e1.1)) (λ z=>m (z▸S3.e1.2.1)) e) (jM.refl _) _ _⟩
theorem ae:∀G:List T,G.length<=cL G:=by
 intro e;induction e with
 |nil=>exact Nat.le_refl _|cons t G c=>have :=dw t;have :=c;unfold cL;rw[List.length_cons];lia
theorem NO{r:List Nat}{A:Bool}{q:Nat->Prop}{i:MH}(t:(A=aG/\st=0/\j=.cst 44)\/(A=aC/\st=2/\j=.int 5))(w1:∀a,M a->q a)(y1:XR W B Y i)(S1:IA q R i I D W B P g p F Z C a [108,105,115,116] st j Q G)(hl:Q.length<=1000)(hd:g.drop p=41::r)(hp:p<=g.length)(hK:yh L d M R Y D W B P g (p+1) F (.ls G A) N H K x):lT (UB L d H K x) (N+1) [aA (.ref D),U,o2] I:=by
 refine GY S1 hd hp λ V v c e y u n=>?_;haveI m3:∀a,M a->(y a).isSome:=λ c m=>n.m c (w1 c m);refine VQ (M:=M) m3 n.S n.f (by rcases t with⟨_,h,_⟩|⟨_,h,_⟩;exact .inl h;exact .inr h) n.l hl n.nt λ v s S4 E O=>?_;haveI J:s V=_:=E V _ (λ z=>by have :y W=_:=n.S.lxo;rw[z,this]at u;cases u) (λ z=>by haveI :=n.S.fro;rw[z,this]at u;cases u) u;refine hK _ V _ _ _ _ s S4 ((y1.trans n.X).trans E) ?_ J;refine sH.rep (n.r.conv w1 (λ a o m e=>E a o (λ z=>m (z▸n.e1.1)) (λ z=>m (z▸n.e1.2.1)) e) (jM.refl _) _ _) ?_;rcases t with⟨rfl,_,rfl⟩|⟨rfl,_,rfl⟩;·exact O
 ·exact O
theorem b8(y:b W=aB)(f:b B=aB)(v:∀t∈G,yN L d R b D W B P g H K x t):yN L d R b D W B P g H K x (.ls G aG):=by
 intro M Y p F N n r U o2 S T E u J o h hr z m;have e:F.length+(2+cL G)<=1000:=z;show lT _ (N+(2+cL G)) _ _;rw[show N+(2+cL G)=N+1+cL G+1 by simp+arith];have c:g.drop p=n++([40]++(wB aC G++(41::r))):=by
  rw[J];show n++((40::(wB aC G++[41]))++r)=_;rw[List.cons_append,List.append_assoc];rfl
 refine EJ (vec:=aG) S T E y f u v c o h (LP rfl) (F1 e) λ s V i Z C a Q U o2 w1 T1 X q S1 l=>?_;haveI A:g.drop (p+n.length+1+(wB aC G).length)=41::r:=cC (cC (cC c));haveI O:p+n.length+1+(wB aC G).length<=g.length:=eO (cC (cC c)) (eO (cC c) (eO c o));rw[show p+n.length+(tx aC (.ls G aG)).length=p+n.length+1+(wB aC G).length+1 by show p+n.length+(40::(wB aC G++[41])).length=_;rw[List.length_cons,List.length_append];show _+(_+1+1)=_;simp+arith]at m;haveI :=ae G;exact NO (.inl ⟨rfl,rfl,rfl⟩) w1 X S1 (F3 e (Nat.le_of_eq l) this) A O m
theorem WY(n:b W=aB)(i:b B=aB)(al:G≠[])(hy:qQ R (.nu 5))(IH:∀t∈G,yN L d R b D W B P g H K x t):yN L d R b D W B P g H K x (.ls G aC):=by
 intro M Y p F N O r U o2 S T E hM hd hp ao hr q hK;have a6:F.length+(4+cL G)<=1000:=q;show lT _ (N+(4+cL G)) _ _;rw[show N+(4+cL G)=N+1+1+1+cL G+1 by simp+arith];have a5:g.drop p=O++([40]++(wB aC G++([32]++([46]++([32]++([53]++(41::r))))))):=by
  rw[hd];show O++((40::(wB aC G++[32,46,32,53,41]))++r)=_;rw[List.cons_append,List.append_assoc];rfl
 refine EJ (vec:=aG) S T E n i hM IH a5 hp ao (LP rfl) (F1 a6) λ M' s h Z C a Q U o2 w1 T1 y1 m1 S1 J=>?_;have q1:g.drop (p+O.length+1+(wB aC G).length)=[32]++([46]++([32]++([53]++(41::r)))):=cC (cC (cC a5));have q2:p+O.length+1+(wB aC G).length<=g.length:=eO (cC (cC a5)) (eO (cC a5) (eO a5 hp));rw[show p+O.length+(tx aC (.ls G aC)).length=p+O.length+1+(wB aC G).length+1+1+1+1+1 by show p+O.length+(40::(wB aC G++[32,46,32,53,41])).length=_;rw[List.length_cons,List.length_append];show _+(_+5+1)=_;simp+arith]at hK;have lc:=ae G;refine fE (fD ?_);haveI r1:=S1.S.rdo;haveI X':h W=_:=S1.S.lxo;repeat k_memK
 refine ZY (u:=[46]) (w:=[46]) (V:=λ A A=>True) S1.S.lxo q1 q2 (.inr rfl) rfl (LP rfl) (by decide) ⟨46,[],rfl,by decide⟩ (.inl ⟨rfl,rfl,λ A A A=>trivial⟩) λ o v c ap a1 a2 a3 a4 A=>?_;have S3:=S1.step a4.r (S1.S.lex a4 a3);have r2:=S3.S.rdo;haveI as:=a2;repeat k_memK
 refine JS S3.S a2 (by decide) ?_;repeat k_memK
 refine D5 S3.S S3.f S3.l (λ e=>al (List.eq_nil_of_length_eq_zero (J.symm.trans (congrArg List.length e)))) ?_;have S4:IA _ _ _ _ _ _ _ _ _ _ _ _ _ _ _ 1 (.cst 44) _ _:=S3.frm;repeat k_memK
 have q3:=cC (cC q1);have q4:=eO (cC q1) (eO q1 q2);refine IT (N:=N+1) (t:=.nu 5) S4.S T1 (uT (uT E y1 n i) S4.X n i) n i S4.m (by delta Wf;decide) rfl hy q3 q4 (.inr rfl) (LP rfl) ?_;intro v o w' vv a' e I S' y hv ht;have S5:=S4.step y S';have r1:=S'.rdo;repeat k_memK
 subst hv;refine SX (st:=1) S' S5.f (.inl rfl) S5.l (F3 a6 (Nat.le_of_eq J) lc) (λ z=>by cases z) (λ A=>?_) (.inr rfl);repeat k_memK
 haveI S6:IA _ _ _ _ _ _ _ _ _ _ _ _ _ _ _ 2 (.int 5) _ _:=S5.frm;exact NO (.inr ⟨rfl,rfl,rfl⟩) w1 y1 S6 (F3 a6 (Nat.le_of_eq J) lc) (cC (cC q3)) (eO (cC q3) (eO q3 q4)) hK
end
theorem Fg{X:fZ}{M:Nat->Prop}{Y:MH}:∀(g:List T)(Z:List MV),jC M X Y g Z->∀t∈g,qQ X t:=by
 intro c;induction c with
 |nil=>
 intro U U t h;exact nomatch h|cons u g a=>
 intro Z r t h;obtain⟨v,e,_,b,d⟩:=r;rcases cD.mp h with rfl|h;·exact⟨M,Y,v,b⟩
 ·exact a e d t h
theorem si{X:fZ}{M:Nat->Prop}{Y:MH}{V:Bool}:∀(g:List T)(v:MV),tY M X Y V g v->∀t∈g,qQ X t:=by
 intro d;induction d with
 |nil=>
 intro U U t h;exact nomatch h|cons u g b=>
 intro v r t h;obtain⟨a,B,G,_,_,_,c,e⟩:=r;rcases cD.mp h with rfl|h;·exact⟨M,Y,B,c⟩
 ·exact b G e t h
section
variable{M:Nat->Prop}{X:fZ}{b Y I:MH}{d:Nat}{k x:KE}{L:List MV}{D W B Q:Nat}{f:List Nat}{p:Nat}{o:List MV}{H:KL}{K:KE}{ts:List T}{N:Nat}{R o2:Option MV}
theorem vX(y:b W=aB)(C:b B=aB){t:T}(c:Wf aG t)(g:AU t=aC)(h:qQ X t)(i:cT t=1):yN L d X b D W B Q f H K x t:=by
 intro M Y p o N n r R o2 S T E m j q a e G l;rw[i];exact IT S T E y C m c g h j q a e l
mutual theorem WV(y:b W=aB)(C:b B=aB):∀t:T,Wf aG t->qQ X t->yN L d X b D W B Q f H K x t
 |.ch _,a,c=>vX y C a rfl c rfl|.st _,a,c=>vX y C a rfl c rfl|.nu _,a,c=>vX y C a rfl c rfl|.tr _,a,c=>vX y C a rfl c rfl|.sy _,a,c=>vX y C a rfl c rfl|.ve ts,a,c=>ko y C (GP y C ts (by exact a.2) (by
 obtain⟨M,Y,v,r⟩:=c;obtain⟨_,_,Z,_,_,_,_,_,r⟩:=r;exact Fg ts Z r))|.ls ts aG,a,c=>b8 y C (GP y C ts (by exact a.2) (by
 obtain⟨M,Y,v,r⟩:=c;exact si ts v r))|.ls ts aC,a,c=>WY y C (by exact a.1 rfl) ⟨λ U=>False,λ U=>aB,.int 5,by rfl⟩ (GP y C ts (by exact a.2) (by
 obtain⟨M,Y,v,r⟩:=c;exact si ts v r))|.qt _ _,a,_=>by cases a.2.1 theorem GP(y:b W=aB)(C:b B=aB):∀ts:List T,NE aG ts->(∀t∈ts,qQ X t)->∀t∈ts,yN L d X b D W B Q f H K x t
 |[],_,_,_,h=>nomatch h|u::ts,a,c,t,h=>by
  rcases List.mem_cons.mp h with e|h;·exact e▸WV y C u a.1 (c _ (List.mem_cons_self ..))
  ·exact GP y C ts a.2 (λ t m=>c t (List.mem_cons_of_mem _ m)) t h end
/-! quotations -/
noncomputable abbrev wQ:List Nat:=[113,117,111,116,97,116,105,111,110]
noncomputable def QF(M:Nat->Prop)(X:fZ)(Y:MH)(j:Nat)(v:MV):Prop:=∃V u a sv,v=.ref V/\¬M V/\¬M u/\Y V=aA (LJ wQ a u 0 (.cst 44))/\Y u=aA (.list [sv])/\AC M X Y (qn j) sv
noncomputable def IG(M:Nat->Prop)(X:fZ)(Y:MH):List Nat->List MV->Prop
 |[],o=>o=[]|j::q,o=>∃v r,o=v::r/\QF M X Y j v/\IG M X Y q r
theorem QF.mono(x:fV M Y I){j:Nat}{v:MV}:QF M X Y j v->QF M X I j v:=by
 intro h;obtain⟨V,u,a,sv,y,C,c,e,g,P⟩:=h;exact⟨V,u,a,sv,y,C,c,x _ _ C e,x _ _ c g,P.mono x (jM.refl _)⟩
theorem IG.mono(x:fV M Y I):∀{q:List Nat}{o:List MV},IG M X Y q o->IG M X I q o:=by
 intro e;induction e with
 |nil=>
 intro U h;exact h|cons _ _ c=>
 intro U a;obtain⟨v,r,y,C,g⟩:=a;exact⟨v,r,y,C.mono x,c g⟩
theorem IG.snoc{j:Nat}{v:MV}(q:QF M X Y j v):∀{A:List Nat}{o:List MV},IG M X Y A o->IG M X Y (A++[j]) (o++[v]):=by
 intro g;induction g with
 |nil=>
 intro U h;cases h;exact⟨v,[],rfl,q,rfl⟩|cons _ _ c=>
 intro U a;obtain⟨u,r,y,C,e⟩:=a;exact⟨u,r++[v],by rw[y];rfl,C,c e⟩
theorem IG.last{j:Nat}:∀{q:List Nat}{o:List MV},IG M X Y (q++[j]) o->∃s v,o=s++[v]/\IG M X Y q s/\QF M X Y j v:=by
 intro h;induction h with
 |nil=>
 intro U a;obtain⟨v,_,y,C,rfl⟩:=a;exact⟨[],v,y,rfl,C⟩|cons _ _ c=>
 intro U a;obtain⟨u,r,y,C,g⟩:=a;obtain⟨s,v,e,l,i⟩:=c g;exact⟨u::s,v,by rw[y,e];rfl,⟨u,s,rfl,C,l⟩,i⟩
theorem IG.len:∀{q:List Nat}{o:List MV},IG M X Y q o->o.length=q.length:=by
 intro e;induction e with
 |nil=>
 intro U h;cases h;rfl|cons _ _ a=>
 intro U c;obtain⟨_,r,y,_,g⟩:=c;rw[y,List.length_cons,List.length_cons,a g]
theorem IG.get:∀{A:List Nat}{o:List MV},IG M X Y A o->∀n,n<o.length->∃j v,o[n]?=aA v/\QF M X Y j v:=by
 intro i;induction i with
 |nil=>
 intro o h n a;cases h;cases a|cons j A c=>
 intro o u n a;obtain⟨v,r,y,C,g⟩:=u;cases n with
 |zero=>exact⟨j,v,by rw[y];rfl,C⟩|succ n=>
 rw[y]at a;obtain⟨j,u,e,q⟩:=c g n (Nat.lt_of_succ_lt_succ a);exact⟨j,u,by rw[y];exact e,q⟩
theorem kt{q:List Nat}(t:IG M X Y q o)(S:vG Y D W B Q f p o){F:KE}{z P m:MV}:∀n,n<=o.length->H [aA (.ref D),aA z,aA P,aA m,aA (.int 0),aB] Y->lT (zG (bY TB (G0 L) d) (G0 L) (.bool .And [(.cmp .Gt (.l 4) (.c (.i 0))),(.cmp .Eq (.attr (.idx (.attr (.l 0) 27) (.bin .Sub (.l 4) (.c (.i 1)))) 11) (.c (.s wQ)))]) [.asg (.l 4) (.bin .Sub (.l 4) (.c (.i 1)))] H F x) (n+1) [aA (.ref D),aA z,aA P,aA m,aA (.int n),aB] Y:=by
 intro w;induction w with
 |zero=>
 intro U h;refine fE (fD ?_);repeat k_memK
 exact h|succ n g=>
 intro r h;refine fE (fD ?_);have A:=S.rdo;have y:=S.fro;obtain⟨j,v,e,V,u,a,sv,rfl,_,_,C,_,_⟩:=t.get n r;repeat k_memK
 refine itP_f (by show(!cH ((((n+1:Nat):Int))>0))=aG;rw[decide_eq_true (Int.natCast_pos.mpr (Nat.succ_pos n))];rfl) ?_;repeat k_memK
 refine k_idx y (v:=.ref V) (by rw[Jg,qH];exact e) ?_;repeat k_memK
 have :=g (Nat.le_of_succ_le r) h;show lT _ _ [aA (.ref D),aA z,aA P,aA m,aA (.int (((n+1:Nat):Int)-1)),aB] _;rw[Jg];exact this
theorem y9{q:List Nat}{v start:MV}(a:IG M X Y q o)(S:vG Y D W B Q f p o)(h:k (.bool aC) Y):(bY TB (G0 L) (d+1)).meth 1106 20 [.ref D,v,start] Y k x:=by
 refine dX (F:=KU) (loc:=[aA (.ref D),aA v,aA start,aB,aB,aB]) rfl rfl ?_;have c:=S.rdo;have e:=S.fro;repeat k_memK
 refine nY (o.length+1) ?_;refine kt a S o.length (Nat.le_refl _) ?_;repeat k_memK
 exact h
theorem LR{j:Nat}{t:T}{sv u v:MV}(i:AC M X Y (qn j) sv)(m:iG M X Y t u)(c:sH M Y (.cst 44) [sv,u] v):iG M X Y (.qt j t) v:=by
 obtain⟨a,G,rfl,P,n,g,l,rfl,h,e,rfl⟩:=c;exact⟨a,g,sv,u,rfl,P,h,n,e,i,m⟩
theorem rx{l:Nat}{Z:List MV}(c:∀a,M a->(Y a).isSome)(e:Y l=aA (.list Z))(G:Z.length<=1000)(h:∀v I,Ext Y I->sH M I (.cst 44) Z v->k v I):(bY TB (G0 L) (d+2)).call 17 [.ref l] [] Y k x:=fv (L:=L) (tl:=.cst 44) c e G h
theorem d4{q:List Nat}{j:Nat}{t:T}{v:MV}(m:M B)(y:∀a,M a->(Y a).isSome)(w:IG M X Y (q++[j]) o)(S:vG Y D W B Q f p o)(hr:iG M X Y t v)(h:∀s u I,IG M X I q s->vG I D W B Q f p s->XR W B Y I->iG M X I (.qt j t) u->k u I):(bY TB (G0 L) (d+3)).meth 1106 22 [.ref D,v] Y k x:=by
  refine dX (F:=RE) (loc:=[aA (.ref D),aA v,aB]) rfl rfl ?_;have r1:=S.rdo;have U:=S.fro;obtain⟨s,_,rfl,q1,V,C,a,sv,rfl,ma,mt,O,f2,Z⟩:=w.last;have G:s.length<=1000:=by have :=S.len;rw[List.length_append]at this;exact F1 this
  repeat k_memK
  refine CN U ?_;show cF _ _ _ _ (upd Y B (.list s)) _ _ _ _;have P:=S.set G;have a1:=(cE Y (.list s) (λ e=>ma (e▸m):V≠B)).trans O;have A:=(cE Y (.list s) (λ e=>mt (e▸m):C≠B)).trans f2;have x1:fV M Y (upd Y B (.list s)):=(fV.refl M Y).upd m _;repeat k_memK
  intro l J;repeat k_memK
  have E:=Ext.new J (.list [sv,v]);refine rx (M:=M) (λ c n=>?_) (upd_same ..) (Nat.le_of_ble_eq_true rfl) λ u I i c=>?_
  · by_cases z:c=l;·rw[z,upd_same];rfl
    · rw[cE _ _ z];by_cases z:c=B;·rw[z,upd_same];rfl
      ·rw[cE _ _ z];exact y c n
  have g:fV M Y I:=x1.trans (Ext.m (E.trans i));exact h s u I (q1.mono g) (P.ext (E.trans i)) ((XR.refl _ _ _).set.trans (Ext.r (E.trans i))) (LR (Z.mono g (jM.refl _)) (hr.mono g (jM.refl _) _ _) c)
noncomputable def qS:List Nat->T->T
 |[],t=>t|j::q,t=>.qt j (qS q t)
theorem MR:∀(q:List Nat)(j:Nat)(t:T),qS (q++[j]) t=qS q (.qt j t):=by
 intro c;induction c with
 |nil=>
 intro U U;exact rfl|cons i q a=>
 intro j t;exact congrArg (T.qt i) (a j t)
theorem VJ{H:KL}{F:KE}{v1:MV}(m:M B/\M W):∀(n:Nat)(q:List Nat)(t:T)(v:MV)(o:List MV)(Y:MH),q.length=n->(∀a,M a->(Y a).isSome)->IG M X Y q o->vG Y D W B Q f p o->iG M X Y t v->(∀u I,vG I D W B Q f p []->XR W B Y I->iG M X I (qS q t) u->H [aA (.ref D),aA v1,aA u] I)->lT (zG (bY TB (G0 L) (d+3)) (G0 L) (.cmpNil .NotEq (.attr (.l 0) 27)) [.asg (.l 2) (.meth (.l 0) 22 [(.l 2)])] H F x) (n+1) [aA (.ref D),aA v1,aA v] Y:=by
 intro G;induction G with
 |zero=>
 intro q t v o Y g y c S r h;obtain rfl:=List.eq_nil_of_length_eq_zero g;cases c;have J:=S.rdo;have U:=S.fro;refine fE (fD ?_);repeat k_memK
 exact h v Y S (XR.refl _ _ _) r|succ n i=>
 intro q t v o Y g y c S r h;have j:q≠[]:=λ e=>by rw[e]at g;cases g
 have e:=List.dropLast_concat_getLast j;rw[<-e]at c h;have O:q.dropLast.length=n:=by rw[List.length_dropLast];lia
 have J:=S.rdo;have U:=S.fro;refine fE (fD ?_);repeat k_memK
 refine itP_t (by
 show(!o.isEmpty)=aC;obtain⟨s,u,rfl,_⟩:=c.last;rw[List.isEmpty_eq_false_iff.mpr (by simp)];rfl) ?_;repeat k_memK
 refine d4 m.1 y c S r λ s u I P z A V=>?_;repeat k_memK
 refine i _ _ u s I O (DR A z y) P z V λ w Z E y2 C=>h w Z E (A.trans y2) ?_;rw[MR];exact C
theorem wj{q:List Nat}{t:T}{v:MV}(m:M B/\M W)(j:∀a,M a->(Y a).isSome)(c:IG M X Y q o)(S:vG Y D W B Q f p o)(e:iG M X Y t v)(h:∀u I,vG I D W B Q f p []->XR W B Y I->iG M X I (qS q t) u->k u I):(bY TB (G0 L) (d+4)).meth 1106 21 [.ref D,v] Y k x:=by
 refine dX (F:=SH) (loc:=[aA (.ref D),aA v,aB]) rfl rfl ?_;repeat k_memK
 refine nY (q.length+1) ?_;refine VJ (v1:=v) m q.length q t v o Y rfl j c S e λ u I i y g=>?_;repeat k_memK
 exact h u I i y g
end
section
variable{M:Nat->Prop}{y:fZ}{b Y I:MH}{d:Nat}{k x:KE}{L:List MV}{q W B Q:Nat}{g:List Nat}{p:Nat}{o:List MV}{H:KL}{K:KE}{G:List T}{N:Nat}{D o2:Option MV}
theorem Bl{n:Nat}(c:∀a,M a->(Y a).isSome)(h:Y n=aB):¬M n:=λ z=>by have :=c n z;rw[h]at this;cases this
theorem ka{V a e j:Nat}{v:MV}(J:j<4)(m:M B/\M W)(hM:∀a,M a->(Y a).isSome)(T:IC M y Y Q)(S:vG Y q W B Q g p o)(hl:o.length<1000)(ht:Y V=aA (gf (qs j) v a e))(hs:∃a,AL y (qn j)=.ref a)(h:∀f I,QF M y I j f->vG I q W B Q g p (o++[f])->XR W B Y I->fV M Y I->k (.bool aC) I):(bY TB (G0 L) (d+3)).meth 1106 17 [.ref q,.ref V] Y k x:=by
  refine dX (F:=GG) (loc:=[aA (.ref q),aA (.ref V),aB,aB]) rfl rfl ?_;have r1:=S.rdo;have w:=S.fro;delta gf at ht;have e1:cH (qs j=[40])=aG:=decide_eq_false ((by decide:∀j<4,qs j≠[40]) j J);have e2:cH (qs j=[35,40])=aG:=decide_eq_false ((by decide:∀j<4,qs j≠[35,40]) j J);repeat k_memK
  refine tD ?_;repeat k_memK
  haveI ne:∀i,i<j->qs i≠qs j:=λ i X=>(by decide:∀j<4,∀i<j,qs i≠qs j) j J i X;obtain⟨r,e⟩:=XM j J;show tT _ _ _ q4 _ _ _;rw[e];refine ai (P:=λ l=>∃D o2,l=[aA (.ref q),aA (.ref V),D,o2]) (λ i l bZ X p ha=>?_) (λ l bZ p=>?_) r j 0 _ (Nat.zero_add j) ⟨_,_,rfl⟩
  · obtain⟨D,o2,rfl⟩:=p;haveI e3:=decide_eq_false (ne i X);refine lK ?_;repeat k_memK
    exact ha _ ⟨_,_,rfl⟩
  · obtain⟨D,o2,rfl⟩:=p;have e3:cH (qs j=qs j)=aC:=decide_eq_true rfl;obtain⟨⟨A,R,z,C,-⟩,-⟩:=T.tab;refine lK ?_;repeat k_memK
    refine az T hs λ sv O=>?_;repeat k_memK
    intro u s;repeat k_memK
    refine rG (F:=qp) rfl (λ n=>[aA (.ref n),aA (.str wQ),aA (.int a),aA (.ref u)]) (λ U=>rfl) (λ U=>rfl) (λ U=>rfl) λ Z t=>?_;obtain⟨n1,c⟩:=eQ t;have E:Ext Y (upd (upd Y u (.list [sv])) Z (LJ wQ a u 0 (.cst 44))):=(Ext.new s _).trans (Ext.new t _);haveI r3:=E _ _ w;show dP _ _ _ _ (upd (upd Y u (.list [sv])) Z (LJ wQ a u 0 (.cst 44))) _ _;repeat k_memK
    refine gQ r3 (by delta aX;exact F1 hl) ?_;repeat k_memK
    haveI nf:B≠Z:=λ e=>by rw[e,c]at w;cases w
    haveI nt:B≠u:=λ e=>by rw[e,s]at w;cases w
    have x:fV M Y (upd (upd (upd Y u (.list [sv])) Z (LJ wQ a u 0 (.cst 44))) B (.list (o++[.ref Z]))):=(Ext.m E).upd m.1 _;refine h (.ref Z) _ ⟨Z,u,a,sv,rfl,Bl hM c,Bl hM s,?_,?_,O.mono x (jM.refl _)⟩ ((S.ext E).set (by rw[List.length_append];exact hl)) (Ext.r E).set x;·rw[cE _ _ nf.symm,upd_same]
    ·rw[cE _ _ nt.symm];exact upd_some _ (upd_same ..) t
theorem D6:∀t:T,Wf aC t->∃c r,tx aC t=c::r/\c≠64
 |.ch c=>λ U=>⟨_,_,rfl,by decide⟩|.st _=>λ U=>⟨_,_,rfl,by decide⟩|.nu i=>λ h=>by
  delta Wf at h;obtain⟨c,r,e,a⟩:=CS h;exact⟨c,r,e,by rcases a with⟨rfl,_⟩|a;decide;lia⟩|.tr b=>λ U=>by cases b<;>exact⟨_,_,rfl,by decide⟩|.sy 0=>λ U=>⟨_,_,rfl,by decide⟩|.sy 1=>λ U=>⟨_,_,rfl,by decide⟩|.sy 2=>λ U=>⟨_,_,rfl,by decide⟩|.sy 3=>λ U=>⟨_,_,rfl,by decide⟩|.sy (j+4)=>λ U=>⟨_,_,rfl,by decide⟩|.ve _=>λ U=>⟨_,_,rfl,by decide⟩|.ls _ _=>λ U=>⟨_,_,rfl,by decide⟩|.qt 0 _=>λ U=>⟨_,_,rfl,by decide⟩|.qt 1 _=>λ U=>⟨_,_,rfl,by decide⟩|.qt 2 _=>λ U=>⟨_,_,rfl,by decide⟩|.qt (j+3) _=>λ U=>⟨_,_,rfl,by decide⟩
theorem Ds{j:Nat}{r:List Nat}(m:j<4)(X:LX Y W g p)(a:g.drop p=qs j++r)(f:p<=g.length)(i:∃c s,r=c::s/\c≠64)(h:BV Y W g (qs j) (λ U U=>True) (p+(qs j).length) k):(bY TB (G0 L) (d+7)).meth 1000 8 [.ref W] Y k x:=by
 rcases Ph m with rfl|rfl|rfl|rfl;·exact RT (c:=39) (sp:=[]) (r:=r) X a f (.inl rfl) (by decide) h
 ·exact RT (c:=96) (sp:=[]) (r:=r) X a f (.inl rfl) (by decide) h
 ·exact ry (at_:=aG) (sp:=[]) (r:=r) X a f (.inl rfl) (λ U c s e=>by obtain⟨l,u,E,n⟩:=i;rw[e]at E;cases E;exact n) h
 ·exact ry (at_:=aC) (sp:=[]) (r:=r) X a f (.inl rfl) (λ e=>by cases e) h
end
section
variable{M:Nat->Prop}{X:fZ}{b Y I:MH}{d:Nat}{k x:KE}{L:List MV}{q W B Q:Nat}{g:List Nat}{p:Nat}{A:List MV}{H:KL}{K:KE}{G:List T}{N:Nat}{D o2:Option MV}
theorem qQ.qt{j:Nat}{t:T}(h:qQ X (.qt j t)):(∃a,AL X (qn j)=.ref a)/\qQ X t:=by
 obtain⟨M,Y,v,r⟩:=h;obtain⟨_,_,_,u,_,_,_,_,_,⟨a,i,_,_,_,e⟩,r⟩:=r;exact⟨⟨a,by unfold AL;rw[e];rfl⟩,M,Y,u,r⟩
theorem XR.m(y:XR W B Y I)(m:M B/\M W):fV M Y I:=λ a o n e=>y a o (λ z=>n (z▸m.2)) (λ z=>n (z▸m.1)) e
theorem yt{t:T}{r:List Nat}(m:M B/\M W)(C:b W=aB)(i:b B=aB)(T:IC M X b Q)(hw:Wf aG t)(hr:MU r):∀(R js0:List Nat)(A:List MV)(Y:MH)(p:Nat)(D o2:Option MV),vG Y q W B Q g p A->IG M X Y js0 A->Ext b Y->(∀a,M a->(Y a).isSome)->qQ X (qS R t)->Wf aC (qS R t)->g.drop p=tx aC (qS R t)++r->p<=g.length->A.length+R.length+cT t<=1000->(∀u I,vG I q W B Q g (p+(tx aC (qS R t)).length) []->XR W B Y I->iG M X I (qS js0 (qS R t)) u->K u I)->lT (UB L d H K x) (0+cT t+R.length) [aA (.ref q),D,o2] Y:=by
 intro z_;induction z_ with
 |nil=>
 intro js0 A Y p D o2 S hq E O hs a5 hd hp z h;refine WV C i t hw hs M Y p A 0 [] r D o2 S T E O hd hp (.inl rfl) hr z ?_;intro v V w o a e I S' y hv ht;haveI r1:=S'.rdo;repeat k_memK
 have a6:=hq.mono (y.m m);refine y9 a6 S' ?_;repeat k_memK
 refine wj m (DR y S' O) a6 S' hv λ u Z S2 y2 hu=>?_;exact h u Z S2 (y.trans y2) hu|cons j R as=>
 intro js0 A Y p D o2 S hq E O hs a5 hd hp z h;rw[List.length_cons]at z;have l:j<4/\aC=aC/\Wf aC (qS R t):=by exact a5
 obtain⟨ao,ap⟩:=qQ.qt hs;have F:g.drop p=qs j++(tx aC (qS R t)++r):=by rw[hd];show(qs j++tx aC (qS R t))++r=_;rw[List.append_assoc]
 refine fE (fD ?_);have r1:=S.rdo;haveI X':Y W=_:=S.lxo;repeat k_memK
 refine Ds l.1 S.lxo F hp ?_ λ V v a P a1 a2 a3 J U=>?_
 ·obtain⟨c,s,e,n⟩:=D6 _ l.2.2;exact⟨c,s++r,by rw[e];rfl,n⟩
 have S1:=S.lex J a3;have r2:=S1.rdo;haveI b0:=a2;have w1:cH (qs j=[101,110,100])=aG:=decide_eq_false ((by decide:∀j<4,qs j≠[101,110,100]) j l.1);repeat k_memK
 refine ka l.1 m (DR J.r S1 O) (T.ext (uT E J.r C i)) S1 (F1 z) a2 ao λ f Z q2 S2 y2 x2=>?_;repeat k_memK
 haveI q3:=(hq.mono ((J.r (fr:=B)).m m)).mono x2;refine as (js0++[j]) _ Z _ _ _ S2 (q3.snoc q2) (uT E (J.r.trans y2) C i) (DR y2 S2 (DR J.r S1 O)) ap l.2.2 (cC F) (eO F hp) (by rw[List.length_append];show A.length+1+_+_<=_;exact F1 z) λ u al S3 y3 hu=>?_;refine h u al ?_ (J.r.trans (y2.trans y3)) ?_
 ·rw[show p+(tx aC (qS (j::R) t)).length=p+(qs j).length+(tx aC (qS R t)).length by show p+(qs j++tx aC (qS R t)).length=_;rw[List.length_append];simp+arith];exact S3
 ·rw[MR]at hu;exact hu
structure sq(Y:MH)(q W Q:Nat)(g:List Nat)(p:Nat):Prop where
 rdo:∃B,Y q=aA (.inst 1106 [(25,.ref W),(26,.ref Q),(27,.ref B)])lxo:LX Y W g p
theorem IC.up{j:Nat->Prop}(T:IC M X b Q)(h:∀a,j a->M a\/b a=aB):IC j X b Q:=⟨T.tab,λ e l a c m=>by
 obtain⟨V,i,f,n⟩:=T.tab.ent e l;rw[c]at f;cases f;rcases h a m with m|z;·exact T.off e l a c m
 ·rw[n]at z;cases z⟩
theorem sq.fresh(R:sq Y q W Q g p)(c:Y B=aB):vG (upd (upd Y B (.list [])) q (.inst 1106 [(25,.ref W),(26,.ref Q),(27,.ref B)])) q W B Q g p []:=by
 obtain⟨⟨y,r0⟩,a⟩:=R;haveI f:q≠B:=λ e=>by rw[e,c]at r0;cases r0
 haveI h:W≠B:=λ e=>by have :Y W=_:=a;rw[e,c]at this;cases this
 haveI H:W≠q:=λ e=>by have :Y W=_:=a;rw[e,r0]at this;cases this
 refine⟨upd_same ..,?_,?_,Nat.zero_le _⟩
 ·show upd _ _ _ W=_;rw[cE _ _ H,cE _ _ h];exact a
 ·rw[cE _ _ f.symm,upd_same]
theorem A7{t:T}{s:List Nat}{r:List Nat}(R:sq Y q W Q g p)(m:M q/\M W)(C:b W=aB)(f:b q=aB)(T:IC M X b Q)(E:Ext b Y)(hM:∀a,M a->(Y a).isSome)(hw:Wf aG t)(P:Wf aC (qS s t))(w:qQ X (qS s t))(hd:g.drop p=tx aC (qS s t)++r)(hp:p<=g.length)(hr:MU r)(j:s.length+cT t<=1000)(h:∀u I,sq I q W Q g (p+(tx aC (qS s t)).length)->fV M Y I->Ext b I->(∀a,M a->(I a).isSome)->iG M X I (qS s t) u->(∀a,a≠q->a≠W->(Y a).isSome->I a=Y a)->k u I):(bY TB (G0 L) (d+9)).meth 1106 23 [.ref q] Y k x:=by
 refine dX (F:=KN) (loc:=[aA (.ref q),aB,aB]) rfl rfl ?_;obtain⟨l,r0⟩:=R.rdo;repeat k_memK
 intro B i;repeat k_memK
 haveI S:=R.fresh i;have Z:Ext b (upd (upd Y B (.list [])) q (.inst 1106 [(25,.ref W),(26,.ref Q),(27,.ref B)])):=(E.upd (E.off i) _).upd f _;have v:∀a,M a\/a=B->(upd (upd Y B (.list [])) q (.inst 1106 [(25,.ref W),(26,.ref Q),(27,.ref B)]) a).isSome:=λ a c=>by
    by_cases z:a=q;·rw[z,upd_same];rfl
    · rw[cE _ _ z];by_cases z:a=B;·rw[z,upd_same];rfl
      ·rw[cE _ _ z];exact hM a (c.resolve_right z)
 refine nY _ (yt (M:=λ a=>M a\/a=B) (js0:=[]) ⟨.inr rfl,.inl m.2⟩ C (E.off i) (T.up λ a c=>by rcases c with c|rfl;exact .inl c;exact .inr (E.off i)) hw hr s [] _ p _ _ S rfl Z v w P hd hp (by show 0+_+_<=_;exact F1 j) λ u I O y hu=>?_);have D:∀a o,a≠q->a≠W->Y a=aA o->I a=aA o:=λ a o J V e=>by
    have nf:a≠B:=λ z=>by rw[z,i]at e;cases e
    exact y a o V nf (by rw[cE _ _ J,cE _ _ nf];exact e)
 refine h u I ⟨⟨B,O.rdo⟩,O.lxo⟩ (λ a o n e=>D a o (λ z=>n (z▸m.1)) (λ z=>n (z▸m.2)) e) (uT Z y C (E.off i)) (λ a c=>DR y O v a (.inl c)) (hu.conv (λ a c=>.inl c) (λ U U U e=>e) (jM.refl _) _ _) λ a J V w=>?_;obtain⟨o,e⟩:=Option.isSome_iff_exists.mp w;rw[e,D a o J V e]
theorem gw(R:sq Y q W Q g p)(m:g.drop p=[])(s:p<=g.length)(h:∀I,(∀a o,a≠q->a≠W->Y a=aA o->I a=aA o)->k (.cst 47) I):(bY TB (G0 L) (d+9)).meth 1106 23 [.ref q] Y k x:=by
 refine dX (F:=KN) (loc:=[aA (.ref q),aB,aB]) rfl rfl ?_;obtain⟨y,r0⟩:=R.rdo;repeat k_memK
 intro B j;repeat k_memK
 have S:=R.fresh j;refine nY 1 (fE (fD ?_));have t:=S.rdo;haveI J:upd (upd Y B (.list [])) q (.inst 1106 [(25,.ref W),(26,.ref Q),(27,.ref B)]) W=_:=S.lxo;repeat k_memK
 refine xf S.lxo m s rfl λ f v a P C w l i U=>?_;have c:=S.lex i l;have E:=c.rdo;have u:=c.fro;repeat k_memK
 refine h P λ a o r n e=>i a o n ?_;rw[cE _ _ r,cE _ _ (λ z=>by rw[z,j]at e;cases e)];exact e
end
section
variable{M:Nat->Prop}{X:fZ}{b Y I:MH}{d:Nat}{k x:KE}{L:List MV}{i W B Q:Nat}{f:List Nat}{p:Nat}
theorem zQ{c:Nat}{o:MO}(h:Y c=aA o):IY (G0 L) Y (.ref c) (.cst 47)=aA aG:=by
 show(if(aC,c)=(aG,47)then aA aC else if pL (G0 L) Y (aC,c)=aC/\pL (G0 L) Y (aG,47)=aC then aA aG else aB)=_;rw[if_neg (λ e=>by cases e),if_pos];refine⟨?_,rfl⟩;show(Y c).isSome=aC;rw[h];rfl
theorem yg:∀(t:T)(v:MV),iG M X Y t v->IY (G0 L) Y v (.cst 47)=aA aG
 |.ch _=>λ U r=>by obtain⟨a,rfl,_,r⟩:=r;exact zQ r|.st _=>λ U r=>by obtain⟨a,l,rfl,_,_,r,_⟩:=r;exact zQ r|.nu _=>λ U r=>by rw[r];rfl|.tr _=>λ U r=>by rw[r];rfl|.sy j=>λ U r=>by obtain⟨a,c,rfl,_,r,_⟩:=r;exact zQ r|.ve _=>λ U r=>by obtain⟨a,l,Z,rfl,_,_,r,_⟩:=r;exact zQ r|.ls [] V=>λ v r=>by
  rw[r];cases V<;>rfl|.ls (_::_) _=>λ U r=>by obtain⟨a,S,G,rfl,_,r,_⟩:=r;exact zQ r|.qt _ _=>λ U r=>by obtain⟨a,b,sv,H,rfl,_,_,r,_⟩:=r;exact zQ r
theorem vf(h:∀i W I,Y i=aB->Y W=aB->Ext Y I->sq I i W Q f 0->k (.ref i) I):(bY TB (G0 L) (d+2)).new 109 [.str f,.ref Q,.int 53,.bool aC] Y k x:=by
 refine PK (F:=Ge) (C:=1106) (loc:=λ n=>[aA (.ref n),aA (.str f),aA (.ref Q),aA (.int 53),aA (.bool aC)]) rfl rfl (λ n=>rfl) λ i g=>?_;repeat k_memK
 refine rG (F:=Bt) rfl (λ n=>[aA (.ref n),aA (.str f),aA (.int 53),aA (.bool aC)]) (λ U=>rfl) (λ U=>rfl) (λ U=>rfl) λ W l=>?_;obtain⟨j,c⟩:=eQ l;have q:upd (upd Y i (.inst 1106 [])) W (.inst 1000 [(2,.str f),(20,.int 53),(21,.int 0),(22,.bool aC)]) i=aA (.inst 1106 []):=by rw[cE _ _ j.symm,upd_same]
 repeat k_memK
 intro B a;obtain⟨o,a⟩:=eQ a;obtain⟨m,a⟩:=eQ a;obtain⟨_,e⟩:=eQ a;repeat k_memK
 refine⟨rfl,h i W _ g c ?_ ⟨⟨B,upd_same ..⟩,?_⟩⟩;·exact((((Ext.new g _).upd c _).upd g _).upd e _).upd g _
 ·show upd _ _ _ W=_;rw[cE _ _ j,cE _ _ m.symm,cE _ _ j,upd_same];rfl
theorem Ea{t:T}{js:List Nat}(T:IC M X Y Q)(hM:∀a,M a->(Y a).isSome)(hw:Wf aG t)(v:Wf aC (qS js t))(hs:qQ X (qS js t))(G:js.length+cT t<=1000)(h:∀l u I,Ext Y I->I l=aA (.list [u])->iG M X I (qS js t) u->k (.ref l) I):(bY TB (G0 L) (d+10)).call 110 [.str (tx aC (qS js t)),.ref Q] [] Y k x:=by
  refine call_in (F:=Bu) (loc:=[aA (.str (tx aC (qS js t))),aA (.ref Q),aA (.int 53),aA (.bool aC),aB,aB,aB]) rfl rfl ?_;repeat k_memK
  refine vf λ i W P w D J S=>?_;repeat k_memK
  intro C c;have A:=J.off c;have O:Ext Y (upd P C (.list [])):=J.upd A _;obtain⟨K,r0⟩:=S.rdo;have x0:P W=_:=S.lxo;have j:C≠i:=λ e=>by rw[e,r0]at c;cases c
  have m:C≠W:=λ e=>by rw[e,x0]at c;cases c
  have E:sq (upd P C (.list [])) i W Q (tx aC (qS js t)) 0:=⟨⟨K,by rw[cE _ _ j.symm];exact r0⟩,by show upd _ _ _ W=_;rw[cE _ _ m.symm];exact x0⟩;repeat k_memK
  refine nY 2 (fE (fD ?_));obtain⟨a1,q⟩:=E.rdo;repeat k_memK
  refine A7 (M:=λ a=>M a\/a=i\/a=W\/a=C) (r:=[]) E ⟨.inr (.inl rfl),.inr (.inr (.inl rfl))⟩ D w (T.up λ a g=>by
    rcases g with g|rfl|rfl|rfl;·exact .inl g
    ·exact .inr w
    ·exact .inr D
    ·exact .inr A) O (λ a g=>?_) hw v hs (by rw[List.append_nil];rfl) (Nat.zero_le _) (λ U U e=>nomatch e) G λ u Z V x3 E3 a2 N R=>?_
  · rcases g with g|rfl|rfl|rfl
    ·obtain⟨o,e⟩:=aS.mp (hM a g);rw[O _ _ e];rfl
    ·rw[q];rfl
    ·haveI :_=aA (iw _ _):=E.lxo;rw[this];rfl
    ·rw[upd_same];rfl
  haveI l3:Z C=aA (.list []):=by rw[R C j m (by rw[upd_same];rfl),upd_same]
  repeat k_memK
  refine OptK.some (yg _ _ N) ?_;repeat k_memK
  obtain⟨f4,r4⟩:=V.rdo;haveI x4:Z W=_:=V.lxo;have H:sq (upd Z C (.list ([]++[u]))) i W Q (tx aC (qS js t)) (0+(tx aC (qS js t)).length):=⟨⟨f4,by rw[cE _ _ j.symm];exact r4⟩,by show upd _ _ _ W=_;rw[cE _ _ m.symm];exact x4⟩;refine gQ l3 (Nat.zero_le _) ?_;repeat k_memK
  refine fE (fD ?_);obtain⟨f5,r5⟩:=H.rdo;repeat k_memK
  refine gw H (by rw[Nat.zero_add];exact List.drop_length) (by rw[Nat.zero_add];exact Nat.le_refl _) λ y s=>?_;repeat k_memK
  haveI E5:Ext Y (upd Z C (.list ([]++[u]))):=E3.upd A _;refine h C u y (λ a o e=>s a o (λ z=>by rw[z,w]at e;cases e) (λ z=>by rw[z,D]at e;cases e) (E5 a o e)) (s C _ j m (upd_same ..)) ?_;refine N.conv (λ a g=>.inl g) (λ a o n e=>s a o (λ z=>n (.inr (.inl z))) (λ z=>n (.inr (.inr (.inl z)))) ?_) (jM.refl _) _ _;rw[cE _ _ (λ z=>n (.inr (.inr (.inr z))))];exact e
end
/-! are two data alike? -/
noncomputable abbrev Me:List Nat:=[101,109,112,116,121]
section
variable{M:Nat->Prop}{X:fZ}{b Y I:MH}{d:Nat}{k x:KE}{L:List MV}
theorem Cc{i:Int}(h:k (.tup [.str xa,.int i]) Y):(bY TB (G0 L) (d+1)).call 131 [.int i] [] Y k x:=by
 refine call_in (F:=OL) (loc:=[aA (.int i)]) rfl rfl ?_;repeat k_memK
 exact h
theorem Fa{i:Bool}(h:k (.tup [.str Nz,.bool i]) Y):(bY TB (G0 L) (d+1)).call 131 [.bool i] [] Y k x:=by
 refine call_in (F:=OL) (loc:=[aA (.bool i)]) rfl rfl ?_;repeat k_memK
 exact h
theorem Fv(h:k (.tup [.str Me,.int 0]) Y):(bY TB (G0 L) (d+1)).call 131 [.cst 44] [] Y k x:=by
 refine call_in (F:=OL) (loc:=[aA (.cst 44)]) rfl rfl ?_;repeat k_memK
 exact h
theorem Fp{a:Nat}{c:Int}(e:Y a=aA (.inst 170 [(8,.int c)]))(h:k (.tup [.str Nu,.int c]) Y):(bY TB (G0 L) (d+1)).call 131 [.ref a] [] Y k x:=by
 refine call_in (F:=OL) (loc:=[aA (.ref a)]) rfl rfl ?_;repeat k_memK
 exact h
theorem Fe{a:Nat}{i:Int}{s:List Nat}(c:Y a=aA (.inst 65 [(1,.int i),(2,.str s)]))(h:k (.tup [.str uo,.int i]) Y):(bY TB (G0 L) (d+1)).call 131 [.ref a] [] Y k x:=by
 refine call_in (F:=OL) (loc:=[aA (.ref a)]) rfl rfl ?_;repeat k_memK
 refine OptK.some (yQ c) ?_;repeat k_memK
 exact h
theorem G8{a l:Nat}{Z:List MV}(f:Y a=aA (.inst 191 [(9,.ref l),(7,.none)]))(c:Y l=aA (.list Z))(h:∀n,Y n=aB->k (.tup [.str Fx,.ref n]) (upd Y n (.list Z))):(bY TB (G0 L) (d+1)).call 131 [.ref a] [] Y k x:=by
 refine call_in (F:=OL) (loc:=[aA (.ref a)]) rfl rfl ?_;repeat k_memK
 refine a0 c λ n e=>?_;repeat k_memK
 exact h n e
mutual noncomputable def aT:T->Nat
 |.ve g=>1+aL g|.ls g _=>1+(aL g+g.length)|.qt _ t=>4+aT t|.ch _=>1|.st _=>1|.nu _=>1|.tr _=>1|.sy _=>1 noncomputable def aL:List T->Nat
 |[]=>0|t::r=>aT t+aL r end
noncomputable def yv(M:Nat->Prop)(X:fZ)(Y:MH)(n:Nat)(v u:MV):Prop:=(∃t,aT t<=n/\iG M X Y t v/\iG M X Y t u)\/(∃s,1<=n/\AC M X Y s v/\AC M X Y s u)
noncomputable abbrev rn:=Nat×MV×MV
noncomputable def tp(p:rn):MV:=.tup [p.2.1,p.2.2]
noncomputable abbrev Bz:List MS:=[.asg (.ls [3,4]) (.meth (.l 2) 30 []),.ite (.bool .And [(.isin (.l 3) [7] aG),(.isin (.l 4) [7] aG)]) [.ex (.meth (.l 2) 29 [(.tup [(.attr (.l 3) 6),(.attr (.l 4) 6)])]),.ex (.meth (.l 2) 29 [(.tup [(.attr (.l 3) 5),(.attr (.l 4) 5)])])] [.ite (.bool .And [(.isin (.l 3) [10] aG),(.isin (.l 4) [10] aG)]) [.ite (.cmp .NotEq (.bi 0 [(.attr (.l 3) 10)]) (.bi 0 [(.attr (.l 4) 10)])) [.ret (.c (.b aG))] [],.ex (.meth (.l 2) 31 [(.lzip (.attr (.l 3) 10) (.attr (.l 4) 10))])] [.ite (.bool .Or [(.isin (.l 3) [7,10] aC),(.isin (.l 4) [7,10] aC)]) [.ret (.c (.b aG))] [.ite (.cmp .NotEq (.call 131 [(.l 3)] []) (.call 131 [(.l 4)] [])) [.ret (.c (.b aG))] []]]]]
theorem RH{s:List Nat}{i:Int}:IP (G0 L) .NotEq Y (.tup [.str s,.int i]) (.tup [.str s,.int i])=aA aG:=by
 show aA (!(cH (s=s)&&(cH (i=i)&&aC)))=_;rw[decide_eq_true rfl,decide_eq_true rfl];rfl
theorem Fw{s:List Nat}{i:Bool}:IP (G0 L) .NotEq Y (.tup [.str s,.bool i]) (.tup [.str s,.bool i])=aA aG:=by
 show aA (!(cH (s=s)&&(cH (i=i)&&aC)))=_;rw[decide_eq_true rfl,decide_eq_true rfl];rfl
theorem XX:∀f:List Nat,RW mA (iV f) (iV f)=aA aC:=by
 intro e;induction e with
 |nil=>exact rfl|cons c f a=>
 show((mA (.int c) (.int c)).bind λ x=>(RW mA (iV f) (iV f)).map (x&&·))=_;rw[a];show aA (cH ((c:Int)=c)&&aC)=_;rw[decide_eq_true rfl];rfl
theorem Ej{s:List Nat}{n m:Nat}{cs:List Nat}(e:Y n=aA (.list (iV cs)))(c:Y m=aA (.list (iV cs)))(a:n≠m):IP (G0 L) .NotEq Y (.tup [.str s,.ref n]) (.tup [.str s,.ref m])=aA aG:=by
 show((aA (cH (s=s))).bind λ x=>(((if n=m then aB else(listOf Y (.ref n)).bind λ l=>(listOf Y (.ref m)).bind λ r=>if l.length=r.length then RW mA l r else aA aG).bind λ x=>(aA aC).map (x&&·))).map (x&&·)).map (!·)=_;rw[if_neg a,dR e,dR c];show((aA (cH (s=s))).bind λ x=>(((if(iV cs).length=(iV cs).length then RW mA (iV cs) (iV cs)else aA aG).bind λ x=>(aA aC).map (x&&·))).map (x&&·)).map (!·)=_;rw[if_pos rfl,XX,decide_eq_true rfl];rfl
end
section
variable{M:Nat->Prop}{X:fZ}{b Y I:MH}{d:Nat}{k x:KE}{L:List MV}
theorem xp:∀t:T,1<=aT t
 |.ve _=>by unfold aT;exact F0|.ls _ _=>by unfold aT;exact F0|.qt _ _=>by unfold aT;exact F0|.ch _=>Nat.le_refl _|.st _=>Nat.le_refl _|.nu _=>Nat.le_refl _|.tr _=>Nat.le_refl _|.sy _=>Nat.le_refl _
theorem yv.pos{n:Nat}{v u:MV}(h:yv M X b n v u):1<=n:=by
 rcases h with⟨t,h,_⟩|⟨s,h,_⟩;·exact Nat.le_trans (xp t) h
 ·exact h
noncomputable def g8(M:Nat->Prop)(X:fZ)(b:MH)(l:List rn):Prop:=∀p∈l,yv M X b p.1 p.2.1 p.2.2
noncomputable def sm(l:List rn):Nat:=(l.map (·.1)).sum
theorem WW(l q:List rn):sm (l++q)=sm l+sm q:=by unfold sm;rw[List.map_append,List.sum_append]
theorem g8.app{l q:List rn}(h:g8 M X b l)(K:g8 M X b q):g8 M X b (l++q):=λ p m=>(List.mem_append.mp m).elim (h p) (K p)
theorem g8.len:∀{l:List rn},g8 M X b l->l.length<=sm l:=by
 intro c;induction c with
 |nil=>
 intro U;exact Nat.zero_le _|cons p l a=>
 intro h;have :=a λ q m=>h q (List.mem_cons_of_mem _ m);have :=(h p (List.mem_cons_self ..)).pos;show l.length+1<=p.1+sm l;lia
theorem ul:∀(g:List T)(Z s:List MV),jC M X b g Z->jC M X b g s->∃q:List rn,q.map tp=(Z.zip s).map (λ p=>.tup [p.1,p.2])/\g8 M X b q/\sm q=aL g:=by
 intro e;induction e with
 |nil=>
 intro Z s y K;subst y K;exact⟨[],rfl,λ U m=>(nomatch m),rfl⟩|cons t g a=>
    intro Z s y K;obtain⟨v,o,rfl,r,l⟩:=y;obtain⟨u,f,rfl,h,N⟩:=K;obtain⟨q,c,n,j⟩:=a o f l N;refine⟨(aT t,v,u)::q,?_,λ p m=>?_,?_⟩;·rw[List.map_cons,c];rfl
    · rcases List.mem_cons.mp m with rfl|m;·exact .inl ⟨t,Nat.le_refl _,r,h⟩
      ·exact n p m
    ·show aT t+sm q=aT t+aL g;rw[j]
noncomputable abbrev Hr(L:List MV)(d:Nat)(H:KL)(F x:KE):Loc->MH->KL->Prop:=zG (bY TB (G0 L) (d+1)) (G0 L) (.cmpNil .NotEq (.l 2)) Bz H F x
variable{H:KL}{A:Nat}{i D R o4:Option MV}{l:List MV}
theorem lf{v u:MV}{bZ:KL}(a:Y A=aA (.list (l++[.tup [v,u]])))(h:cF (bY TB (G0 L) (d+1)) (G0 L) Bz.tail [i,D,aA (.ref A),aA v,aA u] (upd Y A (.list l)) bZ k bZ x):Hr L d H k x [i,D,aA (.ref A),R,o4] Y bZ:=by
 refine fD ?_;repeat k_memK
 refine itP_t (by show(!(l++[MV.tup [v,u]]).isEmpty)=aC;rw[List.isEmpty_eq_false_iff.mpr (by simp)];rfl) ?_;repeat k_memK
 refine CN a ?_;refine OptK.some rfl ?_;exact h
theorem i5{a c:Nat}{n m j e f g:MV}{bZ:KL}(o:l.length<=100000)(r:b A=aB)(E:Ext b Y)(s:b a=aA (.inst 149 [(5,n),(6,j),(7,f)]))(t:b c=aA (.inst 149 [(5,m),(6,e),(7,g)]))(h:bZ [i,D,aA (.ref A),aA (.ref a),aA (.ref c)] (upd Y A (.list (l++[.tup [j,e],.tup [n,m]])))):cF (bY TB (G0 L) (d+1)) (G0 L) Bz.tail [i,D,aA (.ref A),aA (.ref a),aA (.ref c)] (upd Y A (.list l)) bZ k bZ x:=by
 haveI q:upd Y A (.list l) A=aA (.list l):=upd_same ..;show cF _ _ (_::[]) _ _ _ _ _ _;repeat k_memK
 refine gQ q (by exact lm o) ?_;rw[mJ];haveI p:upd Y A (.list (l++[.tup [j,e]])) A=aA (.list (l++[.tup [j,e]])):=upd_same ..;show cF _ _ _ _ (upd Y A (.list (l++[.tup [j,e]]))) _ _ _ _;repeat k_memK
 refine gQ p (by unfold aX;rw[List.length_append];show l.length+1<=_;exact F1 o) ?_;rw[mJ];show cF _ _ _ _ (upd Y A (.list ((l++[.tup [j,e]])++[.tup [n,m]]))) _ _ _ _;rw[List.append_assoc];repeat k_memK
 exact h
theorem Ap{a c o t:Nat}{f g:MV}{Z s:List MV}{bZ:KL}(B:l.length+Z.length<=100000)(m:s.length=Z.length)(y:b A=aB)(E:Ext b Y)(C:b a=aA (.inst 212 [(10,.ref o),(7,f)]))(F:b c=aA (.inst 212 [(10,.ref t),(7,g)]))(w:b o=aA (.list Z))(u:b t=aA (.list s))(h:∀I,Ext b I->bZ [i,D,aA (.ref A),aA (.ref a),aA (.ref c)] (upd I A (.list (l++(Z.zip s).map λ p=>.tup [p.1,p.2])))):cF (bY TB (G0 L) (d+1)) (G0 L) Bz.tail [i,D,aA (.ref A),aA (.ref a),aA (.ref c)] (upd Y A (.list l)) bZ k bZ x:=by
 haveI z:upd Y A (.list l) A=aA (.list l):=upd_same ..;show cF _ _ (_::[]) _ _ _ _ _ _;repeat k_memK
 refine itP_f (by show(!cH (((Z.length:Nat):Int)=(s.length:Nat)))=aG;rw[m,decide_eq_true rfl];rfl) ?_;repeat k_memK
 refine SD.2 ?_;repeat k_memK
 intro n q;obtain⟨v,j⟩:=eQ q;repeat k_memK
 refine OptK.some (a:=(MV.none,l++(Z.zip s).map λ p=>.tup [p.1,p.2])) ?_ ?_
 ·show((listOf _ (.ref A)).bind λ l=>(listOf _ (.ref n)).bind λ r=>if A≠n/\l.length+r.length<=aX then aA (MV.none,l++r)else aB)=_;rw[dR (upd_some _ z q),dR (upd_same ..)];exact if_pos ⟨λ e=>v e.symm,by rw[List.length_map,List.length_zip,m,Nat.min_self];exact lm B⟩
 repeat k_memK
 exact h _ (((E.upd y _)).upd (E.off j) _)
end
section
variable{M:Nat->Prop}{es:fZ}{b Y I:MH}{d:Nat}{k x:KE}{L:List MV}
variable{H:KL}{A:Nat}{r D R o4:Option MV}{l:List MV}{again:KL}
noncomputable abbrev rr(L:List MV)(d:Nat)(r D:Option MV)(A:Nat)(v u:MV)(Y:MH)(again:KL)(k x:KE):Prop:=cF (bY TB (G0 L) (d+1)) (G0 L) Bz.tail [r,D,aA (.ref A),aA v,aA u] Y again k again x
theorem su{i:Int}(h:again [r,D,aA (.ref A),aA (.int i),aA (.int i)] Y):rr L d r D A (.int i) (.int i) Y again k x:=by
 show cF _ _ (_::[]) _ _ _ _ _ _;repeat k_memK
 refine Cc ?_;repeat k_memK
 refine Cc ?_;refine OptK.some RH ?_;repeat k_memK
 exact h
theorem C3{i:Bool}(h:again [r,D,aA (.ref A),aA (.bool i),aA (.bool i)] Y):rr L d r D A (.bool i) (.bool i) Y again k x:=by
 show cF _ _ (_::[]) _ _ _ _ _ _;repeat k_memK
 refine Fa ?_;repeat k_memK
 refine Fa ?_;refine OptK.some Fw ?_;repeat k_memK
 exact h
theorem Bd(h:again [r,D,aA (.ref A),aA (.cst 44),aA (.cst 44)] Y):rr L d r D A (.cst 44) (.cst 44) Y again k x:=by
 show cF _ _ (_::[]) _ _ _ _ _ _;repeat k_memK
 refine Fv ?_;repeat k_memK
 refine Fv ?_;refine OptK.some RH ?_;repeat k_memK
 exact h
theorem Ep{a c:Nat}{i:Int}(e:Y a=aA (.inst 170 [(8,.int i)]))(f:Y c=aA (.inst 170 [(8,.int i)]))(h:again [r,D,aA (.ref A),aA (.ref a),aA (.ref c)] Y):rr L d r D A (.ref a) (.ref c) Y again k x:=by
 show cF _ _ (_::[]) _ _ _ _ _ _;repeat k_memK
 refine Fp e ?_;repeat k_memK
 refine Fp f ?_;refine OptK.some RH ?_;repeat k_memK
 exact h
theorem Ca{a c:Nat}{i:Int}{s:List Nat}(e:Y a=aA (.inst 65 [(1,.int i),(2,.str s)]))(f:Y c=aA (.inst 65 [(1,.int i),(2,.str s)]))(h:again [r,D,aA (.ref A),aA (.ref a),aA (.ref c)] Y):rr L d r D A (.ref a) (.ref c) Y again k x:=by
 show cF _ _ (_::[]) _ _ _ _ _ _;repeat k_memK
 refine Fe e ?_;repeat k_memK
 refine Fe f ?_;refine OptK.some RH ?_;repeat k_memK
 exact h
theorem Ck{a c j i:Nat}{cs:List Nat}(s:Y a=aA (.inst 191 [(9,.ref j),(7,.none)]))(p:Y c=aA (.inst 191 [(9,.ref i),(7,.none)]))(f:Y j=aA (.list (iV cs)))(g:Y i=aA (.list (iV cs)))(h:∀I,Ext Y I->again [r,D,aA (.ref A),aA (.ref a),aA (.ref c)] I):rr L d r D A (.ref a) (.ref c) Y again k x:=by
 show cF _ _ (_::[]) _ _ _ _ _ _;repeat k_memK
 refine G8 s f λ n q=>?_;repeat k_memK
 have E:=Ext.new q (.list (iV cs));refine G8 (E _ _ p) (E _ _ g) λ m e=>?_;obtain⟨o,_⟩:=eQ e;refine OptK.some (Ej (cs:=cs) (upd_some _ (upd_same ..) e) (upd_same ..) o.symm) ?_;repeat k_memK
 exact h _ (E.trans (Ext.new e _))
variable{y:List MV}{n:Nat}{v u:MV}
noncomputable def gb(M:Nat->Prop)(es:fZ)(b:MH)(L:List MV)(d:Nat)(r D:Option MV)(A:Nat)(y:List MV)(n:Nat)(again:KL)(k x:KE)(v u:MV):Prop:=∀Y,Ext b Y->(∀q I,g8 M es b q->sm q+1<=n->Ext b I->again [r,D,aA (.ref A),aA v,aA u] (upd I A (.list (y++q.map tp))))->rr L d r D A v u (upd Y A (.list y)) again k x
theorem xE(f:1<=n)(h:∀Y,Ext b Y->(∀I,Ext (upd Y A (.list y)) I->again [r,D,aA (.ref A),aA v,aA u] I)->rr L d r D A v u (upd Y A (.list y)) again k x)(g:b A=aB):gb M es b L d r D A y n again k x v u:=λ Y E c=>h Y E λ I X=>by
 have :=c [] I (λ U m=>nomatch m) f λ a o e=>X _ _ (E.upd g _ _ _ e);rw[List.map_nil,List.append_nil,MZ (X _ _ (upd_same ..))]at this;exact this
theorem LW{a c:Nat}{h j i o f g:MV}{n1 n2:Nat}(z:b A=aB)(q:y.length<=100000)(p1:b a=aA (.inst 149 [(5,h),(6,i),(7,f)]))(p2:b c=aA (.inst 149 [(5,j),(6,o),(7,g)]))(w:yv M es b n1 i o)(s:yv M es b n2 h j)(t:n1+n2+1<=n):gb M es b L d r D A y n again k x (.ref a) (.ref c):=λ Y E e=>by
 refine i5 q z E p1 p2 (e [(n1,i,o),(n2,h,j)] Y (λ p m=>?_) t E);rcases List.mem_cons.mp m with rfl|m;·exact w
 ·rw[List.mem_singleton.mp m];exact s
theorem yq{c:Nat}(e:b A=aB)(m:1<=n)(f:iG M es b (.ch c) v)(i:iG M es b (.ch c) u):gb M es b L d r D A y n again k x v u:=by
 obtain⟨a,rfl,_,j⟩:=f;obtain⟨c,rfl,_,g⟩:=i;exact xE m (λ Y E h=>Ep (E.upd e _ _ _ j) (E.upd e _ _ _ g) (h _ (.refl _))) e
theorem um{f:List Nat}(e:b A=aB)(j:1<=n)(m:iG M es b (.st f) v)(i:iG M es b (.st f) u):gb M es b L d r D A y n again k x v u:=by
 obtain⟨a,s,rfl,_,_,g,q⟩:=m;obtain⟨c,t,rfl,_,_,o,p⟩:=i;exact xE j (λ Y E h=>Ck (E.upd e _ _ _ g) (E.upd e _ _ _ o) (E.upd e _ _ _ q) (E.upd e _ _ _ p) h) e
theorem ba{s:List Nat}(e:b A=aB)(p:1<=n)(m:AC M es b s v)(o:AC M es b s u):gb M es b L d r D A y n again k x v u:=by
 obtain⟨a,i,rfl,_,f,j⟩:=m;obtain⟨c,q,rfl,_,t,g⟩:=o;rw[j]at g;cases g;exact xE p (λ Y E h=>Ca (E.upd e _ _ _ f) (E.upd e _ _ _ f) (h _ (.refl _))) e
theorem zw{g:List T}(w:b A=aB)(z:y.length+n<=100000)(F:aT (.ve g)<=n)(J:iG M es b (.ve g) v)(G:iG M es b (.ve g) u):gb M es b L d r D A y n again k x v u:=by
 obtain⟨a,O,Z,rfl,_,_,B,N,h⟩:=J;obtain⟨c,P,s,rfl,_,_,C,K,i⟩:=G;have f:1+aL g<=n:=F;obtain⟨q,j,m,o⟩:=ul g Z s h i;have p:=congrArg List.length j;rw[List.length_map,List.length_map,List.length_zip,h.len,i.len,Nat.min_self]at p;have t:=m.len;rw[p,o]at t;intro Y E e;refine Ap (by rw[h.len];exact F3 z f t) (by rw[h.len,i.len]) w E B C N K λ I X=>?_;rw[<-j];exact e q I m (by rw[o];exact F1 f) X
theorem Ae{t:T}{g:List T}{V:Bool}(p:b A=aB)(s:y.length<=100000)(m:aT (.ls (t::g) V)<=n)(o:iG M es b (.ls (t::g) V) v)(i:iG M es b (.ls (t::g) V) u):gb M es b L d r D A y n again k x v u:=by
 obtain⟨a,B,G,rfl,_,f,p1,h⟩:=o;obtain⟨c,z,w,rfl,_,j,p2,q⟩:=i;haveI e:1+(aT t+aL g+(g.length+1))<=n:=m;exact LW (n1:=1+(aL g+g.length)) (n2:=aT t) p s f j (.inl ⟨.ls g V,Nat.le_refl _,by exact h,by exact q⟩) (.inl ⟨t,Nat.le_refl _,p1,p2⟩) (F1 e)
theorem w9{j:Nat}{t:T}(f:b A=aB)(h:y.length<=100000)(p:aT (.qt j t)<=n)(s:iG M es b (.qt j t) v)(o:iG M es b (.qt j t) u):gb M es b L d r D A y n again k x v u:=by
 obtain⟨a,S,B,N,rfl,_,F,i,J,p1,G⟩:=s;obtain⟨c,V,O,P,rfl,_,C,E,z,p2,K⟩:=o;haveI e:4+aT t<=n:=p;have one:∀{w:MV}{S:Nat},¬M S->b S=aA (.inst 149 [(5,w),(6,.cst 44),(7,.none)])->iG M es b t w->iG M es b (.ls [t] aG) (.ref S):=λ m g q=>by exact⟨_,_,.cst 44,rfl,m,g,q,by rfl⟩
 exact LW (n1:=2+aT t) (n2:=1) f h i E (.inl ⟨.ls [t] aG,F0 (l:=1+(aT t+0+1)),one F J G,one C z K⟩) (.inr ⟨qn j,Nat.le_refl _,p1,p2⟩) (F1 e)
theorem I2(f:b A=aB)(g:y.length+n<=100000):∀t:T,aT t<=n->1<=n->iG M es b t v->iG M es b t u->gb M es b L d r D A y n again k x v u
 |.ch _=>λ U e a c=>yq f e a c|.st _=>λ U e a c=>um f e a c|.nu _=>λ U e a c=>by
  subst a c;exact xE e (λ Y E h=>su (h _ (.refl _))) f|.tr _=>λ U e a c=>by
  subst a c;exact xE e (λ Y E h=>C3 (h _ (.refl _))) f|.sy _=>λ U e a c=>by exact ba f e a c|.ls [] aC=>λ U e a c=>by
  subst a c;exact xE e (λ Y E h=>su (h _ (.refl _))) f|.ls [] aG=>λ U e a c=>by
  subst a c;exact xE e (λ Y E h=>Bd (h _ (.refl _))) f|.ls (_::_) _=>λ h U a c=>Ae f (F1 g) h a c|.qt _ _=>λ h U a c=>w9 f (F1 g) h a c|.ve _=>λ h U a c=>zw f g h a c
theorem F7(e:b A=aB)(h:y.length+n<=100000)(f:yv M es b n v u):gb M es b L d r D A y n again k x v u:=by
 have K:=f.pos;rcases f with⟨t,g,a,c⟩|⟨s,_,a,c⟩;·exact I2 e h t g K a c
 ·exact ba e K a c
theorem j8(o:b A=aB)(hk:∀B I,Ext b I->H B I)(N:Nat):∀(l:List rn)(Y:MH)(R o4:Option MV),g8 M es b l->sm l<=N->N<=100000->Y A=aA (.list (l.map tp))->Ext b Y->lT (Hr L d H k x) (N+1) [r,D,aA (.ref A),R,o4] Y:=by
 have i:∀(N:Nat)(Y:MH)(R o4:Option MV),Y A=aA (.list [])->Ext b Y->lT (Hr L d H k x) (N+1) [r,D,aA (.ref A),R,o4] Y:=λ N Y R o4 a E=>by
  refine fE (fD ?_);repeat k_memK
  exact hk _ _ E
 induction N with
 |zero=>
 intro l Y R o4 c h j a E;obtain rfl:l=[]:=List.eq_nil_of_length_eq_zero (Nat.le_zero.mp (Nat.le_trans c.len h));exact i _ _ _ _ a E|succ N t=>
  intro l Y R o4 c h j a E;rcases List.eq_nil_or_concat l with rfl|⟨G,⟨n,v,u⟩,rfl⟩;·exact i _ _ _ _ a E
  ·rw[List.concat_eq_append]at c h a;rw[List.map_append]at a;rw[WW]at h;have f:sm G+n<=N+1:=h;have g:g8 M es b G:=λ p m=>c p (List.mem_append_left _ m);haveI w:yv M es b n v u:=c (n,v,u) (List.mem_append_right _ (List.mem_singleton.mpr rfl));haveI e:=g.len;refine fE (lf a (F7 (M:=M) (es:=es) o (by rw[List.length_map];exact F3 e f j) w Y E λ q I s z C=>?_));exact t (G++q) _ _ _ (g.app s) (by rw[WW];exact F2 f z) (F1 j) (by rw[List.map_append];exact upd_same ..) (C.upd o _)
theorem Gi{t:T}{v u:MV}(K:iG M es Y t v)(C:iG M es Y t u)(G:aT t<=100000)(h:∀I,Ext Y I->k (.bool aC) I):(bY TB (G0 L) (d+2)).call 132 [v,u] [] Y k x:=by
  refine call_in (F:=F6) (loc:=[aA v,aA u,aB,aB,aB]) rfl rfl ?_;repeat k_memK
  intro A a;repeat k_memK
  refine nY (aT t+1) ?_;refine j8 (M:=M) (es:=es) (b:=Y) a (λ loc I E=>?_) (aT t) [(aT t,v,u)] _ aB aB (λ p m=>?_) (by show aT t+0<=_;exact F0) G (upd_same ..) (.new a _)
  · repeat k_memK
    exact h I E
  ·rw[List.mem_singleton.mp m];exact .inl ⟨t,Nat.le_refl _,K,C⟩
end
/-! sizes -/
mutual theorem YB:∀t:T,aT t<=4*sT t
 |.ve g=>by have :=WN g;unfold aT;rw[NH];exact F1 this|.ls g _=>by have :=WN g;unfold aT;rw[JB];exact F1 this|.qt _ t=>by haveI :=YB t;unfold aT;rw[RP];exact F1 this|.ch _=>by show 1<=4*1;exact F0|.st _=>by show 1<=4*1;exact F0|.nu _=>by show 1<=4*1;exact F0|.tr _=>by show 1<=4*1;exact F0|.sy _=>by show 1<=4*1;exact F0 theorem WN:∀g:List T,aL g+g.length<=4*sA g
 |[]=>aZ _|t::g=>by have :=YB t;have :=WN g;unfold aL;rw[qC,aN];lia end
mutual theorem aq:∀t:T,cT t<=sT t
 |.ve g=>by have :=ez g;unfold cT;rw[NH];exact F1 this|.ls g V=>by haveI :=ez g;unfold cT;rw[JB];cases V<;>simp<;>lia|.qt _ t=>by haveI :=aq t;unfold cT;rw[RP];exact F1 this|.ch _=>aZ _|.st _=>aZ _|.nu _=>aZ _|.tr _=>aZ _|.sy _=>aZ _ theorem ez:∀g:List T,cL g<=sA g
 |[]=>aZ _|t::g=>by have :=aq t;have :=ez g;unfold cL;rw[qC];lia end
mutual theorem sh:∀t:T,Wf aG t->Wf aC t
 |.ve g,h=>by exact⟨h.1,PN g h.2⟩|.ls g _,h=>by exact⟨h.1,PN g h.2⟩|.qt _ t,h=>by cases h.2.1|.ch _,h=>by exact h|.st _,h=>by exact h|.nu _,h=>by exact h|.tr _,h=>by trivial|.sy _,h=>by exact h theorem PN:∀g:List T,NE aG g->NE aC g
 |[],_=>by trivial|t::g,h=>by exact⟨sh t h.1,PN g h.2⟩end
theorem Au{t:T}(h:Wf aG t):∀R:List Nat,(∀j∈R,j<4)->Wf aC (qS R t):=by
 intro c;induction c with
 |nil=>
 intro U;exact sh t h|cons j R a=>
 intro b;exact⟨b j (aW ..),rfl,a λ i m=>b i (aV _ m)⟩
theorem xd(t:T):∀R:List Nat,sT (qS R t)=R.length+sT t:=by
 intro b;induction b with
 |nil=>exact(kO _).symm|cons j R a=>show sT (.qt j (qS R t))=_;rw[RP,a,aN];simp+arith
theorem cy(j:Nat):(qs j).length<=2:=by match j with
 |0=>decide|1=>decide|2=>decide|j+3=>exact aZ _
theorem XY(w:Bool)(t:T):∀R:List Nat,(tx w (qS R t)).length<=2*R.length+(tx w t).length:=by
 intro b;induction b with
 |nil=>rw[show qS [] t=t from rfl];show _<=0+_;exact F0|cons j R a=>
 have :=cy j;have :=a;show(qs j++tx w (qS R t)).length<=_;rw[aF,aN];lia
noncomputable def WH(b:Bool)(t:T):T:=if b then .ve [t]else .ls [t] aG
noncomputable def gc:List Bool->T->T
 |[],t=>t|b::Z,t=>gc Z (WH b t)
theorem ON(b:Bool)(t:T):tx aC (WH b t)=(if b then[35,40]else[40])++tx aC t++[41]:=by cases b with
 |true=>show 35::40::((tx aC t++[])++[41])=_;rw[bB];rfl|false=>show 40::((tx aC t++[])++[41])=_;rw[bB];rfl
theorem Ar{b:Bool}{t:T}(h:Wf aG t):Wf aG (WH b t):=by cases b with
 |true=>show Wf aG (.ve [t]);exact⟨aO rfl,h,trivial⟩|false=>show Wf aG (.ls [t] aG);exact⟨(λ e=>nomatch e),h,trivial⟩
theorem Ga(b:Bool)(t:T):sT (WH b t)<=sT t+5:=by cases b with
 |true=>show 2+(sT t+1+0)<=_;exact F0|false=>show 4+(sT t+1+0)<=_;exact F0
theorem rm(b:Bool)(t:T):(tx aC (WH b t)).length<=(tx aC t).length+3:=by
 rw[ON,aF,aF];cases b with
 |true=>show 2+_+1<=_;exact F0|false=>show 1+_+1<=_;exact F0
theorem uu:∀(Z:List Bool)(t:T),Wf aG t->Wf aG (gc Z t)/\sT (gc Z t)<=sT t+5*Z.length/\(tx aC (gc Z t)).length<=(tx aC t).length+3*Z.length:=by
 intro c;induction c with
 |nil=>
 intro t h;exact⟨h,aZ _,aZ _⟩|cons b Z a=>
 intro t h;obtain⟨y,K,d⟩:=a (WH b t) (Ar h);haveI :=Ga b t;haveI :=rm b t;refine⟨y,?_,?_⟩;·show sT (gc Z (WH b t))<=_;rw[aN];lia
 ·show(tx aC (gc Z (WH b t))).length<=_;rw[aN];exact F2 d this
section
variable{M:Nat->Prop}{es:fZ}{b Y I:MH}{d:Nat}{k x:KE}{L:List MV}
noncomputable abbrev Nc:List MS:=[.asg (.l 0) (.ite (.l 3) (.new 10 [(.lst [(.l 0)])]) (.new 7 [(.l 0),(.g 3)])),.asg (.l 1) (.bin .Add (.bin .Add (.ite (.l 3) (.c (.s [35,40])) (.c (.s [40]))) (.l 1)) (.c (.s [41])))]
theorem km{j:Nat}{L0:List MV}{H:KL}{y:KE}(B:∀a,M a->(b a).isSome)(z:b j=aA (.list L0)):∀(Z:List Bool)(t:T)(v:MV)(Y:MH)(o:Option MV),Ext b Y->iG M es Y t v->(tx aC t).length+3*Z.length<=1000->(∀u I o,Ext b I->iG M es I (gc Z t) u->H [aA u,aA (.str (tx aC (gc Z t))),aA (.ref j),o] I)->tT (uU (bY TB (G0 L) (d+1)) (G0 L) Nc y) [3] (aA (j,L0)) (Z.map .bool) [aA v,aA (.str (tx aC t)),aA (.ref j),o] Y H:=by
 intro A;induction A with
 |nil=>
 intro t v Y o E r U h;exact⟨dR (E _ _ z),h v Y o E r⟩|cons c Z q=>
 intro t v Y o E r G h;rw[List.length_cons]at G;refine⟨dR (E _ _ z),OptK.some rfl (lK ?_)⟩;have f:∀n,Y n=aB->¬M n:=λ n i m=>by have :=B n m;rw[E.off i]at this;cases this
 have g:=rm c t;cases c with
 |true=>
 repeat k_memK
 intro l p;repeat k_memK
 refine rG (F:=Gm) rfl (λ n=>[aA (.ref n),aA (.ref l)]) (λ U=>rfl) (λ U=>rfl) (λ U=>rfl) λ n i=>?_;obtain⟨C,s⟩:=eQ i;have w:Ext Y (upd (upd Y l (.list [v])) n (.inst 212 [(10,.ref l),(7,.none)])):=(Ext.new p _).upd s _;repeat k_memK
 refine mY (by show 2+_<=_;unfold aX;exact F1 G) ?_;repeat k_memK
 refine mY (by rw[List.length_append];show 2+_+1<=_;unfold aX;exact F1 G) ?_;repeat k_memK
 have e:=ON aC t;show tT _ _ _ _ [aA (.ref n),aA (.str ([35,40]++tx aC t++[41])),_,_] _ _;rw[show[35,40]++tx aC t++[41]=tx aC (WH aC t)from e.symm];refine q (WH aC t) (.ref n) _ _ (E.trans w) ?_ (F2 G g) h;show iG M es _ (.ve [t]) _;exact⟨n,l,[v],rfl,f n s,f l p,upd_same ..,upd_some _ (upd_same ..) i,v,[],rfl,r.mono (Ext.m w) (jM.refl _) _ _,rfl⟩|false=>
 repeat k_memK
 refine QH λ n i=>?_;have w:=Ext.new i (.inst 149 [(5,v),(6,.cst 44),(7,.none)]);repeat k_memK
 refine mY (by show 1+_<=_;unfold aX;exact F1 G) ?_;repeat k_memK
 refine mY (by rw[List.length_append];show 1+_+1<=_;unfold aX;exact F1 G) ?_;repeat k_memK
 haveI e:=ON aG t;show tT _ _ _ _ [aA (.ref n),aA (.str ([40]++tx aC t++[41])),_,_] _ _;rw[show[40]++tx aC t++[41]=tx aC (WH aG t)from e.symm];refine q (WH aG t) (.ref n) _ _ (E.trans w) ?_ (F2 G g) h;show iG M es _ (.ls [t] aG) _;exact⟨n,v,.cst 44,rfl,f n i,upd_same ..,r.mono (Ext.m w) (jM.refl _) _ _,rfl⟩
theorem Dk{j:Nat}{Z:List Bool}{t:T}{v:MV}(f:∀a,M a->(Y a).isSome)(c:Y j=aA (.list (Z.map .bool)))(e:iG M es Y t v)(G:(tx aC t).length+3*Z.length<=1000)(h:∀u I,Ext Y I->iG M es I (gc Z t) u->k (.tup [u,.str (tx aC (gc Z t))]) I):(bY TB (G0 L) (d+2)).call 133 [v,.str (tx aC t),.ref j] [] Y k x:=by
 refine call_in (F:=Fq) (loc:=[aA v,aA (.str (tx aC t)),aA (.ref j),aB]) rfl rfl ?_;refine tD ?_;repeat k_memK
 refine rP c ?_;refine km (M:=M) (es:=es) f c Z t v Y aB (.refl _) e G λ u I o E r=>?_;repeat k_memK
 exact h u I E r
end
section
variable{M:Nat->Prop}{X:fZ}{b Y I:MH}{d:Nat}{k x:KE}{L:List MV}{Q:Nat}
theorem Jd{s:List Nat}:IP (G0 L) .NotEq Y (.str s) (.str s)=aA aG:=by
 show aA (!(cH (s=s)))=_;rw[decide_eq_true rfl];rfl
theorem Cb{n m:Nat}{l:List MV}(f:Y n=aA (.list l))(c:Y m=aA (.list l))(a:n≠m)(e:RW mA l l=aA aC):w5 Y (.ref n) (.ref m)=aA aC:=by
 show(if n=m then aB else(listOf Y (.ref n)).bind λ l=>(listOf Y (.ref m)).bind λ r=>if l.length=r.length then RW mA l r else aA aG)=_;rw[if_neg a,dR f,dR c];show(if l.length=l.length then RW mA l l else aA aG)=_;rw[if_pos rfl,e]
theorem Fc{s:List Nat}{i:Int}:RW mA [.str s,.int i] [.str s,.int i]=aA aC:=by
 show aA (cH (s=s)&&(cH (i=i)&&aC))=_;rw[decide_eq_true rfl,decide_eq_true rfl];rfl
theorem Eg{i:Int}:RW mA [.int i,.int i] [.int i,.int i]=aA aC:=by
 show aA (cH (i=i)&&(cH (i=i)&&aC))=_;rw[decide_eq_true rfl];rfl
theorem iG.sy{t:T}{v:MV}(h:iG M X Y t v):qQ X t:=⟨M,Y,v,h⟩
theorem Cx{q:Bool}{js:List Nat}{t:T}{v:MV}(T:IC M X Y Q)(hM:∀a,M a->(Y a).isSome)(S:Wf aG t)(hj:∀j∈js,j<4)(hq:q=aG->js=[])(C:iG M X Y (qS js t) v)(D:js.length+sT t<=900)(J:(tx aC (qS js t)).length<=1000)(h:∀I,Ext Y I->k (.bool aC) I):(bY TB (G0 L) (d+11)).call 135 [v,.str (tx aC (qS js t)),.ref Q,.bool q] [] Y k x:=by
 refine call_in (F:=og) (loc:=[aA v,aA (.str (tx aC (qS js t))),aA (.ref Q),aA (.bool q),aB,aB]) rfl rfl ?_;have n:=Au S js hj;have p:=xd t js;have f:Wf q (qS js t):=by cases q with
 |true=>exact n|false=>rw[hq rfl];exact S
 obtain⟨c0,s0,e0,_⟩:=D6 _ n;have a1:1<=(tx aC (qS js t)).length:=by rw[e0,List.length_cons];exact F0
 have A:∀w,GB q X Y w->cF (bY TB (G0 L) (d+10)) (G0 L) (og.body.drop 1) [aA v,aA (.str (tx aC (qS js t))),aA (.ref Q),aA (.bool q),aA w,aB] Y (λ U Y=>k .none Y) k (λ U U=>False) x:=λ w N=>by
    have up:∀{I},Ext Y I->GB q X I w:=λ{I}E=>by cases q with
 |true=>obtain⟨a,e1,e2⟩:=N;exact⟨a,e1,e2.mono E⟩|false=>exact N
    show cF _ _ (_::_::_::_::[]) _ _ _ _ _ _;generalize c:tx aC (qS js t)=s at*;repeat k_memK
    refine yw C f N (F2 D (Nat.le_of_eq p)) (by rw[c];exact lm J) λ P G=>?_;rw[c];repeat k_memK
    refine itP_f (show(!cH (s=s))=aG by rw[decide_eq_true rfl];rfl) ?_;repeat k_memK
    have r1:=C.mono (Ext.m G) (jM.refl _);refine td r1 f (up G) (gL _) (F2 D (Nat.le_of_eq p)) (by rw[c];exact lm J) (λ U Z V=>?_) (λ z=>absurd (by rw[c];exact FN _) z);rw[c];repeat k_memK
    haveI r2:=r1.mono (Ext.m V) (jM.refl _);refine td r2 f (up (G.trans V)) (by lia) (F2 D (Nat.le_of_eq p)) (by rw[c];exact lm J) (λ z=>absurd z (by rw[c];lia)) (λ U O E3=>?_);repeat k_memK
    intro n1 y;repeat k_memK
    intro n2 K;obtain⟨ne,a4⟩:=eQ K;refine OptK.some (show(w5 _ _ _).map (!·)=aA aG by rw[Cb (upd_some _ (upd_same ..) K) (upd_same ..) ne.symm Fc];rfl) ?_;repeat k_memK
    have B:=((G.trans V).trans E3).trans ((Ext.new y (.list [.str s,.int ((s.length:Int)-1)])).trans (Ext.new K (.list [.str s,.int ((s.length:Int)-1)])));haveI H:∀a,M a->(upd (upd O n1 (.list [.str s,.int ((s.length:Int)-1)])) n2 (.list [.str s,.int ((s.length:Int)-1)]) a).isSome:=λ a m=>by
     obtain⟨o,e⟩:=aS.mp (hM a m);rw[B _ _ e];rfl
    haveI r:=aq t;have g:=Ea (L:=L) (d:=d) (x:=x) (T.ext B) H S n C.sy (js:=js) (F2 D r) (k:=λ i I=>cF (bY TB (G0 L) (d+10)) (G0 L) (og.body.drop 4) [aA v,aA (.str s),aA (.ref Q),aA (.bool q),aA w,aA i] I (λ U Y=>k .none Y) k (λ U U=>False) x) λ l u a3 E5 a2 hu=>?_;·rw[c]at g;exact g
    · show cF _ _ (_::[]) _ _ _ _ _ _;repeat k_memK
      exact Gi hu (C.mono (Ext.m (B.trans E5)) (jM.refl _) _ _) (by have :=YB (qS js t);lia) λ W E6=>h W ((B.trans E5).trans E6)
 cases q with
 |true=>
 have R:=A (.ref Q) ⟨Q,rfl,T.tab⟩;refine t_asg (r_ite (r_sv _ rfl (k_asB (itP_t rfl (r_sv _ rfl ?_)))));exact R|false=>
 haveI R:=A .none rfl;refine t_asg (r_ite (r_sv _ rfl (k_asB (itP_f rfl (r_sv _ rfl ?_)))));exact R
end
noncomputable def M4(W c A f:Nat):Nat->Prop:=λ a=>a=W\/a=c\/a=A\/a=f
structure LS(mh:MH)(dk c tb rows byt:Nat)(es:fZ):Prop where
 D:DS (M4 dk c rows byt) mh dk c
 T:TS (M4 dk c rows byt) mh tb rows byt es
 ne:dk≠rows/\dk≠byt/\c≠rows/\c≠byt
section
variable{y p:fZ}{Y I:MH}{d:Nat}{k x:KE}{L:List MV}{W c Q A f:Nat}
theorem DS.ext{M:Nat->Prop}(S:DS M Y W c)(E:Ext Y I):DS M I W c:=S.next (Ext.m E) (by
 obtain⟨⟨a,t,P,g,e,r⟩,b⟩:=S.D;exact⟨⟨a,t,P,E _ _ g,E _ _ e,r⟩,b⟩)
theorem LS.ext(S:LS Y W c Q A f y)(E:Ext Y I):LS I W c Q A f y:=⟨S.D.ext E,S.T.ext E,S.ne⟩
theorem LS.n2(S:LS Y W c Q A f y):¬M2 W c A/\¬M2 W c f/\∀a,¬M4 W c A f a->¬M2 W c a:=by
 obtain⟨i,n2,g,b⟩:=S.ne;exact⟨λ h=>h.elim (λ e=>i e.symm) λ e=>g e.symm,λ h=>h.elim (λ e=>n2 e.symm) λ e=>b e.symm,λ a h m=>h (m.elim .inl λ e=>.inr (.inl e))⟩
theorem LS.draw(S:LS Y W c Q A f y)(D:DS (M4 W c A f) I W c)(x:fV (M2 W c) Y I):LS I W c Q A f y:=by
 obtain⟨l,n2,g⟩:=S.n2;obtain⟨N,m,h⟩:=S.T.h3;exact⟨D,⟨x _ _ (g _ S.T.ntb) S.T.h1,S.T.ntb,x _ _ n2 S.T.h2,⟨N,x _ _ l m,h⟩,S.T.mr,S.T.mb,S.T.ne,λ e n=>by obtain⟨a,i,o,b,j⟩:=S.T.ent e n;exact⟨a,i,o,b,x _ _ (g _ b) j⟩,S.T.nm,S.T.nd,D.al⟩,S.ne⟩
theorem LS.dat(S:LS Y W c Q A f y)(T:TS (M4 W c A f) I Q A f p)(x:fV (M3 A f) Y I):LS I W c Q A f p:=by
 obtain⟨i,n2,g,j⟩:=S.ne;obtain⟨⟨a,t,P,l,e,r⟩,b⟩:=S.D.D;exact⟨⟨⟨⟨a,t,P,x _ _ (λ h=>h.elim i n2) l,x _ _ (λ h=>h.elim g j) e,r⟩,b⟩,S.D.m1,S.D.m2,T.al⟩,T,S.ne⟩
theorem LS.tab(S:LS Y W c Q A f y)(x:fV (M2 W c) Y I):xT y I Q:=by
 obtain⟨l,n2,b⟩:=S.n2;obtain⟨N,m,o⟩:=S.T.h3;exact⟨⟨A,f,N,x _ _ (b _ S.T.ntb) S.T.h1,x _ _ n2 S.T.h2,S.T.ne,x _ _ l m⟩,λ e n=>by obtain⟨a,i,h,g,j⟩:=S.T.ent e n;exact⟨a,i,h,x _ _ (b _ g) j⟩⟩
theorem LS.tbR(S:LS Y W c Q A f y):IC (M4 W c A f) y Y Q:=⟨S.T.tab,λ e j a g m=>by
 obtain⟨V,i,b,h,_⟩:=S.T.ent e j;rw[g]at b;cases b;exact h m⟩
theorem Dd(S:LS Y W c Q A f y)(h:∀I,k (.bool aC) I):(bY TB (G0 L) (d+11)).call 137 [.ref W,.ref Q] [] Y k x:=by
 refine call_in (F:=Bw) (loc:=[aA (.ref W),aA (.ref Q),aB,aB]) rfl rfl ?_;repeat k_memK
 refine QH λ n b=>?_;haveI t:=S.ext (Ext.new b (.inst 149 [(5,.int 7),(6,.cst 44),(7,.none)]));repeat k_memK
 refine nU (many:=40) t.D ⟨by decide,by decide⟩ λ r Z i J j=>?_;haveI u:¬M2 W c n:=S.n2.2.2 n (S.D.off b);have p2:Z n=aA (.inst 149 [(5,.int 7),(6,.cst 44),(7,.none)]):=j _ _ u (upd_same ..);repeat k_memK
 have q:ET (upd Z n (.inst 149 [(5,.int 7),(6,.ref n),(7,.none)])) n:=upd_same ..;haveI s:fV (M2 W c) Y (upd Z n (.inst 149 [(5,.int 7),(6,.ref n),(7,.none)])):=λ a o m e=>by
  haveI B:a≠n:=λ z=>by rw[z,b]at e;cases e
  rw[cE _ _ B];exact j _ _ m (upd_some _ e b)
 haveI g:=S.tab s;show cF _ _ _ _ (upd Z n (.inst 149 [(5,.int 7),(6,.ref n),(7,.none)])) _ _ _ _;repeat k_memK
 refine ZZ (x:=x) q (es:=y) (.inl rfl) (F1 i) λ w l=>?_;repeat k_memK
 refine ZZ (x:=x) (l _ _ q) (es:=y) (.inr ⟨Q,rfl,g.mono l⟩) (F1 i) λ v M=>?_;repeat k_memK
 intro H K;repeat k_memK
 intro N C;obtain⟨E,G⟩:=eQ C;refine OptK.some (show w5 _ _ _=aA aC from Cb (upd_some _ (upd_same ..) C) (upd_same ..) E.symm Eg) ?_;exact h _
theorem ZD:∀j<4,qn j∈HF:=by decide
theorem tg:∀j<4,(q4[j]?=aA (.tup [.str (qs j),.str (qn j)])):=Gz rfl rfl rfl rfl
noncomputable abbrev P6:List MS:=[.asg (.ls [6,7]) (.idx (.l 4) (.call 124 [(.l 0),(.c (.i 4))] [])),.asg (.ls [1,2]) (.tup [(.call 17 [(.lst [(.meth (.l 3) 6 [(.l 7)]),(.l 1)])] []),(.bin .Add (.l 6) (.l 2))])]
theorem ke{C:Nat}{t:T}{b:MH}{w:fZ}{H:KL}{F:KE}(ht:(tx aC t).length<=900):∀(Z:List MV)(N:List Nat)(v:MV)(Y:MH)(y:fZ)(B s E:Option MV),Z.length+N.length<=3->(∀j∈N,j<4)->LS Y W c Q A f y->fV (M4 W c A f) b Y->jM w y->Y C=aA (.list q4)->¬M4 W c A f C->iG (M4 W c A f) y Y (qS N t) v->(∀N u I p B s E,N.length<=3->(∀j∈N,j<4)->LS I W c Q A f p->fV (M4 W c A f) b I->jM w p->iG (M4 W c A f) p I (qS N t) u->H [aA (.ref W),aA u,aA (.str (tx aC (qS N t))),aA (.ref Q),aA (.ref C),B,s,E] I)->tT (uU (bY TB (G0 L) (d+3)) (G0 L) P6 F) [5] aB Z [aA (.ref W),aA v,aA (.str (tx aC (qS N t))),aA (.ref Q),aA (.ref C),B,s,E] Y H:=by
 intro z_;induction z_ with
 |nil=>
 intro N v Y y B s E G J S X le U U r h;exact⟨trivial,h N v Y y B s E (by simpa using G) J S X le r⟩|cons a Z K=>
 intro N v Y y B s E G J S X le hm nm r h;rw[List.length_cons]at G;refine⟨trivial,OptK.some rfl (lK ?_)⟩;repeat k_memK
 refine nU (many:=4) S.D ⟨by decide,by decide⟩ λ j P e D1 x1=>?_;have z:=S.draw D1 x1;have y1:=S.D.sub x1;have q:=y1 _ _ nm hm;haveI r1:=r.mono y1 (jM.refl _);repeat k_memK
 refine k_idx q (by rw[qH];exact tg j e) ?_;refine OptK.some rfl ?_;have a4:=z.T.h1;refine t_ls ?_;repeat k_memK
 refine s9 z.T (ZD j e) λ sv R a1 a3 T2 n x2=>?_;have S2:=z.dat T2 x2;have V:=z.T.sub x2;repeat k_memK
 intro l o;repeat k_memK
 haveI S3:=S2.ext (Ext.new o (.list [sv,v]));refine rx (M:=M4 W c A f) S3.D.al (upd_same ..) (Nat.le_of_ble_eq_true rfl) λ u O E4 ch=>?_;have g:=(Ext.new o (.list [sv,v])).trans E4;haveI r4:=(r1.mono V n).mono (Ext.m g) (jM.refl _);haveI a2:=LR (a3.mono (Ext.m g) (jM.refl _)) r4 ch;have lq:=cy j;have lt:=XY aC t N;repeat k_memK
 refine mY (by unfold aX;lia) ?_;repeat k_memK
 refine K (j::N) u O a1 _ _ _ (by rw[List.length_cons];exact F1 G) (λ i m=>?_) (S2.ext g) (((X.trans y1).trans V).trans (Ext.m g)) (le.trans n) (g _ _ (V _ _ nm q)) nm a2 h;rcases List.mem_cons.mp m with rfl|m;·exact e
 ·exact J i m
theorem El{t:T}{v:MV}(S:LS Y W c Q A f y)(o:iG (M4 W c A f) y Y t v)(K:(tx aC t).length<=900)(h:∀R u I p,R.length<=3->(∀j∈R,j<4)->LS I W c Q A f p->fV (M4 W c A f) Y I->jM y p->iG (M4 W c A f) p I (qS R t) u->k (.tup [u,.str (tx aC (qS R t))]) I):(bY TB (G0 L) (d+4)).call 136 [.ref W,v,.str (tx aC t),.ref Q] [] Y k x:=by
 refine call_in (F:=Ew) (loc:=[aA (.ref W),aA v,aA (.str (tx aC t)),aA (.ref Q),aB,aB,aB,aB]) rfl rfl ?_;repeat k_memK
 intro N a;repeat k_memK
 have e:=Ext.new a (.list q4);have g:=S.ext e;have l:=S.D.off a;refine tD ?_;repeat k_memK
 refine nU (many:=3) g.D ⟨by decide,by decide⟩ λ r Z b G n=>?_;haveI z:=g.draw G n;have i:=g.D.sub n;repeat k_memK
 show OptK (lZ Z 1 [.int (1+(r:Int))]) _;rw[show(1:Int)+(r:Int)=((1+r:Nat):Int)by lia];refine zC (F1 b) ?_;refine ke K (kJ _) [] v Z y aB aB aB (by rw[nV];show 1+r+0<=3;exact F1 b) (λ U m=>nomatch m) z ((Ext.m e).trans i) (jM.refl _) (i _ _ l (upd_same ..)) l ((o.mono (Ext.m e) (jM.refl _)).mono i (jM.refl _) _ _) λ R u I p B s E J w q M C H=>?_;repeat k_memK
 exact h R u I p J w q M C H
end
section
variable{X p:fZ}{Y I:MH}{d:Nat}{k x:KE}{L:List MV}{W c Q A f:Nat}
theorem vm(h:∀Q A f I,Y Q=aB->Y A=aB->Y f=aB->Q≠A->Q≠f->Ext Y I->I Q=aA (.inst 128 [(3,.ref A),(4,.ref f)])->I A=aA (.list [])->I f=aA (.sdict [])->f≠gC->k (.ref Q) I):(bY TB (G0 L) (d+1)).new 6 [] Y k x:=by
 refine PK (F:=I6) (C:=128) (loc:=λ n=>[aA (.ref n)]) rfl rfl (λ n=>rfl) λ Q e=>?_;repeat k_memK
 intro A m;obtain⟨g,b⟩:=eQ m;repeat k_memK
 intro f l G;obtain⟨i,G⟩:=eQ G;obtain⟨j,G⟩:=eQ G;obtain⟨_,a⟩:=eQ G;repeat k_memK
 refine⟨rfl,h Q A f _ e b a g.symm i.symm (((((Ext.new e _).upd b _).upd e _).upd a _).upd e _) (upd_same ..) ?_ ?_ l⟩;·rw[cE _ _ g,cE _ _ j.symm,cE _ _ g,upd_same]
 ·rw[cE _ _ i,upd_same]
noncomputable abbrev B3:List MS:=[.asg (.l 4) (.call 127 [(.l 1),(.c (.i 2))] []),.asg (.l 5) (.ite (.cmp .Eq (.call 124 [(.l 1),(.c (.i 5))] []) (.c (.i 4))) (.bin .Add (.c (.i 20)) (.call 124 [(.l 1),(.c (.i 30))] [])) (.c (.i 0))),.asg (.l 6) (.comp ["step"] [1] 1 [(.l 5)] (.cmp .Eq (.call 124 [(.l 1),(.c (.i 3))] []) (.c (.i 0))) []),.asg (.ls [7,8]) (.call 133 [(.call 130 [(.l 4),(.l 2)] []),(.call 129 [(.l 4),(.c (.b aC))] []),(.l 6)] []),.asg (.l 9) (.call 124 [(.l 1),(.c (.i 3))] []),.ite (.cmp .Eq (.l 9) (.c (.i 2))) [.asg (.ls [7,8]) (.call 136 [(.l 1),(.l 7),(.l 8),(.l 2)] [])] [],.ite (.not (.call 135 [(.l 7),(.l 8),(.l 2),(.cmp .Gt (.l 9) (.c (.i 0)))] [])) [.ret (.c (.b aG))] [],.ite (.cmp .NotEq (.call 121 [(.call 130 [(.l 4),(.l 2)] [])] []) (.call 129 [(.l 4),(.c (.b aG))] [])) [.ret (.c (.b aG))] []]
end
section
variable{X p:fZ}{Y I:MH}{d:Nat}{k x:KE}{L:List MV}{W c Q A f:Nat}{again:KL}{a R o4 B s E i g:Option MV}{t:T}{v:MV}
noncomputable abbrev JD(again:KL)(a:Option MV)(W c Q A f:Nat):Prop:=∀I p R o4 B s E i g,LS I W c Q A f p->again [a,aA (.ref W),aA (.ref Q),R,o4,B,s,E,i,g] I
theorem RO(S:LS Y W c Q A f X)(x:fV (M3 A f) Y I):fV (M4 W c A f) Y I:=S.T.sub x
theorem jo(S:LS Y W c Q A f X)(o:TR (M4 W c A f) Y t v)(e:Wf aG t)(w:Sm 2 t)(h:JD again a W c Q A f):cF (bY TB (G0 L) (d+11)) (G0 L) (B3.drop 7) [a,aA (.ref W),aA (.ref Q),R,aA v,B,s,E,i,g] Y again k again (λ U U=>False):=by
 obtain⟨⟨y,K⟩,n⟩:=w;have b:=y aG;rw[show OU 2=366 from rfl]at b K;show cF _ _ (_::[]) _ _ _ _ _ _;repeat k_memK
 refine ZX (d:=d+6) 2 t v X Y _ _ S.T o e n (lm K) λ u P l z F G r=>?_;haveI D:=S.dat F r;haveI C:=o.mono (RO S r);repeat k_memK
 refine Fm (d:=d+2) z e (lm K) (lm b) λ Z q=>?_;repeat k_memK
 refine TE (d:=d+7) 2 t v Z _ _ (C.mono (Ext.m q)) e n (lm b) λ j H=>?_;refine OptK.some Jd ?_;repeat k_memK
 exact h j l _ _ _ _ _ _ _ ((D.ext q).ext H)
theorem RG{b:T}{js:List Nat}{u:MV}{r:Nat}(S:LS Y W c Q A f X)(o:TR (M4 W c A f) Y t v)(l:Wf aG t)(w:Sm 2 t)(G:Wf aG b)(y:∀j∈js,j<4)(C:js.length<=3)(F:sT b<=800/\(tx aC b).length<=900)(n:cH ((r:Int)>0)=aG->js=[])(z:iG (M4 W c A f) X Y (qS js b) u)(h:JD again a W c Q A f):cF (bY TB (G0 L) (d+11)) (G0 L) (B3.drop 6) [a,aA (.ref W),aA (.ref Q),R,aA v,B,s,aA u,aA (.str (tx aC (qS js b))),aA (.int r)] Y again k again (λ U U=>False):=by
 show cF _ _ (_::_::[]) _ _ _ _ _ _;repeat k_memK
 have M:=XY aC b js;refine Cx (q:=cH ((r:Int)>0)) S.tbR S.D.al G y n z (F2 C F.1) (by lia) λ P e=>?_;refine k_asB (k_asB (itP_f rfl (t_nil ?_)));exact jo (S.ext e) (o.mono (Ext.m e)) l w h
theorem uh{b:T}{u:MV}(S:LS Y W c Q A f X)(C:TR (M4 W c A f) Y t v)(q:Wf aG t)(F:Sm 2 t)(J:Wf aG b)(l:sT b<=800/\(tx aC b).length<=900)(M:iG (M4 W c A f) X Y b u)(h:JD again a W c Q A f):cF (bY TB (G0 L) (d+12)) (G0 L) (B3.drop 4) [a,aA (.ref W),aA (.ref Q),R,aA v,B,s,aA u,aA (.str (tx aC b)),g] Y again k again (λ U U=>False):=by
  show cF _ _ (_::_::_::_::[]) _ _ _ _ _ _;repeat k_memK
  refine nU (many:=3) S.D ⟨by decide,by decide⟩ λ r P N O H=>?_;have G:=S.draw O H;have n:=S.D.sub H;have y:=M.mono n (jM.refl _);repeat k_memK
  refine itP_of (λ e=>?_) λ e=>?_
  · haveI j:(r:Int)=2:=of_decide_eq_true e;repeat k_memK
    refine El G y l.2 λ js w Z V a1 K S2 y2 a3 o=>?_;refine OptK.some rfl (t_nil ?_);exact RG (d:=d+1) S2 ((C.mono n).mono y2) q F J K a1 l (λ z=>by rw[j]at z;cases z) o h
  ·refine t_nil ?_;exact RG (d:=d+1) (js:=[]) G (C.mono n) q F J (λ U m=>nomatch m) (Nat.zero_le _) l (λ U=>rfl) y h
end
section
variable{X p:fZ}{Y I:MH}{d:Nat}{k x:KE}{L:List MV}{W c Q A f:Nat}{again:KL}{b o3 o4 B o6 o7 o8 o9:Option MV}{t:T}{v:MV}
theorem ds{m:Nat}(hm:m<=49)(S:LS Y W c Q A f X)(hr:TR (M4 W c A f) Y t v)(o:Wf aG t)(hs:Sm 2 t)(h:JD again b W c Q A f):cF (bY TB (G0 L) (d+12)) (G0 L) (B3.drop 2) [b,aA (.ref W),aA (.ref Q),o3,aA v,aA (.int m),o6,o7,o8,o9] Y again k again (λ U U=>False):=by
  obtain⟨⟨y,C⟩,h3⟩:=id hs;have g:=y aC;rw[show OU 2=366 from rfl]at g C;show cF _ _ (_::_::_::_::_::_::[]) _ _ _ _ _ _;refine t_asg (lJ (r_args (r_sv (.l 5) rfl (r_args0 ?_))));refine zC (lm hm) ?_;refine vM (src:=aB) (vs0:=kJ m) (caps:=[aA (.ref W)]) (λ I G=>∃Z:List Bool,G=Z.map .bool/\LS I W c Q A f X/\fV (M2 W c) Y I) (λ U U U=>trivial) (λ U U U h=>h) (by rw[nV];exact lm hm) (λ v G a K U H hK=>?_) (λ G a hl H V e=>?_) (kJ m) [] aB Y rfl (Nat.zero_le _) ⟨[],rfl,S,fV.refl _ _⟩
  · obtain⟨Z,rfl,n,E⟩:=H;repeat k_memK
    refine nU (many:=3) n.D ⟨by decide,by decide⟩ λ r z a2 D4 N=>?_;repeat k_memK
    refine hK _ z ⟨Z++[cH ((r:Int)=0)],by rw[List.map_append];rfl,n.draw D4 N,E.trans N⟩
  · obtain⟨Z,rfl,n,E⟩:=H;rw[nV,List.length_map]at hl;have M:=n.ext (Ext.new e (.list (Z.map .bool)));have P:=(hr.mono (S.D.sub E)).mono (Ext.m (Ext.new e (.list (Z.map .bool))));haveI j:=n.D.off e;haveI i:upd a V (.list (Z.map .bool)) V=aA (.list (Z.map .bool)):=upd_same ..;generalize upd a V (.list (Z.map .bool))=J at*;refine t_ls (r_call rfl (r_args ?_));repeat k_memK
    refine ZX (d:=d+7) 2 t v X J _ _ M.T P o h3 (lm C) λ u F a1 hu T6 a4 R=>?_;haveI S6:=M.dat T6 R;have y6:=RO M R;have r6:=P.mono y6;repeat k_memK
    refine TE (d:=d+8) 2 t v F _ _ r6 o h3 (lm g) λ a3 q=>?_;have O:=S6.ext q;obtain⟨z1,z2,z3⟩:=uu Z t o;repeat k_memK
    refine Dk O.D.al (q _ _ (y6 _ _ j i)) (hu.mono (Ext.m q) (jM.refl _)) (by lia) λ w a5 E8 s=>?_;refine OptK.some rfl ?_;exact uh (O.ext E8) ((r6.mono (Ext.m q)).mono (Ext.m E8)) o hs z1 ⟨by lia,by lia⟩ s h
theorem l8{F:KE}(i:F=k)(S:LS Y W c Q A f X)(h:JD again b W c Q A f):uU (bY TB (G0 L) (d+12)) (G0 L) B3 F [b,aA (.ref W),aA (.ref Q),o3,o4,B,o6,o7,o8,o9] Y again:=by
  subst i;refine lK ?_;show cF _ _ (_::_::_::_::_::_::_::_::[]) _ _ _ _ _ _;refine t_asg ?_;k_memK;refine nv (d:=d+7) 2 Y _ _ S.D λ t v P w l q u J=>?_;have g:=S.draw u J;repeat k_memK
  refine nU (many:=5) g.D ⟨by decide,by decide⟩ λ r Z K E n=>?_;have a:=g.draw E n;have s:=w.mono (g.D.sub n);repeat k_memK
  refine itP_of (λ e=>?_) λ e=>?_
  · repeat k_memK
    refine nU (many:=30) a.D ⟨by decide,by decide⟩ λ H y j z o=>?_;haveI C:=a.draw z o;have G:=ds (d:=d) (k:=F) (L:=L) (o3:=o3) (o6:=o6) (o7:=o7) (o8:=o8) (o9:=o9) (m:=20+H) (F1 j) C (s.mono (a.D.sub o)) l q h;rw[nK]at G;refine OptK.some rfl ?_;exact G
  ·refine r_sv _ rfl ?_;exact ds (m:=0) (F0) a s l q h
theorem jd{H:KL}{F:KE}:∀(Z:List MV)(Y:MH)(X:fZ)(o3 o4 B o6 o7 o8 o9:Option MV),LS Y W c Q A f X->JD H b W c Q A f->tT (uU (bY TB (G0 L) (d+12)) (G0 L) B3 F) [3] aB Z [b,aA (.ref W),aA (.ref Q),o3,o4,B,o6,o7,o8,o9] Y H:=by
 intro i;induction i with
 |nil=>
 intro Y X o3 o4 B o6 o7 o8 o9 S h;exact⟨trivial,h Y X _ _ _ _ _ _ _ S⟩|cons a Z e=>
 intro Y X o3 o4 B o6 o7 o8 o9 S h;exact⟨trivial,OptK.some rfl (l8 rfl S λ I p o3 o4 B o6 o7 o8 o9 g=>e I p _ _ _ _ _ _ _ g h)⟩
end
theorem b7(j:List Int):(bY TB (G0 (j.map MV.int)) 40).call 138 [.cst 1324] [] (λ U=>aB) (λ v U=>v=.bool aC) λ U U=>False:=by
 refine call_in (d:=39) (F:=Dt) (loc:=[aA (.cst 1324),aB,aB,aB,aB,aB,aB,aB,aB,aB]) rfl rfl ?_;refine t_ls (r_tup (r_args (r_call rfl (r_args (r_sv (.l 0) rfl (r_args0 ?_))))));refine Dm (d:=38) λ W c P f1 f2 E1 Y=>?_;refine r_args (r_new rfl (r_args0 ?_));refine vm (d:=38) λ Q A f Z x G w D L r y K C O=>?_;obtain⟨⟨n,t,V,k,h,q⟩,M⟩:=id Y;have b:∀{a o m},P a=aA o->P m=aB->a≠m:=λ y K e=>by rw[e,K]at y;cases y
 have H:∀a,M4 W c A f a->(Z a).isSome:=λ a m=>by
  rcases m with rfl|rfl|rfl|rfl;·rw[r _ _ k];rfl
  ·rw[r _ _ h];rfl
  ·rw[K];rfl
  ·rw[C];rfl
 haveI S:LS Z W c Q A f []:=by
  refine⟨⟨⟨⟨n,t,V,r _ _ k,r _ _ h,q⟩,M⟩,.inl rfl,.inr (.inl rfl),H⟩,⟨y,?_,C,⟨[],K,rfl⟩,.inr (.inr (.inl rfl)),.inr (.inr (.inr rfl)),O,λ U m=>(nomatch m),λ U m=>(nomatch m),tI,H⟩,b k G,b k w,b h G,b h w⟩;rintro(z|z|z|z);·exact b k x z.symm
  ·exact b h x z.symm
  ·exact D z
  ·exact L z
 refine r_args0 ⟨aO rfl,OptK.some rfl ?_⟩;refine tD (r_args (r_call rfl (r_args (r_sv (.l 0) rfl (r_args (r_sv _ rfl (r_args (r_sv _ rfl (r_args0 ?_)))))))));refine Ch (d:=38) λ m u X J=>r_args0 (zC (lm X) ?_);refine jd (d:=27) (kJ m) u [] _ _ _ _ _ _ _ (S.ext J) λ I p R o4 B s E i g N=>?_;refine t_ret (r_call rfl (r_args (r_sv (.l 1) rfl (r_args (r_sv (.l 2) rfl (r_args0 ?_))))));exact Dd (d:=28) N λ U=>rfl
end
theorem the_end:PySem.Challenge.rw_pq1041_01.Holds:=bv (λ j U=>b7 j)
end Mine.Internal
theorem PySem.Challenge.cw_pq1041_01_holds : PySem.Challenge.rw_pq1041_01.Holds :=
  Mine.Internal.the_end
