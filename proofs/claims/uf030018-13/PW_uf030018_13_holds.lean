import PyProof.Rows.All
import Wide.All
import Open.Line
import Wide.FinOn
import PyProof.Cells
import PyProof.RangeIter
import PyProof.CodeObjX
import PyProof.FactsAll.tuple
import PyProof.DictKinds
import PyProof.CompMap
import PyProof.DictKind
import PyProof.Rows.Tup
import PyProof.DictRoads
import PyProof.DictDisplay
import PyProof.NeKinds
import PyProof.DictRoadsH
import PyProof.StrBlockI
import PyProof.StrBlock2
import KE.KSortTup
import PyProof.CompFree
import PyProof.Rows.Walk
import PyProof.Rows.IntRules
import PyProof.Rows.RuleB_mul
import PyProof.Rows.RuleB_floordiv
import PyProof.Rows.RuleB_pow
import PyProof.Rows.RuleB_mod
import PyProof.Rows.RuleC_int
import PyProof.Rows.RuleU_int
import PyProof.Rows.StrRules
import PyProof.Rows.Nodes
import PyProof.Rows.TupSub
import PyProof.ListOps
import PyProof.TupleOps
import PyProof.DictStraight
import PyProof.Rows.Lst
import PyProof.Rows.TupMore
import PyProof.Rows.StrTemp
import PyProof.ListTruth
import PyProof.TupleOfSeq
import PyProof.CallStr
import PyProof.RangeFor
import PyProof.Conv_int_bool
import PyProof.SliceStr2
import PyProof.SliceMore
import PyProof.ListIndexNeg
import PyProof.IsiPairs
import PyProof.IsiHeapPairs
import KE.KEqDict
import PyProof.Rows.Exc
import PyProof.Rows.Globals
import PyProof.IsiTuple
import PyProof.ListCopy
import PyProof.WalkInts
import PyProof.Rows.SumAny
import KE.KDictList
import PyProof.DictWalks
import PyProof.WalksMore
import PyProof.Rows.StrTempNeg
import PyProof.Rows.SortRuns
import PyProof.SetKind
import PyProof.SetRoads
import PyProof.Rows.SetFrom
import PyProof.Rows.SortShell
import PyProof.Rows.RuleB_bool
import KE.KLam
import PyProof.ForAppend
import KE.KRevIter
import PyProof.TupleCall
import PyProof.CallTypeRange
import PySem.Challenge.RW_uf030018_13
set_option Elab.async false
set_option linter.all false
set_option backward.eqns.nonrecursive false
set_option genSizeOf false
set_option maxRecDepth 100000
open Option renaming some->ac,none->y7,isNone_iff_eq_none->Bf,map_some->D4
open Bool renaming false->yM,true->yP,false_ne_true->y5,and_eq_true_iff->zE,or_eq_true_iff->Bd,eq_iff_iff->Bg,and_eq_true->Bo,or_eq_false_iff->BQ,false_eq_true->B5,and_comm->Cs,eq_false_iff->CL,and_false->CN,and_true->C8,not_eq_true'->DD,or_eq_true->D0,false_or->Eo,or_true->EO
open _root_ renaming List->yN,String->yS,Bool->yU,Option->yX,if_pos->y8,if_neg->za,congrArg->zj,beq_self_eq_true->zu,Array->zw,absurd->zA,of_decide_eq_true->zS,decide_eq_true->Ak,decide_eq_false->Aq,beq_eq_false_iff_ne->Ay,of_decide_eq_false->A7,beq_iff_eq->Bh,getElem?_pos->Bp,or_false->Bs,decide_eq_true_eq->BU,dite->Cq,if_false->CA,bne_iff_ne->CX,if_true->Ed
open PySem.Str renaming ofString->yO
open Nat renaming le_trans->yQ,le_of_ble_eq_true->yZ,lt_of_le_of_lt->y3,le_refl->ze,lt_of_lt_of_le->zf,le_of_eq->zk,zero_le->zn,le_add_right->zo,add_le_add->zr,succ_le_succ->zs,le_max_right->zB,le_of_succ_le_succ->zH,le_of_lt_succ->zJ,add_le_add_right->zK,le_max_left->zL,add_le_add_left->zN,ne_of_lt->zO,le_succ_of_le->zR,le_of_lt->zU,lt_or_eq_of_le->zY,mul_le_mul_left->z6,lt_of_succ_lt->Aa,lt_succ_of_lt->Ab,not_lt->Ac,lt_irrefl->Af,add_comm->Ai,lt_trans->Aj,zero_add->Al,le_add_left->Ao,lt_succ_self->Ap,add_assoc->Au,succ_pos->Az,lt_add_of_pos_right->AL,le_succ->AM,lt_of_succ_lt_succ->AN,one_pos->AQ,sub_lt->AW,not_lt_zero->AZ,le_antisymm->BM,le_of_succ_le->BR,max_le->B1,pos_of_ne_zero->B4,sub_lt_left_of_lt_add->Cf,min_eq_left->Cv,lt_of_le_of_ne->Cw,le_pred_of_lt->CJ,mul_le_mul->CO,sub_self->CQ,succ_lt_succ->CY,le_of_add_le_add_right->C6,add_sub_cancel'->Dh,sub_add_cancel->Dl,ne_of_gt->Dq,sub_le->Dt,min_eq_right->DM,min_le_right->DN,not_lt_of_le->DO,le_of_sub_eq_zero->DS,min_self->DW,min_le_left->DX,not_succ_le_self->D1,sub_lt_sub_left->D7,le_zero->Eg,add_left_comm->Eu,lt_or_ge->EF,succ->EG,le_of_not_lt->EJ
open PySem renaming Value->yR,wpAny_bind->yT,Shared->yY,Addr->y0,model->y6,wpAny_pure->y9,Expr->zh,Program->zv,World->zD,Around->zF,eval->zQ,Params->zT,Stmt->Ag,wpAny_newObj_type->Ah,mainGlobals->AB,cellsFrom->AF,Operator->AU,wpAny_call_entry->AV,wpAny_execs_cons->A8,Scope->Bk,cLine->Bl,SetTable->Bq,rawInt->Bw,wpAny_holding->Bx,Builtin->Bz,builtinLookup_eq_fast->BB,wpAny_of_eq->BH,NameKind->BJ,wpAny_callSpecial?_slot->BX,recursionLimit->BZ,wpAny_setField_rec->B6,codeAny_builtin->B7,wpAny_execs_nil->B8,starEach->B9,pyNext->Ca,wpAny_setState_of->Cb,compareOp->Ch,isSubtype_type->Cj,isTrue->Cn,DictEntry->Ct,Arguments->Cu,typeLookup_type->Cy,wpAny_ite_split->Cz,wpAny_field->CC,callEnvC->CE,wpAny_typeNameOfWhole_keyiter->CG,firstArgMember->CP,exec->CR,scanBound->CT,CmpOp->CV,wpAny_mono->CW,wpAny_isInstance->CZ,Walks->C0,execs->C3,BoolOp->C7,wpAny_attempt->C9,valueAt->Dd,wpAny_typeNameOf_keyiter->Dm,setField->Do,wpAny_Constant_int->Dp,argsOk->Dr,hashInt->Du,sysModules->Dv,wpAny_setField->Dw,relabel->Dx,wpAny_rule->Dy,wpAny_list_append_plain->Dz,wpAny_pyIter_slot->DB,Flow->DC,pyIter->DG,unsupported->DJ,plainId_quiet->DK,getItem->DR,pickOrder->DT,wpAny_specialOf->D2,newExc->Ek,pushCells->El,swapsWith->Em,wpAny_newList->Ep,wpAny_assign_Name->Ew,fits_of_scanBound->Ey,builtinsNs->EB,codeAny->EC,intKind->ED,setNext->EE,raiseNew->EH,wpAny_typeOf->EI,relayAll->EK
open List renaming length_map->yV,getElem?_eq_getElem->y4,getD_eq_getElem?_getD->zb,mem_cons->zc,length_append->zd,mem_singleton->zg,lookup_cons->zl,map_cons->zm,filter_cons_of_pos->zp,map_append->zq,range->zt,all_eq_true->zx,append_nil->zy,mem_map->zz,mem_filter->zC,mem_cons_self->zG,filter_cons_of_neg->zI,mem_append->zM,not_mem_nil->zV,length_range->zX,filter_append->zZ,mem_append_right->z7,length_filter_le->z8,map_map->Ad,mem_cons_of_mem->Ae,isEmpty_iff->Am,length_cons->Ar,getElem?_map->As,getElem?_append_right->Av,filter_filter->Aw,mem_append_left->AC,pairwise_cons->AG,contains_iff_mem->AH,any_cons->AI,getElem_mem->AJ,filter_cons->AK,map_congr_left->AP,length_eq_zero_iff->AR,pairwise_map->AX,mem_range->AY,nil_append->A0,all_cons->Bc,nodup_cons->Be,filter_nil->Bj,zip_cons_cons->Bn,foldl_append->Bt,filter_congr->Bu,pairwise_iff_forall_sublist->By,pairwise_iff_getElem->BF,all_map->BK,filter_map->BO,eq_nil_of_length_eq_zero->BV,getElem_of_mem->BY,mem_flatMap->B0,range_succ_eq_map->B2,append_assoc->Cd,getElem?_append_left->Cg,Perm->Ci,append_cons->Cm,length_drop->Co,ne_nil_of_length_eq_add_one->Cp,take_of_length_le->CB,filter_eq_nil_iff->CD,size_toArray->CI,take_append_drop->CM,dropLast_concat_getLast->CS,length_take->C1,pairwise_append->C2,any_eq_true->C4,length->Dc,filterMap_cons->Df,length_reverse->Dg,length_zip->Di,find?_cons->Dj,getElem?_nil->DA,flatMap_cons->DE,pairwise_lt_range->DI,cons_append->DL,take_length->DP,mem_reverse->DQ,getElem?_toArray->DU,getElem?_eq_none->DV,reverse_reverse->D3,mem_of_mem_take->D5,map_id'->D6,getElem?_range->D9,mem_map_of_mem->Ea,flatMap_append->Eb,replicate->Ef,lookup->Eh,not_lt->Ei,cons->Ej,take_nil->En,map_take->Et,reverse_cons->Ez,any_eq_false->EA,toArray->EM,flatMap_nil->EP,map_nil->EQ,map_reverse->ER,forIn_cons->ES,length_nil->ET,all_append->EU
open Option.some renaming inj->yW
open Array renaming length_toList->zP,getElem?_toList->zW,getElem?_eq_getElem->Bi,toList_push->CH,mem_toList_iff->CU,getElem?_eq_none->DH,toList_append->D8,isEmpty_iff->Ev
open Prod.mk renaming inj->z9
open Int renaming emod_nonneg->An,natCast_nonneg->At,natCast_add->AA,ofNat_le->AD,emod_lt_of_pos->AS,le_trans->A9,lt_trans->Ba,lt_of_lt_of_le->Bm,toNat_natCast->Br,toNat_of_nonneg->Bv,ofNat_lt->BI,lt_of_le_of_lt->B3,not_lt->Ce,neg_nonpos_of_nonneg->Ck,le_of_lt->Dk,natCast_mul->DY,natCast_pow->DZ,add_nonneg->Ec,lt_irrefl->Er
open Nat.succ renaming inj->Ax
open PyProof.Rows renaming seqObj->AO,recsOf->DF,listUpdate_at->Es
open PySem.W renaming katRev->AT,kat_len->BS,kas_rev->De,kas_desc->Ee,kas_descPart->EL
open Int.ofNat renaming inj->Bb
open PySem.SeqAt renaming EqAt->Cr
open List.cons renaming inj->C5
open Prod renaming ext->EN
namespace Mine
open PySem PySem.W PyProof.Rows
theorem QQ.{u}{α:Sort u}{a:α}:a=a:=rfl
noncomputable def tb:y0:=199
noncomputable def oc:y0:=203
noncomputable def uV:Str:=yO "ordered"
noncomputable def xj{α:Type}(l:yX α)(f:α->yU):yU:=match l with | some x=>f x | none=>yM
noncomputable def cRef(v:yX yR)(f:y0->yU):yU:=xj v λv=>match v with | .ref a=>f a | _=>yM
noncomputable def cObj(o:yX Obj)(f:Data->yU):yU:=xj o λo=>f o.data
noncomputable def tbAt(s:yY):yU:=cRef (s.heap.nsMap AB uV) λa=>cObj (s.heap.get? a) λd=>match d with
 | .func b=>b.code == .ref oc&&cObj (s.heap.get? oc) λd=>match d with
  | .fields vs=>vs[11]? == ac (.ref tb)
  | _=>yM
 | _=>yM
noncomputable def qQ:yN Str:=["table","sieve","pick","join","group","order","both","once","first"].map yO
noncomputable def strIs(v:yR)(y:Str):yU:=match v with
 | .str x _=>x == y
 | _=>yM
noncomputable def lL:yN yR->yN Str->yU
 | [],[]=>yP
 | v::vs,y::ys=>strIs v y&&lL vs ys
 | _,_=>yM
noncomputable def sY(o:Obj):yU:=(match o.data with | .seq vs _=>lL vs.toList qQ | _=>yM)&&o.cls == .type "tuple"&&o.dict.isNone&&o.slots.isEmpty
noncomputable def oo(s:yY):yU:=match s.heap.nsMap AB (yO "STEPS") with
 | some (.ref a)=>(match s.heap.get? a with | some o=>sY o | none=>yM)
 | _=>yM
set_option maxHeartbeats 0
noncomputable def keepS:Ag->yU
 | .Assign [.Name x _] _ _=>x != yO "__name__"
 | _=>yP
noncomputable def vw:zv:={ PySem.Challenge.pw_uf030018_13 with main:={ PySem.Challenge.pw_uf030018_13.main with body:=PySem.Challenge.pw_uf030018_13.main.body.filter keepS } }
noncomputable def hdDef:Ag->yX DefRec
 | .FunctionDef n a b _ _ _ sc _ _ c=>ac ⟨n,a,b,sc,c⟩
 | _=>y7
noncomputable def hdNm:Ag->yX Str
 | .FunctionDef n _ _ _ _ _ _ _ _ _=>ac n
 | .ClassDef n _ _ _ _ _ _ _ _ _ _=>ac n
 | .Assign [.Name x _] _ _=>ac x
 | _=>y7
noncomputable def mY:yN DefRec:=vw.main.body.filterMap hdDef
noncomputable def hdKs:yN Str:=startupNames++vw.main.body.filterMap hdNm
noncomputable def hdSt:yN (Str×WData):=(theConstW vw (yO "STEPS")).elim [] λd=>[(yO "STEPS",d)]
noncomputable def hdXt(s:yY):yU:=(xlAt vw [] s&&recOk (RowW.records PySem.Challenge.rw_uf030018_13.row.toRowW) s)&&(tbAt s&&oo s)
theorem hdXi{s:yY}(e:hdXt s=yP):((xlAt vw [] s&&recOk (RowW.records PySem.Challenge.rw_uf030018_13.row.toRowW) s)&&(tbAt s&&oo s))=yP:=e
noncomputable def hdQ(s:yY):yU:=(((ownsOf vw).all λo=>s.heap.ownExcOk o.name o.chain o.bm o.newId&&s.heap.quietOk o.name)&&(s.heap.noLimitOk&&s.heap.noDigitsOk))&&((s.heap.isNs AB&&s.heap.isNs EB)&&((s.heap.accountedOkI (importedModules PySem.Challenge.pw_uf030018_13.main.body)&&tablesOk vw s.heap)&&((hdXt s&&s.gens.size == 0)&&(((s.heap.bmainOk&&valsOk vw s.heap)&&(!importsNone vw||s.heap.noSeerOk))&&hdSt.all (constAt s.heap)))))
def HdP(l:yN DefRec)(o:yX yY):Prop:=o.map (λs=>l.map λd=>(s.heap.shapeAt AB d.name,s.heap.tab0Ok d.name))=ac (l.map λd=>(ac d.shape,yP))
theorem left1(w:zD):HdP (mY.take 30) (openEnds treeTable PySem.Challenge.pw_uf030018_13 w 20000):=by unfold HdP;kernel_rfl
theorem left2(w:zD):HdP ((mY.drop 30).take 21) (openEnds treeTable PySem.Challenge.pw_uf030018_13 w 20000):=by unfold HdP;kernel_rfl
theorem left3(w:zD):HdP ((mY.drop 30).drop 21) (openEnds treeTable PySem.Challenge.pw_uf030018_13 w 20000):=by unfold HdP;kernel_rfl
theorem left4(w:zD):(openEnds treeTable PySem.Challenge.pw_uf030018_13 w 20000).map (λs=>(hdQ s,s.heap.nsKeys AB,s.heap.bltView,Hook.obs Hook.none s))=ac (yP,hdKs,bltViewBooted,Hook.val Hook.none w):=by kernel_rfl
theorem hdRecs:DF vw=mY:=by kernel_rfl
theorem hdLits:wlitsOf vw=hdSt:=by kernel_rfl
theorem hdE:((drecsOf vw).isEmpty&&((plainsOf vw (looseW vw [])).isEmpty&&((dclssOf vw []).isEmpty&&((wdefsOf vw).isEmpty&&(wclssOf vw []).isEmpty))))=yP:=by decide +kernel
theorem hdKeys:(hdKs.all λk=>startupNames.contains k||(looseW vw []).contains k||((DF vw).map (·.name)).contains k||((litsOf vw).map (·.1)).contains k||((clssOf vw (looseW vw [])).map (·.name)).contains k)=yP:=by decide +kernel
theorem hdA{a b:yU}(h:(a&&b)=yP):a=yP/\b=yP:=zE.mp h
theorem hdB{a b:yU}(h:a=yP)(h':b=yP):(a&&b)=yP:=zE.mpr ⟨h,h'⟩
theorem hdM{α a:Type}{f g:α->a}:∀ {l:yN α},l.map f=l.map g->∀ x∈l,f x=g x
 | _::_,h,_,.head _=>(C5 h).1
 | _::_,h,x,.tail _ k=>hdM (C5 h).2 x k
theorem pO{α a:Type}{l:yN α}{f g:α->a}(h:l.isEmpty=yP):l.map f=l.map g:=(Am.mp h).symm▸rfl
theorem ya{α:Type}{l:yN α}{f:α->yU}(h:l.isEmpty=yP):l.all f=yP:=(Am.mp h).symm▸rfl
theorem hdT{A B:Type}{a c:A}{b f:B}(h1:a=c)(h:b=f):(a,b)=(c,f):=h1▸h▸rfl
theorem hdS{a c:yN (yX FnShape)}{b d e f:yU}{n:yN (yX yR×yX yR)}(h1:a=c)(h:b=yP)(i:d=yP)(j:e=yP)(m:f=yP):(⟨a,b,n,d,e,f,0⟩:Seen)=⟨c,yP,n,yP,yP,yP,0⟩:=by
 subst h1 h i j m;rfl
theorem hdGlue{Y:Type}{s:yY}{Yf:yY->Y}{y:Y}(h1:HdP (mY.take 30) (ac s))(m:HdP ((mY.drop 30).take 21) (ac s))(u:HdP ((mY.drop 30).drop 21) (ac s))(w:(hdQ s,s.heap.nsKeys AB,s.heap.bltView,Yf s)=(yP,hdKs,bltViewBooted,y)):(openSeen vw [] (importedModules PySem.Challenge.pw_uf030018_13.main.body) hdXt yP s,Yf s)=(openGood vw [],y):=by
 obtain⟨k,q⟩:=z9 w;obtain⟨A,q⟩:=z9 q;obtain⟨B,C⟩:=z9 q;have a1:=hdA k;have a2:=hdA a1.2;have a3:=hdA a2.2;have a4:=hdA a3.2;have h:=hdA a4.2;have o:=hdA a1.1;have n:=hdA a2.1;have t:=hdA a3.1;have x:=hdA a4.1;have z:=hdA h.1;have e1:=hdA hdE;have i:=hdA e1.2;have j:=hdA i.2;have b:=hdA j.2;have a:∀ d∈mY,(s.heap.shapeAt AB d.name,s.heap.tab0Ok d.name)=(ac d.shape,yP):=λd a=>by
  rw[<- CM 30 mY,<- CM 21 (mY.drop 30)] at a;exact (zM.mp a).elim (hdM (yW h1) d) λa=>(zM.mp a).elim (hdM (yW m) d) (hdM (yW u) d)
 rw[<- hdRecs] at a;have E:s.heap.keysOk (looseW vw []) ((DF vw).map (·.name)) ((litsOf vw).map (·.1)) ((clssOf vw (looseW vw [])).map (·.name))=yP:=by
  unfold Heap.keysOk;rw[A];exact hdKeys
 have c:((wdefsOf vw).all λd=>s.heap.restOk (vw.nameAt yM d.1.name) d.1.name&&dfltAt s.heap d)=yP:=ya b.1
 have l:(wlitsOf vw).all (constAt s.heap)=yP:=hdLits▸h.2;have G:((DF vw).map (·.name)).map (s.heap.shapeAt AB)=(DF vw).map λd=>ac d.shape:=by
  rw[Ad];exact AP λd f=>(z9 (a d f)).1
 exact hdT (hdT (hdS G o.1 n.1 n.2 o.2) (hdT B (hdT (hdB (hdB (hdB (hdB (hdB (hdB E t.1) n.1) n.2) t.2) x.1) x.2) (hdT (hdB (hdB (hdB (zx.mpr λd f=>(z9 (a d f)).2) (hdA z.1).1) (hdA z.1).2) z.2) (hdT (hdT (pO e1.1) (ya e1.1)) (hdT (pO i.1) (hdT (pO j.1) (hdT (hdT (pO b.1) (hdB c l)) (pO b.2))))))))) C
theorem hdLeft{Y:Type}{o:yX yY}{Yf:yY->Y}{y:Y}(h1:HdP (mY.take 30) o)(b:HdP ((mY.drop 30).take 21) o)(c:HdP ((mY.drop 30).drop 21) o)(a:o.map (λs=>(hdQ s,s.heap.nsKeys AB,s.heap.bltView,Yf s))=ac (yP,hdKs,bltViewBooted,y)):o.map (λs=>(openSeen vw [] (importedModules PySem.Challenge.pw_uf030018_13.main.body) hdXt yP s,Yf s))=ac (openGood vw [],y):=by
 cases o with
 | none=>cases a
 | some s=>exact zj ac (hdGlue h1 b c (yW a))
theorem left:LeftO PySem.Challenge.pw_uf030018_13 vw [] hdXt (Hook.obs Hook.none) (Hook.val Hook.none) 20000:=λw=>hdLeft (left1 w) (left2 w) (left3 w) (left4 w)
theorem ws:OpenLaw.wellSaid PySem.Challenge.rw_uf030018_13=yP:=by decide +kernel
theorem ym:(defOf vw (yO "law")).isSome=yP:=by decide +kernel
noncomputable def dl:DefRec×yN (Str×zh):=(defOf vw (yO "law")).get ym
theorem dlDef:defOf vw PySem.Challenge.rw_uf030018_13.row.name=ac (dl.1,dl.2):=(Option.some_get ym).symm
theorem dlIs:PySem.Challenge.rw_uf030018_13.row.prog.theDef PySem.Challenge.rw_uf030018_13.row.name=ac (dl.1.params,dl.1.body,dl.1.scope):=by kernel_rfl
theorem dlKw:kwWritten? dl.1.params.kwonlyargs dl.1.params.kw_defaults=ac dl.2:=by kernel_rfl
theorem dlName:dl.1.name=yO "law":=by kernel_rfl
theorem okAll:(chainsOk vw&&opensWell PySem.Challenge.rw_uf030018_13.row.prog&&(frees PySem.Challenge.rw_uf030018_13.row.toRowW&&PySem.Challenge.rw_uf030018_13.row.within.isEmpty))=yP:=by decide +kernel
end Mine
namespace Mine
section
variable {a0 a1 a2 a3 a4:Nat}
theorem om1:((↑a0:Int) - 1).toNat=a0 - 1:=Int.toNat_sub a0 1
theorem om2(h1:a0<=60)(a:60<=a1):(-(↑a1:Int)<=(↑a0:Int)/\(↑a0:Int)<=(↑a1:Int))/\-(↑a1:Int)<=1/\1<=(↑a1:Int):=⟨⟨A9 (Ck (At a1)) (At a0),AD.mpr (yQ h1 a)⟩,A9 (Ck (At a1)) (by decide),AD.mpr (yQ (by decide) a)⟩
theorem om3(h1:a0<=456):a0+0<=1000:=yQ h1 (by decide)
theorem om4(h1:a0<=456)(a:a1<=12):a1+a0+0<=5000:=by omega
theorem om5(h1:a0<=38):2 * a0+1<=77:=by omega
theorem om15(h1:0<a0):(↑a0:Int)≠0:=by omega
theorem om16(h1:0<a0):0<(↑a0:Int):=BI.mpr h1
theorem om17{a1:Int}(h1:0<a0)(a:a1<(↑a0:Int)):a1.toNat<a0:=by omega
theorem om18{a0:Int}:0<=a0 % 94:=An _ (by decide)
theorem om19{a0:Int}:a0 % 94<(↑94:Int):=AS _ (by decide)
theorem om20{a0:Int}{a1:Int}(h1:2147483647<a0):-a0<a1 % 2147483647/\a1 % 2147483647<a0/\(0:Int)<=5/\(5:Int)<=100:=⟨Bm (Int.neg_neg_of_pos (Ba (by decide) h1)) (An _ (by decide)),Ba (AS _ (by decide)) h1,by decide,by decide⟩
theorem om21(h1:a0=1):a0<=100:=by omega
theorem om22(h1:a0=1):a1+a0+a2=a1+(a2+1):=by rw[h1,Au,Ai 1]
theorem om23{a0:Int}(h1:a0<=100):a0<=100:=h1
theorem om24{a0:Int}:0<=a0 / 9 / 94 % 100/\a0 / 9 / 94 % 100<=100:=⟨An _ (by decide),Dk (AS _ (by decide))⟩
theorem om25{a0:Int}{a1:Int}{a2:Int}(h1:0<=a0/\a0<a1)(a:a1+3<a2):-a2<a0+3/\a0+3<a2/\(0:Int)<=9/\(9:Int)<=100:=⟨Bm (Int.neg_neg_of_pos (Ba (B3 (Ec h1.1 (by decide:(0:Int)<=3)) (Int.add_lt_add_right h1.2 3)) a)) (Ec h1.1 (by decide)),Ba (Int.add_lt_add_right h1.2 3) a,by decide,by decide⟩
theorem om26{a0:Int}(h1:0<a0):0<2 * a0 - 1:=by omega
theorem om27:0<(↑a0:Int)+1:=by omega
theorem om28(h1:a0=1)(a:a1<=8)(b:a2<=a1)(c:16+1<=a3):a2+a0<=a3:=by omega
theorem om29(h1:a0=1)(a:a1<=8)(b:a2<=a1)(c:a3<=a1)(f:16+1<=a4):a2+a0+a3<=a4:=yQ (zr (zr (yQ b a) (zk h1)) (yQ c a)) f
theorem om30{a0:Int}:-10 ^ 61<a0 / 9 % 4 - 1/\a0 / 9 % 4 - 1<10 ^ 61:=⟨Bm (by decide +kernel) (Int.sub_le_sub_right (An (a0 / 9) (by decide)) 1),Ba (Int.sub_lt_sub_right (AS _ (by decide)) _) (by decide +kernel)⟩
theorem om31{a0:Int}:-10 ^ 61<a0 / 9 % 2000001 - 1000000/\a0 / 9 % 2000001 - 1000000<10 ^ 61:=⟨Bm (by decide +kernel) (Int.sub_le_sub_right (An (a0 / 9) (by decide)) 1000000),Ba (Int.sub_lt_sub_right (AS _ (by decide)) _) (by decide +kernel)⟩
theorem om32{a0:Int}:2 * a0 - 1≠0:=by omega
theorem om33{a0:Int}{a1:Int}(h1:0<=a0)(a:a0<2 * a1 - 1):-(10 * a1)<a0 - a1+1/\a0 - a1+1<10 * a1:=by omega
theorem om34(h1:a0=1)(a:a1<=8)(b:a2<=a1)(c:a3<=a1):a2+a0+a3<=200:=yQ (zr (zr (yQ b a) (zk h1)) (yQ c a)) (by decide)
theorem om35(h1:a0<a1):(↑a0:Int)<(↑a1:Int):=BI.mpr h1
theorem om36{a0:Int}{a1:Int}:a0<a1\/a1=a0↔a0<=a1:=⟨λh=>h.elim Dk λe=>Int.le_of_eq e.symm,λh=>(Int.lt_or_eq_of_le h).imp_right Eq.symm⟩
theorem om37(h1:0<a0)(a:a0<=1000):0<(↑a0:Int)/\(↑a0:Int)<2 ^ 64:=⟨Int.natCast_pos.mpr h1,B3 (AD.mpr a) (by decide)⟩
theorem om38(h1:¬a0=0):0<a0:=B4 h1
theorem om39(h1:¬a0=0):(↑a0:Int) - 1=(↑(a0 - 1):Int):=(Int.ofNat_sub (B4 h1)).symm
theorem om40(h1:¬a0=0):a0 - 1<a0:=AW (B4 h1) AQ
theorem om41{a0:Int}:1+a0 / 16 % 2=(↑(1+a0 / 16 % 2).toNat:Int):=(Bv (Ec (by decide) (An _ (by decide)))).symm
theorem om42{a0:Int}:(1+a0 / 16 % 2).toNat<=13:=Int.toNat_le.mpr (A9 (Int.add_le_add_left (Dk (AS _ (by decide))) 1) (by decide))
theorem om43(h1:a0=a1):a1=a0:=by omega
theorem om44:0=(↑(min 0 a0):Int):=zj Nat.cast (Nat.zero_min a0).symm
theorem uS:¬(↑a0:Int)<0:=by omega
theorem om46:min (↑a0:Int) (↑a1:Int)=(↑(min a0 a1):Int):=by omega
theorem om47:(↑a0:Int)=(↑(min a0 a0):Int):=zj Nat.cast (DW a0).symm
theorem om48:((↑a0:Int)+(↑a1:Int) * 1).toNat=a0+a1:=by rw[Int.mul_one,<- AA,Br]
theorem om49(h1:a0<a1)(a:a0=a1):False:=by omega
theorem om51(h1:a0<=a1+1):a0+1+2 * a2+20<=a1+2 * (a2+1)+20:=by rw[Nat.mul_succ,Ai (2 * a2) 2,<- Au a1 2];exact zK (zK (zs h1) _) 20
theorem om52(h1:a0<=a1+10):a0+3+13 * a2+100<=a1+13 * (a2+1)+100:=by rw[Nat.mul_succ,Ai (13 * a2) 13,<- Au a1 13];exact zK (zK (zK h1 3) _) 100
theorem om53(h1:a0<=300)(a:a1=300)(b:a2=1000):1+a1+2 * a0+20<a2:=by subst a b;exact y3 (zK (zN (z6 2 h1) _) 20) (by decide)
theorem om54(h1:a0<=300)(a:a1=9900):4+13 * a0+100<a1:=by subst a;exact y3 (zK (zN (z6 13 h1) 4) 100) (by decide)
theorem om55{a0:Int}(h1:0<=a0/\a0<=1000/\a1<=1000):-9223372036854775808<=a0/\a0<9223372036854775808:=⟨A9 (by decide) h1.1,B3 h1.2.1 (by decide)⟩
theorem om56{a0:Int}(h1:¬a0<1):0<a0:=by omega
theorem om57{a0:Int}(h1:0<=a0/\a0<=1000/\a1<=1000):1000 * a0<=2 ^ 63 - 1:=by omega
theorem om58{a0:Int}{a2:Int}(h1:0<=a0/\a0<=1000/\a1<=1000)(a:1000<=a2):¬(↑a1:Int) > a2:=Ce.mpr (A9 (AD.mpr h1.2.2) a)
theorem om59{a0:Int}(h1:0<=a0):-(↑a1:Int)<=a0:=by omega
theorem om60{a1:Int}(h1:-(↑a0:Int)<=a1):0<=a1+(↑a0:Int):=by omega
theorem om61{a0:Int}(h1:a0<0):a0+(↑a1:Int)<(↑a1:Int):=by omega
theorem om62{a1:Int}(h1:-(↑a0:Int)<=a1)(a:a1<0):-(↑a0:Int)<=a1/\a1<(↑a0:Int):=⟨h1,Bm a (At a0)⟩
theorem om63{a0:Int}(h1:0<=a0/\a0<(↑a1:Int)/\a1<=a2)(a:(↑a1:Int)<2 ^ 63):-9223372036854775808<=a0/\a0<9223372036854775808:=⟨A9 (by decide) h1.1,Bm (Ba h1.2.1 a) (by decide)⟩
theorem om64{a1:Int}(h1:(↑a0:Int)<2 ^ 63)(a:-(↑a0:Int)<=a1):-2 ^ 63<=a1:=A9 (Int.neg_le_neg (Dk h1)) a
theorem om65(h1:(↑a0:Int)<2 ^ 63):-2 ^ 63<=-(↑a0:Int):=by omega
theorem om66(h1:¬a0<a1):a1<=a0:=Ac.mp h1
theorem om67(h1:a0<=a1):¬a1<a0:=by omega
theorem om68{a0:Int}{a1:Int}(h1:-(↑(2 ^ 24):Int)<=a0/\a0<=(↑(2 ^ 24):Int)/\-(↑(2 ^ 24):Int)<=a1/\a1<=(↑(2 ^ 24):Int)):-2 ^ 62<=a0:=by omega
theorem om69{a0:Int}{a1:Int}(h1:-(↑(2 ^ 24):Int)<=a0/\a0<=(↑(2 ^ 24):Int)/\-(↑(2 ^ 24):Int)<=a1/\a1<=(↑(2 ^ 24):Int)):a0<2 ^ 62:=B3 h1.2.1 (by decide)
theorem om70{a0:Int}{a1:Int}(h1:-(↑(2 ^ 24):Int)<=a0/\a0<=(↑(2 ^ 24):Int)/\-(↑(2 ^ 24):Int)<=a1/\a1<=(↑(2 ^ 24):Int)):-2 ^ 62<=a1:=by omega
theorem om71{a0:Int}{a1:Int}(h1:-(↑(2 ^ 24):Int)<=a0/\a0<=(↑(2 ^ 24):Int)/\-(↑(2 ^ 24):Int)<=a1/\a1<=(↑(2 ^ 24):Int)):a1<2 ^ 62:=by omega
theorem om72(h1:a0+1<=a1):a0<=a1:=zU h1
theorem om73(h1:a0<a1):a2<=a2+a1 - 1 - a0:=by rw[Nat.sub_sub];exact Nat.le_sub_of_add_le (zN (by rw[Ai];exact h1) a2)
theorem om74(h1:a0<=a1)(a:a1<a2):a0+a2 - 1 - a1<a2:=Cf (Nat.le_sub_of_add_le (yQ a (Ao _ _))) (zf (AW (zf (y3 (zn _) a) (Ao _ _)) AQ) (zK h1 a2))
theorem om75(h1:a0+1<a1):a2+a1 - 1 - (a0+1)<a2+a1 - 1 - a0:=D7 (Nat.lt_sub_of_add_lt (zf h1 (Ao _ _))) (Ap _)
theorem om76(h1:a0=a1+a2)(a:a1<=a3)(b:a3<a0):a3 - a1<a2:=Cf a (zf b (zk h1))
theorem om77(h1:a0<a1)(a:a1<=a2)(c:(↑a0:Int)=(↑a3:Int)\/(↑a0:Int)=(↑a4:Int))(b:(↑a2:Int)=(↑a3:Int)\/(↑a2:Int)=(↑a4:Int)):a3=a0/\a4=a2\/a3=a2/\a4=a0:=c.elim (λe=>b.elim (λf=>zA ((Bb e).trans (Bb f).symm) (zO (zf h1 a))) λf=>.inl ⟨(Bb e).symm,(Bb f).symm⟩) λe=>b.elim (λf=>.inr ⟨(Bb f).symm,(Bb e).symm⟩) λf=>zA ((Bb e).trans (Bb f).symm) (zO (zf h1 a))
theorem om78(h1:a0<=31)(a:2000<a1)(b:a2<a0)(c:a3<=2 * a2):a3<a1:=by omega
theorem om79(h1:a0<=31)(a:2000<a1)(b:a2<a0)(c:a3<=2 * a2):a3+(0+1)<a1:=y3 (zs (yQ c (z6 2 (yQ (zU b) h1)))) (Aj (by decide) a)
theorem om80(h1:a0<=31)(a:a1<=2 * a0):a1<63:=y3 (yQ a (z6 2 h1)) (by decide)
theorem om81(h1:a0<a1):¬(↑a0:Int) ≥ (↑a1:Int):=by omega
theorem om82(h1:a0<=1000)(a:2000<a1):a0<=a1:=by omega
theorem om83(h1:a0<=5000)(a:5000<=a1):a0<=a1:=yQ h1 a
theorem om84(h1:a0<=31)(a:2000<a1)(b:a2<a0):a2<a1:=zf b (yQ h1 (yQ (by decide) (zU a)))
theorem om85{a0:Int}{a1:Int}{a2:Int}(h1:a0<a1)(a:a2<a0):a2<a1:=by omega
theorem om86{a0:Int}{a1:Int}{a2:Int}(h1:a0<=a1)(a:a1<a2):a0<=a2:=by omega
theorem om87:¬(0<=-1/\-1<(↑a0:Int)):=by omega
theorem om88:1<=(↑a0:Int)+1:=by omega
theorem om89:(-1+((↑a0:Int)+1)).toNat=a0:=by rw[Int.add_comm,Int.add_neg_cancel_right,Br]
theorem om90:¬(↑a0:Int)+1+1=1:=by omega
theorem om91(h1:(↑a0:Int)<=(↑a1:Int)->(↑a2:Int)<(↑a0:Int))(a:a1<a2):a1<a0:=Nat.lt_of_not_le λh=>zA (BI.mp (h1 (AD.mpr h))) (Ac.mpr (yQ h (zU a)))
theorem om92(h1:(↑a0:Int)<(↑a1:Int)->(↑a1:Int)<=(↑a2:Int))(a:a0<a2):a1<=a2:=(EF a0 a1).elim (λh=>AD.mp (h1 (BI.mpr h))) λh=>yQ h (zU a)
theorem om93(h1:¬a0<a1):¬(↑a0:Int)<(↑a1:Int):=by omega
theorem om94(h1:(↑a0:Int)<(↑a1:Int)->(↑a1:Int)<=(↑a2:Int))(a:(↑a1:Int)<=(↑a0:Int)->(↑a2:Int)<(↑a1:Int)):¬(↑a0:Int)=(↑a2:Int):=λe=>(Int.lt_or_le ↑a0 ↑a1).elim (λh=>zA (h1 h) (Int.not_le.mpr (e▸h))) λh=>zA (a h) (Ce.mpr (e▸h))
theorem om95(h1:(↑a0:Int)<=(↑a1:Int)->(↑a2:Int)<(↑a0:Int))(a:¬a1<a2):a2<a0:=(EF a1 a0).elim (λh=>y3 (Ac.mp a) h) λh=>BI.mp (h1 (AD.mpr h))
theorem om96(h1:(↑a0:Int)<(↑a1:Int)->(↑a1:Int)<=(↑a2:Int))(a:¬a0<a2):a1<=a0:=(EF a0 a1).elim (λh=>yQ (AD.mp (h1 (BI.mpr h))) (Ac.mp a)) id
theorem om97(h1:(↑a0:Int)=(↑a1:Int)):a0=a1:=Bb h1
theorem om98(h1:(↑a0:Int)<=(↑a1:Int)):a0<=a1:=AD.mp h1
theorem om99(h1:(↑a0:Int)=(↑a1:Int))(a:a1<a2+a3):a0<a2+a3:=by omega
theorem om100(h1:a0+a1<=5000)(a:20000<a2):a0+a1<=a2:=by omega
theorem om101(h1:a0<=5000)(a:a0=a1+(a2+1)):a1<=5000:=by omega
theorem om102(h1:a0<=5000)(a:20000<a1)(b:a2<=5000):a0+a2<=a1:=yQ (zr h1 b) (yQ (by decide) (zU a))
theorem om103(h1:a0<=5000)(a:20000<a1)(b:a0=a2+(a3+1)):a2<a1:=y3 (yQ (yQ (zo a2 (a3+1)) (zk b.symm)) h1) (Aj (by decide) a)
theorem vH(h1:(↑a0:Int)<(↑a1:Int)):a0<a1:=BI.mp h1
theorem om105(h1:(↑a0:Int)<=(↑a1:Int))(a:(↑a1:Int)=(↑a2:Int))(b:a2<a0+a3):a1 - a0<a3:=Cf (AD.mp h1) (y3 (zk (Bb a)) b)
theorem om106(h1:2 * (a0+1)<=a1):a1=a1 - 2+2:=(Dl (yQ (z6 2 (zs (zn a0))) h1)).symm
theorem om107(h1:a0+a1<=1000)(a:a0=a2+a3):a3+(a2+a1)<=1000:=by rw[Eu,<- Au,<- a];exact h1
theorem tE(h1:2 * a0<=a1+2)(a:a0=a2+1):2 * a2<=a1+1:=by subst a;exact zR (C6 (b:=2) h1)
theorem om109(h1:a0+a1<=1000)(a:a0=a2+a3):a2+a1<=1000:=by omega
theorem om110(h1:2000<a0)(a:a1+a2<=1000):a1+a2<=a0:=by omega
theorem om111(h1:a0+a1<=1000)(a:2000<a2):a1<=a2:=by omega
theorem om112(h1:a0+a1<=1000)(a:a0=max a2 a3):a2+a1<=1000:=yQ (zK (yQ (zL _ _) (zk a.symm)) a1) h1
theorem om113(h1:2 * a0<=a1+2)(a:a0=max a2 a3+1):2 * a2<=a1+1:=by subst a;exact zR (yQ (z6 2 (zL a2 a3)) (C6 (b:=2) h1))
theorem om114(h1:a0+a1<=1000)(a:a0=max a2 a3):a3+a1<=1000:=yQ (zK (yQ (zB _ _) (zk a.symm)) a1) h1
theorem om115(h1:2 * a0<=a1+2)(a:a0=max a2 a3+1):2 * a3<=a1+1:=by subst a;exact zR (yQ (z6 2 (zB a2 a3)) (C6 (b:=2) h1))
theorem om116(h1:a0+a1<=1000)(a:a0=max a2 a3)(b:a4<=a1):a2+a4<=1000:=yQ (zr (yQ (zL _ _) (zk a.symm)) b) h1
theorem om117(h1:2 * a0<=a1+2)(a:a0=max a2 a3+1):2 * a2<=a1:=by omega
theorem om118(h1:a0+a1<=1000)(a:a0=max a2 a3)(b:a4<=a1):a3+a4<=1000:=yQ (zr (yQ (zB _ _) (zk a.symm)) b) h1
theorem om119(h1:2 * a0<=a1+2)(a:a0=max a2 a3+1):2 * a3<=a1:=by omega
theorem om120(h1:2 * a0<=a1+2)(a:a0=max a2 a3+1):a2<=a1+3:=by omega
theorem om121(h1:2 * a0<=a1+2)(a:a0=max a2 a3+1):a3<=a1+3:=yQ (yQ (zB a2 a3) (BR (zk a.symm))) (yQ (Nat.le_mul_of_pos_left a0 (by decide)) (zR h1))
theorem om122(h1:a0+a1<=1000):a1<=5000:=by omega
theorem om123(h1:a0+a1<=1000)(a:a0=a2)(b:a3<=a1):a2+a3<=1000:=by omega
theorem om124(h1:2 * a0<=a1+2)(a:a0=a2+1):2 * a2<=a1:=by omega
theorem om125(h1:a0+a1<=1000)(a:a0=a2):a2+0<=1000:=yQ (yQ (zk a.symm) (zo a0 a1)) h1
theorem om126(h1:2 * a0<=a1):a0<=a1+3:=by omega
theorem om127(h1:a0<=a1):2 * a0+1<=2 * a1+1:=by omega
theorem om128(h1:a0+a1+a2+a3=a4):a0<=a4/\a1<=a4/\a2<=a4/\a0+a1+a3<=a4:=by subst h1;exact⟨yQ (zo a0 a1) (yQ (zo _ a2) (zo _ a3)),yQ (Ao a1 a0) (yQ (zo _ a2) (zo _ a3)),yQ (Ao a2 _) (zo _ a3),zK (zo _ a2) a3⟩
theorem om129(h1:a0+a1+a2<=a3):a2+(a4+(a0+a1))<=a4+a3:=by rw[Eu];exact zN (by rw[Ai];exact h1) a4
theorem om130(h1:a0<=2 * a1+1):a0+1<=2 * (a1+1)+1:=yQ (zs h1) (AM _)
theorem om131:2 * a0+2+1<=2 * (a0+1)+1:=ze _
theorem om132:a0+a1+a2=a1+(a0+a2):=by rw[Ai a0 a1,Au]
theorem om133:a0+(a1+a2)+a3=a0+a2+(a1+a3):=by rw[Ai a1 a2,<- Au a0,Au (a0+a2)]
theorem om134(h1:a0+a1=a2):a1+(a3+a0)<=a3+a2:=by rw[Eu,Ai a1,h1];exact ze _
theorem om135(h1:¬a0=0):0<(↑a0:Int):=by omega
theorem kW(h1:a0<=12):a0<=1000:=yQ h1 (by decide)
theorem om137(h1:¬a0=0):(↑a0:Int)≠0:=by omega
theorem tD(h1:a0<=12)(a:a1=a0):a1<=12:=by omega
theorem om139(h1:¬(a0=0\/a1=0)):0<a0:=B4 λe=>h1 (.inl e)
theorem om140(h1:¬(a0=0\/a1=0)):0<a1:=B4 λe=>h1 (.inr e)
theorem om141(h1:¬(a0=0\/a1=0)):0<(↑a0:Int):=Int.natCast_pos.mpr (B4 λe=>h1 (.inl e))
theorem om142(h1:¬(a0=0\/a1=0)):0<(↑a1:Int):=by omega
theorem om143(h1:¬(a0=0\/a1=0)):(↑a0:Int)≠0/\(↑a1:Int)≠0:=⟨λe=>h1 (.inl (Int.natCast_eq_zero.mp e)),λe=>h1 (.inr (Int.natCast_eq_zero.mp e))⟩
theorem om144(h1:a0<=24 * a1)(a:a1<=24):a0<=1000:=yQ h1 (yQ (z6 24 a) (by decide))
theorem om145{a0:Int}:1+a0 % 6=(↑(1+a0 % 6).toNat:Int):=(Bv (Ec (by decide) (An _ (by decide)))).symm
theorem om146{a0:Int}:a0 / 24 % 70=(↑(a0 / 24 % 70).toNat:Int):=(Bv (An _ (by decide))).symm
theorem om147(h1:(↑a0:Int)<(↑a1:Int)):a0<=a1:=by omega
theorem om148(h1:¬(↑a0:Int)<(↑a1:Int)):a1<=a0:=by omega
theorem om149(h1:a0<=12)(a:a1<=a2):a0+a1<=a2+12:=yQ (zr h1 a) (zk (Ai 12 a2))
theorem om150(h1:a0<=12)(a:1<=a1):a0<=24 * a1:=by omega
theorem tC:a0<=a0+12:=zo _ _
theorem om152(h1:a0<=12)(a:a1<=12)(b:1<=a2):a0+a1<=24 * a2:=yQ (zr h1 a) (yQ (by decide:12+12<=24 * 1) (z6 24 b))
theorem om153(h1:6<(↑a0:Int)):6<=a0:=by omega
theorem om154(h1:¬6<(↑a0:Int)):a0<=6:=by omega
theorem om155{a0:Int}:-10 ^ 61<a0 / 36 % 3:=Bm (by decide +kernel) (An _ (by decide))
theorem om156{a0:Int}:a0 / 36 % 3<10 ^ 61:=by omega
theorem om157(h1:a0<=a1):1+a0<=a1+12:=by omega
theorem om158(h1:a0<=12):a0<=5000:=yQ h1 (by decide)
theorem om159(h1:a0<=24 * a1)(a:a2<=24 * a3):a0+a2<=24 * (a1+a3):=yQ (zr h1 a) (zk (Nat.mul_add 24 a1 a3).symm)
theorem om160(h1:1<=a0):1<=a0+a1:=yQ h1 (zo _ _)
theorem om161(h1:a0<=a1)(a:a2<=a1):max a0 a2<=a1+12:=yQ (B1.mpr ⟨h1,a⟩) (zo _ _)
theorem om162(h1:a0<=12)(a:a1<=12)(b:a2<=12):max a0 (max a1 a2)<=12:=B1.mpr ⟨h1,B1.mpr ⟨a,b⟩⟩
theorem om163(h1:a0+a1<=24)(a:a2<=24 * a0)(b:a3<=24 * a1):a2+a3<=5000:=yQ (zr a b) (yQ (zk (Nat.mul_add 24 a0 a1).symm) (yQ (z6 24 h1) (by decide)))
theorem om164(h1:a0<=a1+1)(a:a2<=a1+1):max a0 a2+1<=a1+2:=by omega
theorem om165(h1:a0<=60):-2 ^ 64<(↑a0:Int)/\(↑a0:Int)<2 ^ 64:=⟨Bm (by decide) (At a0),B3 (AD.mpr h1) (by decide)⟩
theorem om166:min 6 a0<=60:=yQ (DX 6 a0) (by decide)
theorem xK(h1:¬(↑a0:Int)+(↑a1:Int) > 24):a0+a1<=24:=by omega
theorem om168(h1:¬(↑a0:Int) > 36):a0<=60:=by omega
theorem om169(h1:a0<=24 * a1):a0<=24 * (a1+a2):=yQ h1 (z6 24 (zo _ _))
theorem om170(h1:(↑a0:Int)+(↑a1:Int)<=36):a0+a1<=60:=by omega
theorem om171(h1:a0<=12)(a:a1<=12):max a0 a1<=12:=B1.mpr ⟨h1,a⟩
theorem om172(h1:a0<=a1)(a:a2<=a1):max a0 a2+1<=a1+2:=by omega
theorem om173(h1:100<=a0)(a:a1=1)(b:a2=4):a2+a1<=a0:=by rw[a,b];exact yQ (by decide) h1
theorem om174(h1:a0+a1=0)(a:a1=1):False:=by subst a;exact zA h1 (Nat.succ_ne_zero _)
theorem om175(h1:100<=a0)(a:a1<=8):a1<=a0:=yQ a (yQ (by decide) h1)
theorem om176(h1:100<=a0)(a:a1<=8)(b:a2<=a1)(c:a3=1):a2+a3<=a0:=yQ (zr (yQ b a) (zk c)) (yQ (by decide) h1)
theorem om177(h1:100<=a0)(a:a1<=8)(b:a2<=a1)(c:a3<=a1)(f:a4=1):a2+a4+a3<=a0:=yQ (zr (zr (yQ b a) (zk f)) (yQ c a)) (yQ (by decide) h1)
theorem om178{a0:Int}:(a0 / 210 % 13).toNat<=12:=Int.toNat_le.mpr (Int.le_of_lt_add_one (AS _ (by decide)))
theorem om179{a0:Int}:(↑(a0 / 210 % 13).toNat:Int)=a0 / 210 % 13:=Bv (An _ (by decide))
theorem om180(h1:a0<4)(a:4<=a1):a0<a1:=zf h1 a
theorem om181(h1:a0<=12):a0<=24 * 1:=yQ h1 (by decide)
theorem om182(h1:a0<=8):a0<=60:=yQ h1 (by decide)
theorem om183(h1:a0<=a1):(-(↑a1:Int)<=(↑a0:Int)/\(↑a0:Int)<=(↑a1:Int))/\-(↑a1:Int)<=0/\0<=(↑a1:Int):=⟨⟨A9 (Ck (At a1)) (At a0),AD.mpr h1⟩,Ck (At a1),At a1⟩
theorem om184:-2 ^ 63<=(↑a0:Int):=A9 (by decide) (At a0)
theorem om185(h1:(↑a0:Int)<2 ^ 63)(a:a1<a0):(↑a1:Int)<2 ^ 63:=by omega
theorem om186(h1:a0<a1):0<=(↑a0:Int)/\(↑a0:Int)<(↑a1:Int):=by omega
theorem om187(h1:a0<a1):(↑a1:Int) - 1 - (↑a0:Int)=(↑(a1 - 1 - a0):Int):=by omega
theorem om188(h1:a0<a1):a1 - 1 - a0<a1:=y3 (Dt _ _) (AW (y3 (zn _) h1) AQ)
theorem om189(h1:a0<a1):(↑(a1 - 1 - a0):Int) - 1=(↑a1:Int) - 1 - (↑(a0+1):Int):=by omega
theorem om190:(↑a0:Int) - 1 - (↑a0:Int)=-1:=by omega
theorem om191(h1:a0+(a1+1)<=a2):a0<a2:=by omega
theorem om192(h1:a0+(a1+1)<=a2):a0+1+a1<=a2:=by rw[Au,Ai 1];exact h1
theorem xJ:a0+12<=a0+24:=by omega
theorem om194:a0+2<=a0+3:=AM _
theorem om195:(↑(7+2 * a0):Int)=7+2 * (↑a0:Int):=rfl
theorem om196(h1:¬6+2 * (↑a0:Int) ≥ (↑a1:Int)):6+2 * a0<a1:=by omega
theorem om197:(↑(6+2 * a0):Int)=6+2 * (↑a0:Int):=by rw[AA,DY];rfl
theorem xI:a0+12+12<=a0+24:=ze _
theorem om199:a0+1+1<=a0+3:=AM _
theorem om200:a0+1<=a0+3:=by omega
theorem om201{a0:Int}:a0 / 2 % 2=0\/a0 / 2 % 2=1:=Int.emod_two_eq _
theorem om202:a0+2+1<=a0+3:=ze _
theorem om203:a0.succ+2<=a0+3:=ze _
theorem om204(h1:45<=a0):45<=a0+7:=yQ h1 (zo _ _)
theorem om205(h1:a0<=8):3 * a0+3<=40:=by omega
theorem om206:0+a0<=a0:=by omega
theorem om207(h1:a0<=8)(a:a1<a0):a1<=8:=by omega
theorem om208(h1:a0<=8)(a:a1<a0):24 * a1<=216:=by omega
theorem om209(h1:a0<=8)(a:a1<a0):3 * a1<=27:=by omega
theorem om210(h1:a0<=8):24 * a0<=216:=yQ (z6 _ h1) (by decide)
theorem om211(h1:a0<=8):3 * a0<=27:=yQ (z6 _ h1) (by decide)
theorem om212:a0+12 * a1+12<=a0+12 * (a1+1):=zk (Au a0 (12 * a1) 12)
theorem om213:a0+a1+1<=a0+(a1+1):=ze _
theorem om214:0+12 * 38<=456:=ze _
theorem om215:0+38<=38:=ze _
theorem om216(h1:a0<=7):a0<=38:=yQ h1 (by decide)
theorem om217(h1:a0<=7):240+12 * a0<=456:=yQ (zN (z6 12 h1) 240) (by decide)
theorem om218(h1:a0<=7):29+a0<=38:=by omega
theorem om219:0<=7:=zn _
theorem om220(h1:45<=a0):45<=a0+8:=yQ h1 (zo _ _)
theorem om221:228<=240:=Ao _ _
theorem om222:28<=29:=AM _
theorem om223:216<=228:=Ao _ _
theorem om224:27<=28:=AM _
end
end Mine
namespace Mine
open PySem
noncomputable def lamP:Str:=uV++".<locals>."
noncomputable def pB:Str:=lamP++"<lambda>"
noncomputable def tW(d:Data):yU:=match d with
 | .fields _=>yP
 | _=>yM
noncomputable def wN(c:yR):yU:=match c with
 | .none=>yP
 | .type s=>s == "code"
 | _=>yM
noncomputable def bL(o:Obj):yU:=tW o.data&&wN o.cls
noncomputable abbrev xe:Obj:={ cls:=.none,data:=.fields #[] }
noncomputable def iO(h:Heap)(c:y0):Prop:=∃ o vs t,h.get? c=ac o/\o.cls=.type "code"/\o.data=.fields vs/\vs[1]?=ac (.str pB t)
inductive jA(h:Heap):yN yR->Prop
 | nil:jA h []
 | cons {a t b u c r} (hc:iO h c) (hr:jA h r):jA h (.int a t::.int b u::.ref c::r)
noncomputable def jw(h:Heap)(o:Obj):Prop:=∃ xs,o={ cls:=.none,data:=.fields xs }/\jA h xs.toList
open Classical in
noncomputable def gat(h:Heap)(a:y0):yX Obj:=
 if a=tb then (h.get? a).bind λo=>if bL o=yP then (if jw h o then ac xe else y7) else ac o else h.get? a
section
variable {h h':Heap} {a:y0} {o:Obj}
theorem isTab_code(a:o.cls=.type "code"){vs:zw yR}(b:o.data=.fields vs):bL o=yP:=by
 unfold bL;rw[a,b];rfl
noncomputable abbrev KC(h h':Heap):Prop:=∀ b o,h.get? b=ac o->bL o=yP->o.cls≠.none->h'.get? b=ac o
theorem iO.mono{c:y0}(x:iO h c)(a:KC h h'):iO h' c:=
 x.elim λo x=>x.elim λvs x=>x.elim λt x=>⟨o,vs,t,a _ _ x.1 (isTab_code x.2.1 x.2.2.1) (by rw[x.2.1];nofun),x.2⟩
theorem jA.mono(a:KC h h'){l:yN yR}(x:jA h l):jA h' l:=x.rec .nil λb Z c=>.cons (b.mono a) c
theorem jA.triples{l:yN yR}(x:jA h l):TriplesOk l:=x.rec trivial λZ Z a=>a
theorem jA.snoc{c:y0}(a b:Int)(f:iO h c){l:yN yR}(x:jA h l):jA h (l++[Bw a,Bw b,.ref c]):=x.rec (.cons f .nil) λf Z i=>.cons f i
theorem jA.among{f:Pos}{v:yR}{l:yN yR}(x:jA h l):codeAmong f l=ac v->∃ c,v=.ref c/\iO h c:=x.rec (λe=>nomatch e) λ{a t b u c r} i _ j e=>by
 simp only[codeAmong] at e;split at e
 ·cases e;exact⟨c,QQ,i⟩
 ·exact j e
theorem jw.mono(x:jw h o)(a:KC h h'):jw h' o:=x.elim λxs x=>⟨xs,x.1,x.2.mono a⟩
theorem jw.tab(x:jw h o):bL o=yP:=let ⟨_,e,_⟩:=x;e▸rfl
theorem jw.empty:jw h xe:=⟨#[],QQ,.nil⟩
theorem Heap.gt_ne(b:a≠tb):gat h a=h.get? a:=by unfold gat;rw[za b]
theorem Heap.gt_of(e:h.get? a=ac o)(b:bL o=yM:=by rfl):gat h a=ac o:=by
 unfold gat;split
 ·rw[e,Option.bind_some,za (by rw[b];nofun)]
 ·exact e
theorem Heap.gt_good(e:h.get? tb=ac o)(g:jw h o):gat h tb=ac xe:=by
 unfold gat;rw[y8 rfl,e,Option.bind_some,y8 g.tab,y8 g]
theorem Heap.gt_some(e:gat h a=ac o):∃ b,h.get? a=ac b/\(b=o/\(a=tb->bL o=yM)\/a=tb/\o=xe/\jw h b):=by
 unfold gat at e;split at e
 ·rename_i q
  rw[Option.bind_eq_some_iff] at e;obtain⟨b,e1,c⟩:=e;split at c
  ·split at c
   ·rename_i g;cases c;exact⟨b,e1,.inr ⟨q,QQ,g⟩⟩
   ·cases c
  ·rename_i f;cases c;exact⟨_,e1,.inl ⟨QQ,λZ=>by simpa using f⟩⟩
 ·rename_i q;exact⟨o,e,.inl ⟨QQ,λe=>zA e q⟩⟩
theorem Heap.of_gt'(e:gat h a=ac o)(b:o.cls≠.none):h.get? a=ac o:=by
 obtain⟨f,e1,⟨rfl,_⟩ | ⟨_,c,_⟩⟩:=gt_some e
 ·exact e1
 ·subst c;exact zA QQ b
theorem Heap.of_gt(e:gat h a=ac o)(b:bL o=yM:=by rfl):h.get? a=ac o:=by
 obtain⟨f,e1,⟨rfl,_⟩ | ⟨_,c,_⟩⟩:=gt_some e
 ·exact e1
 ·subst c;cases b
theorem Heap.gt_lt(e:gat h a=ac o):@LT.lt Nat _ a h.objs.size:=let ⟨_,e,_⟩:=gt_some e;Heap.lt_size e
theorem Heap.gt_lift{F:y0->Prop}(m:∀ b o,h.get? b=ac o->bL o=yP->F b)(a:∀ b o,F b->h.get? b=ac o->h'.get? b=ac o):∀ b o,F b->gat h b=ac o->gat h' b=ac o:=λb o f e=>by
 obtain⟨c,i,⟨rfl,q⟩ | ⟨rfl,rfl,g⟩⟩:=gt_some e
 ·by_cases j:b=tb
  ·exact gt_of (a b c f i) (q j)
  ·rw[gt_ne j];exact a b c f i
 ·exact gt_good (a _ c f i) (g.mono λb o e n Z=>a b o (m b o e n) e)
noncomputable def KH(h h':Heap):Prop:=∀ b o,gat h b=ac o->gat h' b=ac o
theorem Heap.gt_up(a:∀ b o,h.get? b=ac o->h'.get? b=ac o):KH h h':=
 λb o e=>gt_lift (F:=λZ=>True) (λZ Z Z Z=>trivial) (λb o Z e=>a b o e) b o trivial e
theorem Heap.gt_push_of_some(x:Obj)(e:gat h a=ac o):gat (h.push x) a=ac o:=gt_up (λZ Z e=>Heap.get?_push_of_some _ e) a o e
theorem Heap.gt_push_size(x:Obj)(a:x.isFreed=yM)(b:bL x=yM:=by rfl):gat (h.push x) h.objs.size=ac x:=gt_of (Heap.get?_push_size _ a) b
theorem Heap.gt_none_of_le(e:@LE.le Nat _ h.objs.size a):gat h a=y7:=by
 cases q:gat h a with
 | none=>rfl
 | some o=>obtain⟨c,b,_⟩:=gt_some q;rw[Heap.get?_none_of_le e] at b;cases b
theorem g1{b:y0}(f:Heap.SameBut b h h')(n:∀ o,h.get? b=ac o->bL o=yM)(a:y0)(i:a≠b)(e:gat h a=ac o):gat h' a=ac o:=
 Heap.gt_lift (F:=λx=>x≠b) (λx o e c q=>by rw[n o (q▸e)] at c;cases c) (λx o j e=>(f.2 x j).trans e) a o i e
structure Heap.SB(b:y0)(h h':Heap):Prop where
 s:Heap.SameBut b h h'
 n:∀ o,h.get? b=ac o->bL o=yM
 n':∀ o,h'.get? b=ac o->bL o=yM
theorem Heap.SB.g{b:y0}(c:Heap.SB b h h')(a:y0)(t:a≠b):gat h' a=gat h a:=by
 have f:∀ {h h':Heap},Heap.SB b h h'->∀ o,gat h a=ac o->gat h' a=ac o:=λ{h h'} c o e=>
  gt_lift (F:=λx=>x≠b) (λx o e m q=>by rw[c.n o (q▸e)] at m;cases m) (λx o i e=>(c.s.2 x i).trans e) a o t e
 have j:Heap.SB b h' h:=⟨⟨c.s.1.symm,λx i=>(c.s.2 x i).symm⟩,c.n',c.n⟩
 cases q:gat h a with
 | some o=>exact f c o q
 | none=>
  cases u:gat h' a with
  | none=>rfl
  | some o=>rw[f j o u] at q;cases q
theorem cH{o:Obj}(h:∀ v,o.data≠.fields v):bL o=yM:=by
 have e:tW o.data=yM:=by
  generalize o.data=d at h;cases d <;> first | rfl | exact zA QQ (h _)
 unfold bL;rw[e];rfl
theorem notTab_cls{o:Obj}(h:o.cls≠.none)(a:o.cls≠.type "code"):bL o=yM:=by
 have e:wN o.cls=yM:=by
  generalize o.cls=c at h a;cases c <;> first | rfl | exact zA QQ h | exact Aq λe=>a (zj Value.type e)
 unfold bL;rw[e,CN]
theorem ce(e:h.get? a=ac o)(c:bL o=yM:=by rfl):∀ o,h.get? a=ac o->bL o=yM:=λf b=>by
 rw[e] at b;cases b;exact c
theorem fR{m:Str->yX yR}(x:h.Ns a m):∀ o,h.get? a=ac o->bL o=yM:=
 let ⟨_,_,_,e,hd,_⟩:=x;ce e (cH (by rw[hd];nofun))
theorem jJ{v:yX yR}(x:h.IsCell a v):∀ o,h.get? a=ac o->bL o=yM:=
 let ⟨_,e,hd⟩:=x;ce e (cH (by rw[hd];nofun))
theorem ua{m:Str->yX yR}(x:h.Ns a m):∃ o,gat h a=ac o:=let ⟨_,_,_,e,_⟩:=id x;⟨_,Heap.gt_of e (fR x _ e)⟩
theorem oH{v:yX yR}(x:h.IsCell a v):∃ o,gat h a=ac o:=let ⟨_,e,_⟩:=id x;⟨_,Heap.gt_of e (jJ x _ e)⟩
end
inductive D where
 | none
 | bool (b:yU)
 | int (i:Int)
 | str (x:Str)
 | tup (ds:yN D)
 | list (ds:yN D)
 | dict (ks:yN D) (vs:yN D)
 | rng (a b:Int)
 | ptr (a:y0)
noncomputable def big:Nat:=2 ^ 24
noncomputable def yb(P:zT):D->Int
 | .int i=>Du i
 | .str x=>if x.cps.isEmpty=yP then 0 else reduceHash (P.strHash x.cps)
 | _=>0
noncomputable def iz(P:zT):D->Int
 | .tup ds=>reduceHash (Builtin.Tuple.tupleHashOf (ds.map (yb P)))
 | d=>yb P d
noncomputable def D.isCell:D->yU
 | .int _ | .str _=>yP
 | _=>yM
noncomputable def D.isKey:D->yU
 | .int _ | .str _=>yP
 | .tup ds=>ds.all D.isCell
 | _=>yM
noncomputable abbrev ec(vs:zw yR)(n:Nat):Obj:={ cls:=.type "tuple",dict:=none,data:=.seq vs n,slots:=#[] }
noncomputable abbrev fY(vs:zw yR)(n:Nat):Obj:={ cls:=.type "list",dict:=none,data:=.seq vs n,slots:=#[] }
noncomputable abbrev n6(es:zw Ct)(n:Nat):Obj:={ cls:=.type "dict",dict:=none,data:=.dict es n,slots:=#[] }
inductive mz(mkO:zw yR->Nat->Obj)(h:Heap)(H:y0->Prop)(n:Nat)(R:yN yR->Prop):yR->Prop
 | mk {a vs k} (ho:h.get? a=ac (mkO vs k)) (hn:¬ H a) (hl:n<=big) (hr:R vs.toList):mz mkO h H n R (.ref a)
inductive qG(P:zT)(h:Heap)(H:y0->Prop)(ks:yN D)(R1 R2:yN yR->Prop):yR->Prop
 | mk {a es n} (ho:h.get? a=ac (n6 es n)) (hn:¬ H a) (hl:ks.length<=big) (h1:R1 (es.toList.map (·.key))) (h2:R2 (es.toList.map (·.val))) (hh:es.toList.map (·.hash)=ks.map (iz P)) (hk:ks.all D.isKey=yP) (hd:ks.Nodup) (hs:(a == Dv)=yM):qG P h H ks R1 R2 (.ref a)
inductive RRng(h:Heap)(H:y0->Prop)(lo hi:Int):yR->Prop
 | mk {a t u v} (hr:IsRange h a lo hi 1 t u v) (hn:¬ H a) (hl:-big<=lo/\lo<=big/\-big<=hi/\hi<=big):RRng h H lo hi (.ref a)
inductive yB(i:Int):yR->Prop
 | mk (t):yB i (.int i t)
inductive yA(x:Str):yR->Prop
 | mk (t):yA x (.str x t)
inductive dT(p:yR->Prop)(q:yN yR->Prop):yN yR->Prop
 | mk {v vs} (h1:p v) (h2:q vs):dT p q (v::vs)
mutual
noncomputable def Rep(P:zT)(h:Heap)(H:y0->Prop)(v:yR)(d:D):Prop:=match d with
 | .none=>v=.none
 | .bool b=>v=.bool b
 | .int i=>yB i v
 | .str x=>yA x v
 | .tup ds=>mz ec h H ds.length (λvs=>ao P h H vs ds) v
 | .list ds=>mz fY h H ds.length (λvs=>ao P h H vs ds) v
 | .dict ks vs=>qG P h H ks (λl=>ao P h H l ks) (λl=>ao P h H l vs) v
 | .rng lo c=>RRng h H lo c v
 | .ptr a=>v=.ref a
termination_by structural d
noncomputable def ao(P:zT)(h:Heap)(H:y0->Prop)(vs:yN yR)(ds:yN D):Prop:=match ds with
 | []=>vs=[]
 | d::ds=>dT (λv=>Rep P h H v d) (λl=>ao P h H l ds) vs
termination_by structural ds
end
section
variable {P:zT} {h h':Heap} {H H':y0->Prop} {v:yR} {d:D} {vs:yN yR} {ds:yN D}
theorem Rep.int(i:Int)(t:Tok):Rep P h H (.int i t) (.int i):=.mk t
theorem Rep.str(x:Str)(t:Tok):Rep P h H (.str x t) (.str x):=.mk t
theorem Rep.tup{a:y0}{vs:zw yR}{n:Nat}(b:h.get? a=ac (ec vs n))(c:¬ H a)(f:ds.length<=big)(i:ao P h H vs.toList ds):Rep P h H (.ref a) (.tup ds):=.mk b c f i
theorem ao.nil:ao P h H [] []:=rfl
theorem ao.cons(h1:Rep P h H v d)(a:ao P h H vs ds):ao P h H (v::vs) (d::ds):=.mk h1 a
noncomputable abbrev oa(h:Heap)(H:y0->Prop)(h':Heap):Prop:=∀ a o,¬ H a->gat h a=ac o->gat h' a=ac o
noncomputable abbrev sS(h:Heap)(H H':y0->Prop):Prop:=∀ a o,gat h a=ac o->H' a->H a
theorem sO{a:y0}{o:Obj}(c:oa h H h')(f:h.get? a=ac o)(i:¬ H a)(b:bL o=yM):h'.get? a=ac o:=Heap.of_gt (c _ _ i (Heap.gt_of f b)) b
theorem ph{a:y0}{o:Obj}(b:sS h H H')(c:h.get? a=ac o)(f:¬ H a)(i:bL o=yM):¬ H' a:=λx=>f (b _ _ (Heap.gt_of c i) x)
theorem mz.mono{mkO:zw yR->Nat->Obj}{n:Nat}{R a:yN yR->Prop}(b:∀ vs k,bL (mkO vs k)=yM)(i:oa h H h')(j:sS h H H')(r:mz mkO h H n R v)(m:∀ l,R l->a l):mz mkO h' H' n a v:=
 r.rec λc f o q=>.mk (sO i c f (b _ _)) (ph j c f (b _ _)) o (m _ q)
theorem Rep.mono(b:oa h H h')(c:sS h H H')(r:Rep P h H v d):Rep P h' H' v d:=
 D.rec (motive_1:=λd=>∀ v,Rep P h H v d->Rep P h' H' v d) (motive_2:=λds=>∀ l,ao P h H l ds->ao P h' H' l ds)
  (λZ r=>r) (λZ Z r=>r) (λZ Z r=>r) (λZ Z r=>r)
  (λZ f Z r=>mz.mono (λZ Z=>QQ) b c r f) (λZ f Z r=>mz.mono (λZ Z=>QQ) b c r f)
  (λZ Z i j Z r=>qG.rec (λq a m h1 n t o u w=>.mk (sO b q a QQ) (ph c q a QQ) m (i _ h1) (j _ n) t o u w) r)
  (λZ Z Z r=>RRng.rec (λs a m=>.mk (sO b s a QQ) (ph c s a QQ) m) r)
  (λZ Z r=>r)
  (λZ r=>r) (λZ Z i j Z r=>dT.rec (λh1 n=>.mk (i _ h1) (j _ n)) r) d v r
theorem ao.mono(a:oa h H h')(b:sS h H H')(r:ao P h H vs ds):ao P h' H' vs ds:=
 List.rec (motive:=λds=>∀ l,ao P h H l ds->ao P h' H' l ds) (λZ r=>r) (λZ Z c Z r=>dT.rec (λh1 f=>.mk (Rep.mono a b h1) (c _ f)) r) ds vs r
theorem Rep.keeps(b:Rep P h H v d)(c:KH h h'):Rep P h' H v d:=b.mono (λa o Z e=>c a o e) λZ Z Z x=>x
theorem ao.keeps(b:ao P h H vs ds)(c:KH h h'):ao P h' H vs ds:=b.mono (λa o Z e=>c a o e) λZ Z Z x=>x
theorem Rep.sub(b:Rep P h H v d)(c:∀ a,H' a->H a):Rep P h H' v d:=b.mono (λZ Z Z e=>e) λa Z Z x=>c a x
theorem ao.length(r:ao P h H vs ds):vs.length=ds.length:=
 List.rec (motive:=λds=>∀ l,ao P h H l ds->l.length=ds.length) (λZ r=>zj Dc r) (λZ Z a Z r=>dT.rec (λZ b=>zj EG (a _ b)) r) ds vs r
theorem ao.size{vs:zw yR}(r:ao P h H vs.toList ds):vs.size=ds.length:=r.length
theorem ao.append{ws:yN yR}{es:yN D}(r:ao P h H vs ds)(k:ao P h H ws es):ao P h H (vs++ws) (ds++es):=
 List.rec (motive:=λds=>∀ l,ao P h H l ds->ao P h H (l++ws) (ds++es)) (λl r=>(show l=[] from r)▸k) (λZ Z a Z r=>dT.rec (λh1 b=>.mk h1 (a _ b)) r) ds vs r
theorem ao.get(i:Nat)(r:ao P h H vs ds)(e:ds[i]?=ac d):∃ v,vs[i]?=ac v/\Rep P h H v d:=
 List.rec (motive:=λds=>∀ l i,ao P h H l ds->ds[i]?=ac d->∃ v,l[i]?=ac v/\Rep P h H v d) (λZ Z Z e=>by rw[DA] at e;cases e)
  (λZ Z a Z i r=>dT.rec (λh1 b=>Nat.rec (λe=>⟨_,QQ,yW e▸h1⟩) (λi Z e=>a _ i b e) i) r) ds vs i r e
theorem ao.drop(i:Nat)(r:ao P h H vs ds):ao P h H (vs.drop i) (ds.drop i):=
 List.rec (motive:=λds=>∀ l i,ao P h H l ds->ao P h H (l.drop i) (ds.drop i)) (λl i r=>by rw[show l=[] from r,List.drop_nil,List.drop_nil];rfl)
  (λZ Z b Z i r=>dT.rec (λh1 a=>Nat.rec (.mk h1 a) (λi Z=>b _ i a) i) r) ds vs i r
theorem ao.take(i:Nat)(r:ao P h H vs ds):ao P h H (vs.take i) (ds.take i):=
 List.rec (motive:=λds=>∀ l i,ao P h H l ds->ao P h H (l.take i) (ds.take i)) (λl i r=>by rw[show l=[] from r,En,En];rfl)
  (λZ Z a Z i r=>dT.rec (λh1 b=>Nat.rec QQ (λi Z=>.mk h1 (a _ i b)) i) r) ds vs i r
end
noncomputable def D.scalar:D->yU
 | .none | .bool _ | .int _ | .str _=>yP
 | _=>yM
theorem Rep.scalar{P:zT}{h h':Heap}{H H':y0->Prop}{v:yR}{d:D}(a:Rep P h H v d)(b:d.scalar=yP):Rep P h' H' v d:=
 D.casesOn (motive_1:=λd=>d.scalar=yP->Rep P h H v d->Rep P h' H' v d) d (λZ r=>r) (λZ Z r=>r) (λZ Z r=>r) (λZ Z r=>r) (λZ h=>nomatch h) (λZ h=>nomatch h) (λZ Z h=>nomatch h) (λZ Z h=>nomatch h)
  (λZ h=>nomatch h)
  b a
theorem vD{H:y0->Prop}{a b:y0}(c:¬ H a)(e:Value.ref a=.ref b):¬ H b:=Value.ref.inj e▸c
theorem mz.off{mkO:zw yR->Nat->Obj}{h:Heap}{H:y0->Prop}{n:Nat}{R:yN yR->Prop}{v:yR}{b:y0}(r:mz mkO h H n R v):v=.ref b->¬ H b:=r.rec λZ a Z Z e=>vD a e
theorem dW{a b:yS}(h:yO a=yO b):a=b:=by
 rw[Str.ofString_eq_toList,Str.ofString_eq_toList] at h;have h1:a.toList.map Char.toNat=b.toList.map Char.toNat:=by simpa using h
 have c:a.toList=b.toList:=by
  generalize a.toList=l at h1;generalize b.toList=m at h1
  induction l generalizing m with
  | nil=>cases m <;> simp_all
  | cons x l f=>
   cases m with
   | nil=>simp at h1
   | cons y m=>
    simp only[zm,Ej.injEq] at h1;have:x=y:=by
     have:=h1.1;exact Char.toNat_inj.mp this
    rw[this,f _ h1.2]
 exact String.toList_inj.mp c
end Mine
namespace Mine
open PySem PySem.SeqAt
noncomputable abbrev CK:=Int ⊕ Str
noncomputable def bz:CK->D
 | .inl i=>.int i
 | .inr x=>.str x
noncomputable def CK.is:CK->yR->yU
 | .inl i,v=>Value.isInt i v
 | .inr x,v=>Value.isStrOf x v
theorem CK.is_inl{i:Int}{v:yR}(h:CK.is (.inl i) v=yP):∃ t,v=.int i t:=Value.isInt_shape h
theorem CK.is_inr{x:Str}{v:yR}(h:CK.is (.inr x) v=yP):∃ t,v=.str x t:=Value.isStrOf_shape h
theorem CK.cases{C:CK->yR->Prop}{k:CK}{v:yR}(h:CK.is k v=yP)(hi:∀ i t,C (.inl i) (.int i t))(a:∀ x t,C (.inr x) (.str x t)):C k v:=
 match k,h with
 | .inl _,h=>(CK.is_inl h).elim λt e=>e▸hi _ t
 | .inr _,h=>(CK.is_inr h).elim λt e=>e▸a _ t
theorem CK.inj{v:yR}{a b:CK}(c:CK.is a v=yP)(f:CK.is b v=yP):a=b:=by
 cases a <;> cases b
 ·obtain⟨t,rfl⟩:=CK.is_inl c
  obtain⟨u,e⟩:=CK.is_inl f;cases e;rfl
 ·obtain⟨t,rfl⟩:=CK.is_inl c
  obtain⟨u,e⟩:=CK.is_inr f;cases e
 ·obtain⟨t,rfl⟩:=CK.is_inr c
  obtain⟨u,e⟩:=CK.is_inl f;cases e
 ·obtain⟨t,rfl⟩:=CK.is_inr c
  obtain⟨u,e⟩:=CK.is_inr f;cases e;rfl
theorem p6(i j:Int):decide ((Sum.inl i:CK)=.inl j)=decide (i=j):=decide_eq_decide.mpr ⟨Sum.inl.inj,zj _⟩
theorem pZ(i j:Str):decide ((Sum.inr i:CK)=.inr j)=decide (i=j):=decide_eq_decide.mpr ⟨Sum.inr.inj,zj _⟩
noncomputable def cK(Fd:zv)(w:zD):KeyKind Fd w CK where
 is:=CK.is
 hash:=λk=>iz w.params (bz k)
 inj:=λv a b f m=>CK.inj f m
 byValue:=λk v h=>CK.cases (C:=λZ v=>carriedByValue v=yP) h (λZ Z=>QQ) λZ Z=>QQ
 pyHash:=λ{A E s k v Q} c=>CK.cases (C:=λk v=>Q (iz w.params (bz k)) { s with toks:=s.toks+1 }->wpAny (y6 Fd w) A (pyHash v) Q E s) c (λZ Z h=>wpAny_pyHash_int h) λZ Z h=>wpAny_pyHash_str h
 eqBool:=λ{A E s a b u v Q} n c=>CK.cases (C:=λa u=>Q (decide (a=b)) s->wpAny (y6 Fd w) A (PySem.eqBool u v) Q E s) n
  (λi t=>CK.cases (C:=λb v=>Q (decide (.inl i=b)) s->wpAny (y6 Fd w) A (PySem.eqBool (.int i t) v) Q E s) c (λj Z h=>wpAny_eqBool_int (show Q (decide (i=j)) s from p6 i j▸h)) λZ Z h=>EqAt.int_str _ _ _ _ Fd w E Q h)
  λx t=>CK.cases (C:=λb v=>Q (decide (.inr x=b)) s->wpAny (y6 Fd w) A (PySem.eqBool (.str x t) v) Q E s) c (λZ Z h=>EqAt.str_int _ _ _ _ Fd w E Q h) λy Z h=>wpAny_eqBool_str (show Q (decide (x=y)) s from pZ x y▸h)
 «strs»:=λk x t v h=>by
  cases k
  ·obtain⟨u,e⟩:=CK.is_inl h;cases e
  ·exact (strKind Fd w).strs _ x t v h
section
variable {h:Heap}{d:D}
theorem pi{a b:CK}(h:bz a=bz b):a=b:=by
 cases a <;> cases b <;> cases h <;> rfl
theorem gR(h:d.isCell=yP):∃ k,d=bz k:=
 D.casesOn (motive_1:=λd=>d.isCell=yP->∃ k,d=bz k) d (λh=>nomatch h) (λZ h=>nomatch h) (λi Z=>⟨.inl i,QQ⟩) (λx Z=>⟨.inr x,QQ⟩) (λZ h=>nomatch h) (λZ h=>nomatch h) (λZ Z h=>nomatch h) (λZ Z h=>nomatch h)
  (λZ h=>nomatch h)
  h
theorem qd{ks:yN D}(h:ks.all D.isCell=yP):∃ a:yN CK,ks=a.map bz:=by
 induction ks with
 | nil=>exact⟨[],QQ⟩
 | cons k ks b=>
  have h:=zE.mp (show (k.isCell&&ks.all D.isCell)=yP from h);exact (gR h.1).elim λc e=>(b h.2).elim λa f=>⟨c::a,e▸f▸rfl⟩
theorem fg(i:Int)(t:Tok):Value.isInt i (.int i t)=yP:=Ak QQ
theorem isStr_self(x:Str)(t:Tok):Value.isStrOf x (.str x t)=yP:=by simp[Value.isStrOf]
theorem mH{P:zT}{H:y0->Prop}{v:yR}{k:CK}(r:Rep P h H v (bz k)):CK.is k v=yP:=
 match k,r with
 | .inl i,r=>yB.rec (motive:=λv Z=>CK.is (.inl i) v=yP) (fg i) r
 | .inr x,r=>yA.rec (motive:=λv Z=>CK.is (.inr x) v=yP) (isStr_self x) r
theorem yo{P:zT}{H:y0->Prop}{v:yR}{k:CK}(r:CK.is k v=yP):Rep P h H v (bz k):=CK.cases (C:=λk v=>Rep P h H v (bz k)) r (λZ t=>.int _ t) λZ t=>.str _ t
theorem ao.inv{P:zT}{H:y0->Prop}{v:yR}{vs:yN yR}{ds:yN D}(r:ao P h H (v::vs) (d::ds)):Rep P h H v d/\ao P h H vs ds:=by
 cases r with
 | mk h1 a=>exact⟨h1,a⟩
theorem ao.inv_nil{P:zT}{H:y0->Prop}{ds:yN D}{C:Prop}(r:ao P h H [] (d::ds)):C:=by cases r
theorem pairs_of{Fd:zv}{w:zD}{H:y0->Prop}{es:yN Ct}{cs:yN CK}(r:ao w.params h H (es.map (·.key)) (cs.map bz)):Pairs (cK Fd w) es (cs.zip (es.map (·.val))):=by
 induction cs generalizing es with
 | nil=>
  cases es with
  | nil=>exact .nil
  | cons _ _=>exact nomatch (show _::_=[] from r)
 | cons c cs a=>
  cases es with
  | nil=>exact r.inv_nil
  | cons e es=>exact .cons (mH r.inv.1) QQ (a r.inv.2)
theorem of_pairs{Fd:zv}{w:zD}{H:y0->Prop}{es:yN Ct}{a:yN (CK×yR)}(c:Pairs (cK Fd w) es a):ao w.params h H (es.map (·.key)) (a.map λp=>bz p.1)/\es.map (·.val)=a.map (·.2):=
 c.rec ⟨QQ,QQ⟩ λh1 f Z b=>⟨.mk (yo h1) b.1,congr (zj Ej f) b.2⟩
theorem og{α c:Type}{a:yN α}{b:yN c}(h:a.length=b.length):(a.zip b).map (·.1)=a:=List.map_fst_zip (zk h)
theorem zip_snd{α c:Type}{a:yN α}{b:yN c}(h:a.length=b.length):(a.zip b).map (·.2)=b:=List.map_snd_zip (zk h.symm)
theorem pY{Fd:zv}{w:zD}{H:y0->Prop}{a:y0}{es:zw Ct}{n:Nat}{cs:yN CK}(m:h.get? a=ac (n6 es n))(b:ao w.params h H (es.toList.map (·.key)) (cs.map bz))
  (o:es.toList.map (·.hash)=(cs.map bz).map (iz w.params)) (q:(cs.map bz).Nodup):h.DictOf (cK Fd w) a (cs.zip (es.toList.map (·.val))):=by
 have f:cs.length=(es.toList.map (·.val)).length:=by have:=b.length;simp at this ⊢;exact om43 this
 refine⟨_,es,n,m,⟨QQ,QQ,QQ⟩,QQ,?_,pairs_of b,?_⟩
 ·intro e s
  obtain⟨i,c,rfl⟩:=List.mem_iff_getElem.mp (CU.mpr s);have j:i<cs.length:=by rw[f];simpa using c
  refine⟨cs[i],?_,?_⟩
  ·obtain⟨v,h1,t⟩:=b.get i (d:=bz cs[i]) (by simp[j])
   have:v=es.toList[i].key:=by simpa [y4 c] using h1.symm
   exact mH (this▸t)
  ·have:=zj (λl=>l[i]?) o
   show _=iz w.params (bz cs[i])
   simpa [y4 c,j] using this
 ·rw[og f]
  exact (AX.mp q).imp λh e=>h (by rw[e])
theorem rep_dictOf{Fd:zv}{w:zD}{H:y0->Prop}{a:y0}{f:yN (CK×yR)}(q:h.DictOf (cK Fd w) a f) :
  ∃ es n,h.get? a=ac (n6 es n)/\ao w.params h H (es.toList.map (·.key)) (f.map λp=>bz p.1)/\es.toList.map (·.val)=f.map (·.2)/\es.toList.map (·.hash)=(f.map λp=>bz p.1).map (iz w.params) /\
   (f.map λp=>bz p.1).all D.isKey=yP/\(f.map λp=>bz p.1).Nodup:=by
 obtain⟨o,es,ep,y,⟨c1,c2,c3⟩,i,j,m,z⟩:=q;obtain⟨A,B⟩:=of_pairs (h:=h) (H:=H) m;have s:o=n6 es ep:=by obtain⟨a,b,c,d⟩:=o;dsimp only at c1 c2 c3 i;subst c1 c2 c3 i;rfl
 refine⟨es,ep,s▸y,A,B,?_,?_,?_⟩
 ·have t:∀ (l:yN Ct) (f:yN (CK×yR)),(∀ e∈l,∃ k,(cK Fd w).is k e.key=yP/\e.hash=(cK Fd w).hash k)->Pairs (cK Fd w) l f->l.map (·.hash)=(f.map λp=>bz p.1).map (iz w.params):=by
   intro l f j m
   induction m with
   | nil=>rfl
   | cons h1 G I C=>
    obtain⟨k,E,q2⟩:=j _ (zG);have e:=(cK Fd w).inj _ _ _ E h1;rw[e] at q2;rw[zm,zm,zm,C λe u=>j e (Ae _ u),q2]
    rfl
  exact t _ _ (λe u=>j e (CU.mp u)) m
 ·rw[zx]
  intro d q;obtain⟨p,_,rfl⟩:=zz.mp q;cases p.1 <;> rfl
 ·have:(f.map λp=>bz p.1)=(f.map (·.1)).map bz:=by simp
  rw[this];exact AX.mpr (z.imp λh e=>h (pi e))
end
noncomputable def bw(a b:D):yU:=match a with
 | .int i=>(match b with | .int j=>i == j | _=>yM)
 | .str x=>(match b with | .str y=>x == y | _=>yM)
 | _=>yM
noncomputable def aB:yN D->yN D->yU
 | [],[]=>yP
 | a::r,b::r'=>bw a b&&aB r r'
 | _,_=>yM
noncomputable def aO(a b:D):yU:=match a with
 | .tup x=>(match b with | .tup y=>aB x y | _=>yM)
 | a=>bw a b
noncomputable def n7:yN D->yN D->D->yX D
 | k::ks,v::vs,x=>if aO k x then ac v else n7 ks vs x
 | _,_,_=>none
noncomputable def dK:yN D->yN D->D->D->yN D×yN D
 | k'::ks,a::vs,k,v=>if aO k' k then (k'::ks,v::vs) else (k'::(dK ks vs k v).1,a::(dK ks vs k v).2)
 | _,_,k,v=>([k],[v])
theorem rE(a b:CK):bw (bz a) (bz b)=decide (a=b):=
 match a,b with
 | .inl i,.inl j=>(p6 i j).symm
 | .inl _,.inr _=>rfl
 | .inr _,.inl _=>rfl
 | .inr i,.inr j=>(pZ i j).symm
theorem pE(a b:CK):aO (bz a) (bz b)=decide (a=b):=
 (match a with
 | .inl _=>rfl
 | .inr _=>rfl:aO (bz a) (bz b)=bw (bz a) (bz b)).trans (rE a b)
theorem oK(k v:D)(ks vs:yN D)(x:D):n7 (k::ks) (v::vs) x=if aO k x then ac v else n7 ks vs x:=rfl
theorem lG(c k:CK)(v:yR)(l:yN (CK×yR)):Dd ((c,v)::l) k=if c=k then ac v else Dd l k:=by
 unfold Dd
 by_cases h:c=k
 ·rw[y8 h,List.find?_cons_of_pos (by simpa using h)];rfl
 ·rw[za h,List.find?_cons_of_neg (by simpa using h)]
theorem dget_valueAt{P:zT}{h:Heap}{H:y0->Prop}{k:CK}{d:D}{cs:yN CK}{vals:yN yR}{vs:yN D}(r:ao P h H vals vs)(e:n7 (cs.map bz) vs (bz k)=ac d):∃ v,Dd (cs.zip vals) k=ac v/\Rep P h H v d:=by
 induction cs generalizing vals vs with
 | nil=>cases e
 | cons c cs b=>
  cases vs with
  | nil=>cases e
  | cons j vs=>
   cases r with
   | mk f i=>
    rw[zm,oK,pE] at e;rw[Bn,lG]
    by_cases a:c=k
    ·rw[y8 (Ak a)] at e
     rw[y8 a];exact⟨_,QQ,yW e▸f⟩
    ·rw[za (by simpa using a)] at e
     rw[za a];exact b i e
theorem any_valueAt{k:CK}{cs:yN CK}{vals:yN yR}(e:cs.length=vals.length):(Dd (cs.zip vals) k).isSome=(cs.map bz).any λx=>aO x (bz k):=by
 induction cs generalizing vals with
 | nil=>rfl
 | cons c cs b=>
  cases vals with
  | nil=>cases e
  | cons v vals=>
   rw[Bn,lG,zm,AI,pE,<- b (Ax e)]
   by_cases a:c=k
   ·rw[y8 a,Ak a];rfl
   ·rw[za a,Aq a];rfl
theorem oJ(a b:D)(ks vs:yN D)(k v:D):dK (a::ks) (b::vs) k v=if aO a k then (a::ks,v::vs) else (a::(dK ks vs k v).1,b::(dK ks vs k v).2):=rfl
theorem stored_dput{P:zT}{h:Heap}{H:y0->Prop}{k:CK}{v:yR}{d:D}(q:Rep P h H v d){cs:yN CK}{vals:yN yR}{vs:yN D}(e:cs.length=vals.length)(s:cs.Nodup)(a:ao P h H vals vs) :
  ((stored (cs.zip vals) k v).map λp=>bz p.1)=(dK (cs.map bz) vs (bz k) d).1/\ao P h H ((stored (cs.zip vals) k v).map (·.2)) (dK (cs.map bz) vs (bz k) d).2:=by
 induction cs generalizing vals vs with
 | nil=>exact⟨QQ,.cons q QQ⟩
 | cons c cs i=>
  cases vs with
  | nil=>rw[show vals=[] from a] at e;cases e
  | cons y vs=>
   cases a with
   | @mk u vals t a=>
    have j:cs.length=vals.length:=Ax e;have b:=Be.mp s;rw[Bn,zm,oJ,pE]
    by_cases m:c=k
    ·subst m
     have o:stored ((c,u)::cs.zip vals) c v=(c,v)::cs.zip vals:=by
      unfold stored;rw[y8 (by simp),zm,y8 rfl,map_store_of_not_mem _ _ _ (by rw[og j];exact b.1)]
     rw[o,y8 (Ak rfl)];refine⟨zj (bz c::·) ?_,.cons q (show ao P h H ((cs.zip vals).map (·.2)) vs from (zip_snd j).symm▸a)⟩;have:(cs.zip vals).map (λp=>bz p.1)=((cs.zip vals).map (·.1)).map bz:=(Ad (f:=λ(p:CK×yR)=>p.1) (g:=bz)).symm
     rw[this,og j]
    ·have o:stored ((c,u)::cs.zip vals) k v=(c,u)::stored (cs.zip vals) k v:=by
      unfold stored;rw[AI,Aq (show ¬ (c,u).1=k from m),Eo]
      by_cases n:(cs.zip vals).any (λw=>decide (w.1=k))=yP
      ·rw[y8 n,y8 n,zm,za m]
      ·rw[za n,za n];rfl
     have i:=i j b.2 a;rw[o,za (by simpa using m)]
     exact⟨zj (bz c::·) i.1,.cons t i.2⟩
noncomputable def D.isTK:D->yU
 | .tup ds=>ds.all D.isCell
 | _=>yM
noncomputable def e8(k:yN CK):D:=.tup (k.map bz)
theorem sV{d:D}(h:d.isTK=yP):∃ k,d=e8 k:=
 D.casesOn (motive_1:=λd=>d.isTK=yP->∃ k,d=e8 k) d (λh=>nomatch h) (λZ h=>nomatch h) (λZ h=>nomatch h) (λZ h=>nomatch h) (λZ h=>(qd h).elim λa e=>⟨a,e▸rfl⟩) (λZ h=>nomatch h) (λZ Z h=>nomatch h) (λZ Z h=>nomatch h)
  (λZ h=>nomatch h)
  h
theorem uI:∀ {ks:yN D},ks.all D.isTK=yP->∃ a:yN (yN CK),ks=a.map e8
 | [],_=>⟨[],QQ⟩
 | k::ks,h=>let h:=zE.mp (show (k.isTK&&ks.all D.isTK)=yP from h);(sV h.1).elim λc e=>(uI h.2).elim λa b=>⟨c::a,e▸b▸rfl⟩
theorem ofTK_inj{a b:yN CK}(h:e8 a=e8 b):a=b:=(List.map_inj_right λZ Z=>pi).mp (D.tup.inj h)
theorem qf:∀ (a b:yN CK),aB (a.map bz) (b.map bz)=decide (a=b)
 | [],[]=>rfl
 | [],_::_=>rfl
 | _::_,[]=>rfl
 | x::a,y::b=>by
  show (bw (bz x) (bz y)&&aB (a.map bz) (b.map bz))=_;rw[rE,qf a b,<- Bool.decide_and];exact decide_eq_decide.mpr (by rw[Ej.injEq])
theorem l5(a b:yN CK):aO (e8 a) (e8 b)=decide (a=b):=qf a b
noncomputable abbrev TKd(Fd:zv)(w:zD):=tupleKind (cK Fd w)
section
variable {Fd:zv} {w:zD} {h:Heap} {H:y0->Prop}
theorem items_of{vs:yN yR}{ks:yN CK}(r:ao w.params h H vs (ks.map bz)):ItemsAre (cK Fd w) ks vs:=by
 induction ks generalizing vs with
 | nil=>rw[show vs=[] from r];exact .nil
 | cons k ks a=>
  cases r with
  | mk b r2=>exact .cons (mH b) (a r2)
theorem rZ{v:yR}{k:yN CK}(r:Rep w.params h H v (e8 k)):∃ a,v=.ref a/\(TKd Fd w).is h k a:=
 mz.rec (motive:=λv Z=>∃ a,v=.ref a/\(TKd Fd w).is h k a) (λb Z Z c=>⟨_,QQ,_,_,_,b,QQ,QQ,items_of c⟩) r
theorem wA(k:yN CK):(TKd Fd w).hash k=iz w.params (e8 k):=by
 show reduceHash (Builtin.Tuple.tupleHashOf (k.map λc=>iz w.params (bz c)))=reduceHash (Builtin.Tuple.tupleHashOf ((k.map bz).map (yb w.params)))
 rw[Ad]
 congr 2
 refine AP λc Z=>?_
 cases c <;> rfl
noncomputable abbrev kD(x:yN CK×y0×yR):D:=e8 x.1
theorem entries_tk{es:yN Ct}{cs:yN (yN CK)}(r:ao w.params h H (es.map (·.key)) (cs.map e8))(b:es.map (·.hash)=(cs.map e8).map (iz w.params)) :
  ∃ xs:yN (yN CK×y0×yR),es=xs.map (entryOfKey (TKd Fd w))/\(∀ x∈xs,(TKd Fd w).is h x.1 x.2.1)/\xs.map (·.1)=cs:=by
 induction cs generalizing es with
 | nil=>
  cases es with
  | nil=>exact⟨[],QQ,(λZ h=>nomatch h),QQ⟩
  | cons _ _=>exact nomatch (show _::_=[] from r)
 | cons c cs f=>
  cases es with
  | nil=>exact r.inv_nil
  | cons e es=>
   obtain⟨i,r2⟩:=r.inv;injection b with q1 q2
   obtain⟨a,j,m⟩:=rZ (Fd:=Fd) i;obtain⟨xs,e1,n,o⟩:=f r2 q2;refine⟨(c,a,e.val)::xs,?_,λx s=>(zc.mp s).elim (λq=>q▸m) (n x),by rw[zm,o]⟩
   rw[zm,<- e1]
   congr 1
   obtain⟨t,u,y⟩:=e;show _=DictEntry.mk _ _ _;rw[wA,<- q1,<- j]
theorem ng{a:y0}{es:zw Ct}{n:Nat}{cs:yN (yN CK)}(c:h.get? a=ac (n6 es n))(f:ao w.params h H (es.toList.map (·.key)) (cs.map e8))
  (i:es.toList.map (·.hash)=(cs.map e8).map (iz w.params)) (j:(cs.map e8).Nodup) :
  ∃ xs:yN (yN CK×y0×yR),h.DictOfH (TKd Fd w) a xs/\xs.map (·.1)=cs/\es.toList.map (·.key)=xs.map (λx=>Value.ref x.2.1)/\es.toList.map (·.val)=xs.map (·.2.2):=by
 obtain⟨xs,e1,m,b⟩:=entries_tk (Fd:=Fd) f i;refine⟨xs,⟨_,es,n,c,⟨QQ,QQ,QQ⟩,QQ,e1,m,?_⟩,b,?_,?_⟩
 ·rw[b];exact (AX.mp j).imp λh e=>h (by rw[e])
 ·rw[e1,Ad];rfl
 ·rw[e1,Ad];rfl
theorem lB(c:yN CK)(b:y0)(u:yR)(xs:yN (yN CK×y0×yR))(k:yN CK):atKey ((c,b,u)::xs) k=if c=k then ac (b,u) else atKey xs k:=by
 unfold atKey
 by_cases a:c=k <;> simp[a]
theorem rG{k:yN CK}:∀ (xs:yN (yN CK×y0×yR)),(atKey xs k).isSome=(xs.map kD).any λx=>aO x (e8 k)
 | []=>rfl
 | (c,b,u)::xs=>by
  rw[lB,zm,AI,l5,<- rG xs]
  by_cases a:c=k <;> simp[a]
theorem dget_atKey{P:zT}{k:yN CK}{d:D}{xs:yN (yN CK×y0×yR)}{vs:yN D}(r:ao P h H (xs.map (·.2.2)) vs)(e:n7 (xs.map kD) vs (e8 k)=ac d):∃ p,atKey xs k=ac p/\Rep P h H p.2 d:=by
 induction xs generalizing vs with
 | nil=>cases e
 | cons x xs f=>
  obtain⟨c,b,u⟩:=x;cases vs with
  | nil=>cases e
  | cons m vs=>
   obtain⟨i,r2⟩:=r.inv;rw[zm,oK,l5] at e;rw[lB]
   by_cases a:c=k
   ·rw[y8 (Ak a)] at e
    exact⟨_,y8 a,yW e▸i⟩
   ·rw[za (by simpa using a)] at e
    obtain⟨p,h1,j⟩:=f r2 e;exact⟨p,(za a).trans h1,j⟩
theorem storedH_cons(c:yN CK)(b:y0)(u:yR)(xs:yN (yN CK×y0×yR))(k:yN CK)(a:y0)(v:yR)(h:c ∉ xs.map (·.1)) :
  storedH ((c,b,u)::xs) k a v=if c=k then (c,b,v)::xs else (c,b,u)::storedH xs k a v:=by
 unfold storedH;rw[lB]
 by_cases f:c=k
 ·subst f
  simp only[Ed,Option.isSome_some,zm,putAt];rw[map_putAt_of_not_mem xs c v h]
 ·simp only[f,CA,zm,putAt]
  split <;> rfl
theorem storedH_dput{P:zT}{k:yN CK}{a:y0}{v:yR}{d:D}(q:Rep P h H (.ref a) (e8 k))(n:Rep P h H v d){xs:yN (yN CK×y0×yR)}{vs:yN D}(s:(xs.map (·.1)).Nodup)
  (t:ao P h H (xs.map λx=>Value.ref x.2.1) (xs.map kD)) (r:ao P h H (xs.map (·.2.2)) vs) :
  (storedH xs k a v).map kD=(dK (xs.map kD) vs (e8 k) d).1/\ao P h H ((storedH xs k a v).map λx=>Value.ref x.2.1) (dK (xs.map kD) vs (e8 k) d).1/\ao P h H ((storedH xs k a v).map (·.2.2)) (dK (xs.map kD) vs (e8 k) d).2:=by
 induction xs generalizing vs with
 | nil=>exact⟨QQ,.cons q .nil,.cons n .nil⟩
 | cons x xs w=>
  obtain⟨c,b,u⟩:=x;cases vs with
  | nil=>exact nomatch (show _::_=[] from r)
  | cons z vs=>
   obtain⟨j,m⟩:=Be.mp s;obtain⟨y,r2⟩:=r.inv;obtain⟨o,k2⟩:=t.inv;rw[storedH_cons _ _ _ _ _ _ _ j,zm,oJ,l5]
   by_cases f:c=k
   ·rw[y8 f,y8 (Ak f)]
    exact⟨QQ,.cons o k2,.cons n r2⟩
   ·rw[za f,za (by simpa using f)]
    have i:=w m k2 r2;exact⟨zj (kD (c,b,u)::·) i.1,.cons o i.2.1,.cons y i.2.2⟩
end
end Mine
namespace Mine
open PySem
inductive ME where
 | u (x:yS)
 | glob (x:yS)
 | int (i:Int)
 | str (s:yS)
 | bool (b:yU)
 | none
 | bin (op:AU) (a b:ME)
 | cmp (op:CV) (a b:ME)
 | bop (op:C7) (es:yN ME)
 | not (a:ME)
 | neg (a:ME)
 | tup (es:yN ME)
 | lst (es:yN ME)
 | sub (a i:ME)
 | sl (a lo hi:ME)
 | dct (ks vs:yN ME)
 | comp (elt:ME) (x:yS) (Fm:ME) (cs:yN ME)
 | call (f:yS) (args:yN ME)
 | isi (a:ME) (T:yS)
 | blt (f:yS) (args:yN ME)
 | lcp (a:ME)
 | sset (a:ME)
 | srt (a:ME) (f x p:yS) (rev:yU)
 | inn (a:ME)
inductive MS where
 | x0 (x:yS) (e:ME)
 | append (x:yS) (e:ME)
 | setk (x:yS) (k e:ME)
 | ite (c:ME) (t f:yN MS)
 | for_ (x:yS) (Fm:ME) (body:yN MS)
 | ret (e:ME)
 | bad
 | grp
 | forr (x:yS) (Fm:ME) (body:yN MS)
 | expr (e:ME)
 | while_ (c:ME) (body:yN MS)
noncomputable def D.isList:D->yU
 | .list _=>yP
 | _=>yM
noncomputable def onI{α:Type}(d:D)(f:Int->yX α):yX α:=match d with | .int i=>f i | _=>none
noncomputable def onS{α:Type}(d:D)(f:Str->yX α):yX α:=match d with | .str i=>f i | _=>none
noncomputable def onB{α:Type}(d:D)(f:yU->yX α):yX α:=match d with | .bool i=>f i | _=>none
noncomputable def onT{α:Type}(d:D)(f:yN D->yX α):yX α:=match d with | .tup i=>f i | _=>none
noncomputable def onL{α:Type}(d:D)(f:yN D->yX α):yX α:=match d with | .list i=>f i | _=>none
noncomputable def onC{α:Type}(d:D)(f:Int->yX α)(g:Str->yX α):yX α:=match d with | .int i=>f i | .str x=>g x | _=>none
noncomputable def D.items:D->yX (yN D)
 | .list ds | .tup ds=>ac ds
 | .rng a b=>ac ((zt (b - a).toNat).map λ(i:Nat)=>D.int (a+(i:Int)))
 | .dict ks _=>ac ks
 | _=>Option.none
noncomputable def bW:D->yX yU
 | .bool b=>ac b
 | .none=>ac yM
 | .int i=>ac (i != 0)
 | .list ds | .tup ds=>ac (!ds.isEmpty)
 | _=>none
noncomputable def eqS(a b:D):yX yU:=match a with
 | .bool x=>onB b λy=>ac (x == y)
 | .int x=>onC b (λy=>ac (x == y)) λZ=>ac yM
 | .str x=>onC b (λZ=>ac yM) λy=>ac (x == y)
 | _=>none
noncomputable def jZ:yN D->yN D->yX yU
 | [],[]=>ac yP
 | a::r,b::r'=>(eqS a b).bind λx=>(jZ r r').map λy=>x&&y
 | _,_=>ac yM
noncomputable def eqD(a b:D):yX yU:=match a with
 | .list ds=>onL b λes=>if ds.length=es.length then jZ ds es else ac yM
 | .tup ds=>onT b λes=>if ds.length=es.length then jZ ds es else if es.length=0 then ac yM else none
 | a=>eqS a b
noncomputable def fF:yN D->yN D->yU
 | [],[]=>yP
 | a::r,b::r'=>aO a b&&fF r r'
 | _,_=>yM
noncomputable def eqV(a b:D):yX yU:=match a with
 | .list ds=>onL b λes=>if (ds.all D.isTK&&es.all D.isTK)=yP then ac (fF ds es) else none
 | a=>eqS a b
noncomputable def nd:yN D->yN D->yX yU
 | [],[]=>ac yP
 | a::r,b::r'=>(eqV a b).bind λx=>(nd r r').map λy=>x&&y
 | _,_=>ac yM
noncomputable def eqX(a b:D):yX yU:=match a with
 | .dict ks vs=>(match b with | .dict f c=>if (ks.all D.isCell&&aB ks f&&vs.length == c.length)=yP then nd vs c else none | _=>none)
 | a=>eqD a b
noncomputable def lim:Int:=2 ^ 64
noncomputable def fG:Int:=2 ^ 1000
noncomputable def rT:Int:=10 ^ 100
noncomputable def binI(c:AU)(a b:Int):yX D:=match c with
 | .Add=>ac (.int (a+b))
 | .Sub=>ac (.int (a - b))
 | .Mult=>if (-lim<a/\a<lim)\/(-lim<b/\b<lim) then ac (.int (a * b)) else none
 | .FloorDiv=>if 0<b/\b<lim then ac (.int (a / b)) else none
 | .Mod=>if 0<b then ac (.int (a % b)) else none
 | .Pow=>if -fG<a/\a<fG/\0<=b/\b<=100 then ac (.int (a ^ b.toNat)) else none
 | _=>none
noncomputable def binS(c:AU)(a:Str)(d:D):yX D:=match c with
 | .Add=>onS d λb=>if a.length+b.length<=big then ac (.str (a++b)) else none
 | .Mult=>onI d λn=>if 0<=n/\n<=1000/\a.length<=1000 then ac (.str (Txt.mul a n)) else none
 | _=>none
noncomputable def binL(c:AU)(a:yN D)(d:D):yX D:=match c with
 | .Add=>onL d λb=>if a.length+b.length<=big then ac (.list (a++b)) else none
 | _=>none
noncomputable def binT(c:AU)(a:yN D)(d:D):yX D:=match c with
 | .Add=>onT d λb=>if a.length+b.length<=big then ac (.tup (a++b)) else none
 | _=>none
noncomputable def en(b:AU)(x y:D):yX D:=match x with
 | .int a=>onI y (binI b a)
 | .str a=>binS b a y
 | .list a=>binL b a y
 | .tup a=>binT b a y
 | _=>none
noncomputable def cmpI(c:CV)(a b:Int):yX D:=match c with
 | .Lt=>ac (.bool (decide (a<b)))
 | .LtE=>ac (.bool (decide (a<=b)))
 | .Gt=>ac (.bool (decide (a > b)))
 | .GtE=>ac (.bool (decide (a ≥ b)))
 | _=>none
noncomputable def ordD(c:CV)(x y:D):yX D:=match x with
 | .int a=>onI y (cmpI c a)
 | .str a=>onS y λb=>(match c with | .Lt=>ac (.bool (decide (a.cps.toList<b.cps.toList))) | _=>none)
 | _=>none
noncomputable def dQ(k:D)(ks:yN D):yU:=(k.isCell&&ks.all D.isCell)||(k.isTK&&ks.all D.isTK)
noncomputable def mP(k c:D):yX yU:=match c with
 | .dict ks _=>if dQ k ks then ac (ks.any λx=>aO x k) else none
 | .tup ds=>if k.isCell&&ds.all D.isCell then ac (ds.any λx=>bw x k) else none
 | .list ds=>if k.isTK&&ds.all D.isTK then ac (ds.any λx=>aO x k) else none
 | _=>none
noncomputable def eT(op:CV)(a b:D):yX D:=match op with
 | .Eq=>(eqX a b).map .bool
 | .NotEq=>(eqX a b).map λx=>.bool (!x)
 | .In=>(mP a b).map .bool
 | .NotIn=>(mP a b).map λx=>.bool (!x)
 | op=>ordD op a b
noncomputable def idx(k:Int)(n:Nat):yX Nat:=if 0<=k/\k<n then ac k.toNat else if -(n:Int)<=k/\k<0 then ac (k+n).toNat else none
noncomputable def cy(x:Str)(j:Nat):Str:=⟨#[x.cps.getD j 0]⟩
noncomputable def aV(d i:D):yX D:=match d with
 | .list ds=>onI i λk=>(idx k ds.length).bind λj=>ds[j]?
 | .tup ds=>onI i λk=>(idx k ds.length).bind λj=>ds[j]?
 | .str x=>onI i λk=>if 0<=k/\k<x.length/\x.length<=big then ac (.str (cy x k.toNat)) else none
 | .dict ks vs=>if dQ i ks then n7 ks vs i else none
 | _=>none
noncomputable def bnd(lo:D)(dflt:Nat):yX Nat:=match lo with
 | .none=>ac dflt
 | .int i=>if 0<=i then ac i.toNat else none
 | _=>none
noncomputable def bndS(lo:D):yX (yX Int):=match lo with
 | .none=>ac none
 | .int i=>ac (ac i)
 | _=>none
noncomputable def slD(d lo hi:D):yX D:=match d with
 | .list ds=>(bnd lo 0).bind λa=>(bnd hi ds.length).map λb=>.list ((ds.take b).drop a)
 | .tup ds=>(bnd lo 0).bind λa=>(bnd hi ds.length).map λb=>.tup ((ds.take b).drop a)
 | .str x=>if x.length<=big then (bndS lo).bind λa=>(bndS hi).map λb=>.str (Txt.slice x a b) else none
 | _=>none
noncomputable def pH(d:D)(T:yS):yX yU:=
 if T="str"\/T="bool"\/T="int"\/T="tuple"\/T="list" then (match d with
  | .str _=>ac (T == "str")
  | .int _=>ac (T == "int")
  | .bool _=>ac (T == "int"||T == "bool")
  | .tup _=>ac (T == "tuple")
  | .list _=>ac (T == "list")
  | _=>none) else none
noncomputable def lenD(d:D):yX D:=match d with
 | .list ds=>ac (.int ds.length)
 | .tup ds=>ac (.int ds.length)
 | .str x=>if x.length<=big then ac (.int x.length) else none
 | _=>none
noncomputable def rngD(a n:Int):yX D:=if (-(big:Int)<=n/\n<=big)/\-(big:Int)<=a/\a<=big then ac (.rng a n) else none
noncomputable def bltI(f:yS)(i:Int):yX D:=
 if f="range" then rngD 0 i else if f="str" then (if -rT<i/\i<rT then ac (.str (yO (toString i))) else none) else none
noncomputable def bltI2(f:yS)(a b:Int):yX D:=
 if f="range" then rngD a b else if f="max" then ac (.int (if b > a then b else a)) else if f="min" then ac (.int (if b<a then b else a)) else none
noncomputable def nW:yN D->yX Int
 | []=>ac 0
 | .int i::r=>(nW r).map (i+·)
 | _=>none
noncomputable def gI(f:yS)(as:yN D):yX D:=match as with
 | [d]=>if f="len" then lenD d else (match d with
  | .list ds=>if f="tuple" then ac (.tup ds) else if f="sum" then (nW ds).map .int else none
  | .int i=>bltI f i
  | .bool b=>if f="int" then ac (.int (if b then 1 else 0)) else none
  | .str x=>if f="str" then ac (.str x) else none
  | _=>none)
 | [a,b]=>onI a λi=>onI b λj=>bltI2 f i j
 | _=>none
noncomputable def uU(d:D):yX (yN D):=match d with
 | .list ds=>ac ds
 | .tup ds=>ac ds
 | .dict ks _=>if ks.all D.isCell then ac ks else none
 | _=>none
noncomputable def pL:yN D->yX (yN Int)
 | []=>ac []
 | .int i::r=>(pL r).map (i::·)
 | _=>none
noncomputable def mX(x:Int):yN Int->yN Int
 | []=>[x]
 | y::l=>if x<y then x::y::l else if x=y then y::l else y::mX x l
noncomputable def cP(ns:yN Int):yN Int:=ns.foldr mX []
noncomputable def oX(d:D):yX D:=match d with
 | .list ds=>if ds.length<63 then (pL ds).map λns=>.list ((cP ns).map .int) else none
 | _=>none
noncomputable def dR:D->yU
 | .str _=>yP
 | _=>yM
noncomputable def aL:D->D->yU
 | .int i,.int j=>decide (i<j)
 | .int _,.str _=>yP
 | .str x,.str y=>decide (x.cps.toList<y.cps.toList)
 | _,_=>yM
noncomputable def eH(ds:yN D)(p:Nat):D:=ds.getD p (.int 0)
noncomputable def cC(lt:Nat->Nat->yU){α:Type}:PySem.W.KasT α->α
 | .ret a=>a
 | .ask i j k=>cC lt (k (lt i j))
noncomputable def kix(ks:yN D):yN Nat:=if ks.length<2 then zt ks.length else (cC (λi j=>aL (eH ks i) (eH ks j)) (PySem.W.kas_sort ks.length)).toList
noncomputable def ir{α:Type}(z:α)(rev:yU)(ks:yN D)(l:yN α):yN α:=PySem.W.katRev rev ((kix (PySem.W.katRev rev ks)).map λi=>(PySem.W.katRev rev l).getD i z)
noncomputable def tO(k:D):yX D:=match k with
 | .tup [.bool b,c]=>if c.isCell&&b == dR c then ac c else none
 | _=>none
noncomputable def js(g:D->yX D):yN D->yX (yN D)
 | []=>ac []
 | d::r=>match g d with
  | some k=>(match tO k with
   | some c=>(js g r).map (c::·)
   | none=>none)
  | none=>none
noncomputable def srtD(g:D->yX D)(rev:yU)(d:D):yX D:=match d with
 | .list ds=>if ds.length<64 then (js g ds).map λks=>.list (ir .none rev ks ds) else none
 | _=>none
noncomputable def qC(x:Str):Int:=if x=yO "group" then 3 else if x=yO "once" then 1 else 2
noncomputable def innD(d:D):yX D:=onS d λx=>ac (.int (qC x))
noncomputable def bS(f:D->yX (yX D)):yN D->yX (yN D)
 | []=>ac []
 | it::r=>match f it with
  | none=>none
  | some o=>match bS f r with
   | none=>none
   | some ds=>ac (match o with | none=>ds | some d=>d::ds)
structure CF where
 call:yS->yN D->yX (D×yU)
 glob:yS->yX D
noncomputable def gX(cf:CF)(f:yS)(i d:D):yX D:=match aV d i with
 | some c=>(cf.call f [c]).map (·.1)
 | none=>none
mutual
noncomputable def evE(cf:CF)(ρ:yN (yS×D))(m:ME):yX D:=match m with
 | .u x=>ρ.lookup x
 | .glob x=>cf.glob x
 | .int i=>ac (.int i)
 | .str s=>ac (.str (yO s))
 | .bool b=>ac (.bool b)
 | .none=>ac .none
 | .bin h a b=>match evE cf ρ a with
  | some x=>(match evE cf ρ b with | some y=>en h x y | none=>none)
  | none=>none
 | .cmp h a b=>match evE cf ρ a with
  | some x=>(match evE cf ρ b with | some y=>eT h x y | none=>none)
  | none=>none
 | .bop h es=>gP cf ρ h es
 | .not a=>match evE cf ρ a with
  | some x=>(bW x).map λt=>.bool (!t)
  | none=>none
 | .neg a=>match evE cf ρ a with
  | some x=>onI x λi=>ac (.int (-i))
  | none=>none
 | .tup es=>match cu cf ρ es with
  | some ds=>if ds.length<=big then ac (.tup ds) else none
  | none=>none
 | .lst es=>match cu cf ρ es with
  | some ds=>if ds.length<=big then ac (.list ds) else none
  | none=>none
 | .dct ks vs=>match cu cf ρ ks with
  | some ds=>(match cu cf ρ vs with
   | some es=>if ds.isEmpty&&es.isEmpty then ac (.dict [] []) else none
   | none=>none)
  | none=>none
 | .sub a i=>match evE cf ρ a with
  | some x=>(match evE cf ρ i with | some y=>aV x y | none=>none)
  | none=>none
 | .sl a lo o=>match evE cf ρ a with
  | some x=>(match evE cf ρ lo with
   | some y=>(match evE cf ρ o with | some z=>slD x y z | none=>none)
   | none=>none)
  | none=>none
 | .comp j x Fm q=>match evE cf ρ Fm with
  | some d=>(match d.items with
   | some E8=>if E8.length<=big then (bS (λn=>match n0 cf ((x,n)::ρ) q with
     | some yP=>(match evE cf ((x,n)::ρ) j with | some y=>ac (ac y) | none=>none)
     | some yM=>ac none
     | none=>none) E8).map .list else none
   | none=>none)
  | none=>none
 | .call f c=>match cu cf ρ c with
  | some ds=>(cf.call f ds).map (·.1)
  | none=>none
 | .isi a T=>match evE cf ρ a with
  | some x=>(pH x T).map .bool
  | none=>none
 | .blt f c=>match cu cf ρ c with
  | some ds=>gI f ds
  | none=>none
 | .lcp a=>match evE cf ρ a with
  | some x=>(uU x).map .list
  | none=>none
 | .inn a=>match evE cf ρ a with
  | some x=>innD x
  | none=>none
 | .sset a=>match evE cf ρ a with
  | some x=>oX x
  | none=>none
 | .srt a f _ p rev=>match evE cf ρ a with
  | some x=>(match ρ.lookup p with
   | some i=>srtD (gX cf f i) rev x
   | none=>none)
  | none=>none
termination_by structural m
noncomputable def cu(cf:CF)(ρ:yN (yS×D))(a:yN ME):yX (yN D):=match a with
 | []=>ac []
 | e::r=>match evE cf ρ e with
  | some d=>(match cu cf ρ r with | some ds=>ac (d::ds) | none=>none)
  | none=>none
termination_by structural a
noncomputable def gP(cf:CF)(ρ:yN (yS×D))(a:C7)(b:yN ME):yX D:=match b with
 | []=>none
 | [e]=>evE cf ρ e
 | e::r=>match evE cf ρ e with
  | some d=>(match bW d with
   | some t=>if t=(match a with | .And=>yM | .Or=>yP) then ac d else gP cf ρ a r
   | none=>none)
  | none=>none
termination_by structural b
noncomputable def n0(cf:CF)(ρ:yN (yS×D))(a:yN ME):yX yU:=match a with
 | []=>ac yP
 | e::r=>match evE cf ρ e with
  | some d=>(match bW d with
   | some t=>if t then n0 cf ρ r else ac yM
   | none=>none)
  | none=>none
termination_by structural a
end
noncomputable def oE{b:Type}(a:yX D)(f:D->yX b):yX b:=match a with
 | some x=>f x
 | none=>none
noncomputable def oEs{b:Type}(a:yX (yN D))(f:yN D->yX b):yX b:=match a with
 | some x=>f x
 | none=>none
noncomputable def oT{b:Type}(a:yX yU)(f:yU->yX b):yX b:=match a with
 | some x=>f x
 | none=>none
theorem bK{b:Type}{a:yX D}{f:D->yX b}{r:b}{C:Prop}(h:oE a f=ac r)(k:∀ x,a=ac x->f x=ac r->C):C:=by
 cases a with
 | none=>cases h
 | some x=>exact k x QQ h
theorem fq{b:Type}{a:yX (yN D)}{f:yN D->yX b}{r:b}{C:Prop}(h:oEs a f=ac r)(k:∀ x,a=ac x->f x=ac r->C):C:=by
 cases a with
 | none=>cases h
 | some x=>exact k x QQ h
theorem uT{b:Type}{a:yX yU}{f:yU->yX b}{r:b}{C:Prop}(h:oT a f=ac r)(k:∀ x,a=ac x->f x=ac r->C):C:=by
 cases a with
 | none=>cases h
 | some x=>exact k x QQ h
mutual
noncomputable def ME.names:ME->yN yS
 | .u x=>[x]
 | .bin _ a b | .cmp _ a b | .sub a b=>a.names++b.names
 | .bop _ es | .tup es | .lst es | .call _ es | .blt _ es=>iV es
 | .not a | .neg a | .isi a _ | .lcp a=>a.names
 | .sset a=>a.names
 | .inn a=>a.names
 | .srt a _ _ p _=>a.names++[p]
 | .dct ks vs=>iV ks++iV vs
 | .sl a lo f=>a.names++lo.names++f.names
 | .comp c x Fm h=>Fm.names++(c.names++iV h).filter (· != x)
 | .glob _ | .int _ | .str _ | .bool _ | .none=>[]
noncomputable def iV:yN ME->yN yS
 | []=>[]
 | e::r=>e.names++iV r
end
noncomputable def ME.varOf(e:ME):yX yS:=Cq (e.ctorIdx=0) (λh=>ME.u.elim (motive_1:=λZ=>yX yS) e h ac) λZ=>Option.none
theorem varOf_inv{e:ME}{x:yS}{C:ME->Prop}(h:e.varOf=ac x)(k:C (.u x)):C e:=by
 unfold ME.varOf at h
 by_cases a:e.ctorIdx=0
 ·rw[dif_pos a] at h
  exact ME.u.elim (motive_1:=λe=>∀ a,ME.u.elim (motive_1:=λZ=>yX yS) e a ac=ac x->C e) e a (λy Z h=>yW h▸k) a h
 ·rw[dif_neg a] at h;cases h
noncomputable abbrev St:=yN (yS×(yU×D))
noncomputable def vis(σ:St):yN (yS×D):=σ.map λp=>(p.1,p.2.2)
noncomputable def az(σ:St)(x:yS)(v:yU×D):St:=match σ with
 | []=>[(x,v)]
 | (y,w)::r=>if y=x then (y,v)::r else (y,w)::az r x v
noncomputable def freeze(ns:yN yS)(σ:St):St:=σ.map λp=>(p.1,(p.2.1&&!ns.contains p.1,p.2.2))
noncomputable def settle(d:D)(ns:yN yS)(σ:St):St:=if d.scalar then σ else freeze ns σ
inductive Fl where
 | next
 | ret (fr:yU) (d:D)
noncomputable def frF(a:ME)(d:D):yU:=match a with
 | .lst _ | .comp _ _ _ _ | .dct _ _ | .lcp _=>yP
 | .sset _=>yP
 | .srt _ _ _ _ _=>yP
 | .inn _=>yM
 | .sl _ _ _ | .bin _ _ _=>d.isList
 | .u _ | .glob _ | .int _ | .str _ | .bool _ | .none | .cmp _ _ _ | .bop _ _ | .not _ | .neg _ | .tup _ | .sub _ _ | .call _ _ | .isi _ _ | .blt _ _=>yM
noncomputable def oD(b:ME):yX (yS×yN ME):=match b with
 | .call f a=>ac (f,a)
 | _=>none
noncomputable def evF(cf:CF)(ρ:yN (yS×D))(b:ME):yX (D×yU):=match oD b with
 | some (f,a)=>(match cu cf ρ a with
  | some ds=>cf.call f ds
  | none=>none)
 | none=>(evE cf ρ b).map λd=>(d,frF b d)
section
variable (cf:CF) (ρ:yN (yS×D))
theorem mh(f:yS)(args:yN ME):evF cf ρ (.call f args)=(match cu cf ρ args with | some ds=>cf.call f ds | none=>none):=rfl
end
noncomputable def cG(f:D->St->yX (Fl×St)):yN D->St->yX (Fl×St)
 | [],σ=>ac (.next,σ)
 | it::r,σ=>match f it σ with
  | some (.next,E2)=>cG f r E2
  | x=>x
noncomputable def fb(c:St->yX yU)(f:St->yX (Fl×St)):Nat->St->yX (Fl×St)
 | 0,_=>none
 | n+1,σ=>match c σ with
  | some yP=>(match f σ with
   | some (.next,E2)=>fb c f n E2
   | x=>x)
  | some yM=>ac (.next,σ)
  | none=>none
noncomputable def xc:Nat:=1000
noncomputable def gQ(cf:CF)(c:ME)(σ:St):yX yU:=match evE cf (vis σ) c with
 | some d=>bW d
 | none=>none
noncomputable def xg(k r:D):yN (D×yN D)->yN (D×yN D)
 | []=>[(k,[r])]
 | q::G=>if aO q.1 k=yP then (q.1,q.2++[r])::G else q::xg k r G
noncomputable def nZ(cf:CF)(pl:D):yN D->yN (D×yN D)->yX (yN (D×yN D))
 | [],G=>ac G
 | r::a,G=>match cf.call "cells_at" [r,pl] with
  | some p=>if (p.1.isTK&&!p.2)=yP then nZ cf pl a (xg p.1 r G) else none
  | none=>none
noncomputable def x0:yX (yU×D)->yU
 | some (yP,.dict [] [])=>yP
 | _=>yM
noncomputable def jK:yN yS:=["rows","places","sums"]
noncomputable def yd(σ:St)(G:yN (D×yN D)):St:=az (σ.filter λp=>jK.contains p.1) "groups" (yM,.dict (G.map (·.1)) (G.map λq=>.list q.2))
noncomputable def yc(cf:CF)(σ:St):yX St:=match σ.lookup "rows" with
 | some (yM,.list a)=>(match σ.lookup "places" with
  | some (yM,pl)=>if x0 (σ.lookup "groups") then (nZ cf pl a []).map (yd σ) else none
  | _=>none)
 | _=>none
mutual
noncomputable def exS(cf:CF)(st:MS)(σ:St):yX (Fl×St):=match st,σ with
 | .x0 x e,σ=>match evF cf (vis σ) e with
  | some (d,fr)=>ac (.next,az (settle d e.names σ) x (fr,d))
  | none=>none
 | .append x e,σ=>match evE cf (vis σ) e with
  | some d=>(match (settle d e.names σ).lookup x with
   | some (yP,.list ds)=>if ds.length<big then ac (.next,az (settle d e.names σ) x (yP,.list (ds++[d]))) else none
   | _=>none)
  | none=>none
 | .setk x k e,σ=>match evE cf (vis σ) e with
  | some d=>(match evE cf (vis σ) k with
   | some a=>(match (settle a k.names (settle d e.names σ)).lookup x with
    | some (yP,.dict ks vs)=>if dQ a ks&&decide (ks.length<big) then ac (.next,az (settle a k.names (settle d e.names σ)) x (yP,.dict (dK ks vs a d).1 (dK ks vs a d).2)) else none
    | _=>none)
   | none=>none)
  | none=>none
 | .ite c t f,σ=>match evE cf (vis σ) c with
  | some d=>(match bW d with
   | some yP=>bn cf t σ
   | some yM=>bn cf f σ
   | none=>none)
  | none=>none
 | .for_ x Fm body,σ=>match evE cf (vis σ) Fm with
  | some d=>(match d.items with
   | some E8=>cG (λb σ=>bn cf body (az σ x (yM,b))) E8 (freeze Fm.names σ)
   | none=>none)
  | none=>none
 | .ret e,σ=>match e.varOf with
  | some x=>(match σ.lookup x with | some (fr,d)=>ac (.ret fr d,σ) | none=>none)
  | none=>(match evF cf (vis σ) e with
   | some (d,fr)=>ac (.ret fr d,σ)
   | none=>none)
 | .bad,_=>none
 | .forr x Fm body,σ=>match evE cf (vis σ) Fm with
  | some (.tup ds)=>cG (λb σ=>bn cf body (az σ x (yM,b))) ds.reverse (freeze Fm.names σ)
  | _=>none
 | .expr e,σ=>match evE cf (vis σ) e with
  | some d=>if d.scalar then ac (.next,σ) else none
  | none=>none
 | .while_ c body,σ=>fb (gQ cf c) (λσ=>bn cf body σ) xc σ
 | .grp,σ=>match yc cf σ with
  | some E2=>ac (.next,E2)
  | none=>none
termination_by structural st
noncomputable def bn(cf:CF)(a:yN MS)(σ:St):yX (Fl×St):=match a,σ with
 | [],σ=>ac (.next,σ)
 | st::r,σ=>match exS cf st σ with
  | some (.next,E2)=>bn cf r E2
  | x=>x
termination_by structural a
end
structure Fn where
 params:yN yS
 body:yN MS
noncomputable def ai(P:yN (yS×Fn))(X:CF):Nat->CF
 | 0=>⟨λZ Z=>none,X.glob⟩
 | n+1=>⟨λf a=>match P.lookup f with
  | none=>X.call f a
  | some b=>if a.length=b.params.length then
    (match bn (ai P X n) b.body ((b.params.zip a).map λp=>(p.1,(yM,p.2))) with
    | some (.ret fr d,_)=>ac (d,fr)
    | some (.next,_)=>ac (.none,yM)
    | _=>none)
   else none,X.glob⟩
set_option autoImplicit true in
theorem ig(cf:CF)(ρ:yN (yS×D)):evE cf ρ (ME.u x)=(ρ.lookup x):=rfl
set_option autoImplicit true in
theorem ev_cmp(cf:CF)(ρ:yN (yS×D)):evE cf ρ (ME.cmp op a b)=(match evE cf ρ a with
   | some x=>(match evE cf ρ b with | some y=>eT op x y | none=>none)
   | none=>none):=rfl
set_option autoImplicit true in
theorem yh(cf:CF)(ρ:yN (yS×D)):evE cf ρ (ME.sub a i)=(match evE cf ρ a with
   | some x=>(match evE cf ρ i with | some y=>aV x y | none=>none)
   | none=>none):=rfl
set_option autoImplicit true in
theorem ev_comp(cf:CF)(ρ:yN (yS×D)):evE cf ρ (ME.comp elt x Fm cs)=(match evE cf ρ Fm with
   | some d=>(match d.items with
    | some E8=>if E8.length<=big then (bS (λa=>match n0 cf ((x,a)::ρ) cs with
      | some yP=>(match evE cf ((x,a)::ρ) elt with | some y=>ac (ac y) | none=>none)
      | some yM=>ac none
      | none=>none) E8).map .list else none
    | none=>none)
   | none=>none):=rfl
set_option autoImplicit true in
theorem evs_nil(cf:CF)(ρ:yN (yS×D)):cu cf ρ ([])=(ac []):=rfl
set_option autoImplicit true in
theorem pX(cf:CF)(ρ:yN (yS×D)):cu cf ρ (e::r)=(match evE cf ρ e with
   | some d=>(match cu cf ρ r with | some ds=>ac (d::ds) | none=>none)
   | none=>none):=rfl
set_option autoImplicit true in
theorem qH(cf:CF)(σ:St):exS cf (MS.x0 x e) σ=(match evF cf (vis σ) e with
   | some (d,fr)=>ac (.next,az (settle d e.names σ) x (fr,d))
   | none=>none):=rfl
set_option autoImplicit true in
theorem xs_append(cf:CF)(σ:St):exS cf (MS.append x e) σ=(match evE cf (vis σ) e with
   | some d=>(match (settle d e.names σ).lookup x with
    | some (yP,.list ds)=>if ds.length<big then ac (.next,az (settle d e.names σ) x (yP,.list (ds++[d]))) else none
    | _=>none)
   | none=>none):=rfl
set_option autoImplicit true in
theorem xs_setk(cf:CF)(σ:St):exS cf (MS.setk x k e) σ=(match evE cf (vis σ) e with
   | some d=>(match evE cf (vis σ) k with
    | some a=>(match (settle a k.names (settle d e.names σ)).lookup x with
     | some (yP,.dict ks vs)=>if dQ a ks&&decide (ks.length<big) then ac (.next,az (settle a k.names (settle d e.names σ)) x (yP,.dict (dK ks vs a d).1 (dK ks vs a d).2)) else none
     | _=>none)
    | none=>none)
   | none=>none):=rfl
set_option autoImplicit true in
theorem xs_ite(cf:CF)(σ:St):exS cf (MS.ite c t f) σ=(match evE cf (vis σ) c with
   | some d=>(match bW d with
    | some yP=>bn cf t σ
    | some yM=>bn cf f σ
    | none=>none)
   | none=>none):=rfl
set_option autoImplicit true in
theorem xs_for_(cf:CF)(σ:St):exS cf (MS.for_ x Fm body) σ=(match evE cf (vis σ) Fm with
   | some d=>(match d.items with
    | some E8=>cG (λa σ=>bn cf body (az σ x (yM,a))) E8 (freeze Fm.names σ)
    | none=>none)
   | none=>none):=rfl
set_option autoImplicit true in
theorem uE(cf:CF)(σ:St):exS cf (MS.ret e) σ=(match e.varOf with
   | some x=>(match σ.lookup x with | some (fr,d)=>ac (.ret fr d,σ) | none=>none)
   | none=>(match evF cf (vis σ) e with
    | some (d,fr)=>ac (.ret fr d,σ)
    | none=>none)):=rfl
theorem vf(cf:CF)(x:yS)(Fm:ME)(body:yN MS)(σ:St):exS cf (MS.forr x Fm body) σ=(match evE cf (vis σ) Fm with
  | some (.tup ds)=>cG (λa σ=>bn cf body (az σ x (yM,a))) ds.reverse (freeze Fm.names σ)
  | _=>none):=rfl
set_option autoImplicit true in
theorem xl(cf:CF)(σ:St):exS cf (MS.grp) σ=(match yc cf σ with
   | some E2=>ac (.next,E2)
   | none=>none):=rfl
theorem xs_expr(cf:CF)(e:ME)(σ:St):exS cf (MS.expr e) σ=(match evE cf (vis σ) e with
  | some d=>if d.scalar then ac (.next,σ) else none
  | none=>none):=rfl
theorem xs_while(cf:CF)(c:ME)(body:yN MS)(σ:St):exS cf (MS.while_ c body) σ=fb (gQ cf c) (λσ=>bn cf body σ) xc σ:=rfl
set_option autoImplicit true in
theorem ve(cf:CF)(σ:St):bn cf ([]) σ=(ac (.next,σ)):=rfl
set_option autoImplicit true in
theorem oP(cf:CF)(σ:St):bn cf (st::r) σ=(match exS cf st σ with
   | some (.next,E2)=>bn cf r E2
   | x=>x):=rfl
theorem xL(a:ME)(f x p:yS)(rev:yU):(ME.srt a f x p rev).names=a.names++[p]:=rfl
theorem ev_srt(cf:CF)(ρ:yN (yS×D))(a:ME)(f x p:yS)(rev:yU):evE cf ρ (ME.srt a f x p rev)=(match evE cf ρ a with
  | some x=>(match ρ.lookup p with
   | some i=>srtD (gX cf f i) rev x
   | none=>none)
  | none=>none):=rfl
theorem cB(x:yS):∀ (σ:St),(vis σ).lookup x=(σ.lookup x).map (·.2)
 | []=>rfl
 | (y,v)::r=>by
  have a:=cB x r;unfold vis at a ⊢;rw[zm,zl,zl]
  by_cases h:x=y
  ·subst h;simp
  ·have:(x == y)=yM:=by simpa using h
   simp only[this];exact a
theorem aI(x y:yS)(v:yU×D):∀ (σ:St),(az σ x v).lookup y=if y=x then ac v else σ.lookup y
 | []=>by
  unfold az;rw[zl]
  by_cases h:y=x
  ·simp[h]
  ·have:(y == x)=yM:=by simpa using h
   simp[h,this]
 | (z,u)::r=>by
  unfold az
  split
  ·rename_i h;subst h
   rw[zl,zl]
   by_cases h:y=z
   ·simp[h]
   ·have:(y == z)=yM:=by simpa using h
    simp[h,this]
  ·rename_i a
   rw[zl,zl,aI x y v r]
   by_cases h:y=x
   ·subst h
    have:(y == z)=yM:=by simpa using Ne.symm a
    simp[this]
   ·simp[h]
theorem bx(ns:yN yS)(x:yS):∀ (σ:St),(freeze ns σ).lookup x=(σ.lookup x).map λp=>(p.1&&!ns.contains x,p.2)
 | []=>rfl
 | (y,v)::r=>by
  have a:=bx ns x r;unfold freeze at a ⊢;rw[zm,zl,zl]
  by_cases h:x=y
  ·subst h;simp
  ·have:(x == y)=yM:=by simpa using h
   simp only[this];exact a
noncomputable abbrev KD:=Str->yX BJ
noncomputable def gO(k:KD)(x:Str):yU:=(k x == ac .local||k x == ac .cell||k x == ac .free)&&x != yO "__debug__"&&x != yO "__classdict__"&&x != yO ".0"
noncomputable def cF(k:KD)(x:Str):yU:=k x == ac .globalImplicit&&x != yO "__debug__"
noncomputable def eQ(k:KD)(scope:Bk):KD:=λx=>(scope.names.map λp=>if p.2 == .free&&k p.1 == ac .cell then (p.1,NameKind.cell) else p).lookup x
noncomputable def ff(e:zh):yU:=!decide (e.ctorIdx=7)
noncomputable def mN(k:KD):yU:=k (yO "keys") == ac .local&&k (yO "sorted") == ac .globalImplicit&&k (yO "place") == ac .cell
noncomputable def iS(k:KD)(scope:Bk)(x:Str):yU:=
 scope.kind == .function&&decide (scope.names.map (·.1)).Nodup&&(scope.names.lookup x == ac .local||scope.names.lookup x == ac .cell) &&
 scope.names.all (λp=>p.2 != .free||k p.1 == ac .cell||k p.1 == ac .free)&&scope.names.all (λp=>p.2 == .free||p.2 == .globalImplicit||p.1 == x||p.1 == yO ".0")&&!mN (eQ k scope)
noncomputable def tF(k:KD)(ps:Cu)(sc:Bk)(x p:Str):yU:=
 (ps.posonlyargs.isEmpty&&ps.kwonlyargs.isEmpty&&ps.vararg.isNone&&ps.kwarg.isNone&&ps.defaults.isEmpty&&ps.kw_defaults.isEmpty)&&(ps.args.map (·.arg) == [x] &&
 sc.kind == .function&&!sc.isCoroutine&&!sc.isGenerator&&sc.names.lookup x == ac .local) &&
 (sc.names.all (λp=>p.2 != .cell&&(p.2 != .free||k p.1 == ac .cell||k p.1 == ac .free))&&mN k&&!mN (λy=>sc.names.lookup y)&&sc.names.lookup p == ac .free)
noncomputable def ME.isNone(e:ME):yU:=decide (e.ctorIdx=5)
@[elab_as_elim] theorem isNone_inv{e:ME}{C:ME->Prop}(h:e.isNone=yP)(k:C .none):C e:=ME.none.elim (motive_1:=C) e (zS h) k
noncomputable def pj(e:zh):yU:=!decide (e.ctorIdx=26)
theorem bM{c:Prop}[Decidable c]{f:c->yU}(h:Cq c f (λZ=>yM)=yP):∃ a,f a=yP:=by
 by_cases a:c
 ·rw[dif_pos a] at h;exact⟨a,h⟩
 ·rw[dif_neg a] at h;cases h
noncomputable def c1{α:Type}(l:yN α)(f:α->yU):yU:=match l with | [x]=>f x | _=>yM
@[elab_as_elim] theorem eW{α:Type}{l:yN α}{f:α->yU}{C:yN α->Prop}(h:c1 l f=yP)(k:∀ x,f x=yP->C [x]):C l:=by
 cases l with
 | nil=>cases h
 | cons x l=>cases l with
  | nil=>exact k x h
  | cons=>cases h
noncomputable def c2{α:Type}(l:yN α)(f:α->α->yU):yU:=match l with | x::l=>c1 l (f x) | _=>yM
section
variable {α:Type}{C:Prop}
@[elab_as_elim] theorem nl{l:yN α}{f:α->α->yU}{C:yN α->Prop}(h:c2 l f=yP)(k:∀ x y,f x y=yP->C [x,y]):C l:=by
 cases l with
 | nil=>cases h
 | cons x l=>exact eW (C:=λl=>C (x::l)) h (k x)
@[elab_as_elim] theorem qi{l:yX α}{f:α->yU}{C:yX α->Prop}(h:xj l f=yP)(k:∀ x,f x=yP->C (ac x)):C l:=by
 cases l with
 | none=>cases h
 | some x=>exact k x h
theorem bR{a b:yU}(h:(a&&b)=yP)(k:a=yP->b=yP->C):C:=k (zE.mp h).1 (zE.mp h).2
theorem iL{a b c:yU}(h:(a&&b&&c)=yP)(k:a=yP->b=yP->c=yP->C):C:=bR h λh f=>bR h λi j=>k i j f
theorem qF{a b c d:yU}(h:(a&&b&&c&&d)=yP)(k:a=yP->b=yP->c=yP->d=yP->C):C:=bR h λh f=>iL h λi j m=>k i j m f
theorem qE{a b c d e:yU}(h:(a&&b&&c&&d&&e)=yP)(k:a=yP->b=yP->c=yP->d=yP->e=yP->C):C:=bR h λh f=>qF h λi j m n=>k i j m n f
theorem and6{a b c d e f:yU}(h:(a&&b&&c&&d&&e&&f)=yP)(k:a=yP->b=yP->c=yP->d=yP->e=yP->f=yP->C):C:=bR h λh i=>qE h λj m n o q=>k j m n o q i
@[elab_as_elim] theorem eqb[BEq α][LawfulBEq α]{a b:α}{C:α->Prop}(h:(a == b)=yP)(k:C b):C a:=(eq_of_beq h).symm▸k
@[elab_as_elim] theorem eqb'[BEq α][LawfulBEq α]{a b:α}{C:α->Prop}(h:(a == b)=yP)(k:C a):C b:=eq_of_beq h▸k
@[elab_as_elim] theorem kO{l:yN α}{C:yN α->Prop}(h:l.isEmpty=yP)(k:C []):C l:=(Am.mp h).symm▸k
theorem fS{k:KD}{x:Str}(h:cF k x=yP):k x=ac .globalImplicit/\x≠yO "__debug__":=bR h λh1 a=>⟨eq_of_beq h1,by simpa using a⟩
end
noncomputable def dJ(e:zh)(f:Str->Pos->yU):yU:=Cq (e.ctorIdx=23) (λh=>Expr.Name.elim (motive_1:=λZ=>yU) e h f) (λZ=>yM)
@[elab_as_elim] theorem cj{e:zh}{f:Str->Pos->yU}{C:zh->Prop}(h:dJ e f=yP)(k:∀ a b,f a b=yP->C (.Name a b)):C e:=
 (bM h).elim λc h=>Expr.Name.elim (motive_1:=λe=>∀ c,Expr.Name.elim (motive_1:=λZ=>yU) e c f=yP->C e) e c (λa b Z h=>k a b h) c h
noncomputable def jh(e:zh)(f:Const->Nat->Pos->yU):yU:=Cq (e.ctorIdx=19) (λh=>Expr.Constant.elim (motive_1:=λZ=>yU) e h f) (λZ=>yM)
@[elab_as_elim] theorem eB{e:zh}{f:Const->Nat->Pos->yU}{C:zh->Prop}(h:jh e f=yP)(k:∀ a b v2,f a b v2=yP->C (.Constant a b v2)):C e:=
 (bM h).elim λc h=>Expr.Constant.elim (motive_1:=λe=>∀ c,Expr.Constant.elim (motive_1:=λZ=>yU) e c f=yP->C e) e c (λa b v2 Z h=>k a b v2 h) c h
noncomputable def cBin(e:zh)(f:zh->AU->zh->Pos->yU):yU:=Cq (e.ctorIdx=2) (λh=>Expr.BinOp.elim (motive_1:=λZ=>yU) e h f) (λZ=>yM)
@[elab_as_elim] theorem cBin_inv{e:zh}{f:zh->AU->zh->Pos->yU}{C:zh->Prop}(h:cBin e f=yP)(k:∀ a b v2 c,f a b v2 c=yP->C (.BinOp a b v2 c)):C e:=
 (bM h).elim λi h=>Expr.BinOp.elim (motive_1:=λe=>∀ i,Expr.BinOp.elim (motive_1:=λZ=>yU) e i f=yP->C e) e i (λa b v2 c Z h=>k a b v2 c h) i h
noncomputable def cBool(e:zh)(f:C7->yN zh->Pos->yU):yU:=Cq (e.ctorIdx=0) (λh=>Expr.BoolOp.elim (motive_1:=λZ=>yU) e h f) (λZ=>yM)
@[elab_as_elim] theorem cBool_inv{e:zh}{f:C7->yN zh->Pos->yU}{C:zh->Prop}(h:cBool e f=yP)(k:∀ a b v2,f a b v2=yP->C (.BoolOp a b v2)):C e:=
 (bM h).elim λc h=>Expr.BoolOp.elim (motive_1:=λe=>∀ c,Expr.BoolOp.elim (motive_1:=λZ=>yU) e c f=yP->C e) e c (λa b v2 Z h=>k a b v2 h) c h
noncomputable def cUn(e:zh)(f:UnaryOp->zh->Pos->yU):yU:=Cq (e.ctorIdx=3) (λh=>Expr.UnaryOp.elim (motive_1:=λZ=>yU) e h f) (λZ=>yM)
@[elab_as_elim] theorem cUn_inv{e:zh}{f:UnaryOp->zh->Pos->yU}{C:zh->Prop}(h:cUn e f=yP)(k:∀ a b v2,f a b v2=yP->C (.UnaryOp a b v2)):C e:=
 (bM h).elim λc h=>Expr.UnaryOp.elim (motive_1:=λe=>∀ c,Expr.UnaryOp.elim (motive_1:=λZ=>yU) e c f=yP->C e) e c (λa b v2 Z h=>k a b v2 h) c h
noncomputable def cTup(e:zh)(f:yN zh->Nat->Pos->yU):yU:=Cq (e.ctorIdx=25) (λh=>Expr.Tuple.elim (motive_1:=λZ=>yU) e h f) (λZ=>yM)
@[elab_as_elim] theorem cTup_inv{e:zh}{f:yN zh->Nat->Pos->yU}{C:zh->Prop}(h:cTup e f=yP)(k:∀ a b v2,f a b v2=yP->C (.Tuple a b v2)):C e:=
 (bM h).elim λc h=>Expr.Tuple.elim (motive_1:=λe=>∀ c,Expr.Tuple.elim (motive_1:=λZ=>yU) e c f=yP->C e) e c (λa b v2 Z h=>k a b v2 h) c h
noncomputable def cLst(e:zh)(f:yN zh->Pos->yU):yU:=Cq (e.ctorIdx=24) (λh=>Expr.List.elim (motive_1:=λZ=>yU) e h f) (λZ=>yM)
@[elab_as_elim] theorem cLst_inv{e:zh}{f:yN zh->Pos->yU}{C:zh->Prop}(h:cLst e f=yP)(k:∀ a b,f a b=yP->C (.List a b)):C e:=
 (bM h).elim λc h=>Expr.List.elim (motive_1:=λe=>∀ c,Expr.List.elim (motive_1:=λZ=>yU) e c f=yP->C e) e c (λa b Z h=>k a b h) c h
noncomputable def xi(e:zh)(f:zh->zh->Pos->yU):yU:=Cq (e.ctorIdx=21) (λh=>Expr.Subscript.elim (motive_1:=λZ=>yU) e h f) (λZ=>yM)
@[elab_as_elim] theorem mq{e:zh}{f:zh->zh->Pos->yU}{C:zh->Prop}(h:xi e f=yP)(k:∀ a b v2,f a b v2=yP->C (.Subscript a b v2)):C e:=
 (bM h).elim λc h=>Expr.Subscript.elim (motive_1:=λe=>∀ c,Expr.Subscript.elim (motive_1:=λZ=>yU) e c f=yP->C e) e c (λa b v2 Z h=>k a b v2 h) c h
noncomputable def yr(e:zh)(f:yX zh->yX zh->yX zh->Pos->yU):yU:=Cq (e.ctorIdx=26) (λh=>Expr.Slice.elim (motive_1:=λZ=>yU) e h f) (λZ=>yM)
@[elab_as_elim] theorem cSlice_inv{e:zh}{f:yX zh->yX zh->yX zh->Pos->yU}{C:zh->Prop}(h:yr e f=yP)(k:∀ a b v2 c,f a b v2 c=yP->C (.Slice a b v2 c)):C e:=
 (bM h).elim λi h=>Expr.Slice.elim (motive_1:=λe=>∀ i,Expr.Slice.elim (motive_1:=λZ=>yU) e i f=yP->C e) e i (λa b v2 c Z h=>k a b v2 c h) i h
noncomputable def cCmp(e:zh)(f:zh->yN CV->yN zh->Pos->yU):yU:=Cq (e.ctorIdx=15) (λh=>Expr.Compare.elim (motive_1:=λZ=>yU) e h f) (λZ=>yM)
@[elab_as_elim] theorem cCmp_inv{e:zh}{f:zh->yN CV->yN zh->Pos->yU}{C:zh->Prop}(h:cCmp e f=yP)(k:∀ a b v2 c,f a b v2 c=yP->C (.Compare a b v2 c)):C e:=
 (bM h).elim λi h=>Expr.Compare.elim (motive_1:=λe=>∀ i,Expr.Compare.elim (motive_1:=λZ=>yU) e i f=yP->C e) e i (λa b v2 c Z h=>k a b v2 c h) i h
noncomputable def gS(e:zh)(f:zh->yN zh->yN Keyword->Pos->yU):yU:=Cq (e.ctorIdx=16) (λh=>Expr.Call.elim (motive_1:=λZ=>yU) e h f) (λZ=>yM)
@[elab_as_elim] theorem eJ{e:zh}{f:zh->yN zh->yN Keyword->Pos->yU}{C:zh->Prop}(h:gS e f=yP)(k:∀ a b v2 c,f a b v2 c=yP->C (.Call a b v2 c)):C e:=
 (bM h).elim λi h=>Expr.Call.elim (motive_1:=λe=>∀ i,Expr.Call.elim (motive_1:=λZ=>yU) e i f=yP->C e) e i (λa b v2 c Z h=>k a b v2 c h) i h
noncomputable def cLC(e:zh)(f:zh->yN Comprehension->Bk->Pos->yU):yU:=Cq (e.ctorIdx=8) (λh=>Expr.ListComp.elim (motive_1:=λZ=>yU) e h f) (λZ=>yM)
@[elab_as_elim] theorem cLC_inv{e:zh}{f:zh->yN Comprehension->Bk->Pos->yU}{C:zh->Prop}(h:cLC e f=yP)(k:∀ a b v2 c,f a b v2 c=yP->C (.ListComp a b v2 c)):C e:=
 (bM h).elim λi h=>Expr.ListComp.elim (motive_1:=λe=>∀ i,Expr.ListComp.elim (motive_1:=λZ=>yU) e i f=yP->C e) e i (λa b v2 c Z h=>k a b v2 c h) i h
noncomputable def yt(e:zh)(f:yN (yX zh)->yN zh->Pos->yU):yU:=Cq (e.ctorIdx=6) (λh=>Expr.Dict.elim (motive_1:=λZ=>yU) e h f) (λZ=>yM)
@[elab_as_elim] theorem rF{e:zh}{f:yN (yX zh)->yN zh->Pos->yU}{C:zh->Prop}(h:yt e f=yP)(k:∀ a b v2,f a b v2=yP->C (.Dict a b v2)):C e:=
 (bM h).elim λc h=>Expr.Dict.elim (motive_1:=λe=>∀ c,Expr.Dict.elim (motive_1:=λZ=>yU) e c f=yP->C e) e c (λa b v2 Z h=>k a b v2 h) c h
noncomputable def wR(e:zh)(f:zh->Str->Pos->yU):yU:=Cq (e.ctorIdx=20) (λh=>Expr.Attribute.elim (motive_1:=λZ=>yU) e h f) (λZ=>yM)
@[elab_as_elim] theorem nk{e:zh}{f:zh->Str->Pos->yU}{C:zh->Prop}(h:wR e f=yP)(k:∀ a b v2,f a b v2=yP->C (.Attribute a b v2)):C e:=
 (bM h).elim λc h=>Expr.Attribute.elim (motive_1:=λe=>∀ c,Expr.Attribute.elim (motive_1:=λZ=>yU) e c f=yP->C e) e c (λa b v2 Z h=>k a b v2 h) c h
noncomputable def cLam(e:zh)(f:Cu->zh->Bk->Pos->yU):yU:=Cq (e.ctorIdx=4) (λh=>Expr.Lambda.elim (motive_1:=λZ=>yU) e h f) (λZ=>yM)
@[elab_as_elim] theorem uu{e:zh}{f:Cu->zh->Bk->Pos->yU}{C:zh->Prop}(h:cLam e f=yP)(k:∀ a b v2 c,f a b v2 c=yP->C (.Lambda a b v2 c)):C e:=
 (bM h).elim λi h=>Expr.Lambda.elim (motive_1:=λe=>∀ i,Expr.Lambda.elim (motive_1:=λZ=>yU) e i f=yP->C e) e i (λa b v2 c Z h=>k a b v2 c h) i h
noncomputable def qc(k:KD)(b:zh)(f x p:yS):yU:=gS b λg as ks Z=>ks.isEmpty&&dJ g λg Z=>g == yO f&&cF k g &&
 (match as with | e::a=>(xi e λv s Z=>pj s&&(dJ v λy Z=>y == yO x&&gO k y)&&(dJ s λy Z=>y == yO p&&gO k y))&&a.isEmpty | []=>yM)
noncomputable def chkKw(k:KD)(ks:yN Keyword)(f x p:yS)(rev:yU):yU:=match rev with
 | true=>c2 ks λa k2=>a.arg == ac (yO "key")&&k2.arg == ac (yO "reverse")&&(jh k2.value λc Z Z=>c == .bool yP)&&cLam a.value λps b sc Z=>tF k ps sc (yO x) (yO p)&&qc (λy=>sc.names.lookup y) b f x p
 | false=>c1 ks λa=>a.arg == ac (yO "key")&&cLam a.value λps b sc Z=>tF k ps sc (yO x) (yO p)&&qc (λy=>sc.names.lookup y) b f x p
noncomputable def uY(e:zh)(i:Int):yU:=jh e λc Z Z=>c == .int i
noncomputable def xZ(e:zh)(x:yS):yU:=jh e λc Z Z=>c == .str (yO x)
noncomputable def innKs(l:yN (yX zh)):yU:=c2 l λa b=>(xj a λa=>xZ a "group")&&xj b λb=>xZ b "once"
noncomputable def innVs(l:yN zh):yU:=c2 l λa b=>uY a 3&&uY b 1
mutual
noncomputable def aH(k:KD)(e:zh)(B:ME):yU:=match B with
 | .u x=>dJ e λy Z=>y == yO x&&gO k y
 | .glob x=>dJ e λy Z=>y == yO x&&cF k y
 | .int i=>jh e λc Z Z=>c == .int i
 | .str s=>jh e λc Z Z=>c == .str (yO s)
 | .bool b=>jh e λc Z Z=>c == .bool b
 | .none=>jh e λc Z Z=>c == .none
 | .bin z a b=>cBin e λl q r Z=>z == q&&aH k l a&&aH k r b
 | .cmp z a b=>cCmp e λl os E Z=>os == [z]&&c1 E λr=>ff r&&aH k l a&&aH k r b
 | .bop z es=>cBool e λq vs Z=>z == q&&cD k vs es
 | .not a=>cUn e λo x Z=>o == .Not&&aH k x a
 | .neg a=>cUn e λo x Z=>o == .USub&&aH k x a
 | .tup es=>cTup e λvs Z Z=>cD k vs es
 | .lst es=>cLst e λvs Z=>cD k vs es
 | .dct ks vs=>yt e λn w Z=>n.all Option.isSome&&cD k (n.filterMap id) ks&&cD k w vs
 | .sub a i=>xi e λv s Z=>pj s&&aH k v a&&aH k s i
 | .sl a lo C=>xi e λv s Z=>yr s λl u t Z=>t.isNone&&aH k v a&&(match l with | none=>lo.isNone | some x=>aH k x lo)&&(match u with | none=>C.isNone | some x=>aH k x C)
 | .comp A x Fm G=>cLC e λt H h Z=>c1 H λg=>g.is_async == 0&&dJ g.target λy Z=>y == yO x&&ff g.iter&&iS k h y&&aH k g.iter Fm&&aH (eQ k h) t A&&cD (eQ k h) g.ifs G
 | .call f m=>gS e λg j ks Z=>ks.isEmpty&&dJ g λg Z=>g == yO f&&cF k g&&cD k j m
 | .isi a T=>gS e λg j ks Z=>ks.isEmpty&&c2 j λx t=>dJ g λg Z=>dJ t λt Z=>g == yO "isinstance"&&cF k g&&t == yO T&&cF k t&&aH k x a
 | .blt f m=>gS e λg j ks Z=>ks.isEmpty&&dJ g λg Z=>g == yO f&&cF k g&&cD k j m
 | .sset a=>gS e λg j ks Z=>ks.isEmpty&&dJ g λg Z=>g == yO "sorted"&&cF k g&&c1 j λx=>gS x λg j ks Z=>ks.isEmpty&&dJ g λg Z=>g == yO "set"&&cF k g&&c1 j λx=>aH k x a
 | .lcp a=>gS e λg j ks Z=>ks.isEmpty&&dJ g λg Z=>g == yO "list"&&cF k g&&c1 j λx=>aH k x a
 | .srt a f x p rev=>gS e λg j ks Z=>chkKw k ks f x p rev&&dJ g λg Z=>g == yO "sorted"&&cF k g&&c1 j λx=>aH k x a
 | .inn a=>gS e λg j ks p=>ks.isEmpty&&wR g λo I J=>I == yO "get"&&J.endLine == p.line&&(yt o λn w Z=>innKs n&&innVs w)&&c2 j λx y=>uY y 2&&aH k x a
termination_by structural B
noncomputable def cD(k:KD)(es:yN zh)(c:yN ME):yU:=match c with
 | []=>es.isEmpty
 | a::r=>(match es with | e::b=>aH k e a&&cD k b r | []=>yM)
termination_by structural c
end
section
variable {k:KD} {e:zh}
inductive uC(k:KD)(x:yS):zh->Prop
 | mk {p} (h:gO k (yO x)=yP):uC k x (.Name (yO x) p)
theorem ja{x:yS}(h:aH k e (.u x)=yP):uC k x e:=
 cj h λy p h=>bR h λh1=>eqb h1 λa=>⟨a⟩
inductive yE(k:KD)(x:yS):zh->Prop
 | mk {p} (h:cF k (yO x)=yP):yE k x (.Name (yO x) p)
theorem tZ{x:yS}(h:aH k e (.glob x)=yP):yE k x e:=
 cj h λy p h=>bR h λh1=>eqb h1 λa=>⟨a⟩
inductive ij(c:Const):zh->Prop
 | mk {n p}:ij c (.Constant c n p)
theorem kI{c:Const}(h:(jh e λc' Z Z=>c' == c)=yP):ij c e:=
 eB h λc n p h=>eqb h ⟨⟩
theorem wn{i:Int}(h:aH k e (.int i)=yP):ij (.int i) e:=kI h
theorem we{i:yS}(h:aH k e (.str i)=yP):ij (.str (yO i)) e:=kI h
theorem t6{i:yU}(h:aH k e (.bool i)=yP):ij (.bool i) e:=kI h
theorem tY(h:aH k e .none=yP):ij .none e:=kI h
inductive IBin(k:KD)(op:AU)(a b:ME):zh->Prop
 | mk {l r p} (h1:aH k l a=yP) (h2:aH k r b=yP):IBin k op a b (.BinOp l op r p)
theorem wv{c:AU}{a b:ME}(h:aH k e (.bin c a b)=yP):IBin k c a b e:=
 cBin_inv h λl f r p h=>iL h λh1 i j=>eqb' h1 ⟨i,j⟩
inductive ICmp(k:KD)(op:CV)(a b:ME):zh->Prop
 | mk {l r p} (hs:ff r=yP) (h1:aH k l a=yP) (h2:aH k r b=yP):ICmp k op a b (.Compare l [op] [r] p)
theorem sv{c:CV}{a b:ME}(h:aH k e (.cmp c a b)=yP):ICmp k c a b e:=
 cCmp_inv h λl os m p h=>bR h λh1 h=>eqb h1 (eW h λr h=>iL h λf i j=>⟨f,i,j⟩)
inductive IBop(k:KD)(op:C7)(es:yN ME):zh->Prop
 | mk {vs p} (h:cD k vs es=yP):IBop k op es (.BoolOp op vs p)
theorem sy{a:C7}{es:yN ME}(h:aH k e (.bop a es)=yP):IBop k a es e:=
 cBool_inv h λb vs p h=>bR h λh1 c=>eqb' h1 ⟨c⟩
inductive IUn(k:KD)(o:UnaryOp)(a:ME):zh->Prop
 | mk {x p} (h:aH k x a=yP):IUn k o a (.UnaryOp o x p)
theorem x4{o:UnaryOp}{a:ME}(h:(cUn e λb x Z=>b == o&&aH k x a)=yP):IUn k o a e:=
 cUn_inv h λb x p h=>bR h λh1 c=>eqb h1 ⟨c⟩
theorem su{a:ME}(h:aH k e (.not a)=yP):IUn k .Not a e:=x4 h
theorem wg{a:ME}(h:aH k e (.neg a)=yP):IUn k .USub a e:=x4 h
inductive ITup(k:KD)(es:yN ME):zh->Prop
 | mk {vs n p} (h:cD k vs es=yP):ITup k es (.Tuple vs n p)
theorem wc{es:yN ME}(h:aH k e (.tup es)=yP):ITup k es e:=
 cTup_inv h λZ Z Z h=>⟨h⟩
inductive ILst(k:KD)(es:yN ME):zh->Prop
 | mk {vs p} (h:cD k vs es=yP):ILst k es (.List vs p)
theorem wj{es:yN ME}(h:aH k e (.lst es)=yP):ILst k es e:=
 cLst_inv h λZ Z h=>⟨h⟩
theorem somes:∀ {l:yN (yX zh)},l.all Option.isSome=yP->l=(l.filterMap id).map ac
 | [],_=>rfl
 | none::l,h=>by simp at h
 | some x::l,h=>by simp at h;simp;exact somes (by simpa using h)
inductive IDct(k:KD)(ks vs:yN ME):zh->Prop
 | mk {kes ves p} (h1:cD k kes ks=yP) (h2:cD k ves vs=yP):IDct k ks vs (.Dict (kes.map ac) ves p)
theorem wq{ks vs:yN ME}(h:aH k e (.dct ks vs)=yP):IDct k ks vs e:=
 rF h λa b p h=>iL h λh1 c f=>(somes h1).symm▸⟨c,f⟩
theorem notSlice_inv{s:zh}(h:pj s=yP):∀ a b c p,s=.Slice a b c p->False:=by
 rintro a b c p rfl;cases h
inductive ISub(k:KD)(a i:ME):zh->Prop
 | mk {v s p} (hn:∀ a b c p,s=.Slice a b c p->False) (h1:aH k v a=yP) (h2:aH k s i=yP):ISub k a i (.Subscript v s p)
theorem oF{a i:ME}(h:aH k e (.sub a i)=yP):ISub k a i e:=
 mq h λZ Z Z h=>iL h λh1 b c=>⟨notSlice_inv h1,b,c⟩
noncomputable def chkO(k:KD)(l:yX zh)(lo:ME):yU:=match l with | none=>lo.isNone | some x=>aH k x lo
inductive ISl(k:KD)(a lo hi:ME):zh->Prop
 | mk {v l u p pos} (h1:aH k v a=yP) (h2:chkO k l lo=yP) (h3:chkO k u hi=yP):ISl k a lo hi (.Subscript v (.Slice l u Option.none p) pos)
theorem x7{a lo hi:ME}(h:aH k e (.sl a lo hi)=yP):ISl k a lo hi e:=
 mq h λv s p h=>cSlice_inv h λl u t p h=>qF h λh1 b c f=>(Bf.mp h1).symm▸⟨b,c,f⟩
inductive xb(k:KD)(elt:ME)(x:yS)(Fm:ME)(cs:yN ME):zh->Prop
 | mk {t py it ifs scope lp} (hn:ff it=yP) (hs:iS k scope (yO x)=yP) (h1:aH k it Fm=yP) (h2:aH (eQ k scope) t elt=yP) (h3:cD (eQ k scope) ifs cs=yP) :
  xb k elt x Fm cs (.ListComp t [⟨.Name (yO x) py,it,ifs,0⟩] scope lp)
theorem pJ{elt Fm:ME}{x:yS}{cs:yN ME}(h:aH k e (.comp elt x Fm cs)=yP):xb k elt x Fm cs e:=
 cLC_inv h λt s b p h=>eW h λg=>Comprehension.casesOn g λc u f z h=>bR h λh1 h=>eqb (a:=z) h1 (cj (e:=c) h λy w h=>and6 h λi=>eqb i λj m n o q=>⟨j,m,n,o,q⟩)
inductive rL(k:KD)(f:yS)(args:yN ME):zh->Prop
 | mk {gp as pos} (hg:cF k (yO f)=yP) (h:cD k as args=yP):rL k f args (.Call (.Name (yO f) gp) as [] pos)
theorem l6{f:yS}{args:yN ME}(h:aH k e (.call f args)=yP):rL k f args e:=
 eJ h λg i ks p h=>bR h λh1 h=>kO h1 (cj h λy j h=>iL h λa=>eqb a λb c=>⟨b,c⟩)
theorem wt{f:yS}{args:yN ME}(h:aH k e (.blt f args)=yP):rL k f args e:=l6 h
inductive km(k:KD)(f:yS)(P:zh->Prop):zh->Prop
 | mk {gp x pos} (hg:cF k (yO f)=yP) (h:P x):km k f P (.Call (.Name (yO f) gp) [x] [] pos)
theorem mW{f:yS}{g:zh->yU}{P:zh->Prop}(b:∀ x,g x=yP->P x)(h:(gS e λn as ks Z=>ks.isEmpty&&dJ n λn Z=>n == yO f&&cF k n&&c1 as g)=yP):km k f P e:=
 eJ h λn as ks p h=>bR h λh1 h=>kO h1 (cj h λy j h=>iL h λc=>eqb c λi a=>eW a λx a=>⟨i,b _ a⟩)
theorem wl{a:ME}(h:aH k e (.lcp a)=yP):km k "list" (λx=>aH k x a=yP) e:=mW (λZ h=>h) h
theorem tX{a:ME}(h:aH k e (.sset a)=yP):km k "sorted" (km k "set" λx=>aH k x a=yP) e:=mW (λZ h=>mW (λZ h=>h) h) h
theorem uq{k:KD}{b:zh}{f x p:yS}(h:qc k b f x p=yP):aH k b (.call f [.sub (.u x) (.u p)])=yP:=h
inductive IKw(k:KD)(f x p:yS):yU->yN Keyword->Prop
 | up {ps b sc lp kp} (h1:tF k ps sc (yO x) (yO p)=yP) (h2:qc (λy=>sc.names.lookup y) b f x p=yP):IKw k f x p yM [⟨ac (yO "key"),.Lambda ps b sc lp,kp⟩]
 | down {ps b sc lp kp n cp kp2} (h1:tF k ps sc (yO x) (yO p)=yP) (h2:qc (λy=>sc.names.lookup y) b f x p=yP):IKw k f x p yP [⟨ac (yO "key"),.Lambda ps b sc lp,kp⟩,⟨ac (yO "reverse"),.Constant (.bool yP) n cp,kp2⟩]
theorem inv_kw{ks:yN Keyword}{f x p:yS}{rev:yU}(h:chkKw k ks f x p rev=yP):IKw k f x p rev ks:=by
 cases rev with
 | true=>exact nl h λj k2=>Keyword.casesOn j λa1 m s=>Keyword.casesOn k2 λa2 t w h=>qF h λh1 u o i=>eqb (a:=a1) h1 (eqb (a:=a2) u (eB (e:=t) o λc n cp o=>eqb (a:=c) o (uu (e:=m) i λps b sc lp i=>bR i λi q=>.down i q)))
 | false=>exact eW h λj=>Keyword.casesOn j λa1 m s h=>bR h λh1 h=>eqb (a:=a1) h1 (uu (e:=m) h λps b sc lp i=>bR i λi q=>.up i q)
inductive ISrt(k:KD)(a:ME)(f x p:yS)(rev:yU):zh->Prop
 | mk {gp y ks pos} (hg:cF k (yO "sorted")=yP) (h:aH k y a=yP) (hk:IKw k f x p rev ks):ISrt k a f x p rev (.Call (.Name (yO "sorted") gp) [y] ks pos)
theorem wf{a:ME}{f x p:yS}{rev:yU}(h:aH k e (.srt a f x p rev)=yP):ISrt k a f x p rev e:=
 eJ h λg j ks p h=>bR h λh1 h=>cj (e:=g) h λy m h=>iL h λc=>eqb c λi b=>eW b λx b=>⟨i,b,inv_kw h1⟩
inductive IInn(k:KD)(a:ME):zh->Prop
 | mk {x n1 n2 n3 n4 n5 p1 p2 p3 p4 p5 dp ap p} (hl:(ap.endLine == p.line)=yP) (h:aH k x a=yP):IInn k a (.Call (.Attribute (.Dict [ac (.Constant (.str (yO "group")) n1 p1),ac (.Constant (.str (yO "once")) n2 p2)] [.Constant (.int 3) n3 p3,.Constant (.int 1) n4 p4] dp) (yO "get") ap) [x,.Constant (.int 2) n5 p5] [] p)
theorem wo{a:ME}(h:aH k e (.inn a)=yP):IInn k a e:=
 eJ h λg w ks p h=>bR h λh1 h=>kO (l:=ks) h1 (nk (e:=g) h λo z J h=>qF h λA B C f=>eqb (a:=z) A (rF (e:=o) C λi j dp h=>bR h λm n=>nl (l:=i) m λa1 q m=>bR m λb c=>qi (l:=a1) b λa1 b=>qi (l:=q) c λq c=>eB (e:=a1) b λc1 Z Z b=>eB (e:=q) c λc2 Z Z c=>eqb (a:=c1) b (eqb (a:=c2) c (
  nl (l:=j) n λa2 E n=>bR n λs t=>eB (e:=a2) s λc3 Z Z s=>eB (e:=E) t λG Z Z t=>eqb (a:=c3) s (eqb (a:=G) t (nl (l:=w) f λx y f=>bR f λu H=>eB (e:=y) u λI Z Z u=>eqb (a:=I) u ⟨B,H⟩))))))
inductive IIsi(k:KD)(a:ME)(T:yS):zh->Prop
 | mk {gp x tp pos} (hg:cF k (yO "isinstance")=yP) (ht:cF k (yO T)=yP) (h:aH k x a=yP):IIsi k a T (.Call (.Name (yO "isinstance") gp) [x,.Name (yO T) tp] [] pos)
theorem wm{a:ME}{T:yS}(h:aH k e (.isi a T)=yP):IIsi k a T e:=
 eJ h λg m ks p h=>bR h λh1 h=>kO h1 (nl h λx t h=>cj (e:=g) h λy n h=>cj (e:=t) h λz o h=>qE h λb=>eqb b λc f=>eqb f λi j=>⟨c,i,j⟩)
end
noncomputable def fin(r:yX (Fl×St)):yX (D×yU):=match r with
 | some (.ret fr d,_)=>ac (d,fr)
 | some (.next,_)=>ac (.none,yM)
 | _=>y7
theorem wP{P:yN (yS×Fn)}{X:CF}{f:yS}{a:Fn}(n:Nat)(args:yN D)(h:P.lookup f=ac a)(b:args.length=a.params.length) :
  (ai P X (n+1)).call f args=fin (bn (ai P X n) a.body ((a.params.zip args).map λp=>(p.1,(yM,p.2)))):=by
 simp only[ai,h,b,Ed,fin]
 all_goals (split <;> rename_i q <;> simp[q])
theorem sB(P:yN (yS×Fn))(X:CF)(n:Nat)(x:yS):(ai P X n).glob x=X.glob x:=by cases n <;> rfl
noncomputable def kQ(r:yX (Fl×St))(k:St->yX (Fl×St)):yX (Fl×St):=match r with
 | some (.next,σ)=>k σ
 | x=>x
theorem oV(σ:St)(k):kQ (ac (.next,σ)) k=k σ:=rfl
theorem x_nil(cf:CF)(σ:St):bn cf [] σ=ac (.next,σ):=by simp[ve,oP]
theorem jB(cf:CF)(s:MS)(r:yN MS)(σ:St):bn cf (s::r) σ=kQ (exS cf s σ) (bn cf r):=by
 simp only[ve,oP,kQ]
 all_goals (split <;> rename_i q <;> simp_all)
theorem x_app(cf:CF)(a b:yN MS)(σ:St):bn cf (a++b) σ=kQ (bn cf a σ) (bn cf b):=by
 induction a generalizing σ with
 | nil=>simp[x_nil,kQ]
 | cons s a c=>
  rw[DL,jB,jB];generalize exS cf s σ=z;unfold kQ;cases z with
  | none=>rfl
  | some p=>
   obtain⟨f,E2⟩:=p;cases f <;> simp[c,kQ]
theorem xo{cf:CF}{s:MS}{r:yN MS}{σ E2:St}(h:exS cf s σ=ac (.next,E2)):bn cf (s::r) σ=bn cf r E2:=by rw[jB,h];rfl
theorem qI{cf:CF}{s:MS}{r:yN MS}{σ E2:St}{fr:yU}{d:D}(h:exS cf s σ=ac (.ret fr d,E2)):bn cf (s::r) σ=ac (.ret fr d,E2):=by rw[jB,h];rfl
theorem xn{cf:CF}{c:ME}{t f r:yN MS}{σ:St}{d:D}{k:yU}(h:evE cf (vis σ) c=ac d)(a:bW d=ac k):bn cf (.ite c t f::r) σ=if k=yP then bn cf (t++r) σ else bn cf (f++r) σ:=by
 rw[jB,xs_ite,h];dsimp only;rw[a,x_app,x_app];cases k <;> rfl
noncomputable def dB(cf:CF)(body:yN MS)(x:yS):D->St->yX (Fl×St):=λa σ=>bn cf body (az σ x (yM,a))
noncomputable def loopS(r:yX (Fl×St))(k:St->yX (Fl×St)):yX (Fl×St):=match r with
 | some (.next,σ)=>k σ
 | x=>x
section
variable {cf:CF}{σ:St}{d:D}
theorem cA(cf:CF)(body:yN MS)(x:yS)(a:D)(r:yN D)(σ:St):cG (dB cf body x) (a::r) σ=loopS (bn cf body (az σ x (yM,a))) (cG (dB cf body x) r):=by
 show (match bn cf body (az σ x (yM,a)) with
  | some (.next,E2)=>cG (dB cf body x) r E2
  | x=>x)=_
 generalize bn cf body (az σ x (yM,a))=z;unfold loopS
 split <;> rfl
theorem xp{x:yS}{Fm:ME}{body:yN MS}{r:yN MS}{E8:yN D}(h:evE cf (vis σ) Fm=ac d)(hi:d.items=ac E8):bn cf (.for_ x Fm body::r) σ=kQ (cG (dB cf body x) E8 (freeze Fm.names σ)) (bn cf r):=by
 rw[jB,xs_for_,h];dsimp only;rw[hi];rfl
theorem x_while(cf:CF)(c:ME)(body:yN MS)(r:yN MS)(σ:St):bn cf (.while_ c body::r) σ=kQ (fb (gQ cf c) (λσ=>bn cf body σ) xc σ) (bn cf r):=by rw[jB,xs_while]
theorem x_forr(cf:CF)(x:yS)(Fm:ME)(body:yN MS)(r:yN MS)(σ:St){ds:yN D}(h:evE cf (vis σ) Fm=ac (.tup ds)):bn cf (.forr x Fm body::r) σ=kQ (cG (dB cf body x) ds.reverse (freeze Fm.names σ)) (bn cf r):=by
 rw[jB,vf,h];rfl
theorem x_rv{e:ME}{fr:yU}(a:e.varOf=y7)(h:evF cf (vis σ) e=ac (d,fr)):exS cf (.ret e) σ=ac (.ret fr d,σ):=by
 rw[uE,a];dsimp only;rw[h]
theorem x_rx{z:yS}{fr:yU}(h:σ.lookup z=ac (fr,d)):exS cf (.ret (.u z)) σ=ac (.ret fr d,σ):=by
 rw[uE];show (match σ.lookup z with | some (fr,d)=>ac (Fl.ret fr d,σ) | none=>y7)=_;rw[h]
theorem vI{ρ:yN (yS×D)}{i:Int}:evE cf ρ (.int i)=ac (.int i):=rfl
theorem vS{ρ:yN (yS×D)}{i:yS}:evE cf ρ (.str i)=ac (.str (yO i)):=rfl
theorem vB{ρ:yN (yS×D)}{i:yU}:evE cf ρ (.bool i)=ac (.bool i):=rfl
theorem vN{ρ:yN (yS×D)}:cu cf ρ []=ac []:=rfl
theorem dtt{p:Prop}[Decidable p](h:decide p=yP):p:=zS h
end
section
variable (cf:CF) (ρ:yN (yS×D))
theorem yk(x:yS):evE cf ρ (.u x)=ρ.lookup x:=rfl
theorem sK(x:yS):evE cf ρ (.glob x)=cf.glob x:=rfl
theorem e_int(i:Int):evE cf ρ (.int i)=ac (.int i):=rfl
theorem e_str(i:yS):evE cf ρ (.str i)=ac (.str (yO i)):=rfl
theorem e_bool(i:yU):evE cf ρ (.bool i)=ac (.bool i):=rfl
theorem gz:evE cf ρ .none=ac .none:=rfl
noncomputable def o2(f:D->D->yX D)(a b:yX D):yX D:=match a with
 | some x=>(match b with | some y=>f x y | none=>y7)
 | none=>y7
theorem e_bin(c:AU)(a b:ME):evE cf ρ (.bin c a b)=o2 (en c) (evE cf ρ a) (evE cf ρ b):=rfl
theorem e_cmp(c:CV)(a b:ME):evE cf ρ (.cmp c a b)=o2 (eT c) (evE cf ρ a) (evE cf ρ b):=rfl
theorem e_sub(a b:ME):evE cf ρ (.sub a b)=o2 aV (evE cf ρ a) (evE cf ρ b):=rfl
theorem e_bop(a:C7)(es:yN ME):evE cf ρ (.bop a es)=gP cf ρ a es:=rfl
noncomputable def o1(f:D->yX D)(a:yX D):yX D:=match a with
 | some x=>f x
 | none=>y7
theorem e_not(a:ME):evE cf ρ (.not a)=o1 (λx=>(bW x).map λt=>.bool (!t)) (evE cf ρ a):=rfl
noncomputable def oL(f:yN D->yX D)(a:yX (yN D)):yX D:=match a with
 | some x=>f x
 | none=>y7
theorem e_tup(es:yN ME):evE cf ρ (.tup es)=oL (λds=>if ds.length<=big then ac (.tup ds) else y7) (cu cf ρ es):=rfl
theorem e_lst(es:yN ME):evE cf ρ (.lst es)=oL (λds=>if ds.length<=big then ac (.list ds) else y7) (cu cf ρ es):=rfl
theorem e_blt(f:yS)(es:yN ME):evE cf ρ (.blt f es)=oL (gI f) (cu cf ρ es):=rfl
theorem e_call(f:yS)(es:yN ME):evE cf ρ (.call f es)=oL (λds=>(cf.call f ds).map (·.1)) (cu cf ρ es):=rfl
theorem e_inn(a:ME):evE cf ρ (.inn a)=o1 innD (evE cf ρ a):=rfl
theorem e_sset(a:ME):evE cf ρ (.sset a)=o1 oX (evE cf ρ a):=rfl
theorem e_lcp(a:ME):evE cf ρ (.lcp a)=o1 (λx=>(uU x).map .list) (evE cf ρ a):=rfl
theorem e_isi(a:ME)(T:yS):evE cf ρ (.isi a T)=o1 (λx=>(pH x T).map .bool) (evE cf ρ a):=rfl
theorem e_sl(a l h:ME):evE cf ρ (.sl a l h)=o1 (λx=>o2 (slD x) (evE cf ρ l) (evE cf ρ h)) (evE cf ρ a):=rfl
noncomputable def k5(elt:ME)(x:yS)(cs:yN ME):D->yX (yX D):=λa=>match n0 cf ((x,a)::ρ) cs with
 | some yP=>(match evE cf ((x,a)::ρ) elt with | some y=>ac (ac y) | none=>y7)
 | some yM=>ac y7
 | none=>y7
theorem e_comp(elt:ME)(x:yS)(Fm:ME)(cs:yN ME):evE cf ρ (.comp elt x Fm cs)=o1 (λd=>(match d.items with
   | some E8=>if E8.length<=big then (bS (k5 cf ρ elt x cs) E8).map .list else y7
   | none=>y7)) (evE cf ρ Fm):=rfl
theorem es_nil:cu cf ρ []=ac []:=rfl
noncomputable def oC(a:yX D)(b:yX (yN D)):yX (yN D):=match a with
 | some d=>(match b with | some ds=>ac (d::ds) | none=>y7)
 | none=>y7
theorem es_cons(e:ME)(r:yN ME):cu cf ρ (e::r)=oC (evE cf ρ e) (cu cf ρ r):=rfl
noncomputable def oB(s:yU)(r:yX D)(a:yX D):yX D:=match a with
 | some d=>(match bW d with
  | some t=>if t=s then ac d else r
  | none=>y7)
 | none=>y7
theorem vM(s:yU)(r:yX D)(t:yU):oB s r (ac (.bool t))=if t=s then ac (.bool s) else r:=by
 unfold oB bW
 by_cases h:t=s
 ·subst h;rfl
 ·simp[h]
theorem b_and(e a:ME)(r:yN ME):gP cf ρ .And (e::a::r)=oB yM (gP cf ρ .And (a::r)) (evE cf ρ e):=rfl
theorem b_or(e a:ME)(r:yN ME):gP cf ρ .Or (e::a::r)=oB yP (gP cf ρ .Or (a::r)) (evE cf ρ e):=rfl
theorem c_nil:n0 cf ρ []=ac yP:=rfl
end
theorem uo(f:D->yX (yX D))(Q:D->D->Prop):∀ (E8:yN D),(∀ it∈E8,∃ d,Q it d/\f it=ac (ac d))->∃ ds,bS f E8=ac ds/\ds.length=E8.length/\∀ d∈ds,∃ it∈E8,Q it d
 | [],_=>⟨[],QQ,QQ,λZ h=>nomatch h⟩
 | it::r,h=>by
  obtain⟨d,q,e⟩:=h it (by simp)
  obtain⟨ds,b,c,hq⟩:=uo f Q r λi a=>h i (by simp[a])
  refine⟨d::ds,by simp[bS,e,b],by simp[c],?_⟩
  intro j hd
  rcases zc.mp hd with rfl | hd
  ·exact⟨it,by simp,q⟩
  ·obtain⟨i,a,m⟩:=hq j hd
   exact⟨i,by simp[a],m⟩
theorem fT{cf:CF}{ρ:yN (yS×D)}{elt:ME}{x:yS}{a d:D}(h:evE cf ((x,a)::ρ) elt=ac d):k5 cf ρ elt x [] a=ac (ac d):=by
 unfold k5;simp[c_nil,h]
theorem eI(n:Nat):D.items (.rng 0 n)=ac ((zt n).map λ(i:Nat)=>D.int (i:Int)):=by
 simp[D.items]
noncomputable def Ex(h:Heap)(H:y0->Prop):Prop:=∀ a,H a->∃ b o,@LE.le Nat _ a b/\gat h b=ac o
theorem Ex.fresh{h:Heap}{H:y0->Prop}(x:Ex h H):¬ H h.objs.size:=λe=>by
 obtain⟨b,o,a,c⟩:=x _ e;exact Af _ (y3 a (Heap.gt_lt c))
theorem Ex.keeps{h h':Heap}{H:y0->Prop}(x:Ex h H)(c:KH h h'):Ex h' H:=λa e=>by
 obtain⟨b,o,f,i⟩:=x _ e;exact⟨b,o,f,c _ _ i⟩
inductive bQ(s:yY):yY->Prop
 | mk (h tk dr) (k:KH s.heap h):bQ s { s with heap:=h,toks:=tk,drawn:=dr }
theorem Kp.refl(s:yY):bQ s s:=.mk s.heap s.toks s.drawn λZ Z e=>e
theorem Kp.tok(s:yY)(t:Nat):bQ s { s with toks:=t }:=.mk s.heap t s.drawn λZ Z e=>e
theorem Kp.push(s:yY)(o:Obj):bQ s { s with heap:=s.heap.push o }:=.mk _ s.toks s.drawn λZ Z e=>Heap.gt_push_of_some _ e
theorem Kp.trans{s s' c:yY}(a:bQ s s')(b:bQ s' c):bQ s c:=bQ.rec (motive:=λs' Z=>∀ c,bQ s' c->bQ s c) (λZ Z Z k Z b=>b.rec λh t d f=>.mk h t d λx o e=>f x o (k x o e)) a c b
theorem Kp.heap{s s':yY}(a:bQ s s'):KH s.heap s'.heap:=a.rec λZ Z Z k=>k
inductive bA(w:zD)(s:yY)(H:y0->Prop)(d:D)(v:yR)(s':yY):Prop
 | mk (k:bQ s s') (r:Rep w.params s'.heap H v d)
theorem bA.k{w:zD}{s:yY}{H:y0->Prop}{d:D}{v:yR}{s':yY}(q:bA w s H d v s'):bQ s s':=q.rec λk Z=>k
theorem bA.r{w:zD}{s:yY}{H:y0->Prop}{d:D}{v:yR}{s':yY}(q:bA w s H d v s'):Rep w.params s'.heap H v d:=q.rec λZ r=>r
theorem bA.tr{w:zD}{s a b:yY}{H:y0->Prop}{d:D}{v:yR}(k:bQ s a)(q:bA w a H d v b):bA w s H d v b:=⟨Kp.trans k q.k,q.r⟩
inductive eX(s:yY)(t b:yU)(s':yY):Prop
 | mk (k:bQ s s') (e:b=t)
theorem eX.k{s:yY}{t b:yU}{s':yY}(q:eX s t b s'):bQ s s':=q.rec λk Z=>k
theorem eX.e{s:yY}{t b:yU}{s':yY}(q:eX s t b s'):b=t:=q.rec λZ e=>e
theorem eX.tr{s a:yY}{t b:yU}{s':yY}(k:bQ s a)(q:eX a t b s'):eX s t b s':=⟨Kp.trans k q.k,q.e⟩
inductive jn(P:zT)(h:Heap)(H:y0->Prop)(a:y0)(ds:yN D):Prop
 | mk {vs n} (ho:h.get? a=ac (fY vs n)) (hl:ds.length<=big) (hr:ao P h (λb=>H b\/b=a) vs.toList ds)
inductive n9(P:zT)(h:Heap)(H:y0->Prop)(a:y0)(ks vs:yN D):Prop
 | mk {es n} (ho:h.get? a=ac (n6 es n)) (hl:ks.length<=big) (h1:ao P h (λb=>H b\/b=a) (es.toList.map (·.key)) ks) (h2:ao P h (λb=>H b\/b=a) (es.toList.map (·.val)) vs) (hh:es.toList.map (·.hash)=ks.map (iz P)) (hk:ks.all D.isKey=yP) (hd:ks.Nodup) (hs:(a == Dv)=yM)
noncomputable def dM(P:zT)(h:Heap)(H:y0->Prop)(a:y0)(d:D):Prop:=match d with
 | .list ds=>jn P h H a ds
 | .dict ks vs=>n9 P h H a ks vs
 | _=>False
section
variable {P:zT} {h h':Heap} {H H':y0->Prop} {a:y0} {d:D} {ds ks vs:yN D}
@[elab_as_elim] theorem dM.cases{C:D->Prop}(o:dM P h H a d)(b:∀ ds,jn P h H a ds->C (.list ds))(c:∀ ks vs,n9 P h H a ks vs->C (.dict ks vs)):C d:=
 D.casesOn (motive_1:=λd=>dM P h H a d->C d) d (λo=>o.elim) (λZ o=>o.elim) (λZ o=>o.elim) (λZ o=>o.elim) (λZ o=>o.elim) b c (λZ Z o=>o.elim)
  (λZ o=>o.elim)
  o
theorem jn.rep(o:jn P h H a ds)(b:¬ H a):Rep P h H (.ref a) (.list ds):=o.rec λc f i=>.mk c b f (i.mono (λZ Z Z e=>e) λZ Z Z q=>.inl q)
theorem n9.rep(o:n9 P h H a ks vs)(b:¬ H a):Rep P h H (.ref a) (.dict ks vs):=o.rec λc f h1 i j m n s=>.mk c b f (h1.mono (λZ Z Z e=>e) λZ Z Z q=>.inl q) (i.mono (λZ Z Z e=>e) λZ Z Z q=>.inl q) j m n s
theorem dM.rep(o:dM P h H a d)(b:¬ H a):Rep P h H (.ref a) d:=o.cases (λZ o=>o.rep b) λZ Z o=>o.rep b
theorem dM.off{h':Heap}{H':y0->Prop}(o:dM P h H a d):Rep P h' H' (.ref a) d->¬ H' a:=o.cases (C:=λd=>Rep P h' H' (.ref a) d->¬ H' a) (λZ Z r=>mz.off (mkO:=fY) r QQ) λZ Z Z r=>qG.rec (motive:=λv Z=>v=.ref a->¬ H' a) (λZ b Z Z Z Z Z Z Z e=>vD b e) r QQ
theorem dM.obj(o:dM P h H a d):∃ o,h.get? a=ac o/\bL o=yM:=o.cases (C:=λZ=>∃ o,h.get? a=ac o/\bL o=yM) (λZ o=>o.rec λb Z Z=>⟨_,b,QQ⟩) λZ Z o=>o.rec λb Z Z Z Z Z Z Z=>⟨_,b,QQ⟩
theorem dM.ex(o:dM P h H a d):∃ o,gat h a=ac o:=o.obj.elim λo q=>⟨o,Heap.gt_of q.1 q.2⟩
theorem dM.notTab(o:dM P h H a d):∀ o,h.get? a=ac o->bL o=yM:=o.obj.elim λZ q=>ce q.1 q.2
theorem dM.scalar(o:dM P h H a d):d.scalar=yM:=o.cases (λZ Z=>QQ) λZ Z Z=>QQ
noncomputable abbrev w9(h:Heap)(H H':y0->Prop)(a:y0):Prop:=∀ b o,gat h b=ac o->H' b->H b\/b=a
theorem r4(c:oa h H h')(f:w9 h H H' a){l:yN yR}(r:ao P h (λb=>H b\/b=a) l ds):ao P h' (λb=>H' b\/b=a) l ds:=r.mono (λb o i e=>c b o (λq=>i (.inl q)) e) λb o e q=>q.elim (f b o e) .inr
theorem jn.mono(o:jn P h H a ds)(b:∀ o,gat h a=ac o->gat h' a=ac o)(c:oa h H h')(f:w9 h H H' a):jn P h' H' a ds:=o.rec λi j m=>⟨Heap.of_gt (b _ (Heap.gt_of i)),j,r4 c f m⟩
theorem n9.mono(o:n9 P h H a ks vs)(f:∀ o,gat h a=ac o->gat h' a=ac o)(b:oa h H h')(c:w9 h H H' a):n9 P h' H' a ks vs:=o.rec λi j h1 m n q s t=>⟨Heap.of_gt (f _ (Heap.gt_of i)),j,r4 b c h1,r4 b c m,n,q,s,t⟩
theorem dM.mono(o:dM P h H a d)(b:∀ o,gat h a=ac o->gat h' a=ac o)(c:oa h H h')(f:w9 h H H' a):dM P h' H' a d:=o.cases (λZ o=>o.mono b c f) λZ Z o=>o.mono b c f
theorem dM.sub(o:dM P h H a d)(c:∀ b,H' b->H b):dM P h H' a d:=o.mono (λZ e=>e) (λZ Z Z e=>e) λb Z Z q=>.inl (c b q)
end
theorem cz{α:Type}{o:yX α}{x:α}{C:Prop}(h:o=ac x)(h':o=y7):C:=by cases h.symm.trans h'
theorem vP{h h':Heap}{a:y0}(c:∀ o,gat h a=ac o->∃ b,gat h' a=ac b)(e:gat h' a=y7):gat h a=y7:=by
 cases q:gat h a with
 | none=>rfl
 | some o=>exact (c o q).elim λb f=>cz f e
theorem lW{h h':Heap}{a:y0}(b:KH h h')(e:gat h' a=y7):gat h a=y7:=vP (λo q=>⟨o,b a o q⟩) e
inductive Fr(P:zT)(h0 h:Heap)(H:y0->Prop)(d:D):yR->Prop
 | mk {a} (e:gat h0 a=y7) (o:dM P h H a d):Fr P h0 h H d (.ref a)
theorem Fr.old{P:zT}{b a h:Heap}{H:y0->Prop}{d:D}{v:yR}(f:Fr P b h H d v)(c:KH a b):Fr P a h H d v:=f.rec λe o=>⟨lW c e,o⟩
theorem Fr.sub{P:zT}{a h:Heap}{H H':y0->Prop}{d:D}{v:yR}(f:Fr P a h H d v)(c:∀ b,H' b->H b):Fr P a h H' d v:=f.rec λe o=>⟨e,o.sub c⟩
inductive cE(w:zD)(s:yY)(H:y0->Prop)(d:D)(fr:yU)(v:yR)(s':yY):Prop
 | mk (k:bQ s s') (r:Rep w.params s'.heap H v d) (f:fr=yP->Fr w.params s.heap s'.heap H d v)
section
variable {α:Type}{C c:Prop}{d:D}
theorem cE.post{w:zD}{s s':yY}{H:y0->Prop}{fr:yU}{v:yR}(q:cE w s H d fr v s'):bA w s H d v s':=q.rec λk r Z=>⟨k,r⟩
theorem cE.tr{w:zD}{s a b:yY}{H:y0->Prop}{fr:yU}{v:yR}(k:bQ s a)(q:cE w a H d fr v b):cE w s H d fr v b:=q.rec λc r f=>⟨Kp.trans k c,r,λe=>(f e).old (Kp.heap k)⟩
theorem bA.pf{w:zD}{s a:yY}{H:y0->Prop}{fr:yU}{v:yR}(q:bA w s H d v a)(h:fr=yM):cE w s H d fr v a:=⟨q.k,q.r,λe=>nomatch h.symm.trans e⟩
theorem dq(h:Heap):gat h h.objs.size=y7:=Heap.gt_none_of_le (ze _)
theorem not_size{h:Heap}{a:y0}{o:Obj}(e:gat h a=ac o)(q:a=h.objs.size):C:=cz e (q▸dq h)
theorem kB{w:zD}{s:yY}{H:y0->Prop}{vs:zw yR}{ds:yN D}{h':Heap}{n tk:Nat}{b:Drawn}(f:Ex s.heap H)(h:ds.length<=big)(i:ao w.params s.heap H vs.toList ds)(c:KH s.heap h')
  (j:h'.get? s.heap.objs.size=ac (fY vs n)):cE w s H (.list ds) yP (.ref s.heap.objs.size) { s with heap:=h',toks:=tk,drawn:=b }:=
 have E7:jn w.params h' H s.heap.objs.size ds:=⟨j,h,i.mono (λa o Z e=>c a o e) λa o e q=>q.elim id (not_size e)⟩
 ⟨.mk h' tk b c,E7.rep f.fresh,λZ=>⟨dq _,E7⟩⟩
theorem aj{x:α}(h:none=ac x):C:=by cases h
theorem bj[Decidable c]{x d:α}(h:(if c then ac x else y7)=ac d)(k:c->x=d->C):C:=by
 by_cases a:c
 ·rw[y8 a] at h;exact k a (yW h)
 ·rw[za a] at h;exact aj h
theorem cN[Decidable c]{x:yX α}{d:α}(h:(if c then x else y7)=ac d)(k:c->x=ac d->C):C:=by
 by_cases a:c
 ·rw[y8 a] at h;exact k a h
 ·rw[za a] at h;exact aj h
theorem dm[Decidable c]{x y:yX α}{d:α}(h:(if c then x else y)=ac d)(k:c->x=ac d->C)(b:¬ c->y=ac d->C):C:=by
 by_cases a:c
 ·rw[y8 a] at h;exact k a h
 ·rw[za a] at h;exact b a h
theorem iU{c:Type}{o:yX α}{f:α->yX c}{b:c}(h:o.bind f=ac b)(k:∀ a,o=ac a->f a=ac b->C):C:=by
 cases o with
 | none=>exact aj h
 | some a=>exact k a QQ h
theorem bO{c:Type}{o:yX α}{f:α->c}{b:c}(h:o.map f=ac b)(k:∀ a,o=ac a->f a=b->C):C:=by
 cases o with
 | none=>exact aj h
 | some a=>exact k a QQ (yW h)
end
section
variable {α:Type} {r:α} {d:D} {C:D->Prop}
@[elab_as_elim] theorem eu{f:Int->yX α}(h:onI d f=ac r)(k:∀ i,f i=ac r->C (.int i)):C d:=
 D.casesOn (motive_1:=λd=>onI d f=ac r->C d) d (λh=>aj h) (λZ h=>aj h) k (λZ h=>aj h) (λZ h=>aj h) (λZ h=>aj h) (λZ Z h=>aj h) (λZ Z h=>aj h)
  (λZ h=>aj h)
  h
@[elab_as_elim] theorem oz{f:Str->yX α}(h:onS d f=ac r)(k:∀ i,f i=ac r->C (.str i)):C d:=
 D.casesOn (motive_1:=λd=>onS d f=ac r->C d) d (λh=>aj h) (λZ h=>aj h) (λZ h=>aj h) k (λZ h=>aj h) (λZ h=>aj h) (λZ Z h=>aj h) (λZ Z h=>aj h)
  (λZ h=>aj h)
  h
@[elab_as_elim] theorem onB_inv{f:yU->yX α}(h:onB d f=ac r)(k:∀ i,f i=ac r->C (.bool i)):C d:=
 D.casesOn (motive_1:=λd=>onB d f=ac r->C d) d (λh=>aj h) k (λZ h=>aj h) (λZ h=>aj h) (λZ h=>aj h) (λZ h=>aj h) (λZ Z h=>aj h) (λZ Z h=>aj h)
  (λZ h=>aj h)
  h
@[elab_as_elim] theorem r5{f:yN D->yX α}(h:onT d f=ac r)(k:∀ i,f i=ac r->C (.tup i)):C d:=
 D.casesOn (motive_1:=λd=>onT d f=ac r->C d) d (λh=>aj h) (λZ h=>aj h) (λZ h=>aj h) (λZ h=>aj h) k (λZ h=>aj h) (λZ Z h=>aj h) (λZ Z h=>aj h)
  (λZ h=>aj h)
  h
@[elab_as_elim] theorem r7{f:yN D->yX α}(h:onL d f=ac r)(k:∀ i,f i=ac r->C (.list i)):C d:=
 D.casesOn (motive_1:=λd=>onL d f=ac r->C d) d (λh=>aj h) (λZ h=>aj h) (λZ h=>aj h) (λZ h=>aj h) (λZ h=>aj h) k (λZ Z h=>aj h) (λZ Z h=>aj h)
  (λZ h=>aj h)
  h
@[elab_as_elim] theorem vG{f:Int->yX α}{g:Str->yX α}(h:onC d f g=ac r)(k:∀ i,f i=ac r->C (.int i))(a:∀ x,g x=ac r->C (.str x)):C d:=
 D.casesOn (motive_1:=λd=>onC d f g=ac r->C d) d (λh=>aj h) (λZ h=>aj h) k a (λZ h=>aj h) (λZ h=>aj h) (λZ Z h=>aj h) (λZ Z h=>aj h)
  (λZ h=>aj h)
  h
end
section
variable {P:zT} {h:Heap} {H:y0->Prop} {v:yR} {C:yR->Prop}
@[elab_as_elim] theorem Rep.intE{i:Int}(r:Rep P h H v (.int i))(k:∀ t,C (.int i t)):C v:=yB.rec (motive:=λv Z=>C v) k r
@[elab_as_elim] theorem Rep.strE{x:Str}(r:Rep P h H v (.str x))(k:∀ t,C (.str x t)):C v:=yA.rec (motive:=λv Z=>C v) k r
@[elab_as_elim] theorem Rep.boolE{b:yU}(r:Rep P h H v (.bool b))(k:C (.bool b)):C v:=(show v=.bool b from r)▸k
@[elab_as_elim] theorem Rep.noneE(r:Rep P h H v .none)(k:C .none):C v:=(show v=.none from r)▸k
@[elab_as_elim] theorem Rep.tupE{ds:yN D}(r:Rep P h H v (.tup ds))(k:∀ a vs n,h.get? a=ac (ec vs n)->¬ H a->ds.length<=big->ao P h H vs.toList ds->C (.ref a)):C v:=mz.rec (motive:=λv Z=>C v) (λb c f i=>k _ _ _ b c f i) r
@[elab_as_elim] theorem Rep.listE{ds:yN D}(r:Rep P h H v (.list ds))(k:∀ a vs n,h.get? a=ac (fY vs n)->¬ H a->ds.length<=big->ao P h H vs.toList ds->C (.ref a)):C v:=mz.rec (motive:=λv Z=>C v) (λb c f i=>k _ _ _ b c f i) r
end
section
variable {Fd:zv} {w:zD} {A:zF} {E:yR->yY->Prop} {s:yY} {H:y0->Prop}
section
variable {d b:D}{a i:Int}{k:Nat}{t:Tok}
theorem wU(h:a.natAbs<2 ^ k):Builtin.Int.intBits a<=k:=by
 unfold Builtin.Int.intBits
 split
 ·exact zn _
 ·rename_i b
  exact (Nat.log2_lt λe=>b (by simp;omega)).mpr h
theorem sR{n:Int}{m:Nat}(e:(m:Int)=n)(h:-n<a/\a<n):a.natAbs<m:=by subst e;omega
theorem wV(h:-lim<a/\a<lim):Builtin.Int.intBits a<=64:=wU (sR (DZ 2 64) h)
theorem bits_le1000(h:-fG<a/\a<fG):Builtin.Int.intBits a<=1000:=wU (sR (DZ 2 1000) h)
theorem ao.appendA{P:zT}{h:Heap}{vs ws:zw yR}{ds es:yN D}(r:ao P h H vs.toList ds)(k:ao P h H ws.toList es):ao P h H (vs++ws).toList (ds++es):=by rw[D8];exact r.append k
theorem lh{vs:zw yR}{ds:yN D}(a:Ex s.heap H)(b:ds.length<=big)(c:ao w.params s.heap H vs.toList ds) :
  Rep w.params (s.heap.push (ec vs 0)) H (.ref s.heap.objs.size) (.tup ds):=
 .mk (Heap.get?_push_size _ QQ) a.fresh b (c.keeps λZ Z e=>Heap.gt_push_of_some _ e)
theorem iv:bA w s H (.int i) (.int i t) { s with toks:=k }:=⟨Kp.tok _ _,.mk t⟩
theorem qY{i:Str}:bA w s H (.str i) (.str i t) { s with toks:=k }:=⟨Kp.tok _ _,.mk t⟩
theorem cL{b:yU}:bA w s H (.bool b) (.bool b) { s with toks:=k }:=⟨Kp.tok _ _,QQ⟩
theorem binI_snd{b:AU}{j:Int}{u:Tok}(he:binI b i j=ac d):wpAny (y6 Fd w) A (binaryOp b (.int i t) (.int j u)) (bA w s H d) E s:=by
 cases b with
 | Add=>exact yW he▸PyProof.Rows.add_int iv
 | Sub=>exact yW he▸PyProof.Rows.sub_int iv
 | Mult=>exact bj he λa e=>e▸PyProof.Rows.mul_int iv (a.elim (λh=>.of_left (wV h)) λh=>.of_right (wV h))
 | Mod=>exact bj he λa e=>e▸PyProof.Rows.mod_int (Int.ne_of_gt a) (Int.fmod_eq_emod_of_nonneg i (Dk a)▸iv)
 | Pow=>exact bj he λa e=>e▸PyProof.Rows.pow_int a.2.2.1 (A9 (Int.mul_le_mul (AD.mpr (bits_le1000 ⟨a.1,a.2.1⟩)) a.2.2.2 a.2.2.1 (by decide)) (by decide)) iv
 | FloorDiv=>exact bj he λa e=>e▸PyProof.Rows.floordiv_int (Int.ne_of_gt a.1) (Int.fdiv_eq_ediv_of_nonneg i (Dk a.1)▸iv) (.inl (PyProof.noPylong_of_log2 (Aj ((Nat.log2_lt (by omega)).mpr (sR (DZ 2 64) ⟨Ba (by decide) a.1,a.2⟩)) (by decide))))
 | _=>exact aj he
theorem binS_snd{f:AU}{x:Str}{y:yR}(c:Rep w.params s.heap H y b)(he:binS f x b=ac d):wpAny (y6 Fd w) A (binaryOp f (.str x t) y) (bA w s H d) E s:=by
 cases f with
 | Add=>exact oz (C:=λb=>Rep w.params s.heap H y b->_) he (λz he c=>bj he λa e=>e▸c.strE λu=>PyProof.Rows.add_str (λh tk=>qY) a) c
 | Mult=>
  refine eu (C:=λb=>Rep w.params s.heap H y b->_) he (λn he c=>bj he λa e=>e▸c.intE λu=>SB.mul ⟨by simp;exact om55 a,λg1 Z=>?_,λg1 Z=>?_⟩ λh k=>qY) c
  ·have:(1000:Int)<=(2 ^ 63 - 1) / n:=(Int.le_ediv_iff_mul_le (om56 g1)).mpr (om57 a)
   exact om58 a this
  ·exact Aq (Ac.mpr (yQ (CO a.2.2 (Int.toNat_le.mpr a.2.1)) (by decide)))
 | _=>exact aj he
theorem binL_snd{a:AU}{x y:yR}{as:yN D}(i:Rep w.params s.heap H x (.list as))(c:Rep w.params s.heap H y b)(j:Ex s.heap H)(he:binL a as b=ac d) :
  wpAny (y6 Fd w) A (binaryOp a x y) (cE w s H d d.isList) E s:=by
 cases a with
 | Add=>exact r7 (C:=λb=>Rep w.params s.heap H y b->_) he (λm he c=>bj he λf e=>e▸i.listE λZ Z Z o1 Z Z h=>c.listE λZ Z Z o2 Z Z r2=>
   P.add_list o1 o2 (kB j (zd▸f) (h.appendA r2) (λZ Z e=>Heap.gt_push_of_some _ e) (Heap.get?_push_size _ QQ)) (h.size▸r2.size▸f)) c
 | _=>exact aj he
theorem nH{P:zT}{h:Heap}{vs:zw yR}{ds:yN D}(r:ao P h H vs.toList ds)(a:vs.isEmpty=yP):ds=[]:=BV (r.size▸Array.size_eq_zero_iff.mpr (Ev.mp a))
theorem binT_snd{h:AU}{x y:yR}{as:yN D}(m:Rep w.params s.heap H x (.tup as))(i:Rep w.params s.heap H y b)(n:Ex s.heap H)(he:binT h as b=ac d) :
  wpAny (y6 Fd w) A (binaryOp h x y) (bA w s H d) E s:=by
 cases h with
 | Add=>
  refine r5 (C:=λb=>Rep w.params s.heap H y b->_) he (λB he i=>bj he λj e=>e▸m.tupE λa1 o n1 o1 q t c=>i.tupE λa2 u n2 o2 q2 z r2=>?_) i
  by_cases f:o.isEmpty=yP
  ·exact concat_meets ⟨_,o1,QQ⟩ ⟨_,o2,QQ⟩ noFill_tuple_add seq_tuple_add PySem.F.slot_tuple_add PySem.F.entry_tuple_add (PySem.F.args_tuple_add_2 _ _) (AutoSeq1.tuple___add___tuple_tuple_0 _ _ _ _ _ _ f) ⟨o1,o2,Kp.refl _,(nH c f).symm▸.mk o2 q2 z r2⟩
  ·by_cases a:u.isEmpty=yP
   ·exact concat_meets ⟨_,o1,QQ⟩ ⟨_,o2,QQ⟩ noFill_tuple_add seq_tuple_add PySem.F.slot_tuple_add PySem.F.entry_tuple_add (PySem.F.args_tuple_add_2 _ _) (AutoSeq1.tuple___add___tuple_tuple_1 _ _ _ _ _ _ f a) ⟨o1,o2,Kp.refl _,(nH r2 a).symm▸(zy as).symm▸.mk o1 q t c⟩
   ·exact P.add_tuple o1 o2 f a ⟨Kp.push _ _,lh n (zd▸j) (c.appendA r2)⟩ (c.size▸r2.size▸j)
 | _=>exact aj he
theorem binI_plain{a:AU}{j:Int}(he:binI a i j=ac d):d.isList=yM:=by
 cases a with
 | Add | Sub=>exact yW he▸rfl
 | Mult | Mod | Pow | FloorDiv=>exact bj he λZ e=>e▸rfl
 | _=>exact aj he
theorem binS_plain{a:AU}{x:Str}(he:binS a x b=ac d):d.isList=yM:=by
 cases a with
 | Add=>exact oz (C:=λZ=>d.isList=yM) he λZ he=>bj he λZ e=>e▸rfl
 | Mult=>exact eu (C:=λZ=>d.isList=yM) he λZ he=>bj he λZ e=>e▸rfl
 | _=>exact aj he
theorem binT_plain{a:AU}{x:yN D}(he:binT a x b=ac d):d.isList=yM:=by
 cases a with
 | Add=>exact r5 (C:=λZ=>d.isList=yM) he λZ he=>bj he λZ e=>e▸rfl
 | _=>exact aj he
theorem bI{α:Type}{M:Model}{c:Sem α}{Q a:α->yY->Prop}(h:wpAny M A c Q E s)(k:∀ v s',Q v s'->a v s'):wpAny M A c a E s:=CW h k λZ Z e=>e
theorem bin_snd{h:AU}{x y:yR}{a:D}(f:Rep w.params s.heap H x a)(c:Rep w.params s.heap H y b)(m:Ex s.heap H)(he:en h a b=ac d) :
  wpAny (y6 Fd w) A (binaryOp h x y) (cE w s H d d.isList) E s:=by
 cases a with
 | int i=>exact eu (C:=λb=>Rep w.params s.heap H y b->_) he (λj he c=>bI (f.intE λZ=>c.intE λZ=>binI_snd he) λZ Z q=>q.pf (binI_plain he)) c
 | str x=>exact bI (f.strE λZ=>binS_snd c he) λZ Z q=>q.pf (binS_plain he)
 | tup n=>exact bI (binT_snd f c m he) λZ Z q=>q.pf (binT_plain he)
 | list n=>exact binL_snd f c m he
 | _=>exact aj he
end
end
end Mine
namespace Mine
open PySem PySem.SeqAt
section
variable {Fd:zv} {w:zD} {A:zF} {E:yR->yY->Prop} {s:yY} {H H':y0->Prop}
theorem eqS_inv{C:D->D->yU->Prop}{a b:D}{k:yU}(he:eqS a b=ac k)(j:∀ x y,C (.bool x) (.bool y) (x == y))(c:∀ x y,C (.int x) (.int y) (x == y))(f:∀ x y,C (.int x) (.str y) yM)(h:∀ x y,C (.str x) (.int y) yM)(i:∀ x y,C (.str x) (.str y) (x == y)):C a b k:=by
 cases a with
 | bool x=>exact onB_inv (C:=λb=>C (.bool x) b k) he λy e=>yW e▸j x y
 | int x=>exact vG (C:=λb=>C (.int x) b k) he (λy e=>yW e▸c x y) λy e=>yW e▸f x y
 | str x=>exact vG (C:=λb=>C (.str x) b k) he (λy e=>yW e▸h x y) λy e=>yW e▸i x y
 | _=>exact aj he
structure Eq3(x y:yR)(k:yU):Prop where
 e:∀ A s,Cr A s x y k
 r:∀ A s,RcAt A s x y k
 n:∀ A s,RcNeAt A s x y (!k)
theorem oI{P:zT}{h:Heap}{x y:yR}{a b:D}{k:yU}(c:Rep P h H x a)(f:Rep P h H' y b)(he:eqS a b=ac k):Eq3 x y k:=
 eqS_inv (C:=λa b k=>Rep P h H x a->Rep P h H' y b->Eq3 x y k) he
  (λZ Z c f=>c.boolE (f.boolE ⟨λZ Z=>EqAt.bool_bool _ _,λZ Z=>RcAt.bool_bool _ _,λZ Z=>RcNeAt.bool_bool _ _⟩))
  (λZ Z c f=>c.intE λZ=>f.intE λZ=>⟨λZ Z=>EqAt.int_int _ _ _ _,λZ Z=>RcAt.int_int _ _ _ _,λZ Z=>RcNeAt.int_int _ _ _ _⟩)
  (λZ Z c f=>c.intE λZ=>f.strE λZ=>⟨λZ Z=>EqAt.int_str _ _ _ _,λZ Z=>RcAt.int_str _ _ _ _,λZ Z=>RcNeAt.int_str _ _ _ _⟩)
  (λZ Z c f=>c.strE λZ=>f.intE λZ=>⟨λZ Z=>EqAt.str_int _ _ _ _,λZ Z=>RcAt.str_int _ _ _ _,λZ Z=>RcNeAt.str_int _ _ _ _⟩)
  (λZ Z c f=>c.strE λZ=>f.strE λZ=>⟨λZ Z=>EqAt.str_str _ _ _ _,λZ Z=>RcAt.str_str _ _ _ _,λZ Z=>RcNeAt.str_str _ _ _ _⟩) c f
theorem aT{h:Heap}{a:y0}{vs:zw yR}{n:Nat}(b:h.get? a=ac (fY vs n)):h.IsList a vs:=⟨_,b,QQ,n,QQ⟩
theorem di{h:Heap}{a:y0}{vs:zw yR}{n:Nat}(b:h.get? a=ac (ec vs n)):h.IsTuple a vs:=⟨_,b,QQ,n,QQ⟩
theorem fC{h:Heap}{a:y0}{vs:zw yR}{n:Nat}(b:h.get? a=ac (ec vs n)):PyProof.Rows.IsTup h a vs:=⟨_,b,QQ,n,QQ⟩
structure Rc2(A:zF)(s:yY)(x y:yR)(k:yU):Prop where
 r:RcAt A s x y k
 n:RcNeAt A s x y (!k)
theorem Eq3.rc{x y:yR}{k:yU}(q:Eq3 x y k):Rc2 A s x y k:=⟨q.r A s,q.n A s⟩
structure Eq2(Fd:zv)(w:zD)(A:zF)(E:yR->yY->Prop)(s:yY)(H:y0->Prop)(x y:yR)(k:yU):Prop where
 e:wpAny (y6 Fd w) A (Ch .Eq x y) (bA w s H (.bool k)) E s
 n:wpAny (y6 Fd w) A (Ch .NotEq x y) (bA w s H (.bool (!k))) E s
theorem jy{b:yU}:bA w s H (.bool b) (.bool b) s:=⟨Kp.refl _,QQ⟩
theorem Rc2.two{x y:yR}{k:yU}(q:Rc2 A s x y k):Eq2 Fd w A E s H x y k:=⟨q.r Fd w E _ jy,q.n Fd w E _ jy⟩
noncomputable def qy(xs ys:yN yR)(e:Nat->yU):Prop:=∀ j (h1:j<xs.length) (a:j<ys.length) A s,Cr A s xs[j] ys[j] (e j)
section
variable {h:Heap}{n1 n2:Nat}
theorem rz{P:zT}{xs ys:yN yR}{ds es:yN D}{k:yU}(a:ao P h H xs ds)(b:ao P h H' ys es)(c:ds.length=es.length)(he:jZ ds es=ac k) :
  ∃ e:Nat->yU,(zt ds.length).all e=k/\qy xs ys e:=by
 induction ds generalizing xs ys es k with
 | nil=>
  cases es with
  | nil=>exact⟨λZ=>yP,yW he,λj h1=>by rw[show xs=[] from a] at h1;exact zA h1 (AZ _)⟩
  | cons=>cases c
 | cons d ds t=>
  cases es with
  | nil=>cases c
  | cons e es=>
   refine iU he λo h1 he=>bO he λw u he=>dT.rec (motive:=λxs Z=>∃ e:Nat->yU,(zt (d::ds).length).all e=k/\qy xs ys e) (λa f=>dT.rec (motive:=λys Z=>∃ e:Nat->yU,(zt (d::ds).length).all e=k/\qy _ ys e) (λb i=>?_) b) a
   refine (t f i (Ax c) u).elim λe q=>⟨λj=>Nat.casesOn j o e,?_,λj m n A s=>?_⟩
   ·rw[Ar,B2,Bc,BK]
    exact (zj (o&&·) q.1).trans he
   ·cases j with
    | zero=>exact (oI a b h1).e A s
    | succ j=>exact q.2 j (AN m) (AN n) A s
theorem qy.arr{a v2:zw yR}{e:Nat->yU}(q:qy a.toList v2.toList e){A:zF}{s:yY}(j:Nat)(b:j<a.size)(q2:j<v2.size):Cr A s a[j] v2[j] (e j):=q j b q2 A s
theorem eqL_snd{m n:y0}{a v2:zw yR}{j d2:yN D}{k:yU}(h1:s.heap.get? m=ac (fY a n1))(c:s.heap.get? n=ac (fY v2 n2))(f:ao w.params s.heap H a.toList j)(r2:ao w.params s.heap H' v2.toList d2)
  (h:A.units<Bl) (he:(if j.length=d2.length then jZ j d2 else ac yM)=ac k):Rc2 A s (.ref m) (.ref n) k:=
 dm he (λi he=>(rz f r2 i he).elim λe q=>
   have o:a.size=v2.size:=f.size.trans (i.trans r2.size.symm)
   have t:(zt a.size).all e=k:=f.size.symm▸q.1
   t▸⟨RcAt.lists (aT h1) (aT c) o h q.2.arr,RcNeAt.lists (aT h1) (aT c) o h q.2.arr⟩)
  λi he=>
   have b:(a.size != v2.size)=yP:=CX.mpr λe=>i (f.size.symm.trans (e.trans r2.size))
   yW he▸⟨RcAt.lists_lengths (aT h1) (aT c) b h,RcNeAt.lists_lengths (aT h1) (aT c) b h⟩
theorem ui{b c:y0}{a v2:zw yR}{k:yU}{e:Nat->yU}(h1:s.heap.get? b=ac (ec a n1))(f:s.heap.get? c=ac (ec v2 n2))(h:A.units<Bl)(q:∀ j (m:j<a.size) (q2:j<v2.size),Cr A.in1 s a[j] v2[j] (e j))(i:((zt (min a.size v2.size)).all e&&a.size == v2.size)=k):Rc2 A s (.ref b) (.ref c) k:=
 i▸⟨RcAt.tuples (di h1) (di f) h q,RcNeAt.tuples (di h1) (di f) h q⟩
theorem eqT_snd{b c:y0}{f v2:zw yR}{a d2:yN D}{k:yU}(h1:s.heap.get? b=ac (ec f n1))(j:s.heap.get? c=ac (ec v2 n2))(h:ao w.params s.heap H f.toList a)(r2:ao w.params s.heap H' v2.toList d2)
  (m:A.units<Bl) (i:a.length=d2.length) (he:jZ a d2=ac k):Rc2 A s (.ref b) (.ref c) k:=
 (rz h r2 i he).elim λe q=>ui h1 j m q.2.arr (by rw[h.size,r2.size,<- i,DW,q.1,zu,C8])
theorem eqT_nil{a b:y0}{c v2:zw yR}{f d2:yN D}(h1:s.heap.get? a=ac (ec c n1))(h:s.heap.get? b=ac (ec v2 n2))(i:ao w.params s.heap H c.toList f)(r2:ao w.params s.heap H' v2.toList d2)
  (m:A.units<Bl) (n:¬ f.length=d2.length) (o:d2.length=0):Rc2 A s (.ref a) (.ref b) yM:=
 ui (e:=λZ=>yP) h1 h m (λj q q2=>zA q2 (by rw[r2.size,o];exact AZ _)) (by rw[i.size,r2.size,Ay.mpr n,CN])
theorem eqD_snd{x y:yR}{a b:D}{k:yU}(i:Rep w.params s.heap H x a)(c:Rep w.params s.heap H' y b)(j:A.units<Bl)(he:eqD a b=ac k):Rc2 A s x y k:=by
 cases a with
 | tup ds=>exact r5 (C:=λb=>Rep w.params s.heap H' y b->Rc2 A s x y k) he (λes he c=>i.tupE λZ Z Z h1 Z Z f=>c.tupE λZ Z Z h Z Z r2=>dm he (eqT_snd h1 h f r2 j) λm he=>bj he λn e=>e▸eqT_nil h1 h f r2 j m n) c
 | list ds=>exact r7 (C:=λb=>Rep w.params s.heap H' y b->Rc2 A s x y k) he (λes he c=>i.listE λZ Z Z h1 Z Z f=>c.listE λZ Z Z h Z Z r2=>eqL_snd h1 h f r2 j he) c
 | _=>exact (oI i c he).rc
@[elab_as_elim] theorem mj{y:yR}{ks vs:yN D}{C:yR->Prop}(i:Rep w.params h H y (.dict ks vs))(b:ks.all D.isCell=yP)(k:∀ a es n (cs:yN CK),ks=cs.map bz->h.get? a=ac (n6 es n)->h.DictOf (cK Fd w) a (cs.zip (es.toList.map (·.val)))->ao w.params h H (es.toList.map (·.val)) vs->(a == Dv)=yM->cs.length=(es.toList.map (·.val)).length->cs.Nodup->C (.ref a)):C y:=
 (qd b).elim λcs e=>qG.rec (motive:=λv Z=>C v) (λc q s h1 j m b f o=>k _ _ _ cs e c (pY c (e▸h1) (e▸m) (e▸f)) j o ((yV (as:=cs) bz).symm.trans ((e▸h1.length.symm:(cs.map bz).length=_).trans (by rw[yV,yV]))) ((AX.mp (e▸f)).imp λh e=>h (zj bz e))) i
@[elab_as_elim] theorem ul{P:zT}{y:yR}{ks vs:yN D}{C:yR->Prop}(c:Rep P h H y (.dict ks vs))(b:ks.all D.isTK=yP)(k:∀ a es n (cs:yN (yN CK)),ks=cs.map e8->h.get? a=ac (n6 es n)->ao P h H (es.toList.map (·.key)) (cs.map e8)->ao P h H (es.toList.map (·.val)) vs ->
  es.toList.map (·.hash)=(cs.map e8).map (iz P)->(cs.map e8).Nodup->(a == Dv)=yM->C (.ref a)):C y:=
 (uI b).elim λcs e=>qG.rec (motive:=λv Z=>C v) (λf q s h1 i j b m o=>k _ _ _ cs e f (e▸h1) i (e▸j) (e▸m) o) c
theorem xY{xs:yN (yN CK×y0×yR)}{cs:yN (yN CK)}(h:xs.map (·.1)=cs):xs.map kD=cs.map e8:=by
 rw[<- h,Ad];rfl
theorem notIn_of_in{M:Model}{x c:yR}{j Q:yR->yY->Prop}(h:wpAny M A (Ch .In x c) j E s)(m:∀ b s',j (.bool b) s'->Q (.bool (!b)) s'):wpAny M A (Ch .NotIn x c) Q E s:=by
 intro a p f;have i:=h a p f;change Sem.wp _ a (Sem.bind (contains c x) λr=>Sem.pure (Value.bool r)) _ _ p s at i
 show Sem.wp _ a (Sem.bind (contains c x) λr=>Sem.pure (Value.bool (!r))) _ _ p s
 rw[Sem.wp_bind] at i ⊢;exact Sem.wp_mono _ a _ (λr n s' q=>m r s' q) (λZ Z Z q=>q) p s i
theorem mU{k:D}{ks:yN D}{C:Prop}(h:dQ k ks=yP)(h1:k.isCell=yP->ks.all D.isCell=yP->C)(a:k.isTK=yP->ks.all D.isTK=yP->C):C:=(Bd.mp h).elim (λh=>bR h h1) λh=>bR h a
theorem in_dict{x y:yR}{k:D}{ks vs:yN D}(i:Rep w.params s.heap H x k)(j:Rep w.params s.heap H y (.dict ks vs))(o:A.units+1<Bl)(q:dQ k ks=yP) :
  wpAny (y6 Fd w) A (Ch .In x y) (bA w s H (.bool (ks.any λx=>aO x k))) E s:=by
 refine mU q (λh1 f=>(gR h1).elim λc e=>?_) ?_
 ·subst e
  exact mj (Fd:=Fd) j f λa es n t e m u z h B Z=>wpAny_in_of (knd:=cK Fd w) (mH i) h u.mapOf (by rw[any_valueAt B,e];exact cL)
 ·refine λh1 f=>(sV h1).elim λc e=>?_
  subst e;refine ul j f λa es n t e m C z G I h=>?_
  obtain⟨b,rfl,J⟩:=rZ (Fd:=Fd) i;obtain⟨xs,L,e1,_,_⟩:=ng (Fd:=Fd) m C G I;refine wpAny_in_heap (knd:=TKd Fd w) o J h L ?_;rw[rG xs,xY e1,e];exact cL
theorem qh{P:zT}{x y:yR}{a b:D}(f:Rep P h H x a)(i:Rep P h H' y b)(j:a.isCell=yP)(m:b.isCell=yP):∀ A s,Cr A s x y (bw a b):=by
 obtain⟨c,rfl⟩:=gR j;obtain⟨n,rfl⟩:=gR m;exact (oI f i (by cases c <;> cases n <;> rfl)).e
end
noncomputable def fo:yR->D
 | .int i _=>.int i
 | .str x _=>.str x
 | _=>.none
theorem jC{P:zT}{h:Heap}{v:yR}{d:D}(r:Rep P h H v d)(a:d.isCell=yP):fo v=d:=by
 obtain⟨c,rfl⟩:=gR a;cases c
 ·exact Rep.intE (C:=λv=>fo v=_) r λZ=>QQ
 ·exact Rep.strE (C:=λv=>fo v=_) r λZ=>QQ
theorem eqv_any{P:zT}{h:Heap}{b:D}{vs:yN yR}{ds:yN D}(r:ao P h H vs ds)(a:ds.all D.isCell=yP):vs.any (λv=>bw (fo v) b)=ds.any λx=>bw x b:=by
 induction ds generalizing vs with
 | nil=>rw[show vs=[] from r];rfl
 | cons d ds c=>exact dT.rec (motive:=λvs Z=>vs.any (λv=>bw (fo v) b)=(d::ds).any λx=>bw x b) (λf i=>bR a λh1 j=>by rw[AI,AI,c i j,jC f h1]) r
theorem mem_eqv{P:zT}{h:Heap}{x:yR}{k:D}(c:Rep P h H x k)(f:k.isCell=yP){A:zF}{s:yY}{vs:yN yR}{ds:yN D}(r:ao P h H vs ds)(i:ds.all D.isCell=yP):∀ v∈vs,Cr A s v x (bw (fo v) k):=by
 induction ds generalizing vs with
 | nil=>rw[show vs=[] from r];exact λZ a=>nomatch a
 | cons d ds j=>exact dT.rec (motive:=λvs Z=>∀ v∈vs,Cr A s v x (bw (fo v) k)) (λb m v a=>bR i λh1 n=>(zc.mp a).elim (λe=>e▸(jC b h1).symm▸qh b c h1 f A s) (j m n v)) r
theorem in_tup{x y:yR}{k:D}{ds:yN D}(f:Rep w.params s.heap H x k)(h:Rep w.params s.heap H y (.tup ds))(i:(k.isCell&&ds.all D.isCell)=yP) :
  wpAny (y6 Fd w) A (Ch .In x y) (bA w s H (.bool (ds.any λx=>bw x k))) E s:=
 bR i λh1 b=>h.tupE λa vs n j o q c=>in_tupleAt (λv=>bw (fo v) k) (di j) (λv m=>mem_eqv f h1 c b v (CU.mpr m)) (by rw[<- Array.any_toList,eqv_any c b];exact jy)
theorem ik{P:zT}{h:Heap}{vs:yN yR}{ds:yN D}(r:ao P h H vs ds)(a:ds.all D.isCell=yP):vs.map fo=ds:=by
 induction ds generalizing vs with
 | nil=>rw[show vs=[] from r];rfl
 | cons d ds b=>exact dT.rec (motive:=λvs Z=>vs.map fo=d::ds) (λc f=>bR a λh1 i=>by rw[zm,b f i,jC c h1]) r
theorem nU:∀ a b:yN D,((zt (min a.length b.length)).all (λj=>bw (a.getD j .none) (b.getD j .none))&&a.length == b.length)=aB a b
 | [],[]=>rfl
 | [],_::_=>rfl
 | _::_,[]=>rfl
 | x::a,y::b=>by
  rw[Ar,Ar,Nat.succ_min_succ,B2,Bc,BK];show ((bw x y&&(zt (min a.length b.length)).all λj=>bw (a.getD j .none) (b.getD j .none))&&(a.length+1 == b.length+1))=(bw x y&&aB a b)
  rw[<- nU a b,Bool.and_assoc,show (a.length+1 == b.length+1)=(a.length == b.length) from Bg.mpr (by rw[Bh,Bh];exact⟨Ax,zj EG⟩)]
theorem lA:∀ {a:yN D},a.all D.isCell=yP->aB a a=yP
 | [],_=>rfl
 | x::a,h=>bR h λh1 b=>by
  obtain⟨c,rfl⟩:=gR h1;show (bw (bz c) (bz c)&&aB a a)=yP;rw[lA b,C8];cases c
  ·exact zu _
  ·exact zu _
theorem oS{h:Heap}{l:y0}{a v2:zw yR}{n1 n2:Nat}(h1:h.get? l=ac (ec a n1))(b:h.get? l=ac (ec v2 n2)):a=v2:=by
 rw[h1] at b;have e:=zj Obj.data (yW b);exact (Data.seq.inj e).1
theorem xD{x y:yR}{a b:yN D}(C:Rep w.params s.heap H x (.tup a))(E:Rep w.params s.heap H' y (.tup b))(i:a.all D.isCell=yP)(o:b.all D.isCell=yP)(G:A.units<Bl):Cr A s x y (aB a b):=
 C.tupE λl vs n t Z Z h=>E.tupE λI J M f Z Z c=>by
  by_cases e:l=I
  ·subst e
   have e:=oS t f;subst e;rw[<- (ik h i).symm.trans (ik c o),lA i];exact EqAt.same _
  ·refine EqAt.of_refs e ?_
   have q:=RcAt.tuples (A:=A) (s:=s) (e:=λj=>bw (a.getD j .none) (b.getD j .none)) (di t) (di f) G λj h1 z=>by
    have m:j<a.length:=h.size▸h1;have k2:j<b.length:=c.size▸z
    obtain⟨u,e1,L⟩:=h.get j (y4 m);obtain⟨v,B,r2⟩:=c.get j (y4 k2);rw[zW,Bi h1] at e1;rw[zW,Bi z] at B;rw[yW e1,yW B,zb,zb,y4 m,y4 k2];exact qh L r2 (zx.mp i _ (AJ m)) (zx.mp o _ (AJ k2)) _ _
   rw[h.size,c.size,nU] at q;exact q
theorem eR{d:D}{C:D->Prop}(h:d.isTK=yP)(k:∀ a,a.all D.isCell=yP->C (.tup a)):C d:=by
 cases d with
 | tup a=>exact k a h
 | _=>cases h
noncomputable def eTK(P:zT)(h:Heap)(H:y0->Prop)(k:D)(v:yR):yU:=@decide (∃ d,Rep P h H v d/\d.isTK=yP/\aO d k=yP) (Classical.propDecidable _)
section
variable {a b d:D}{h:Heap}{n:Nat}
theorem yl{P:zT}{v:yR}{k:D}(r:Rep P h H v d)(m:d.isTK=yP):eTK P h H k v=aO d k:=by
 unfold eTK;cases e:aO d k with
 | true=>exact @Ak _ (Classical.propDecidable _) ⟨d,r,m,e⟩
 | false=>
  refine @Aq _ (Classical.propDecidable _) λ⟨c,r',f,n⟩=>?_
  have:d=c:=by
   revert r r';refine eR (C:=λd=>Rep P h H v d->Rep P h H v c->d=c) m λa o=>eR (C:=λc=>Rep P h H v (.tup a)->Rep P h H v c->.tup a=c) f λb q r r'=>?_
   cases r with
   | mk s _ _ t=>cases r' with
    | mk i _ _ j=>
     have e:=oS s i;subst e;rw[(ik t o).symm.trans (ik j q)]
  rw[<- this,e] at n;cases n
theorem in_lst{x y:yR}{k:D}{ds:yN D}(j:Rep w.params s.heap H x k)(z:Rep w.params s.heap H y (.list ds))(B:A.units+1<Bl)(m:(k.isTK&&ds.all D.isTK)=yP) :
  wpAny (y6 Fd w) A (Ch .In x y) (bA w s H (.bool (ds.any λx=>aO x k))) E s:=
 bR m λh1 G=>z.listE λa vs n I M N i=>by
  have o:∀ {vs:yN yR} {ds:yN D},ao w.params s.heap H vs ds->ds.all D.isTK=yP->vs.any (eTK w.params s.heap H k)=ds.any (λx=>aO x k)/\∀ v∈vs,Cr A.in1 s v x (eTK w.params s.heap H k v):=by
   intro vs ds r m
   induction ds generalizing vs with
   | nil=>rw[show vs=[] from r];exact⟨QQ,λZ t=>nomatch t⟩
   | cons d ds u=>exact dT.rec (motive:=λvs Z=>vs.any (eTK w.params s.heap H k)=(d::ds).any (λx=>aO x k)/\∀ v∈vs,Cr A.in1 s v x (eTK w.params s.heap H k v)) (λc i=>bR m λf h=>⟨by rw[AI,AI,(u i h).1,yl c f],λv t=>(zc.mp t).elim (λe=>by
     rw[e,yl c f];revert c j;refine eR (C:=λd=>Rep w.params s.heap H x k->Rep w.params s.heap H _ d->Cr A.in1 s _ x (aO d k)) f λa J=>eR (C:=λk=>Rep w.params s.heap H x k->Rep w.params s.heap H _ (.tup a)->Cr A.in1 s _ x (aO (.tup a) k)) h1 λb L j c=>?_
     exact xD c j J L B) ((u i h).2 v)⟩) r
  have q:=o i G;exact in_listAt (eTK w.params s.heap H k) (aT I) (λv c=>q.2 v (CU.mpr c)) (by rw[<- Array.any_toList,q.1];exact jy)
theorem vU{x y:yR}{k:yU}(f:Rep w.params s.heap H x a)(h:Rep w.params s.heap H y b)(i:A.units+1<Bl)(he:mP a b=ac k) :
  wpAny (y6 Fd w) A (Ch .In x y) (bA w s H (.bool k)) E s:=by
 cases b with
 | tup ds=>exact bj he λc e=>e▸in_tup f h c
 | list ds=>exact bj he λc e=>e▸in_lst f h i c
 | dict ks vs=>exact bj he λc e=>e▸in_dict f h i c
 | _=>exact aj he
theorem ord_snd{f:CV}{x y:yR}(h:Rep w.params s.heap H x a)(c:Rep w.params s.heap H y b)(he:ordD f a b=ac d):wpAny (y6 Fd w) A (Ch f x y) (bA w s H d) E s:=by
 cases a with
 | int i=>
  refine eu (C:=λb=>Rep w.params s.heap H y b->_) he (λj he c=>h.intE λZ=>c.intE λZ=>?_) c
  cases f with
  | Lt=>exact yW he▸PyProof.Rows.lt_int jy
  | LtE=>exact yW he▸PyProof.Rows.le_int jy
  | Gt=>exact yW he▸PyProof.Rows.gt_int jy
  | GtE=>exact yW he▸PyProof.Rows.ge_int jy
  | _=>exact aj he
 | str x=>
  refine oz (C:=λb=>Rep w.params s.heap H y b->_) he (λj he c=>h.strE λZ=>c.strE λZ=>?_) c
  cases f with
  | Lt=>exact yW he▸PyProof.Rows.lt_str jy
  | _=>exact aj he
 | _=>exact aj he
theorem nv:∀ {cs:yN CK} {v2:yN yR} {j:Nat} {c:CK} {y:yR},cs.Nodup->cs[j]?=ac c->v2[j]?=ac y->Dd (cs.zip v2) c=ac y
 | [],_,j,_,_,_,h,_=>by simp at h
 | _::_,[],j,_,_,_,_,h=>by simp at h
 | c'::cs,m::v2,0,c,y,_,h1,a=>by
  cases h1;cases a;simp[Dd]
 | c'::cs,m::v2,j+1,c,y,b,h1,a=>by
  rw[Be] at b;have h1:cs[j]?=ac c:=h1;have f:c'≠c:=λe=>b.1 (e▸List.mem_of_getElem? h1)
  have i:=nv (v2:=v2) b.2 h1 a;unfold Dd at i ⊢;rw[Bn,List.find?_cons_of_neg (by simpa using f)]
  exact i
theorem wz{kb:yN (CK×yR)}:∀ {cs:yN CK} {f v2:yN yR} {e:Nat->yU},cs.length=f.length->cs.length=v2.length->(∀ (j:Nat) (c:CK) (y:yR),cs[j]?=ac c->v2[j]?=ac y->Dd kb c=ac y) ->
  (∀ j (h1:j<f.length) (i:j<v2.length),Cr A s f[j] v2[j] (e j))->PySem.W.KeqHits A s kb (cs.zip f) ((zt cs.length).all e)
 | [],_,_,_,_,_,_,_=>.nil
 | _::_,[],_,_,h,_,_,_=>by cases h
 | _::_,_::_,[],_,_,h,_,_=>by cases h
 | c::cs,v::f,y::v2,e,h1,i,m,n=>by
  have q:(zt (c::cs).length).all e=(e 0&&(zt cs.length).all (λj=>e (j+1))):=by
   rw[Ar,B2,Bc,BK];rfl
  rw[q];exact .hit (m 0 c y QQ QQ) (n 0 (Nat.zero_lt_succ _) (Nat.zero_lt_succ _)) (wz (Ax h1) (Ax i) (λj o t a b=>m (j+1) o t a b) λj a b=>n (j+1) (CY a) (CY b))
theorem qe:∀ {cs cs':yN CK} {ks:yN D},aB (cs.map bz) ks=yP->ks=cs.map bz
 | [],_,[],_=>rfl
 | [],_,_::_,h=>by cases h
 | _::_,_,[],h=>by cases h
 | c::cs,cs',k::ks,h=>by
  have h:(bw (bz c) k&&aB (cs.map bz) ks)=yP:=h;rw[Bo] at h;rw[qe (cs':=cs') h.2,zm]
  congr 1
  have h1:=h.1;cases c <;> cases k <;> first | (cases h1;done) | (have h1:(_ == _)=yP:=h1;rw[eq_of_beq h1];rfl)
theorem ofCK_maps{l a:yN CK}(h:l.map bz=a.map bz):l=a:=by
 induction l generalizing a with
 | nil=>cases a with
  | nil=>rfl
  | cons=>cases h
 | cons c l b=>cases a with
  | nil=>cases h
  | cons f a=>exact congr (zj Ej (pi (C5 h).1)) (b (C5 h).2)
theorem tk_inj{P:zT}{v:yR}{c:D}(r:Rep P h H v d)(r':Rep P h H' v c)(m:d.isTK=yP)(f:c.isTK=yP):d=c:=by
 revert r r';refine eR (C:=λd=>Rep P h H v d->Rep P h H' v c->d=c) m λa n=>eR (C:=λc=>Rep P h H v (.tup a)->Rep P h H' v c->.tup a=c) f λb o r r'=>?_
 cases r with
 | mk q _ _ s=>cases r' with
  | mk i _ _ j=>
   have e:=oS q i;subst e;rw[(ik s n).symm.trans (ik j o)]
theorem vj{P:zT}:∀ {vs:yN yR} {ds es:yN D},ao P h H vs ds->ao P h H' vs es->ds.all D.isTK=yP->es.all D.isTK=yP->ds=es
 | [],ds,es,r,r',_,_=>by
  have e1:=r.length;have a:=r'.length;rw[AR.mp e1.symm,AR.mp a.symm]
 | v::vs,ds,es,r,r',h1,b=>by
  cases ds with
  | nil=>cases r
  | cons d ds=>cases es with
   | nil=>cases r'
   | cons e es=>exact bR h1 λa1 a2=>bR b λc f=>by rw[tk_inj r.inv.1 r'.inv.1 a1 c,vj r.inv.2 r'.inv.2 a2 f]
theorem o0:∀ {a b:yN D},a.length=b.length->(zt a.length).all (λj=>aO (a.getD j .none) (b.getD j .none))=fF a b
 | [],[],_=>rfl
 | x::a,y::b,h=>by
  rw[Ar,B2,Bc,BK];show (aO x y&&(zt a.length).all λj=>aO (a.getD j .none) (b.getD j .none))=(aO x y&&fF a b)
  rw[o0 (Ax h)]
theorem vC:∀ {a b:yN D},a.length≠b.length->fF a b=yM
 | [],[],h=>zA QQ h
 | [],_::_,_=>rfl
 | _::_,[],_=>rfl
 | x::a,y::b,h=>by
  show (aO x y&&fF a b)=yM;rw[vC λe=>h (zj EG e),CN]
theorem qV:∀ {a:yN D},a.all D.isTK=yP->fF a a=yP
 | [],_=>rfl
 | x::a,h=>bR h λh1 b=>by
  show (aO x x&&fF a a)=yP;rw[qV b,C8];exact eR (C:=λx=>aO x x=yP) h1 λa c=>lA c
theorem lst_same{l:y0}{a v2:zw yR}{n1 n2:Nat}(h1:h.get? l=ac (fY a n1))(b:h.get? l=ac (fY v2 n2)):a=v2:=by
 rw[h1] at b;have e:=zj Obj.data (yW b);exact (Data.seq.inj e).1
theorem tab_eq{x y:yR}{a b:yN D}(N:Rep w.params s.heap H x (.list a))(O:Rep w.params s.heap H' y (.list b))(m:a.all D.isTK=yP)(J:b.all D.isTK=yP)(o:A.units+1<Bl):Cr A s x y (fF a b):=
 N.listE λl vs n t Z Z h=>O.listE λT U Y f Z Z c=>by
  by_cases e:l=T
  ·subst e
   have e:=lst_same t f;subst e;rw[<- vj h c m J,qV m];exact EqAt.same _
  ·refine EqAt.of_refs e ?_
   by_cases i:a.length=b.length
   ·have q:=RcAt.lists (A:=A) (s:=s) (e:=λj=>aO (a.getD j .none) (b.getD j .none)) (aT t) (aT f) (h.size.trans (i.trans c.size.symm)) (Aa o) λj h1 L=>by
     have z:j<a.length:=h.size▸h1;have k2:j<b.length:=c.size▸L
     obtain⟨u,e1,B⟩:=h.get j (y4 z);obtain⟨v,M,r2⟩:=c.get j (y4 k2);rw[zW,Bi h1] at e1;rw[zW,Bi L] at M;rw[yW e1,yW M,zb,zb,y4 z,y4 k2];have V:=zx.mp m _ (AJ z);have X:=zx.mp J _ (AJ k2);show Cr A.in1 s u v (aO a[j] b[j]);generalize a[j]=E at *;generalize b[j]=d2 at *;revert B r2;exact eR (C:=λE=>Rep w.params s.heap H u E->Rep w.params s.heap H' v d2->Cr A.in1 s u v (aO E d2)) V λc1 G=>eR (C:=λd2=>Rep w.params s.heap H u (.tup c1)->Rep w.params s.heap H' v d2->Cr A.in1 s u v (aO (.tup c1) d2)) X λc2 I B r2=>xD B r2 G I o
    rw[h.size,o0 i] at q;exact q
   ·rw[vC i]
    exact RcAt.lists_lengths (aT t) (aT f) (by rw[h.size,c.size];exact CX.mpr i) (Aa o)
theorem eqV_snd{x y:yR}{k:yU}(f:Rep w.params s.heap H x a)(c:Rep w.params s.heap H' y b)(h:A.units+1<Bl)(he:eqV a b=ac k):Cr A s x y k:=by
 cases a with
 | list ds=>exact r7 (C:=λb=>Rep w.params s.heap H' y b->Cr A s x y k) he (λes he c=>bj he λi e=>e▸bR i λh1 j=>tab_eq f c h1 j h) c
 | _=>exact (oI f c he).e A s
theorem eqAllV_snd{xs ys:yN yR}{ds es:yN D}{k:yU}(a:ao w.params s.heap H xs ds)(c:ao w.params s.heap H' ys es)(f:ds.length=es.length)(t:A.units+1<Bl)(he:nd ds es=ac k) :
  ∃ e:Nat->yU,(zt ds.length).all e=k/\∀ j (h1:j<xs.length) (b:j<ys.length),Cr A s xs[j] ys[j] (e j):=by
 induction ds generalizing xs ys es k with
 | nil=>
  cases es with
  | nil=>exact⟨λZ=>yP,yW he,λj h1=>by rw[show xs=[] from a] at h1;exact zA h1 (AZ _)⟩
  | cons=>cases f
 | cons d ds u=>
  cases es with
  | nil=>cases f
  | cons e es=>
   refine iU he λo h1 he=>bO he λy b he=>dT.rec (motive:=λxs Z=>∃ e:Nat->yU,(zt (d::ds).length).all e=k/\∀ j (h1:j<xs.length) (b:j<ys.length),Cr A s xs[j] ys[j] (e j)) (λa h=>dT.rec (motive:=λys Z=>∃ e:Nat->yU,(zt (d::ds).length).all e=k/\∀ j (h1:j<Dc (_::_)) (b:j<ys.length),Cr A s (_::_)[j] ys[j] (e j)) (λc i=>?_) c) a
   refine (u h i (Ax f) b).elim λe q=>⟨λj=>Nat.casesOn j o e,?_,λj m n=>?_⟩
   ·rw[Ar,B2,Bc,BK]
    exact (zj (o&&·) q.1).trans he
   ·cases j with
    | zero=>exact eqV_snd a c t h1
    | succ j=>exact q.2 j (AN m) (AN n)
theorem eqDict_snd{x y:yR}{ks vs u i:yN D}{k:yU}(U:Rep w.params s.heap H x (.dict ks vs))(V:Rep w.params s.heap H y (.dict u i))(B:A.units+2<Bl)(I:ks.all D.isCell=yP)(C:aB ks u=yP)(X:vs.length=i.length)(he:nd vs i=ac k):Eq2 Fd w A E s H x y k:=by
 refine mj (Fd:=Fd) U I λa es n t e h1 J L M m Y=>?_
 subst e;have e:=qe (cs':=t) C;subst e;refine mj (Fd:=Fd) V I λb o Fp Z e g1 N Fo O z EV=>?_
 have G:=ofCK_maps e;subst G;refine (eqAllV_snd (A:=A.in1) L Fo X B he).elim λe q=>?_
 have f:PySem.W.KeqHits A.in1 s (t.zip (o.toList.map (·.val))) (t.zip (es.toList.map (·.val))) k:=by
  have T:=wz (A:=A.in1) (s:=s) (kb:=t.zip (o.toList.map (·.val))) (e:=e) m z (λj c y a b=>nv Y a b) q.2
  rw[m,L.length,q.1] at T;exact T
 have h:((t.zip (es.toList.map (·.val))).length == (t.zip (o.toList.map (·.val))).length&&k)=k:=by
  rw[Di,Di,<- m,<- z,zu,Bool.true_and]
 exact⟨PySem.W.keq_eq M O J N (y3 (zo _ 2) B) (λEV=>f) (by rw[h];exact jy),PySem.W.keq_ne M O J N (y3 (zo _ 2) B) (λEV=>f) (by rw[h];exact jy)⟩
theorem wK{x y:yR}{k:yU}(c:Rep w.params s.heap H x a)(f:Rep w.params s.heap H y b)(h:A.units+2<Bl)(he:eqX a b=ac k):Eq2 Fd w A E s H x y k:=by
 cases a with
 | dict ks vs=>
  cases b with
  | dict i j=>exact cN he λm he=>iL m λh1 n o=>eqDict_snd c f h h1 n (eq_of_beq o) he
  | _=>exact aj he
 | _=>exact (eqD_snd c f (y3 (zo _ 2) h) he).two
theorem wO{j:CV}{x y:yR}(f:Rep w.params s.heap H x a)(h:Rep w.params s.heap H y b)(i:A.units+2<Bl)(he:eT j a b=ac d) :
  wpAny (y6 Fd w) A (Ch j x y) (bA w s H d) E s:=by
 cases j with
 | Eq=>exact bO he λk c e=>e▸(wK f h i c).e
 | NotEq=>exact bO he λk c e=>e▸(wK f h i c).n
 | In=>exact bO he λk c e=>e▸vU f h (Aa i) c
 | NotIn=>exact bO he λk c e=>e▸notIn_of_in (vU f h (Aa i) c) λb s' q=>⟨q.k,by cases q.r;rfl⟩
 | _=>exact ord_snd f h he
theorem se(h:n<=big):(n:Int)<2 ^ 63:=B3 (AD.mpr h) (by decide)
theorem uj{P:zT}{vs:zw yR}{ds:yN D}(r:ao P h H vs.toList ds):vs.isEmpty=ds.isEmpty:=by
 rw[Bg,Ev,Am,<- Array.size_eq_zero_iff,<- AR,r.size]
theorem io{x:yR}{t:yU}(c:Rep w.params s.heap H x a)(he:bW a=ac t) :
  wpAny (y6 Fd w) A (truthy x) (eX s t) E s:=by
 cases a with
 | none=>exact c.noneE (PyProof.Rows.truthy_none ⟨Kp.refl _,yW he⟩)
 | bool b=>exact c.boolE (wpAny_truthy_bool ⟨Kp.refl _,yW he⟩)
 | int i=>exact c.intE λZ=>PyProof.Rows.truthy_int ⟨Kp.refl _,yW he⟩
 | tup ds=>exact c.tupE λa vs n h Z j f=>PyProof.Rows.truthy_tuple (fC h) (f.size.symm▸se j) ⟨Kp.tok _ _,(zj _ (uj f)).trans (yW he)⟩
 | list ds=>exact c.listE λa vs n h Z j f=>wpAny_truthy_list (aT h) (f.size.symm▸se j) ⟨Kp.tok _ _,(zj _ (uj f)).trans (yW he)⟩
 | _=>exact aj he
theorem wx{k:Int}{j:Nat}{C:Prop}(h:idx k n=ac j)(b:0<=k->k<n->k.toNat=j->C)(k2:-(n:Int)<=k->k<0->(k+n).toNat=j->C):C:=
 dm h (λa e=>b a.1 a.2 (yW e)) λZ h=>bj h λa e=>k2 a.1 a.2 e
theorem sA{k:Int}{j:Nat}(h:idx k n=ac j):seqIndex? k n=ac j/\-(n:Int)<=k/\k<n:=by
 unfold seqIndex?;refine wx h (λh1 a e=>?_) λh1 a e=>?_
 ·subst e
  have e:¬ k<0:=Ce.mpr h1;simp only[e,CA];simp[h1,a];exact om59 h1
 ·subst e
  simp only[a,Ed];have b:0<=k+n:=by exact om60 h1
  have c:k+n<n:=by exact om61 a
  simp[b,c];exact om62 h1 a
end
noncomputable def yH(s:yY)(x:yR):Prop:=∃ T id,s.TypeIs x T/\typeLookup (.type T) "__getitem__"=pure (ac (.builtin id))
theorem get_str{x:Str}{t u:Tok}{k:Int}(a:0<=k/\k<x.length/\x.length<=big):wpAny (y6 Fd w) A (DR (.str x t) (.int k u)) (bA w s H (.str (cy x k.toNat))) E s:=by
 refine PyProof.Rows.getItem_str (c:=x.cps.getD k.toNat 0) ?_ ?_ qY
 ·have:=se a.2.2
  simp;exact om63 a this
 ·have h1:idx k x.length=ac k.toNat:=y8 ⟨a.1,a.2.1⟩
  rw[(sA h1).1];have b:k.toNat<x.cps.size:=(Int.toNat_lt a.1).mpr a.2.1;simp[Array.getD,b]
theorem get_seq{l:y0}{vs:zw yR}{n j:Nat}{ds:yN D}{k:Int}{u:Tok}{v:yR}{d:D}(c:s.heap.get? l=ac (fY vs n))(i:ds.length<=big)(f:ao w.params s.heap H vs.toList ds)(m:idx k ds.length=ac j)(a:vs.toList[j]?=ac v)(r:Rep w.params s.heap H v d) :
  wpAny (y6 Fd w) A (DR (.ref l) (.int k u)) (bA w s H d) E s:=by
 have h:=se i;have a:vs[j]?=ac v:=zW.symm.trans a;refine wx m (λh1 b e=>?_) λh1 b e=>?_
 ·exact wpAny_getItem_list (aT c) h1 (Ba b h) (e▸a) ⟨Kp.refl _,r⟩
 ·exact wpAny_getItem_list_neg (aT c) b (f.size.symm▸h1) (om64 h h1) (f.size.symm▸e▸a) ⟨Kp.refl _,r⟩
theorem getItem_snd{x i:yR}{a b d:D}(L:A.units+1<Bl)(m:Rep w.params s.heap H x a)(hi:Rep w.params s.heap H i b)(he:aV a b=ac d) :
  wpAny (y6 Fd w) A (DR x i) (bA w s H d) E s/\yH s x:=by
 cases a with
 | str x=>exact eu (C:=λb=>Rep w.params s.heap H i b->_) he (λk he hi=>bj he λu e=>e▸m.strE λEV=>hi.intE λEV=>⟨get_str u,"str",_,typeIs_str _ _ _,F.slot_str_getitem.lookup⟩) hi
 | tup ds=>exact eu (C:=λb=>Rep w.params s.heap H i b->_) he (λk he hi=>iU he λj y he=>m.tupE λa vs n f M t o=>hi.intE λEV=>(o.get j he).elim λv q=>
   have h:=sA y
   have G:=se t
   ⟨PyProof.Rows.getItem_tuple (fC f) (A9 (om65 G) h.2.1) (Ba h.2.2 G) (o.size.symm▸h.1) (zW.symm.trans q.1) ⟨Kp.refl _,q.2⟩,"tuple",_,(fC f).typeIs,F.slot_tuple_getitem.lookup⟩) hi
 | list ds=>exact eu (C:=λb=>Rep w.params s.heap H i b->_) he (λk he hi=>iU he λj y he=>m.listE λa vs n f M t o=>hi.intE λEV=>(o.get j he).elim λv q=>
   ⟨get_seq f t o y q.1 q.2,"list",_,(aT f).typeIs,F.slot_list_getitem.lookup⟩) hi
 | dict ks vs=>
  refine cN he λu he=>mU u (λh1 z=>(gR h1).elim λc e=>?_) ?_
  ·subst e
   exact mj (Fd:=Fd) m z λa es n N e f I B O t EV=>(dget_valueAt B (e▸he)).elim λv q=>⟨wpAny_getItem_of (knd:=cK Fd w) (mH hi) I.mapOf q.1 ⟨Kp.tok _ _,q.2⟩,"dict",_,I.mapOf.typeIs,slot_dict_getitem.lookup⟩
  ·refine λh1 z=>(sV h1).elim λc e=>?_
   subst e;refine ul m z λa es n N e f T B U V O=>?_
   obtain⟨b,rfl,X⟩:=rZ (Fd:=Fd) hi;obtain⟨xs,J,e1,_,Y⟩:=ng (Fd:=Fd) f T U V;rw[e,<- xY e1] at he;obtain⟨p,Z,Fo⟩:=dget_atKey (Y▸B) he;exact⟨wpAny_getItem_heap (knd:=TKd Fd w) L X J Z ⟨Kp.tok _ _,Fo⟩,"dict",_,J.typeIs,slot_dict_getitem.lookup⟩
 | _=>exact aj he
end
section
variable {Fd:zv} {w:zD} {A:zF} {E:yR->yY->Prop} {s:yY} {H H':y0->Prop}
theorem ri{T:yS}{C:yS->Prop}(h:T="str"\/T="bool"\/T="int"\/T="tuple"\/T="list")(h1:C "str")(a:C "bool")(b:C "int")(c:C "tuple")(f:C "list"):C T:=
 h.elim (λe=>e▸h1) λh=>h.elim (λe=>e▸a) λh=>h.elim (λe=>e▸b) λh=>h.elim (λe=>e▸c) λe=>e▸f
theorem isi_snd{x:yR}{a:D}{T:yS}{t:yU}(f:Rep w.params s.heap H x a)(he:pH a T=ac t) :
  wpAny (y6 Fd w) A (call (.builtin "isinstance") [x,.type T]) (bA w s H (.bool t)) E s:=by
 unfold pH at he;refine cN he λh he=>?_
 cases a with
 | bool b=>exact yW he▸f.boolE (ri (C:=λT=>wpAny (y6 Fd w) A (call (.builtin "isinstance") [.bool b,.type T]) (bA w s H (.bool (T == "int"||T == "bool"))) E s) h (IsiPair.bool_str cL) (IsiPair.bool_bool jy) (IsiPair.bool_int jy) (IsiPair.bool_tuple cL) (IsiPair.bool_list cL))
 | int i=>exact yW he▸f.intE λu=>ri (C:=λT=>wpAny (y6 Fd w) A (call (.builtin "isinstance") [.int i u,.type T]) (bA w s H (.bool (T == "int"))) E s) h (IsiPair.int_str cL) (IsiPair.int_bool cL) (IsiPair.int_int jy) (IsiPair.int_tuple cL) (IsiPair.int_list cL)
 | str x=>exact yW he▸f.strE λu=>ri (C:=λT=>wpAny (y6 Fd w) A (call (.builtin "isinstance") [.str x u,.type T]) (bA w s H (.bool (T == "str"))) E s) h (IsiPair.str_str jy) (IsiPair.str_bool cL) (IsiPair.str_int cL) (IsiPair.str_tuple cL) (IsiPair.str_list cL)
 | tup ds=>exact yW he▸f.tupE λa vs n c Z Z Z=>ri (C:=λT=>wpAny (y6 Fd w) A (call (.builtin "isinstance") [.ref a,.type T]) (bA w s H (.bool (T == "tuple"))) E s) h (IsiPair.tuple_str c QQ cL) (IsiPair.tuple_bool c QQ cL) (IsiPair.tuple_int c QQ cL) (IsiPair.tuple_tuple c QQ jy) (IsiPair.tuple_list c QQ cL)
 | list ds=>exact yW he▸f.listE λa vs n c Z Z Z=>ri (C:=λT=>wpAny (y6 Fd w) A (call (.builtin "isinstance") [.ref a,.type T]) (bA w s H (.bool (T == "list"))) E s) h (IsiPair.list_str c QQ cL) (IsiPair.list_bool c QQ cL) (IsiPair.list_int c QQ cL) (IsiPair.list_tuple c QQ cL) (IsiPair.list_list c QQ jy)
 | _=>exact aj he
noncomputable def yx:yN yS:=["len","isinstance","sum","max","min","sorted"]
noncomputable def dZ(f:yS):yR:=cond (yx.contains f) (.builtin f) (.type f)
theorem natAbs_log2{i:Int}(h:-rT<i/\i<rT):i.natAbs.log2<1920:=by
 have b:=sR (DZ 10 100) h
 by_cases a:i.natAbs=0
 ·rw[a];decide
 ·exact (Nat.log2_lt a).mpr (Aj b (by decide +kernel))
theorem len_snd{x:yR}{a d:D}(c:Rep w.params s.heap H x a)(he:lenD a=ac d):wpAny (y6 Fd w) A (call (.builtin "len") [x]) (bA w s H d) E s:=by
 cases a with
 | str x=>exact bj he λi e=>e▸c.strE λZ=>PyProof.Rows.len_str (Int.not_le.mpr (se i)) iv
 | tup ds=>exact yW he▸c.tupE λa vs n f Z h b=>b.size▸PyProof.Rows.len_tuple (fC f) (b.size.symm▸se h) iv
 | list ds=>exact yW he▸c.listE λa vs n f Z h b=>b.size▸PyProof.Rows.len_list (aT f) (b.size.symm▸se h) iv
 | _=>exact aj he
theorem vX(s:yY)(o:Obj)(t:Nat)(d:Drawn):bQ s { s with heap:=s.heap.push o,toks:=t,drawn:=d }:=.mk _ _ _ λZ Z e=>Heap.gt_push_of_some _ e
theorem bltI_snd{f:yS}{i:Int}{t:Tok}{d:D}(c:Ex s.heap H)(he:bltI f i=ac d):wpAny (y6 Fd w) A (call (dZ f) [.int i t]) (bA w s H d) E s:=
 dm he (λb he=>bj he λa e=>b▸e▸call_range_1 ⟨vX _ _ _ _,.mk (IsRange.new _ _ _ _ _ _ _) c.fresh ⟨a.2.1,a.2.2,a.1⟩⟩)
  λZ he=>cN he λb he=>bj he λa e=>b▸e▸P.str_of_int (natAbs_log2 a) qY
theorem bltI2_snd{f:yS}{i j:Int}{t u:Tok}{d:D}(h:A.handled=y7)(m:Ex s.heap H)(he:bltI2 f i j=ac d):wpAny (y6 Fd w) A (call (dZ f) [.int i t,.int j u]) (bA w s H d) E s:=by
 refine dm he (λa he=>bj he λb e=>a▸e▸call_range_2 ⟨vX _ _ _ _,.mk (IsRange.new _ _ _ _ _ _ _) m.fresh ⟨b.2.1,b.2.2,b.1⟩⟩)
  λZ he=>dm he (λa he=>a▸yW he▸max_two_ints h λh' tk c=>?_) λZ he=>bj he λa e=>a▸e▸min_two_ints h λh' tk c=>?_
 ·split <;> exact⟨.mk h' tk _ (Heap.gt_up c),.mk _⟩
 ·split <;> exact⟨.mk h' tk _ (Heap.gt_up c),.mk _⟩
theorem ints_rep{P:zT}{h:Heap}{vs:yN yR}{ds:yN D}{k:Int}(r:ao P h H vs ds)(e:nW ds=ac k):∃ xs:yN (Int×Tok),vs=xs.map (λp=>.int p.1 p.2)/\(xs.map (·.1)).sum=k:=by
 induction ds generalizing vs k with
 | nil=>exact⟨[],r,yW e⟩
 | cons d ds a=>
  refine dT.rec (motive:=λvs Z=>∃ xs:yN (Int×Tok),vs=xs.map (λp=>.int p.1 p.2)/\(xs.map (·.1)).sum=k) (λ{v vs} b c=>?_) r
  cases d with
  | int i=>exact Rep.intE (C:=λv=>∃ xs:yN (Int×Tok),v::vs=xs.map (λp=>.int p.1 p.2)/\(xs.map (·.1)).sum=k) b λt=>bO e λj f q=>(a c f).elim λxs z=>⟨(i,t)::xs,zj _ z.1,by rw[zm,List.sum_cons,z.2];exact q⟩
  | _=>exact aj e
theorem preSum_sum(xs:yN (Int×Tok)):preSum (numAt xs.toArray) xs.toArray.size=(xs.map (·.1)).sum:=by
 rw[preSum_eq,CB (by simp)]
theorem sum_snd{a:y0}{vs:zw yR}{n:Nat}{ds:yN D}{k:Int}(b:A.handled=y7)(c:s.heap.get? a=ac (fY vs n))(f:ao w.params s.heap H vs.toList ds)(he:nW ds=ac k):wpAny (y6 Fd w) A (call (.builtin "sum") [.ref a]) (bA w s H (.int k)) E s:=by
 refine (ints_rep f he).elim λxs q=>?_
 have h:vs=intItems xs.toArray:=by
  apply Array.toList_inj.mp;rw[q.1];simp[intItems]
 refine sum_intListG (xs:=xs.toArray) b (h▸aT c) λh' tk j i=>?_
 rw[preSum_sum,q.2];exact⟨.mk h' tk _ (Heap.gt_up i),.mk _⟩
theorem tupL_snd{x:yR}{ds:yN D}(h:Rep w.params s.heap H x (.list ds))(i:Ex s.heap H):wpAny (y6 Fd w) A (call (.type "tuple") [x]) (bA w s H (.tup ds)) E s:=
 h.listE λa vs n j m c f=>call_tuple_list (aT j) (λh' b=>have b:=Heap.gt_up b;⟨.mk _ _ _ λZ Z q=>Heap.gt_push_of_some _ (b _ _ q),.mk (Heap.get?_push_size _ QQ) (i.keeps b).fresh c (f.keeps λZ Z q=>Heap.gt_push_of_some _ (b _ _ q))⟩) (f.size.symm▸c)
theorem blt1_snd{f:yS}{x:yR}{a d:D}(o:A.handled=y7)(j:Rep w.params s.heap H x a)(m:Ex s.heap H)(he:gI f [a]=ac d):wpAny (y6 Fd w) A (call (dZ f) [x]) (bA w s H d) E s:=by
 refine dm (c:=f="len") he (λh he=>h▸len_snd j he) λZ he=>?_
 cases a with
 | int i=>exact j.intE λZ=>bltI_snd m he
 | bool b=>exact bj he λh e=>h▸e▸j.boolE (call_int_bool iv)
 | str x=>exact bj he λh e=>h▸e▸j.strE λZ=>P.str_of_str ⟨Kp.refl _,.mk _⟩
 | list ds=>exact dm he (λh e=>h▸yW e▸tupL_snd j m) λZ he=>cN he λh he=>bO he λk q e=>h▸e▸j.listE λa vs n t y z u=>sum_snd o t u q
 | _=>exact aj he
theorem blt_snd{f:yS}{xs:yN yR}{as:yN D}{d:D}(h:A.handled=y7)(o:ao w.params s.heap H xs as)(m:Ex s.heap H)(he:gI f as=ac d) :
  wpAny (y6 Fd w) A (call (dZ f) xs) (bA w s H d) E s:=by
 cases as with
 | nil=>exact aj he
 | cons a as=>exact dT.rec (motive:=λxs Z=>wpAny (y6 Fd w) A (call (dZ f) xs) (bA w s H d) E s) (λ{v vs} h1 n=>by
   cases as with
   | nil=>rw[show vs=[] from n];exact blt1_snd h h1 m he
   | cons b as=>exact dT.rec (motive:=λvs Z=>wpAny (y6 Fd w) A (call (dZ f) (v::vs)) (bA w s H d) E s) (λ{u q} c t=>by
     cases as with
     | nil=>rw[show q=[] from t];exact eu (C:=λa=>Rep w.params s.heap H v a->_) he (λi he h1=>eu (C:=λb=>Rep w.params s.heap H u b->_) he (λj he c=>h1.intE λZ=>c.intE λZ=>bltI2_snd h m he) c) h1
     | cons=>exact aj he) n) o
theorem reps_keys{P:zT}{h:Heap}{vs:yN yR}{cs:yN CK}(a:vs.length=cs.length)(b:∀ (j:Nat) (v:yR),vs[j]?=ac v->∃ k,cs[j]?=ac k/\CK.is k v=yP):ao P h H vs (cs.map bz):=by
 induction cs generalizing vs with
 | nil=>exact BV a
 | cons c cs f=>cases vs with
  | nil=>cases a
  | cons v vs=>exact .mk ((b 0 v QQ).elim λk q=>yo (yW q.1▸q.2)) (f (Ax a) λj i e=>b (j+1) i e)
theorem lst_snd{x:yR}{a:D}{ds:yN D}(J:A.handled=y7)(o:Rep w.params s.heap H x a)(u:Ex s.heap H)(he:uU a=ac ds) :
  wpAny (y6 Fd w) A (call (.type "list") [x]) (cE w s H (.list ds) yP) E s:=by
 cases a with
 | tup es=>exact yW he▸o.tupE λa vs n t L b h=>call_list_seq _ (.inr QQ) t QQ QQ (λh' B i f=>kB u b h (Heap.gt_up i) f) (h.size.symm▸b)
 | list es=>exact yW he▸o.listE λa vs n t L b h=>call_list_seq _ (.inl QQ) t QQ QQ (λh' B i f=>kB u b h (Heap.gt_up i) f) (h.size.symm▸b)
 | dict ks vs=>
  refine bj he λM e=>e▸?_
  have m:ks.length<=big:=qG.rec (motive:=λZ Z=>ks.length<=big) (λZ Z b Z Z Z Z Z Z=>b) o
  refine mj (Fd:=Fd) o M λa es n y C t f T N b Z=>?_
  obtain⟨ep,O⟩:=f.dictAt;have G:(y.zip (es.toList.map (·.val))).length=y.length:=by rw[Di,<- b,DW]
  have z:ks.length=y.length:=by rw[C,yV]
  refine PySem.W.kdl_call (PySem.W.kdl_dict N) J O (by rw[G,<- z];exact yQ m (by decide)) λh' tk I B i f c=>?_
  exact kB u m (C▸reps_keys (by rw[zP,c.1,G]) λj v e=>(c.2 j v (by rw[<- zW];exact e)).elim λk q=>q.elim λx q=>⟨k,(List.getElem?_zip_eq_some.mp q.1).1,q.2⟩) (Heap.gt_up i) f
 | _=>exact aj he
end
section
variable {Fd:zv} {w:zD} {A:zF} {E:yR->yY->Prop} {s:yY}
theorem iter_keys{d:y0}{es:zw Ct}{ep:Nat}{Q:yR->yY->Prop}(c:(d == Dv)=yM)(a:s.heap.get? d=ac (n6 es ep))
  (f:Q (.ref s.heap.objs.size) { s with heap:=s.heap.push { cls:=.type "dict_keyiterator",data:=.fields #[.ref d,.int 0 0,.int es.size 0,.int ep 0] } }):wpAny (y6 Fd w) A (DG (.ref d)) Q E s:=by
 have b:s.TypeIs (.ref d) "dict":=⟨_,a,QQ⟩;refine DB b F.slot_dict_iter (AV F.slot_dict_iter b F.entry_dict_iter ?_ (F.args_dict_iter_1 _));unfold Bz.«dict.__iter__» Builtin.Dict.dictSlotNone Builtin.Dict.showsAll;refine yT (yT (wpAny_notOrdered_dict b (y9 ?_)));refine yT (y9 ?_);dsimp only;rw[za (by rw[c];exact y5)]
 refine yT (y9 (yT (wpAny_dictEntries a QQ (yT (wpAny_dictEpoch a QQ ?_)))));exact yT (Ah (y9 ⟨_,QQ,"dict_keyiterator",_,⟨_,Heap.get?_push_size _ QQ,QQ⟩,F.slot_dict_keyiterator_next.lookup,f⟩))
theorem re{c d:y0}{i ep:Nat}{es:zw Ct}{Q:yX yR->yY->Prop}(y:A.handled=y7)(hit:s.heap.IsKeyIter c d i es.size ep)(j:s.heap.get? d=ac (n6 es ep))
  (h1:∀ (hi:i<es.size) h',h'.IsKeyIter c d (i+1) es.size ep->Heap.SameBut c s.heap h'->Q (ac es[i].key) { s with heap:=h' })
  (z:es.size<=i->∀ h',Heap.ExtBut c s.heap h'->Q y7 { s with heap:=h' }):wpAny (y6 Fd w) A (Ca (.ref c)) Q E s:=by
 obtain⟨o,u,B,n⟩:=id hit;unfold Ca;refine yT (C9 (BX (name:=yO "__next__") hit.typeIs F.slot_dict_keyiterator_next
  (AV F.slot_dict_keyiterator_next hit.typeIs F.entry_dict_keyiterator_next ?_ (F.args_dict_keyiterator_next_1 _))))
 refine yT (y9 (yT (yT ?_)))
 first | refine yT (CG hit.typeIs (y9 ?_)) | refine yT (Dm hit.typeIs (y9 ?_))
 refine yT (wpAny_fieldsOf u n ?_);have q:Builtin.Dict_items.ownsTuple "dict_keyiterator"=yM:=by decide
 simp only[q,B5,CA];show wpAny _ _ (if (Value.ref d == Value.none)=yP then _ else _) _ _ s
 rw[za (show ¬ ((Value.ref d == Value.none)=yP) from y5)];refine yT (y9 (yT (wpAny_dictEntries j QQ ?_)));rw[za (by simp)]
 refine yT (y9 (yT (wpAny_dictEpoch j QQ ?_)));rw[za (by simp)]
 refine y9 ?_
 by_cases h:i<es.size
 ·simp only[show ¬ ((i:Int)<0) from by exact uS,CA,Br,Bi h]
  refine yT ?_
  first | refine yT (CG hit.typeIs (y9 ?_)) | refine yT (Dm hit.typeIs (y9 ?_))
  refine yT (wpAny_isOneOf_keyiter hit.typeIs ?_);show wpAny _ _ (Do (.ref c) 1 (Bw ((i:Int)+1)) >>= _) _ _ s;refine yT (Dw u n (by simp) ?_)
  have f:(s.heap.update c (Obj.mapFields (·.setIfInBounds 1 (Bw ((i:Int)+1))))).IsKeyIter c d (i+1) es.size ep:=
   ⟨_,Heap.get?_update_self _ u (Obj.isFreed_of_fields (Obj.data_mapFields n _)),(Obj.cls_mapFields ..).trans B,by rw[Obj.data_mapFields n];simp[Bw]⟩
  refine yT (Bx ?_);refine yT (wpAny_isOneOf_keyiter (s:={ s with heap:=s.heap.update c (Obj.mapFields (·.setIfInBounds 1 (Bw ((i:Int)+1)))) }) f.typeIs ?_)
  show wpAny _ _ (pure es[i].key) _ _ _;exact y9 (y9 ⟨_,QQ,y9 (h1 h _ f (Heap.SameBut.update ..))⟩)
 ·have t:es.size<=i:=by exact om66 h
  simp only[show ¬ ((i:Int)<0) from by exact uS,CA,Br,DH t]
  refine yT ?_
  first | refine yT (CG hit.typeIs (y9 ?_)) | refine yT (Dm hit.typeIs (y9 ?_))
  show wpAny _ _ (Do (.ref c) 0 .none >>= _) _ _ s;refine yT (Dw u n (by simp) ?_)
  show wpAny _ _ (Ek (.type "StopIteration") [] >>= _) _ _ _;refine yT ?_;simp only[Ek,newTuple];refine yT (Ah ?_ (by size_fits))
  refine yT (m:=CP _ _) (BH (a:=Value.none) (by first | rfl | (simp only[CP];rfl)) ?_)
  refine Ah ?_ (by size_fits)
  simp only[EH];refine yT (wpAny_handled ?_);rw[show A.in1.handled=y7 from y];refine yT (y9 (wpAny_throw ?_));refine yT (CZ (T:="StopIteration") (b:=yP) ⟨_,Heap.get?_push_size _ QQ,QQ⟩ isSubtype_stop ?_);exact y9 (z t _ (((Heap.SameBut.update ..).extBut.push _).push _))
theorem walks_keys(t:A.handled=y7)(I d:y0)(n:d≠I)(es:zw Ct)(ep:Nat) :
  C0 Fd w A I [I,d] [I] es.size (λi v=>(es.toList.map (·.key))[i]?=ac v) (λi h=>h.IsKeyIter I d i es.size ep/\h.get? d=ac (n6 es ep)) where
 sub:=λb a=>by simp at a;simp[a]
 frame:=λZ Z Z st u=>⟨st.1.at λo e=>u I (by simp) o e,u d (by simp) _ st.2⟩
 item:=λi s Q E m st c=>re t st.1 st.2 (λZ h' f j=>c _ h' s.toks (by simp[m]) ⟨f,(j.2 d n).trans st.2⟩ λb o a e=>j.extBut b o (λh=>a (by simp[h])) e) λh=>zA m (om67 h)
 done:=λs Q E st c=>re t st.1 st.2 (λm=>zA m (Af _)) λZ h' q=>c h' s.toks λb o a e=>q b o (λh=>a (by simp[h])) e
 self:=λZ Z Z Z st c=>wpAny_pyIter_keyiter st.1 c
end
section
variable {Fd:zv} {w:zD} {A:zF} {E:yR->yY->Prop} {s:yY} {H H':y0->Prop}
inductive rK(Fd:zv)(w:zD)(A:zF)(h:Heap)(H:y0->Prop)(E8:yN D)(I:y0)(E0:Heap):Prop
 | mk {fp P St} (W:C0 Fd w A I fp [I] E8.length P St) (st:St 0 E0) (fpo:∀ b∈fp,b=I\/(¬ H b/\∃ o,gat h b=ac o)) (item:∀ i v,i<E8.length->P i v->∃ d,E8[i]?=ac d/\Rep w.params h H v d) (live:∀ i h,St i h->∃ o,gat h I=ac o) (tab:∀ b∈fp,∀ i h o,St i h->h.get? b=ac o->bL o=yM)
structure IterAt(Fd:zv)(w:zD)(A:zF)(s₁:yY)(H:y0->Prop)(E8:yN D)(I:y0)(s₂:yY):Prop where
 keeps:bQ s₁ s₂
 fresh:gat s₁.heap I=y7
 ex:∃ o,gat s₂.heap I=ac o
 walk:rK Fd w A s₁.heap H E8 I s₂.heap
inductive qx(Fd:zv)(w:zD)(A:zF)(s:yY)(H:y0->Prop)(E8:yN D):yR->yY->Prop
 | mk {I s₂} (q:IterAt Fd w A s H E8 I s₂):qx Fd w A s H E8 (.ref I) s₂
section
variable {n:Nat}{St:Nat->Heap->Prop}{h:Heap}
theorem eD{I:y0}{fp f:yN y0}{P:Nat->yR->Prop}(W:C0 Fd w A I fp f n P St)(c:∀ b∈fp,∀ i h o,St i h->h.get? b=ac o->bL o=yM)
  (i:Nat) (h h':Heap) (st:St i h) (j:∀ b∈fp,∀ o,gat h b=ac o->gat h' b=ac o):St i h':=
 W.frame i h h' st λb a o e=>Heap.of_gt (j b a o (Heap.gt_of e (c b a i h o st e))) (c b a i h o st e)
theorem kr{I:y0}{fp:yN y0}{P:Nat->yR->Prop}(W:C0 Fd w A I fp [I] n P St)(c:∀ b∈fp,∀ i h o,St i h->h.get? b=ac o->bL o=yM)
  {i:Nat} {h h':Heap} (st:St i h) (f:∀ b o,b ∉ [I]->h.get? b=ac o->h'.get? b=ac o):∀ b o,b ∉ [I]->gat h b=ac o->gat h' b=ac o:=
 Heap.gt_lift (λb o e a q=>by rw[c b (W.sub b q) i h o st e] at a;cases a) f
theorem fO{α:Type}{a b x:α}{C:Prop}(h:x∈[a,b])(h1:x=a->C)(c:x=b->C):C:=(zc.mp h).elim h1 λh=>c (zg.mp h)
theorem eG{o:Obj}{T:yS}(h:o.cls=.type T)(a:T≠"code"):bL o=yM:=notTab_cls (by rw[h];nofun) λe=>a (Value.type.inj (h.symm.trans e))
theorem fW{a:y0}{o b:Obj}(e:h.get? a=ac o)(c:h.get? a=ac b)(f:bL o=yM):bL b=yM:=yW (e.symm.trans c)▸f
theorem v8{P:zT}{vs:zw yR}{ds:yN D}(a:ao P h H vs.toList ds){i:Nat}{v:yR}(hi:i<ds.length)(b:vs[i]?=ac v):∃ d,ds[i]?=ac d/\Rep P h H v d:=
 (a.get i (y4 hi)).elim λc q=>⟨_,y4 hi,yW (q.1.symm.trans (zW.trans b))▸q.2⟩
theorem tQ{T T':yS}{a I:y0}{mkO:zw yR->Nat->Obj}{vs:zw yR}{ds:yN D}{E0:Heap}{P:Nat->yR->Prop}(W:C0 Fd w A I [I,a] [I] vs.size P St)(st:St 0 E0)(j:ao w.params h H vs.toList ds)(s:h.get? a=ac (mkO vs n))(t:bL (mkO vs n)=yM)(u:¬ H a)
  (y:∀ i v,P i v->vs[i]?=ac v) (h1:∀ i h,St i h->∃ o,h.get? I=ac o/\o.cls=.type T) (B:∀ i h,St i h->∃ o,h.get? a=ac o/\o.cls=.type T') (m:T≠"code") (c:T'≠"code"):rK Fd w A h H ds I E0:=
 ⟨j.size▸W,st,λb f=>fO f .inl λe=>.inr (e▸⟨u,_,Heap.gt_of s t⟩),λi v C E=>v8 j C (y i v E),λi h st=>(h1 i h st).elim λo q=>⟨o,Heap.gt_of q.1 (eG q.2 m)⟩,
  λb f i h o st e=>fO f (λq=>(h1 i h st).elim λG z=>fW (q▸z.1) e (eG z.2 m)) λq=>(B i h st).elim λG z=>fW (q▸z.1) e (eG z.2 c)⟩
theorem iter_rng{lo hi:Int}{x:yR}(y:Rep w.params s.heap H x (.rng lo hi))(z:A.handled=y7):wpAny (y6 Fd w) A (DG x) (qx Fd w A s H ((zt (hi - lo).toNat).map λ(i:Nat)=>D.int (lo+(i:Int)))) E s:=
 RRng.rec (motive:=λx Z=>wpAny (y6 Fd w) A (DG x) (qx Fd w A s H ((zt (hi - lo).toNat).map λ(i:Nat)=>D.int (lo+(i:Int)))) E s) (λ{a t u v} B C f=>by
  have j:Builtin.Range.small lo hi 1=yP:=by
   unfold big at f;exact small_one (om68 f) (om69 f) (om70 f) (om71 f)
  have m:Builtin.Range.rangeSize lo hi 1=((hi - lo).toNat:Int):=by
   rw[rangeSize_one];split <;> omega
  have c:((zt (hi - lo).toNat).map λ(i:Nat)=>D.int (lo+(i:Int))).length=(hi - lo).toNat:=by rw[yV,zX]
  refine wpAny_pyIter_range B j ⟨Kp.push _ _,dq _,⟨_,Heap.gt_push_size _ QQ⟩,c.symm▸Walks.range z s.heap.objs.size lo 1 (hi - lo).toNat,?ga,λb n=>.inl (zg.mp n),λi v hi q=>q.elim λt e=>⟨.int (lo+i),?gb,?gc⟩,λi h e=>⟨_,Heap.gt_of e⟩,λb n i h o e1 e=>?gd⟩
  case ga=>
   show Heap.get? _ _=_;rw[Heap.get?_push_size _ rfl,m];simp[Bw]
  case gb=>
   rw[c] at hi;rw[As,D9 hi];rfl
  case gc=>
   rw[e,Int.mul_one];exact .mk _
  case gd=>
   rw[zg.mp n] at e;exact fW e1 e QQ) y
theorem pG{x:yR}{d:D}{E8:yN D}(j:Rep w.params s.heap H x d)(m:A.handled=y7)(he:d.items=ac E8) :
  wpAny (y6 Fd w) A (DG x) (qx Fd w A s H E8) E s:=by
 cases d with
 | tup ds=>exact yW he▸j.tupE λa vs n c f B t=>wpAny_pyIter_tuple (di c) ⟨Kp.push _ _,dq _,⟨_,Heap.gt_push_size _ QQ⟩,tQ (T:="tuple_iterator") (T':="tuple") (mkO:=ec) (Walks.tuple m s.heap.objs.size a (zO (Heap.lt_size c)) vs) ⟨⟨_,Heap.get?_push_size _ QQ,QQ,QQ⟩,(di c).push _⟩ t c QQ f (λZ Z h=>h)
   (λi h st=>st.1.elim λo q=>⟨o,q.1,q.2.1⟩) (λi h st=>st.2.elim λo q=>⟨o,q.1,q.2.1⟩) (by decide) (by decide)⟩
 | list ds=>exact yW he▸j.listE λa vs n c f B t=>wpAny_pyIter_list (aT c) ⟨Kp.push _ _,dq _,⟨_,Heap.gt_push_size _ QQ⟩,tQ (T:="list_iterator") (T':="list") (mkO:=fY) (Walks.list m s.heap.objs.size a (zO (Heap.lt_size c)) vs) ⟨⟨_,Heap.get?_push_size _ QQ,QQ,QQ⟩,(aT c).push _⟩ t c QQ f (λZ Z h=>h)
   (λi h st=>st.1.elim λo q=>⟨o,q.1,q.2.1⟩) (λi h st=>st.2.elim λo q=>⟨o,q.1,q.2.1⟩) (by decide) (by decide)⟩
 | dict ks vs=>
  refine yW he▸qG.rec (motive:=λx Z=>wpAny (y6 Fd w) A (DG x) (qx Fd w A s H ks) E s) (λ{a es n} c f B h1 J C L M G=>?_) j
  have e:es.size=ks.length:=by have:=h1.length;rwa [yV,zP] at this
  refine iter_keys G c ⟨Kp.push _ _,dq _,⟨_,Heap.gt_push_size _ QQ⟩,e▸walks_keys m s.heap.objs.size a (zO (Heap.lt_size c)) es n,⟨⟨_,Heap.get?_push_size _ QQ,QQ,by rw[<- e];rfl⟩,Heap.get?_push_of_some _ c⟩,
   λb u=>fO u .inl λe=>.inr (e▸⟨f,_,Heap.gt_of c⟩),λi v y I=>(h1.get i (y4 y)).elim λN q=>⟨_,y4 y,yW (q.1.symm.trans (show (es.toList.map (·.key))[i]?=ac v from I))▸q.2⟩,
   λi h st=>st.1.elim λo q=>⟨o,Heap.gt_of q.1 (eG q.2.1 (by decide))⟩,λb u i h o st e=>fO u (λq=>st.1.elim λO z=>fW (q▸z.1) e (eG z.2.1 (by decide))) λq=>fW (q▸st.2) e QQ⟩
 | rng lo y=>exact yW he▸iter_rng j m
 | _=>exact aj he
end
end
structure AOk(A:zF)(n:Nat):Prop where
 handled:A.handled=y7
 depth:A.depth+2 * n+20<BZ
 units:A.units+13 * n+100<Bl
structure uA(A A':zF):Prop where
 handled:A'.handled=A.handled
 depth:A'.depth<=A.depth+1
 units:A'.units<=A.units+10
structure qw(A:zF):Prop where
 units:A.units+20<Bl
 depth:A.depth+2<BZ
theorem qw.u2{A:zF}(r:qw A):A.units+2<Bl:=y3 (zN (by decide) _) r.units
theorem qw.u1{A:zF}(r:qw A):A.units+1<Bl:=y3 (zN (by decide) _) r.units
theorem uA.refl(A:zF):uA A A:=⟨QQ,AM _,zo _ _⟩
structure bN(h:Heap)(Fj:Env)(m:Str->yX yR):Prop where
 kind:Fj.scope.kind=.function
 glob:Fj.globals=AB
 blt:Fj.builtins=EB
 loc:∃ ml,h.Ns Fj.locals ml/\∀ x,Fj.kindOf x=ac .local->ml x=m x
 cell:∀ x,Fj.kindOf x=ac .cell\/Fj.kindOf x=ac .free->∃ c,Fj.cells.lookup x=ac c/\h.IsCell c (m x)
 inj:∀ x y c,Fj.cells.lookup x=ac c->Fj.cells.lookup y=ac c->x=y
 off:∀ x c,Fj.cells.lookup x=ac c->c≠Fj.locals
 ex:∀ x c,Fj.cells.lookup x=ac c->∃ o,gat h c=ac o
 lam:mN Fj.kindOf=yP->Fj.code=.ref oc/\Fj.qual=lamP
theorem Ns.keepAt{h h':Heap}{a:y0}{m:Str->yX yR}(c:h.Ns a m)(f:∀ o,gat h a=ac o->gat h' a=ac o):h'.Ns a m:=
 let ⟨o,es,ep,ho,hd,r⟩:=c
 have b:bL o=yM:=cH (by rw[hd];nofun)
 ⟨o,es,ep,Heap.of_gt (f _ (Heap.gt_of ho b)) b,hd,r⟩
theorem Cell.keepAt{h h':Heap}{a:y0}{v:yX yR}(c:h.IsCell a v)(f:∀ o,gat h a=ac o->gat h' a=ac o):h'.IsCell a v:=
 let ⟨o,ho,hd⟩:=c
 have b:bL o=yM:=cH (by rw[hd];nofun)
 ⟨o,Heap.of_gt (f _ (Heap.gt_of ho b)) b,hd⟩
theorem bN.keeps{h h':Heap}{Fj:Env}{m:Str->yX yR}(R:bN h Fj m)(a:KH h h'):bN h' Fj m where
 kind:=R.kind
 glob:=R.glob
 blt:=R.blt
 loc:=let ⟨ml,h1,h2⟩:=R.loc;⟨ml,Ns.keepAt h1 (a _),h2⟩
 cell:=λx b=>let ⟨c,h1,h2⟩:=R.cell x b;⟨c,h1,Cell.keepAt h2 (a _)⟩
 inj:=R.inj
 off:=R.off
 ex:=λx c f=>let ⟨o,ho⟩:=R.ex x c f;⟨o,a _ _ ho⟩
 lam:=R.lam
theorem bN.keepsAt{h h':Heap}{Fj:Env}{m:Str->yX yR}(R:bN h Fj m)(b:∀ a o,(a=Fj.locals\/∃ x,Fj.cells.lookup x=ac a)->gat h a=ac o->gat h' a=ac o):bN h' Fj m where
 kind:=R.kind
 glob:=R.glob
 blt:=R.blt
 loc:=let ⟨ml,h1,h2⟩:=R.loc;⟨ml,Ns.keepAt h1 λo e=>b _ o (.inl QQ) e,h2⟩
 cell:=λx i=>let ⟨c,h1,h2⟩:=R.cell x i;⟨c,h1,Cell.keepAt h2 λo e=>b _ o (.inr ⟨x,h1⟩) e⟩
 inj:=R.inj
 off:=R.off
 ex:=λx c f=>let ⟨o,ho⟩:=R.ex x c f;⟨o,b _ _ (.inr ⟨x,f⟩) ho⟩
 lam:=R.lam
section
variable {M:Model} {A:zF} {E:yR->yY->Prop} {s:yY}
theorem gf{Fj:Env}{m:Str->yX yR}{x:Str}{v:yR}{b:Pos}{Q:yR->yY->Prop}(R:bN s.heap Fj m)(f:gO Fj.kindOf x=yP)(i:m x=ac v)(h:Q v s) :
  wpAny M A (zQ (.Name x b) Fj) Q E s:=by
 unfold gO at f;simp only[Bo,D0,Bh,CX] at f;obtain⟨⟨⟨hk,o⟩,q⟩,_⟩:=f;have j:(x == ("__debug__":Str))=yM:=by simpa using o
 have n:(x == ("__classdict__":Str))=yM:=by simpa using q
 refine wpAny_Name ?_ j
 rcases hk with (hk | hk) | hk
 ·obtain⟨t,h1,a⟩:=R.loc
  exact wpAny_loadName_local R.kind hk h1 ((a x hk).trans i) h
 ·obtain⟨c,h1,a⟩:=R.cell x (.inl hk)
  exact wpAny_loadName_cell R.kind hk h1 (i▸a) h
 ·obtain⟨c,h1,a⟩:=R.cell x (.inr hk)
  exact wpAny_loadName_free R.kind hk h1 (i▸a) h n
noncomputable def upd(m:Str->yX yR)(x:Str)(v:yR):Str->yX yR:=λy=>if y=x then ac v else m y
theorem kz{Fj:Env}{m:Str->yX yR}{x:Str}{v:yR}{Q:Unit->yY->Prop}(R:bN s.heap Fj m)(J:Fj.kindOf x=ac .local\/Fj.kindOf x=ac .cell)
  (h:∀ h' tk dw a,bN h' Fj (upd m x v)->(a=Fj.locals\/Fj.cells.lookup x=ac a)->Heap.SB a s.heap h'->Q () { s with heap:=h',toks:=tk,drawn:=dw }) :
  wpAny M A (storeName Fj x v) Q E s:=by
 rcases J with hk | hk
 ·obtain⟨H,h1,C⟩:=R.loc
  refine wpAny_storeName_local hk h1 (λh' I j=>have i:Heap.SB Fj.locals s.heap h':=⟨j,fR h1,fR I⟩;h h' _ s.drawn Fj.locals ⟨R.kind,R.glob,R.blt,⟨_,I,λy b=>?_⟩,λy b=>?_,R.inj,R.off,λy c t=>let ⟨o,w⟩:=R.ex y c t;⟨o,(i.g c (R.off y c t)).trans w⟩,R.lam⟩ (.inl QQ) i) (by rw[R.kind];rfl)
  ·unfold upd;by_cases e:y=x
   ·simp[e]
   ·simp[e,C y b]
  ·obtain⟨c,f,z⟩:=R.cell y b
   have n:y≠x:=by rintro rfl;rw[hk] at b;simp at b
   refine⟨c,f,?_⟩;unfold upd;rw[za n];exact z.sameBut i.s (R.off y c f)
 ·obtain⟨c,f,z⟩:=R.cell x (.inl hk)
  refine wpAny_storeName_cell R.kind hk f z λh' t j=>have i:Heap.SB c s.heap h':=⟨j,jJ z,jJ t⟩;h h' s.toks s.drawn c ⟨R.kind,R.glob,R.blt,?_,λy b=>?_,R.inj,R.off,λy u G=>?_,R.lam⟩ (.inr f) i
  ·obtain⟨H,h1,C⟩:=R.loc
   refine⟨H,h1.sameBut i.s (λe=>R.off x c f e.symm),λy b=>?_⟩
   have n:y≠x:=by rintro rfl;rw[hk] at b;simp at b
   unfold upd;rw[za n];exact C y b
  ·obtain⟨u,B,L⟩:=R.cell y b
   by_cases e:y=x
   ·subst e
    rw[f] at B;cases B;exact⟨c,f,by simpa [upd] using t⟩
   ·refine⟨u,B,?_⟩
    unfold upd;rw[za e];exact L.sameBut i.s λq=>e (R.inj y x u B (q▸f))
  ·by_cases e:u=c
   ·obtain⟨o,w⟩:=oH t;exact⟨_,e▸w⟩
   ·obtain⟨o,w⟩:=R.ex y u G;exact⟨o,(i.g u e).trans w⟩
noncomputable def gC(cells:yN (Str×y0)):yN (Str×BJ)->yN (Str×y0)->yN (Str×y0)
 | [],a=>a
 | (n,k)::r,a=>if k == .free then (match cells.lookup n with | some c=>gC cells r ((n,c)::a) | none=>gC cells r a) else gC cells r a
theorem lz{Fj:Env}(f:Str×BJ->yN (Str×y0)->Sem (ForInStep (yN (Str×y0))))
  (b:∀ n k i,f (n,k) i=if k == .free then (do let c <- cellOf Fj n;pure (.yield ((n,c)::i))) else pure (.yield i)) :
  ∀ (names:yN (Str×BJ)) (acc:yN (Str×y0)),(∀ p∈names,p.2=.free->∃ c,Fj.cells.lookup p.1=ac c)->forIn names acc f=pure (gC Fj.cells names acc)
 | [],acc,_=>rfl
 | (n,k)::r,acc,h=>by
  have j:∀ p∈r,p.2=.free->∃ c,Fj.cells.lookup p.1=ac c:=λp o=>h p (Ae _ o)
  rw[ES,b];unfold gC
  by_cases a:(k == NameKind.free)=yP
  ·obtain⟨c,m⟩:=h (n,k) zG (by simpa using a)
   rw[y8 a,y8 a];unfold cellOf;simp only at m;rw[m];simp only[pure_bind];exact lz f b r _ j
  ·rw[za a,za a,pure_bind]
   exact lz f b r _ j
theorem k6{Fj:Env}{scope:Bk}(h:∀ p∈scope.names,p.2=.free->∃ c,Fj.cells.lookup p.1=ac c):closureFor scope Fj=pure (gC Fj.cells scope.names []):=by
 unfold closureFor;simp only[];rw[lz (Fj:=Fj) _ (λn k b=>by
  by_cases a:(k == NameKind.free)=yP <;> simp[a]) scope.names [] h]
 rfl
theorem aX{α:Type}(x n:Str)(c:α)(l:yN (Str×α)):((n,c)::l).lookup x=if x=n then ac c else l.lookup x:=by
 rw[zl]
 by_cases h:x=n
 ·simp[h]
 ·have:(x == n)=yM:=by simpa using h
  simp[h,this]
theorem gB{cells:yN (Str×y0)}:∀ (names:yN (Str×BJ)) (acc:yN (Str×y0)),(∀ x c,acc.lookup x=ac c->cells.lookup x=ac c) ->
  ∀ x c,(gC cells names acc).lookup x=ac c->cells.lookup x=ac c
 | [],acc,h=>h
 | (n,k)::r,acc,h=>by
  unfold gC
  split
  ·cases a:cells.lookup n with
   | none=>exact gB r acc h
   | some c=>
    refine gB r _ λx b e=>?_
    rw[aX] at e;split at e
    ·rename_i q;cases e;rw[q];exact a
    ·exact h x b e
  ·exact gB r acc h
theorem mm{cells:yN (Str×y0)}:∀ (names:yN (Str×BJ)) (acc:yN (Str×y0)) (x:Str) (c:y0),(gC cells names acc).lookup x=ac c->(x,NameKind.free)∈names\/acc.lookup x=ac c
 | [],acc,x,c,h=>.inr h
 | (n,k)::r,acc,x,c,h=>by
  unfold gC at h;split at h
  ·rename_i f
   have a:k=.free:=by simpa using f
   subst a;cases b:cells.lookup n with
   | none=>rw[b] at h;exact (mm r acc x c h).imp (.tail _) id
   | some i=>
    rw[b] at h
    rcases mm r _ x c h with e | e
    ·exact .inl (.tail _ e)
    ·rw[aX] at e
     split at e
     ·rename_i q;exact .inl (q▸.head _)
     ·exact .inr e
  ·exact (mm r acc x c h).imp (.tail _) id
theorem iG{cells:yN (Str×y0)}{x:Str}{c:y0}(a:cells.lookup x=ac c):∀ (names:yN (Str×BJ)) (acc:yN (Str×y0)),
  ((x,NameKind.free)∈names\/acc.lookup x=ac c)->(gC cells names acc).lookup x=ac c
 | [],acc,h=>h.elim (λe=>nomatch e) id
 | (n,k)::r,acc,h=>by
  unfold gC
  split
  ·cases b:cells.lookup n with
   | none=>
    refine iG a r acc (h.imp (λe=>?_) id)
    rcases zc.mp e with e | e
    ·cases e;rw[a] at b;cases b
    ·exact e
   | some i=>
    refine iG a r _ ?_
    rcases h with e | e
    ·rcases zc.mp e with e | e
     ·cases e;rw[a] at b;cases b
      exact .inr (by rw[aX,y8 rfl])
     ·exact .inl e
    ·rw[aX]
     split
     ·rename_i q;rw[<- q,a] at b;cases b;exact .inr QQ
     ·exact .inr e
  ·rename_i f
   refine iG a r acc (h.imp (λe=>?_) id)
   rcases zc.mp e with e | e
   ·cases e;simp at f
   ·exact e
theorem cm:∀ (names:yN (Str×BJ)) (n:Nat) (acc:yN (Str×y0)),AF n names acc=AF n names []++acc
 | [],_,_=>rfl
 | (x,k)::r,n,acc=>by
  unfold AF
  split
  ·rw[cm r (n+1) ((x,n)::acc),cm r (n+1) [(x,n)]];simp
  ·exact cm r n acc
theorem ii:∀ (names:yN (Str×BJ)) (n:Nat) (x:Str) (c:y0),(x,c)∈AF n names []->(x,NameKind.cell)∈names/\n<=c
 | [],_,_,_,h=>nomatch h
 | (y,k)::r,n,x,c,h=>by
  unfold AF at h;split at h
  ·rename_i b
   rw[cm] at h
   rcases zM.mp h with h | h
   ·obtain⟨h1,a⟩:=ii r (n+1) x c h
    exact⟨.tail _ h1,by exact om72 a⟩
   ·simp only[zc,zV,Bs,Prod.mk.injEq] at h
    obtain⟨rfl,rfl⟩:=h;have:k=.cell:=by simpa using b
    subst this;exact⟨.head _,ze _⟩
  ·obtain⟨h1,a⟩:=ii r n x c h
   exact⟨.tail _ h1,a⟩
theorem fA:∀ (names:yN (Str×BJ)) (n:Nat) (x:Str),(x,NameKind.cell)∈names->∃ c,(x,c)∈AF n names []
 | (y,k)::r,n,x,h=>by
  unfold AF
  rcases zc.mp h with e | e
  ·cases e
   simp only[zu,Ed];rw[cm];exact⟨n,z7 _ (zg.mpr QQ)⟩
  ·split
   ·obtain⟨c,a⟩:=fA r (n+1) x e
    rw[cm];exact⟨c,AC _ a⟩
   ·exact fA r n x e
theorem ez{α:Type}:∀ {l:yN (Str×α)} {x:Str} {c:α},(x,c)∈l->∃ b,l.lookup x=ac b
 | (y,d)::r,x,c,h=>by
  rw[aX]
  split
  ·exact⟨_,QQ⟩
  ·rename_i a
   rcases zc.mp h with e | e
   ·cases e;exact zA QQ a
   ·exact ez e
theorem iX{α:Type}(x:Str):∀ (l a:yN (Str×α)),(l++a).lookup x=(l.lookup x).or (a.lookup x)
 | [],a=>by simp
 | (y,c)::r,a=>by
  rw[DL,aX,aX,iX x r a]
  split <;> simp
end
theorem pu{α a:Type}(g:Str->α->a)(x:Str):∀ (l:yN (Str×α)),(l.map λp=>(p.1,g p.1 p.2)).lookup x=(l.lookup x).map (g x)
 | []=>rfl
 | (y,c)::r=>by
  rw[zm,aX,aX,pu g x r]
  split
  ·rename_i h;subst h;rfl
  ·rfl
theorem l4(k:KD)(scope:Bk)(x:Str):eQ k scope x=(scope.names.lookup x).map λq=>if q == .free&&k x == ac .cell then .cell else q:=by
 unfold eQ;rw[<- pu (λn q=>if q == NameKind.free&&k n == ac .cell then NameKind.cell else q) x scope.names]
 congr 1
 refine AP λp Z=>?_
 by_cases h:(p.2 == NameKind.free&&k p.1 == ac .cell)=yP
 ·simp[h]
 ·simp[h]
theorem iQ{Fj:Env}{scope:Bk}(c:Fj.scope.kind=.function):(λx=>(Dx scope Fj).names.lookup x)=eQ Fj.kindOf scope:=by
 funext x
 unfold Dx eQ;simp only[c]
 congr 1
 refine AP λp Z=>?_
 obtain⟨a,b⟩:=p;simp
section
variable {M:Model} {A:zF} {E:yR->yY->Prop} {s:yY}
theorem newEnvA{scope:Bk}{globals:y0}{cl:yN (Str×y0)}{qual:Str}{Fj:Env}{Q:Env->yY->Prop}
  (h:Q { scope,locals:=s.heap.objs.size,globals,cells:=AF (s.heap.objs.size+1) scope.names cl,qual,func:=y7,code:=Fj.code,frame:=Fj.frame,builtins:=Fj.builtins }
   {s with heap:=El (s.heap.push { cls:=.type "dict",data:=.dict #[] }) scope.names }) :
  wpAny M A (newFunctionEnv scope globals cl [] qual y7 .none (ac Fj)) Q E s:=by
 simp only[newFunctionEnv,Option.isSome_some,Ed];refine yT (wpAny_alloc ?_);refine yT (wpAny_layCells _ (λname kind cells=>by cases a:kind == NameKind.cell <;> simp[a]) _ _ _ _ ?_)
 rw[show ({ s with heap:=s.heap.push { cls:=.type "dict",data:=.dict #[] } }:yY).heap.objs.size=s.heap.objs.size+1 from Heap.size_push ..]
 exact y9 h
end
theorem nV(h:Heap)(scope:Bk)(o:Obj) :
  CellsOk (El (h.push o) scope.names) (h.objs.size+1) (AF (h.objs.size+1) scope.names []):=by
 have ok:=cellsFrom_ok scope.names (h.push o) (h.objs.size+1) [] ⟨λZ Z a=>(nomatch a),List.Pairwise.nil⟩ (by rw[Heap.size_push];exact ze _)
 rwa [Heap.size_push] at ok
theorem lk{l:yN (Str×BJ)}(a:(l.map (·.1)).Nodup){x:Str}{k:BJ}(h:(x,k)∈l):l.lookup x=ac k:=by
 induction l with
 | nil=>nomatch h
 | cons q l b=>
  have a:=Be.mp a;refine (aX x q.1 q.2 l).trans ((zc.mp h).elim (λe=>by rw[<- e,y8 rfl]) λe=>?_)
  rw[za (show ¬ x=q.1 from λz=>a.1 (show q.1∈l.map (·.1) from z▸Ea (f:=(·.1)) e))]
  exact b a.2 e
theorem fj{names:yN (Str×BJ)}{cells:yN (Str×y0)}{n:Nat}{x:Str}{c:y0}(b:(names.map (·.1)).Nodup)(a:(AF n names (gC cells names [])).lookup x=ac c):(x,c)∈AF n names []\/(names.lookup x=ac .free/\cells.lookup x=ac c):=by
 rw[cm,iX] at a;cases hq:(AF n names []).lookup x with
 | some f=>rw[hq] at a;exact .inl (yW a▸mem_of_lookup hq)
 | none=>
  rw[hq,Option.none_or] at a;exact .inr ⟨lk b ((mm names [] _ _ a).elim id λq=>aj q),gB names [] (λZ Z e=>aj e) x c a⟩
theorem jI{k:KD}{scope:Bk}{x:Str}{C:Prop}(h:iS k scope x=yP)(c:scope.kind=.function->(scope.names.map (·.1)).Nodup->(scope.names.lookup x=ac .local\/scope.names.lookup x=ac .cell)->(∀ p∈scope.names,p.2=.free->k p.1=ac .cell\/k p.1=ac .free)->(∀ p∈scope.names,((p.2=.free\/p.2=.globalImplicit)\/p.1=x)\/p.1=yO ".0")->mN (eQ k scope)=yM->C):C:=by
 refine and6 h λh1 b f i j m=>c (eq_of_beq h1) (zS b) ((Bd.mp f).imp eq_of_beq eq_of_beq) (λp a e=>?_) (λp a=>?_) (by simpa using m)
 ·have q:=zx.mp i p a
  rw[e,bne_self_eq_false,Eo] at q;exact (Bd.mp q).imp eq_of_beq eq_of_beq
 ·have q:=zx.mp j p a
  simpa only [D0,Bh] using q
theorem own_none{names:yN (Str×BJ)}{n:Nat}{x:Str}(a:(names.map (·.1)).Nodup)(b:names.lookup x=ac .free):(AF n names []).lookup x=y7:=by
 cases f:(AF n names []).lookup x with
 | none=>rfl
 | some c=>exact nomatch b.symm.trans (lk a (ii _ _ _ _ (mem_of_lookup f)).1)
theorem kindC_free{k:KD}{scope:Bk}{x:Str}(h:scope.names.lookup x=ac .free):eQ k scope x≠ac .local:=by
 rw[l4,h];show ac (if _ then _ else _)≠_
 split <;> nofun
theorem kindC_inv{k:KD}{scope:Bk}{x:Str}(h:eQ k scope x=ac .cell\/eQ k scope x=ac .free):scope.names.lookup x=ac .free\/scope.names.lookup x=ac .cell:=by
 rw[l4] at h;cases hq:scope.names.lookup x with
 | none=>rw[hq] at h;exact h.elim (λh=>nomatch h) λh=>nomatch h
 | some q=>
  rw[hq] at h;have h:ac (if (q == .free&&k x == ac .cell)=yP then NameKind.cell else q)=ac .cell\/ac (if (q == .free&&k x == ac .cell)=yP then NameKind.cell else q)=ac .free:=h
  by_cases a:(q == .free&&k x == ac .cell)=yP
  ·exact .inl (zj ac (eq_of_beq (zE.mp a).1))
  ·rw[za a] at h;exact h.symm
theorem compEnv_rep{h:Heap}{Fj:Env}{m:Str->yX yR}{scope:Bk}{y:Str}(R:bN h Fj m)(H:iS Fj.kindOf scope y=yP) :
  bN (El (h.push { cls:=.type "dict",data:=.dict #[] }) scope.names)
   {scope:=Dx scope Fj,locals:=h.objs.size,globals:=Fj.globals,cells:=AF (h.objs.size+1) scope.names (gC Fj.cells scope.names []),qual:=Fj.qual,func:=y7,code:=Fj.code,frame:=Fj.frame,builtins:=Fj.builtins }
   (λx=>if scope.names.lookup x=ac .free then m x else y7):=by
 refine jI H λt i N u Z A=>?_
 have ok:=nV h scope { cls:=.type "dict",data:=.dict #[] };have n:KH h (El (h.push { cls:=.type "dict",data:=.dict #[] }) scope.names):=λb o e=>Heap.gt_up (pushCells_keeps _ _) b o (Heap.gt_push_of_some _ e)
 have I:∀ x k,(Dx scope Fj).names.lookup x=k->eQ Fj.kindOf scope x=k:=λx k e=>(congrFun (iQ (scope:=scope) R.kind) x).symm.trans e
 have a:∀ x c,Fj.cells.lookup x=ac c->@LT.lt Nat _ c h.objs.size:=λx c B=>(R.ex x c B).elim λo s=>Heap.gt_lt s
 have f:∀ x c,(x,c)∈AF (h.objs.size+1) scope.names []->@LT.lt Nat _ h.objs.size c:=λx c B=>(ok.empty x c B).2
 have j:∀ {x z c} {C:Prop},(x,c)∈AF (h.objs.size+1) scope.names []->Fj.cells.lookup z=ac c->C:=λh1 G=>zA (Aj (f _ _ h1) (a _ _ G)) (Af _)
 refine⟨t,R.glob,R.blt,⟨λZ=>y7,(Heap.Ns.new h (.type "dict")).keeps (pushCells_keeps _ _),λx J=>?_⟩,λx J=>?_,λx z c h1 G=>?_,λx c h1 e=>?_,λx c h1=>?_,λs=>?_⟩
 ·exact (za λe=>kindC_free e (I x _ J)).symm
 ·refine (kindC_inv (J.imp (I x _) (I x _))).elim (λe=>?_) λe=>?_
  ·have M:=mem_of_lookup e
   refine (R.cell x (u _ M QQ)).elim λc q=>⟨c,?_,?_⟩
   ·show (AF _ _ _).lookup x=ac c
    rw[cm,iX,own_none i e];exact iG q.1 scope.names [] (.inl M)
   ·rw[y8 e];exact Cell.keepAt q.2 (n _)
  ·refine (fA scope.names (h.objs.size+1) x (mem_of_lookup e)).elim λc B=>(ez B).elim λL E=>⟨L,?_,?_⟩
   ·show (AF _ _ _).lookup x=ac L
    rw[cm,iX,E];rfl
   ·rw[za (by rw[e];nofun)]
    exact (ok.empty x L (mem_of_lookup E)).1
 ·exact (fj i h1).elim (λe1=>(fj i G).elim (λw=>name_of_addr ok.apart e1 w) λw=>j e1 w.2) λe1=>(fj i G).elim (λw=>j w e1.2) λw=>R.inj x z c e1.2 w.2
 ·exact (fj i h1).elim (λe1=>Af _ (e▸f x c e1)) λe1=>Af _ (e▸a x c e1.2)
 ·exact (fj i h1).elim (λe1=>oH (ok.empty x c e1).1) λe1=>(R.ex x c e1.2).elim λo s=>⟨o,n _ _ s⟩
 ·have s:mN (λx=>(Dx scope Fj).names.lookup x)=yP:=s
  rw[iQ R.kind,A] at s;cases s
theorem fi(f:D->yX (yX D))(x:D)(l:yN D):bS f (x::l)=(f x).bind λo=>(bS f l).map λds=>match o with | none=>ds | some d=>d::ds:=by
 show (match f x with | none=>none | some o=>match bS f l with | none=>none | some ds=>_)=_
 cases f x with
 | none=>rfl
 | some o=>cases bS f l <;> rfl
theorem compM_snoc(f:D->yX (yX D))(l:yN D)(x:D):bS f (l++[x])=(bS f l).bind λds=>(f x).map λo=>match o with | none=>ds | some d=>ds++[d]:=by
 induction l with
 | nil=>
  rw[A0,fi];cases f x with
  | none=>rfl
  | some o=>cases o <;> rfl
 | cons y l a=>
  rw[DL,fi,fi,a];cases f y with
  | none=>rfl
  | some o=>
   cases bS f l with
   | none=>rfl
   | some ds=>
    cases f x with
    | none=>rfl
    | some b=>cases b <;> cases o <;> rfl
theorem compM_pre{f:D->yX (yX D)}{a b:yN D}{out:yN D}(h:bS f (a++b)=ac out):∃ o,bS f a=ac o:=by
 induction a generalizing out with
 | nil=>exact⟨[],QQ⟩
 | cons x a i=>
  rw[DL,fi] at h;rw[fi];exact iU h λo j h=>bO h λds c Z=>(i c).elim λm e=>by rw[j,e];exact⟨_,QQ⟩
theorem rB{f:D->yX (yX D)}{a:yN D}{out:yN D}(h:bS f a=ac out):out.length<=a.length:=by
 induction a generalizing out with
 | nil=>cases h;exact ze _
 | cons x a c=>
  rw[fi] at h;refine iU h λo i h=>bO h λds b e=>?_
  subst e;cases o with
  | none=>exact zR (c b)
  | some d=>exact zs (c b)
theorem compM_next{f:D->yX (yX D)}{done Fi out o:yN D}{d:D}(h:bS f (done++d::Fi)=ac out)(b:bS f done=ac o):∃ r,f d=ac r/\bS f (done++[d])=ac (match r with | some x=>o++[x] | none=>o):=by
 rw[show done++d::Fi=(done++[d])++Fi from Cm ..] at h;refine (compM_pre h).elim λc e=>?_
 rw[compM_snoc,b] at e ⊢;refine bO e λr a Z=>⟨r,a,?_⟩
 rw[a];cases r <;> rfl
theorem kX{e:zh}{Fj:Env}(h:ff e=yP):∀ x,foldedSetIterable e Fj x=pure x:=by
 intro x;cases e with
 | Set=>cases h
 | _=>rfl
theorem lV{e:zh}{a:CV}(h:ff e=yP):behindInMarks a e=yM:=by
 cases e with
 | Set=>cases h
 | _=>rfl
noncomputable abbrev Mv(c:y0)(h h':Heap):Prop:=∀ b o,b≠c->gat h b=ac o->gat h' b=ac o
section
variable {P:zT} {h1 h h':Heap} {H F:y0->Prop} {c I L:y0}
theorem vT(a:∀ b,F b->gat h1 b=y7)(f:F c)(k:KH h1 h)(m:Mv c h h'):KH h1 h':=λb o e=>m b o (λq=>cz e (q▸a c f)) (k b o e)
theorem sa(a:F c)(m:Mv c h h'){l:yN yR}{ds:yN D}(r:ao P h (λb=>H b\/F b) l ds):ao P h' (λb=>H b\/F b) l ds:=r.mono (λb o f e=>m b o (λq=>f (.inr (q▸a))) e) λZ Z Z q=>q
noncomputable abbrev FX(F:y0->Prop)(I:y0)(h:Heap):Prop:=∀ b,F b->b≠I->∃ o,gat h b=ac o
theorem xN(m:Mv c h h')(f:c≠I->∃ o,gat h' c=ac o)(i:FX F I h):FX F I h':=λb j a=>(Classical.em (b=c)).elim (λe=>e▸f (e▸a)) λe=>(i b j a).elim λo q=>⟨o,m b o e q⟩
theorem xM(m:Mv c h h')(b:L≠c){ys:zw yR}(a:h.PlainList L ys):h'.PlainList L ys:=a.elim λn e=>⟨n,Heap.of_gt (m L _ b (Heap.gt_of e))⟩
theorem kh_mv(k:KH h h'):Mv c h h':=λb o Z e=>k b o e
theorem xB(s:Heap.SB c h h'):Mv c h h':=λb Z n e=>(s.g b n).trans e
end
section
variable {Fd:zv} {w:zD} {A:zF} {E:yR->yY->Prop} {s:yY} {H:y0->Prop}
inductive uD(P:zT)(h1:Heap)(H F:y0->Prop)(I L:y0)(E8:yN D)(St:Nat->Heap->Prop)(f:D->yX (yX D))(cenv:Env)(m:Str->yX yR)(free:Str->Prop)(s:yY)(k:Nat):yY->Prop
 | mk {h tk dw done Fi o ys mC} (dr:E8=done++Fi) (st:St done.length h) (acc:h.PlainList L ys) (out:bS f done=ac o) (rep:ao P h (λb=>H b\/F b) ys.toList o) (Fj:bN h cenv mC) (fv:∀ x,free x->mC x=m x) (kh:KH h1 h)
  (fx:FX F I h) (kn:k=Fi.length+1):uD P h1 H F I L E8 St f cenv m free s k { s with heap:=h,toks:=tk,drawn:=dw }
theorem wp_kp{α:Type}{M:Model}{c:Sem α}{b:α}{X:yY->Prop}{Q:α->yY->Prop}(hq:wpAny M A c (λok s'=>bQ s s'/\ok=b/\X s') E s)(k:∀ h tk dw,KH s.heap h->X { s with heap:=h,toks:=tk,drawn:=dw }->Q b { s with heap:=h,toks:=tk,drawn:=dw }):wpAny M A c Q E s:=
 bI hq λok s' q=>bQ.rec (motive:=λs' Z=>X s'->Q ok s') (λh tk dw a x=>q.2.1▸k h tk dw a x) q.1 q.2.2
theorem rN{M:Model}{c:Sem yR}{d:D}{Q:yR->yY->Prop}(hq:wpAny M A c (bA w s H d) E s)(k:∀ v h tk dw,KH s.heap h->Rep w.params h H v d->Q v { s with heap:=h,toks:=tk,drawn:=dw }):wpAny M A c Q E s:=
 bI hq λv s' q=>bQ.rec (motive:=λs' Z=>Rep w.params s'.heap H v d->Q v s') (λh tk dw a x=>k v h tk dw a x) q.k q.r
noncomputable def yJ(Fd:zv)(w:zD)(A:zF)(s:yY)(H:y0->Prop)(E8:yN D)(f:D->yX (yX D))(m:Str->yX yR)(free:Str->Prop)(y:Str)(elt:zh)(j:yN zh)(b:Env):Prop:=
 ∀ (a:yY) (n:Str->yX yR) (h:y0->Prop) (v:yR) (dv:D) (r:yX D),dv∈E8->f dv=ac r->bN a.heap b n->n y=ac v->Rep w.params a.heap h v dv ->
  (∀ x,free x->n x=m x)->Ex a.heap h->bQ s a->sS s.heap H h->∀ o:yR->yY->Prop,
  wpAny (y6 Fd w) A (forIn j yP λc r=>if r=yP then do let ok <- Cn c b (zQ c b);pure (ForInStep.yield ok) else pure (ForInStep.yield r))
   (λok i=>bQ a i/\ok=r.isSome/\∀ q,r=ac q->wpAny (y6 Fd w) A (zQ elt b) (bA w i h q) o i) o a
structure yK(h1:Heap)(H F:y0->Prop)(I L:y0)(cenv:Env)(y:Str):Prop where
 FI:F I
 FL:F L
 FC:F cenv.locals
 Fy:∀ c,cenv.cells.lookup y=ac c->F c
 nIL:I≠L
 nIC:I≠cenv.locals
 nLC:L≠cenv.locals
 ncell:∀ x c,cenv.cells.lookup x=ac c->c≠L/\c≠I
 Ff:∀ b,F b->gat h1 b=y7
 IC:@LE.le Nat _ I cenv.locals
 hH:Ex h1 H
theorem st_mv{h1 h h':Heap}{F:y0->Prop}{I c:y0}{E8:yN D}{fp:yN y0}{P:Nat->yR->Prop}{St:Nat->Heap->Prop}(W:C0 Fd w A I fp [I] E8.length P St)(a:∀ b∈fp,b=I\/(¬ H b/\∃ o,gat h1 b=ac o))(j:∀ b∈fp,∀ i h o,St i h->h.get? b=ac o->bL o=yM)
  (n:∀ b,F b->gat h1 b=y7) (s:F c) (f:c≠I) (m:Mv c h h') {i:Nat} (st:St i h):St i h':=
 eD W j i h h' st λb t o e=>m b o (λq=>(a b t).elim (λz=>f (q▸z)) λz=>z.2.elim λy u=>cz u (q▸n c s)) e
theorem comp_turn{j:Env}{m:Str->yX yR}{free:Str->Prop}{y:Str}{Gv:Pos}{elt:zh}{FP:yN zh}{E8 out:yN D}{f:D->yX (yX D)}
  {I L:y0} {fp:yN y0} {P:Nat->yR->Prop} {St:Nat->Heap->Prop} {F:y0->Prop} {h1 h:Heap} {tk:Nat} {dw:Drawn} {FQ:yR->yY->Prop}
  (W:C0 Fd w A I fp [I] E8.length P St) (FR:∀ b∈fp,b=I\/(¬ H b/\∃ o,gat h1 b=ac o)) (Gw:∀ i v,i<E8.length->P i v->∃ d,E8[i]?=ac d/\Rep w.params h1 H v d)
  (FS:∀ b∈fp,∀ i h o,St i h->h.get? b=ac o->bL o=yM) (Ge:j.kindOf y=ac .local\/j.kindOf y=ac .cell) (Gf:¬ free y) (Z:yK h1 H F I L j y) (FT:KH s.heap h1)
  (FU:E8.length<=big) (Fs:bS f E8=ac out) (FV:yJ Fd w A s H E8 f m free y elt FP j)
  {done Fi o:yN D} {dv:D} {ys:zw yR} {Gd:Str->yX yR} {k:Nat} (FW:E8=done++dv::Fi) (st:St done.length h) (acc:h.PlainList L ys) (Go:bS f done=ac o) (rep:ao w.params h (λb=>H b\/F b) ys.toList o) (Fj:bN h j Gd) (Gx:∀ x,free x->Gd x=m x) (Gy:KH h1 h) (Gz:FX F I h) (kn:k=(dv::Fi).length+1)
  {R:yY->Prop} :
  wpAny (y6 Fd w) A (Ca (.ref I)) (λr Ft=>match r with
   | none=>R Ft
   | some v=>wpAny (y6 Fd w) A (assign (.Name y Gv) j v) (λEV FY=>
     wpAny (y6 Fd w) A (forIn FP yP λc r=>if r=yP then do let ok <- Cn c j (zQ c j);pure (ForInStep.yield ok) else pure (ForInStep.yield r)) (λok Fu=>
      if ok=yP then wpAny (y6 Fd w) A (zQ elt j) (λx FZ=>
       wpAny (y6 Fd w) A (call (.builtin "list.append") [.ref L,x]) (λEV F0=>∃ m',m'<k/\uD w.params h1 H F I L E8 St f j m free s m' F0) FQ FZ) FQ Fu
      else ∃ m',m'<k/\uD w.params h1 H F I L E8 St f j m free s m' Fu) FQ FY) FQ Ft) FQ { s with heap:=h,toks:=tk,drawn:=dw }:=by
 refine Z.rec λGp Gg Gq GA F3 F4 Gh Y FO GB GC=>?_
 clear Z;have Fv:done.length<E8.length:=by rw[FW,zd];exact AL (Az _)
 refine W.item done.length _ _ _ Fv st λv Fk Fw Gi Fz FA=>?_
 have F5:Mv I h Fk:=λb o Fo e=>kr W FS st FA b o (λq=>Fo (zg.mp q)) e
 have FE:∀ b,(b=j.locals\/∃ x,j.cells.lookup x=ac b)->b≠I/\b≠L:=λb Fo=>Fo.elim (λe=>e▸⟨F4.symm,Gh.symm⟩) λq=>q.elim λx e=>⟨(Y x b e).2,(Y x b e).1⟩
 refine Ew (kz (s:={ s with heap:=Fk,toks:=Fw,drawn:=dw }) (Fj.keepsAt λa t F6 e=>F5 a t (FE a F6).1 e) Ge λE0 G J a u F6 FF=>?_)
 have Gr:=FE a (F6.imp id λe=>⟨y,e⟩)
 have Gj:F a:=F6.elim (λe=>e▸Gq) (GA a)
 have F7:=xB FF;have k2:KH h1 E0:=vT FO Gj (vT FO Gp Gy F5) F7;have Fp:St (done.length+1) E0:=st_mv W FR FS FO Gj Gr.1 F7 Fz;have B:FX F I E0:=xN F7 (λEV=>F6.elim (λe=>u.loc.elim λEV q=>e▸ua q.1) λe=>u.ex y a e) (xN F5 (λq=>zA QQ q) Gz)
 have F8:dv∈E8:=by rw[FW];exact z7 _ (.head _)
 have O:=sa Gj F7 (sa Gp F5 rep);have T:=xM F7 Gr.2.symm (xM F5 F3.symm acc);have M:∀ x,free x->upd Gd y v x=m x:=λx Gs=>(za (show ¬ x=y from λe=>Gf (e▸Gs))).trans (Gx x Gs)
 have FG:Ex E0 (λb=>H b\/F b):=λb Fo=>Fo.elim (λq=>(GC b q).elim λGD z=>z.elim λt z=>⟨GD,t,z.1,k2 _ _ z.2⟩) λq=>(Classical.em (b=I)).elim (λe=>(B _ Gq F4.symm).elim λt z=>⟨_,t,e▸GB,z⟩) λe=>(B b q e).elim λt z=>⟨b,t,ze _,z⟩
 have F9:sS h1 H λb=>H b\/F b:=λb t e q=>q.elim id λq=>cz e (FO b q)
 have GG:Rep w.params E0 (λb=>H b\/F b) v dv:=(Gw _ v Fv Gi).elim λd q=>by
  have e:d=dv:=by
   have e1:=q.1;rw[FW,Av (ze _),CQ] at e1;exact (yW e1).symm
  exact e▸q.2.mono (λb t EV e=>k2 b t e) F9
 have lt:Fi.length+1<k:=by rw[kn];exact Ap _
 have Ga:E8=(done++[dv])++Fi:=FW.trans (Cm ..);have Gu:(done++[dv]).length=done.length+1:=zd;rw[FW] at Fs;refine (compM_next Fs Go).elim λr q=>wp_kp (s:={ s with heap:=E0,toks:=G,drawn:=J }) (FV { s with heap:=E0,toks:=G,drawn:=J } (upd Gd y v) (λb=>H b\/F b) v dv r F8 q.1 u (y8 QQ) GG M FG (.mk E0 G J λb t e=>k2 b t (FT b t e)) (λb t e=>F9 b t (FT b t e)) _) λU FH FJ C Gk=>?_
 have GI:Mv L E0 U:=kh_mv C;have FK:St (done.length+1) U:=eD W FS _ _ U Fp λb EV t e=>C b t e
 cases r with
 | none=>exact⟨Fi.length+1,lt,.mk Ga (Gu▸FK) (T.elim λn e=>⟨n,Heap.of_gt (C _ _ (Heap.gt_of e))⟩) q.2 (O.keeps C) (u.keeps C) M (λb t e=>C _ _ (k2 b t e)) (λb Fo FM=>(B b Fo FM).elim λt e=>⟨t,C _ _ e⟩) QQ⟩
 | some FN=>
  refine rN (s:={ s with heap:=U,toks:=FH,drawn:=FJ }) (Gk FN QQ) λx V Gl Gm Gn GH=>?_
  have X:KH E0 V:=λb t e=>Gn b t (C b t e)
  have E:V.PlainList L ys:=T.elim λn e=>⟨n,Heap.of_gt (X _ _ (Heap.gt_of e))⟩
  refine Dz E (λGb N Fq=>?_) (by
   rw[rep.size];exact zU (y3 (rB Go) (zf Fv FU)))
  have Gc:Mv L V Gb:=xB ⟨Fq,E.elim λEV e=>ce e,N.elim λEV e=>ce e⟩
  refine⟨Fi.length+1,lt,.mk Ga (Gu▸st_mv W FR FS FO Gg F3.symm Gc (eD W FS _ _ V Fp λb EV t e=>X b t e)) N q.2 ?_ ((u.keeps X).keepsAt λb t Fo e=>Gc b t (FE b Fo).2 e) M (vT FO Gg (λb t e=>X b t (k2 b t e)) Gc) (xN Gc (λEV=>N.elim λEV e=>⟨_,Heap.gt_of e⟩) λb Fo FM=>(B b Fo FM).elim λt e=>⟨t,X _ _ e⟩) QQ⟩
  rw[CH];exact sa Gg Gc ((O.keeps X).append (.cons GH QQ))
theorem comp_loop{c:Env}{m z:Str->yX yR}{free:Str->Prop}{y:Str}{FF T:Pos}{FG elt:zh}{B:yN zh}{scope:Bk}{R:Result->yY->Prop}{E8 out:yN D}{f:D->yX (yX D)}
  {I L:y0} {F:y0->Prop} {h1 u:Heap} {U:Nat} {V:Drawn}
  (Fv:rK Fd w A h1 H E8 I u) (X:c.kindOf y=ac .local\/c.kindOf y=ac .cell) (Y:¬ free y) (Z:yK h1 H F I L c y)
  (j:u.PlainList L #[]) (Fw:bN u c z) (C:∀ x,free x->z x=m x) (Fz:FX F I u) (E:KH s.heap h1) (G:KH h1 u)
  (t:E8.length<=big) (i:bS f E8=ac out) (J:yJ Fd w A s H E8 f m free y elt B c)
  (FH:∀ h' tk dw m',h'.Ns c.locals m'->jn w.params h' (λb=>H b\/F b) L out->(KH s.heap h')->R (.ok .next) { s with heap:=h',toks:=tk,drawn:=dw }) :
  EC (y6 Fd w) A (.compLoop (.ListComp elt [⟨.Name y FF,FG,B,0⟩] scope T) 0 (.ref I) (.ref L) c) R { s with heap:=u,toks:=U,drawn:=V }:=by
 refine Fv.rec λ{fp P St} W M Fo FJ _ FA=>?_
 refine codeAny_compLoop_tests (uD w.params h1 H F I L E8 St f c m free s) (λk s' q=>?_) (E8.length+1) (.mk (done:=[]) (Fi:=E8) (o:=[]) (ys:=#[]) QQ M j QQ QQ Fw C G Fz QQ)
 clear M j Fw C G Fz Fv;refine uD.rec (motive:=λs' EV=>wpAny (y6 Fd w) A (Ca (.ref I)) _ _ s') (λ{h tk dw done Fi o ys FQ} Fp st N Fq rep Fj FK FE FM FN=>?_) q
 cases Fi with
 | cons dv Fi=>exact comp_turn W Fo FJ FA X Y Z E t i J Fp st N Fq rep Fj FK FE FM FN
 | nil=>
  rw[zy] at Fp;subst Fp;refine W.done _ _ _ st λh' Fs Ft=>?_
  have O:Mv I h h':=λb o FO e=>kr W FA st Ft b o (λq=>FO (zg.mp q)) e
  refine Fj.loc.elim λFP Fu=>FH h' Fs dw FP (Ns.keepAt Fu.1 λo e=>O _ o Z.nIC.symm e) ?_ λb o e=>vT Z.Ff Z.FI FE O b o (E b o e)
  rw[i] at Fq;cases Fq;exact (xM O Z.nIL.symm N).elim λn e=>⟨e,yQ (rB i) t,(sa Z.FI O rep).mono (λEV EV EV e=>e) λa FR EV q=>q.elim id λq=>.inr (q▸Z.FL)⟩
theorem oh{M:Model}{c:Sem yR}{E8:yN D}{Q:yR->yY->Prop}{a:yY}(hq:wpAny M A c (qx Fd w A s H E8) E a)
  (k:∀ I h tk dw,KH s.heap h->gat s.heap I=y7->(∃ o,gat h I=ac o)->rK Fd w A s.heap H E8 I h->Q (.ref I) { s with heap:=h,toks:=tk,drawn:=dw }):wpAny M A c Q E a:=
 bI hq λv s' q=>q.rec λ{I b} q=>bQ.rec (motive:=λs' Z=>(∃ o,gat s'.heap I=ac o)->rK Fd w A s.heap H E8 I s'.heap->Q (.ref I) s') (λh tk dw f x y=>k I h tk dw f q.fresh x y) q.keeps q.ex q.walk
theorem comp_core{Fj:Env}{m:Str->yX yR}{scope:Bk}{y:Str}{FU Fp Fq:Pos}{Fs elt:zh}{U:yN zh}{use:yX (yR->Sem Unit)}{Q:yR->yY->Prop}{d:D}{E8 out:yN D}{f:D->yX (yX D)}
  (R:bN s.heap Fj m) (Ft:iS Fj.kindOf scope y=yP) (Fu:ff Fs=yP) (FY:A.handled=y7) (FZ:Ex s.heap H)
  (hit:wpAny (y6 Fd w) A (zQ Fs Fj) (bA w s H d) E s) (Fv:d.items=ac E8) (Fw:E8.length<=big) (Fz:bS f E8=ac out)
  (FA:∀ O:Env,O.kindOf=eQ Fj.kindOf scope->yJ Fd w A s H E8 f m (λx=>scope.names.lookup x=ac .free) y elt U O)
  (F0:∀ L C h' tk dw m',(∀ b o,gat s.heap b=ac o->@LT.lt Nat _ b L)->gat s.heap C=y7->L≠C->h'.Ns C m'->jn w.params h' (λb=>H b\/b=C) L out->(KH s.heap h') ->
   compPost (y6 Fd w) A E use Q (.ref L) C (.ok .next) { s with heap:=h',toks:=tk,drawn:=dw }) :
  wpAny (y6 Fd w) A (comprehension (.ListComp elt [⟨.Name y FU,Fs,U,0⟩] scope Fp) scope Fj Fq (newList []) yM (zQ Fs Fj) use) Q E s:=by
 refine jI Ft λV i FO X EV EV=>?_
 refine wpAny_comprehension_free (cl:=gC Fj.cells scope.names []) QQ (kX Fu) (k6 λp F3 F4=>(R.cell p.1 (X p F3 F4)).elim λc q=>⟨c,q.1⟩) V (λx Y F5=>by rw[lk i (k:=x.2) Y,F5]) ?_
 refine rN hit λF9 h1 FP FQ B FE=>oh (pG (s:={ s with heap:=h1,toks:=FP,drawn:=FQ }) (Fd:=Fd) (E:=E) FE FY Fv) λI z F6 F7 J fresh ex FR=>Ah (newEnvA ?_)
 dsimp only at fresh FR J ⊢;generalize M:z.push { cls:=.type "list",dict:=y7,data:=.seq ([]:yN yR).toArray }=n;have N:KH z n:=λb o e=>M▸Heap.gt_push_of_some _ e
 have FV:=R.keeps B;have FW:=compEnv_rep (y:=y) ((FV.keeps J).keeps N) Ft;have Fo:@Eq Nat n.objs.size (z.objs.size+1):=by rw[<- M,Heap.size_push]
 have FF:n.get? z.objs.size=ac (fY #[] 0):=by rw[<- M];exact Heap.get?_push_size _ QQ
 clear M;have u:@LT.lt Nat _ I z.objs.size:=ex.elim λEV q=>Heap.gt_lt q
 have ok:=nV n scope { cls:=.type "dict",data:=.dict #[] };have G:KH n (El (n.push { cls:=.type "dict",data:=.dict #[] }) scope.names):=λb o e=>Heap.gt_up (pushCells_keeps _ _) b o (Heap.gt_push_of_some _ e)
 have E3:∀ b o,gat h1 b=ac o->@LT.lt Nat _ b z.objs.size:=λb o e=>Heap.gt_lt (J b o e)
 have j:∀ x c,(x,c)∈AF (n.objs.size+1) scope.names []->@LT.lt Nat _ n.objs.size c:=λx c FG=>(ok.empty x c FG).2
 have h:@LT.lt Nat _ z.objs.size n.objs.size:=Fo▸Ap _;have FH:∀ b o,gat h1 b=ac o->b≠I:=λb o e q=>cz e (q▸fresh)
 have Z:yK h1 H (λb=>b=I\/b=z.objs.size\/b=n.objs.size\/∃ x,(x,b)∈AF (n.objs.size+1) scope.names []) I z.objs.size
   {scope:=Dx scope Fj,locals:=n.objs.size,globals:=Fj.globals,cells:=AF (n.objs.size+1) scope.names (gC Fj.cells scope.names []),qual:=Fj.qual,func:=y7,code:=Fj.code,frame:=Fj.frame,builtins:=Fj.builtins } y:=by
  refine⟨.inl QQ,.inr (.inl QQ),.inr (.inr (.inl QQ)),λc FG=>?_,zO u,zO (Aj u h),zO h,λx c FG=>?_,λb t=>?_,zU (Aj u h),FZ.keeps B⟩
  ·exact (fj i FG).elim (λe=>.inr (.inr (.inr ⟨y,e⟩))) λq=>zA q.1 (FO.elim (λe=>e▸nofun) λe=>e▸nofun)
  ·exact (fj i FG).elim (λe=>⟨(zO (Aj h (j x c e))).symm,(zO (Aj (Aj u h) (j x c e))).symm⟩) λq=>(FV.ex x c q.2).elim λo e=>⟨zO (E3 c o e),FH c o e⟩
  ·cases e:gat h1 b with
   | none=>rfl
   | some o=>
    have l:=E3 b o e;exact t.elim (λq=>zA q (FH b o e)) λt=>t.elim (λq=>zA (q▸l) (Af _)) λt=>t.elim (λq=>zA (Aj (q▸l) h) (Af _)) λt=>t.elim λx Y=>zA (Aj (j x b Y) (Aj l h)) (Af _)
 have FJ:(λx=>(Dx scope Fj).names.lookup x)=eQ Fj.kindOf scope:=iQ R.kind
 have T:∀ FK FM,EC (y6 Fd w) A (.compLoop (.ListComp elt [⟨.Name y FU,Fs,U,0⟩] scope Fp) 0 (.ref I) (.ref z.objs.size)
   {scope:=Dx scope Fj,locals:=n.objs.size,globals:=Fj.globals,cells:=AF (n.objs.size+1) scope.names (gC Fj.cells scope.names []),qual:=Fj.qual,func:=y7,code:=Fj.code,frame:=Fj.frame,builtins:=Fj.builtins })
   (compPost (y6 Fd w) A E use Q (.ref z.objs.size) n.objs.size) { s with heap:=El (n.push { cls:=.type "dict",data:=.dict #[] }) scope.names,toks:=FK,drawn:=FM }:=λFK FM=>by
  refine comp_loop (s:=s) (H:=H) (m:=m) (free:=λx=>scope.names.lookup x=ac .free) (FR.rec λW st a b c d=>⟨W,eD W d _ _ _ st λb EV o e=>G b o (N b o e),a,b,c,d⟩) ?_ (FO.elim (λe=>e▸nofun) λe=>e▸nofun) Z ⟨0,Heap.of_gt (G _ _ (Heap.gt_of FF))⟩ FW (λx Y=>y8 Y) (λb t FS=>?_) B (λb o e=>G b o (N b o (J b o e))) Fw Fz (FA _ FJ) λh' tk dw m' FT FN F8=>?_
  ·show (λx=>(Dx scope Fj).names.lookup x) y=_\/(λx=>(Dx scope Fj).names.lookup x) y=_
   rw[FJ,l4];exact FO.imp (λe=>by rw[e];rfl) λe=>by rw[e];rfl
  ·exact t.elim (λq=>zA q FS) λt=>t.elim (λq=>⟨_,q▸G _ _ (Heap.gt_of FF)⟩) λt=>t.elim (λq=>FW.loc.elim λEV e=>q▸ua e.1) λt=>t.elim λx Y=>oH (ok.empty x b Y).1
  ·exact F0 z.objs.size n.objs.size h' tk dw m' (λb o e=>E3 _ o (B _ o e)) (lW B (Z.Ff _ Z.FC)) (zO h) FT (FN.mono (λEV e=>e) (λEV EV EV e=>e) λa o EV q=>.inl (q.imp id λq=>.inr (.inr (.inl q)))) F8
 exact codeAny_compStart_list (T _ _) (FR.rec λW st a b c d=>W.self 0 _ _ _ (eD W d _ _ _ st λb EV o e=>G b o (N b o e)) (T _ _))
end
noncomputable def dC:yN yS:=["len","isinstance","range","tuple","int","str","list","bool","set","sum","max","min","sorted","reversed"]
structure GOk(mg mb:Str->yX yR)(h:Heap):Prop where
 g:h.Ns AB mg
 b:h.Ns EB mb
 lim:h.NoLimit
 blt:∀ f∈dC,mg (yO f)=y7/\mb (yO f)=ac (dZ f)
 lam:h.IsCode oc tb #[]/\h.TableAt oc tb #[]/\h.BuiltinsAt mg tb
structure HOk(Fe h:Heap)(H:y0->Prop):Prop where
 keep:KH Fe h
 ex:Ex h H
 off:∀ b o,gat Fe b=ac o->¬ H b
theorem HOk.keeps{Fe h h':Heap}{H:y0->Prop}(x:HOk Fe h H)(a:KH h h'):HOk Fe h' H:=
 ⟨λb o e=>a b o (x.keep b o e),x.ex.keeps a,x.off⟩
theorem NoLimit.keepG{h h':Heap}(x:h.NoLimit)(a:KH h h'):h'.NoLimit:=let ⟨mc,h1,h2⟩:=x;⟨mc,Ns.keepAt h1 (a _),h2⟩
structure e5(Fd:zv)(w:zD)(Fe:Heap)(mg:Str->yX yR)(cf:CF)(A:zF):Prop where
 call:∀ f ds d fr,cf.call f ds=ac (d,fr)->∃ a o fd,mg (yO f)=ac (.ref a)/\gat Fe a=ac o/\o.data=.func fd /\
  ∀ A',uA A A'->∀ (s:yY) (H:y0->Prop) (vs:yN yR) (E:yR->yY->Prop),HOk Fe s.heap H->ao w.params s.heap H vs ds ->
   wpAny (y6 Fd w) A' (PySem.call (.ref a) vs) (cE w s H d fr) E s
 glob:∀ x d,cf.glob x=ac d->∃ v,mg (yO x)=ac v/\Rep w.params Fe (λZ=>False) v d
noncomputable def CS0(Fd:zv)(w:zD)(Fe:Heap)(mg:Str->yX yR)(cf:CF)(A:zF):Prop:=∀ f ds d fr,cf.call f ds=ac (d,fr)->∃ a o fd,mg (yO f)=ac (.ref a)/\gat Fe a=ac o/\o.data=.func fd /\
  ∀ (s:yY) (H:y0->Prop) (vs:yN yR) (E:yR->yY->Prop),HOk Fe s.heap H->ao w.params s.heap H vs ds ->
   wpAny (y6 Fd w) A (PySem.call (.ref a) vs) (cE w s H d fr) E s
theorem e5.at{Fd:zv}{w:zD}{Fe:Heap}{mg:Str->yX yR}{cf:CF}{A b:zF}(C:e5 Fd w Fe mg cf A)(c:uA A b):CS0 Fd w Fe mg cf b:=
 λf ds d fr h=>(C.call f ds d fr h).elim λa q=>q.elim λo q=>q.elim λi q=>⟨a,o,i,q.1,q.2.1,q.2.2.1,q.2.2.2 b c⟩
noncomputable def NV(P:zT)(k:KD)(ns:yN yS)(ρ:yN (yS×D))(m:Str->yX yR)(h:Heap)(H:y0->Prop):Prop:=
 ∀ x∈ns,gO k (yO x)=yP->∀ d,ρ.lookup x=ac d->∃ v,m (yO x)=ac v/\Rep P h H v d
structure Cc(w:zD)(Fe:Heap)(s:yY)(Fj:Env)(H:y0->Prop)(ρ:yN (yS×D))(m:Str->yX yR)(ns:yN yS):Prop where
 R:bN s.heap Fj m
 hw:HOk Fe s.heap H
 hn:NV w.params Fj.kindOf ns ρ m s.heap H
section
variable {Fd:zv} {w:zD} {A:zF} {s s':yY} {Fe:Heap} {mg mb:Str->yX yR} {cf:CF} {Fj:Env} {H:y0->Prop} {ρ:yN (yS×D)} {m:Str->yX yR} {ns E9:yN yS} {e:zh} {E:yR->yY->Prop} {a b:ME} {d:D} {C:Prop}
theorem Cc.k(c:Cc w Fe s Fj H ρ m ns)(k:bQ s s'):Cc w Fe s' Fj H ρ m ns:=⟨c.R.keeps (Kp.heap k),c.hw.keeps (Kp.heap k),λx a b d f=>(c.hn x a b d f).elim λv q=>⟨v,q.1,q.2.keeps (Kp.heap k)⟩⟩
theorem Cc.sub(c:Cc w Fe s Fj H ρ m ns)(a:∀ x∈E9,x∈ns):Cc w Fe s Fj H ρ m E9:=⟨c.R,c.hw,λx b=>c.hn x (a x b)⟩
theorem Cc.l(c:Cc w Fe s Fj H ρ m (ns++E9)):Cc w Fe s Fj H ρ m ns:=c.sub λZ=>AC _
theorem Cc.r(c:Cc w Fe s Fj H ρ m (ns++E9)):Cc w Fe s Fj H ρ m E9:=c.sub λZ=>z7 _
theorem Cc.x(c:Cc w Fe s Fj H ρ m ns):Ex s.heap H:=c.hw.ex
noncomputable def SE(Fd:zv)(w:zD)(A:zF)(Fe:Heap)(cf:CF)(a:ME):Prop:=
 ∀ (s:yY) (Fj:Env) (e:zh) (H:y0->Prop) (ρ:yN (yS×D)) (m:Str->yX yR) (d:D) (E:yR->yY->Prop),aH Fj.kindOf e a=yP->Cc w Fe s Fj H ρ m a.names->evE cf ρ a=ac d->wpAny (y6 Fd w) A (zQ e Fj) (bA w s H d) E s
inductive yC(w:zD)(s:yY)(H:y0->Prop)(ds:yN D)(vs:yN yR)(s':yY):Prop
 | mk (k:bQ s s') (r:ao w.params s'.heap H vs ds)
noncomputable def SEs(Fd:zv)(w:zD)(A:zF)(Fe:Heap)(cf:CF)(a:yN ME):Prop:=
 ∀ (s:yY) (Fj:Env) (es:yN zh) (H:y0->Prop) (ρ:yN (yS×D)) (m:Str->yX yR) (ds:yN D) (E:yR->yY->Prop),cD Fj.kindOf es a=yP->Cc w Fe s Fj H ρ m (iV a)->cu cf ρ a=ac ds ->
  wpAny (y6 Fd w) A (spliced (es.map λe=>(yM,zQ e Fj))) (yC w s H ds) E s
noncomputable def ST(Fd:zv)(w:zD)(A:zF)(Fe:Heap)(cf:CF)(a:ME):Prop:=
 ∀ (s:yY) (Fj:Env) (e:zh) (H:y0->Prop) (ρ:yN (yS×D)) (m:Str->yX yR) (d:D) (t:yU) (E:yR->yY->Prop),aH Fj.kindOf e a=yP->Cc w Fe s Fj H ρ m a.names->evE cf ρ a=ac d->bW d=ac t ->
  wpAny (y6 Fd w) A (Cn e Fj (zQ e Fj)) (eX s t) E s
noncomputable def SB(Fd:zv)(w:zD)(A:zF)(Fe:Heap)(cf:CF)(c:yN ME):Prop:=
 ∀ (s:yY) (Fj:Env) (es:yN zh) (f:C7) (b:Pos) (H:y0->Prop) (ρ:yN (yS×D)) (m:Str->yX yR) (d:D) (E:yR->yY->Prop),cD Fj.kindOf es c=yP->Cc w Fe s Fj H ρ m (iV c)->gP cf ρ f c=ac d ->
  wpAny (y6 Fd w) A (zQ (.BoolOp f es b) Fj) (bA w s H d) E s/\∀ t a,bW d=ac t->wpAny (y6 Fd w) A (Cn (.BoolOp f es b) Fj a) (eX s t) E s
noncomputable def SC(Fd:zv)(w:zD)(A:zF)(Fe:Heap)(cf:CF)(a:yN ME):Prop:=
 ∀ (s:yY) (Fj:Env) (es:yN zh) (H:y0->Prop) (ρ:yN (yS×D)) (m:Str->yX yR) (t:yU) (E:yR->yY->Prop),cD Fj.kindOf es a=yP->Cc w Fe s Fj H ρ m (iV a)->n0 cf ρ a=ac t ->
  wpAny (y6 Fd w) A (forIn es yP λc r=>if r=yP then do let ok <- Cn c Fj (zQ c Fj);pure (ForInStep.yield ok) else pure (ForInStep.yield r)) (eX s t) E s
noncomputable def SF(Fd:zv)(w:zD)(A:zF)(Fe:Heap)(cf:CF)(a:ME):Prop:=
 ∀ (s:yY) (Fj:Env) (e:zh) (H:y0->Prop) (ρ:yN (yS×D)) (m:Str->yX yR) (d:D) (fr:yU) (E:yR->yY->Prop),aH Fj.kindOf e a=yP->Cc w Fe s Fj H ρ m a.names->evF cf ρ a=ac (d,fr)->wpAny (y6 Fd w) A (zQ e Fj) (cE w s H d fr) E s
theorem SE.go{Q:yR->yY->Prop}(f:SE Fd w A Fe cf a)(h:aH Fj.kindOf e a=yP)(c:Cc w Fe s Fj H ρ m a.names)(he:evE cf ρ a=ac d)(k:∀ v b,bA w s H d v b->Q v b):wpAny (y6 Fd w) A (zQ e Fj) Q E s:=bI (f s Fj e H ρ m d E h c he) k
theorem evi_bin{c:AU}(h:evE cf ρ (.bin c a b)=ac d)(k:∀ x y,evE cf ρ a=ac x->evE cf ρ b=ac y->en c x y=ac d->C):C:=bK (a:=evE cf ρ a) (f:=λx=>oE (evE cf ρ b) (en c x)) h λx i h=>bK h λy j h=>k x y i j h
theorem wI{c:CV}(h:evE cf ρ (.cmp c a b)=ac d)(k:∀ x y,evE cf ρ a=ac x->evE cf ρ b=ac y->eT c x y=ac d->C):C:=bK (a:=evE cf ρ a) (f:=λx=>oE (evE cf ρ b) (eT c x)) h λx i h=>bK h λy j h=>k x y i j h
theorem evi_sub(h:evE cf ρ (.sub a b)=ac d)(k:∀ x y,evE cf ρ a=ac x->evE cf ρ b=ac y->aV x y=ac d->C):C:=bK (a:=evE cf ρ a) (f:=λx=>oE (evE cf ρ b) (aV x)) h λx c h=>bK h λy i h=>k x y c i h
theorem wH(h:evE cf ρ (.not a)=ac d)(k:∀ x t,evE cf ρ a=ac x->bW x=ac t->.bool (!t)=d->C):C:=bK (a:=evE cf ρ a) (f:=λx=>(bW x).map λt=>D.bool (!t)) h λx b h=>bO h λt c e=>k x t b c e
theorem evi_neg(h:evE cf ρ (.neg a)=ac d)(k:∀ i,evE cf ρ a=ac (.int i)->.int (-i)=d->C):C:=bK (a:=evE cf ρ a) (f:=λx=>onI x λi=>ac (D.int (-i))) h λx b h=>eu (C:=λx=>evE cf ρ a=ac x->C) h (λi e b=>k i b (yW e)) b
theorem evi_tup{es:yN ME}(h:evE cf ρ (.tup es)=ac d)(k:∀ ds,cu cf ρ es=ac ds->ds.length<=big->.tup ds=d->C):C:=fq (a:=cu cf ρ es) (f:=λds=>if ds.length<=big then ac (D.tup ds) else none) h λx b h=>bj h λc e=>k x b c e
theorem evi_lst{es:yN ME}(h:evE cf ρ (.lst es)=ac d)(k:∀ ds,cu cf ρ es=ac ds->ds.length<=big->.list ds=d->C):C:=fq (a:=cu cf ρ es) (f:=λds=>if ds.length<=big then ac (D.list ds) else none) h λx b h=>bj h λc e=>k x b c e
theorem evi_sl{l u:ME}(h:evE cf ρ (.sl a l u)=ac d)(k:∀ x y z,evE cf ρ a=ac x->evE cf ρ l=ac y->evE cf ρ u=ac z->slD x y z=ac d->C):C:=bK (a:=evE cf ρ a) (f:=λx=>oE (evE cf ρ l) λy=>oE (evE cf ρ u) λz=>slD x y z) h λx b h=>bK h λy c h=>bK h λz i h=>k x y z b c i h
theorem evi_isi{T:yS}(h:evE cf ρ (.isi a T)=ac d)(k:∀ x t,evE cf ρ a=ac x->pH x T=ac t->.bool t=d->C):C:=bK (a:=evE cf ρ a) (f:=λx=>(pH x T).map D.bool) h λx b h=>bO h λt c e=>k x t b c e
theorem evi_lcp(h:evE cf ρ (.lcp a)=ac d)(k:∀ x ds,evE cf ρ a=ac x->uU x=ac ds->.list ds=d->C):C:=bK (a:=evE cf ρ a) (f:=λx=>(uU x).map D.list) h λx b h=>bO h λt c e=>k x t b c e
theorem evi_inn(h:evE cf ρ (.inn a)=ac d)(k:∀ x,evE cf ρ a=ac (.str x)->.int (qC x)=d->C):C:=bK (a:=evE cf ρ a) (f:=innD) h λy b h=>oz (C:=λy=>evE cf ρ a=ac y->C) h (λx e b=>k x b (yW e)) b
theorem evi_sset(h:evE cf ρ (.sset a)=ac d)(k:∀ x,evE cf ρ a=ac x->oX x=ac d->C):C:=bK (a:=evE cf ρ a) (f:=oX) h k
theorem wJ{f:yS}{es:yN ME}(h:evE cf ρ (.blt f es)=ac d)(k:∀ ds,cu cf ρ es=ac ds->gI f ds=ac d->C):C:=fq (a:=cu cf ρ es) (f:=gI f) h k
theorem evi_callF{f:yS}{es:yN ME}{r:D×yU}(h:evF cf ρ (.call f es)=ac r)(k:∀ ds,cu cf ρ es=ac ds->cf.call f ds=ac r->C):C:=fq (a:=cu cf ρ es) (f:=cf.call f) h k
theorem evi_call{f:yS}{es:yN ME}(h:evE cf ρ (.call f es)=ac d)(k:∀ ds r,cu cf ρ es=ac ds->cf.call f ds=ac r->r.1=d->C):C:=fq (a:=cu cf ρ es) (f:=λds=>(cf.call f ds).map λ(r:D×yU)=>r.1) h λx b h=>bO h λr c e=>k x r b c e
theorem uh{es:yN ME}{ds:yN D}(h:cu cf ρ (a::es)=ac ds)(k:∀ x xs,evE cf ρ a=ac x->cu cf ρ es=ac xs->x::xs=ds->C):C:=bK (a:=evE cf ρ a) (f:=λx=>oEs (cu cf ρ es) λxs=>ac (x::xs)) h λx b h=>fq h λy c h=>k x y b c (yW h)
noncomputable def sX(a:C7):yU:=match a with | .And=>yM | .Or=>yP
theorem evi_bop{c:C7}{es:yN ME}(h:gP cf ρ c (a::b::es)=ac d)(k:∀ x t,evE cf ρ a=ac x->bW x=ac t->(if t=sX c then ac x else gP cf ρ c (b::es))=ac d->C):C:=bK (a:=evE cf ρ a) (f:=λx=>oT (bW x) λt=>if t=sX c then ac x else gP cf ρ c (b::es)) h λx i h=>uT h λy j h=>k x y i j h
theorem evi_cs{es:yN ME}{t:yU}(h:n0 cf ρ (a::es)=ac t)(k:∀ x u,evE cf ρ a=ac x->bW x=ac u->(if u=yP then n0 cf ρ es else ac yM)=ac t->C):C:=bK (a:=evE cf ρ a) (f:=λx=>oT (bW x) λu=>if u=yP then n0 cf ρ es else ac yM) h λx b h=>uT h λy c h=>k x y b c h
theorem fP{fr:yU}(h:evF cf ρ a=ac (d,fr))(b:oD a=y7)(k:evE cf ρ a=ac d->frF a d=fr->C):C:=by
 unfold evF at h;rw[b] at h;exact bO h λc e q=>k (e.trans (zj ac (z9 q).1)) ((z9 q).1▸(z9 q).2)
theorem uO(x:yS):SE Fd w A Fe cf (.u x):=λs Fj e H ρ m d E b c f=>
 uC.rec (motive:=λe Z=>wpAny (y6 Fd w) A (zQ e Fj) (bA w s H d) E s) (λa=>(c.hn x (.head _) a d f).elim λv q=>gf c.R a q.1 ⟨Kp.refl _,q.2⟩) (ja b)
theorem se_glob(G:GOk mg mb Fe)(C:e5 Fd w Fe mg cf A)(x:yS):SE Fd w A Fe cf (.glob x):=λs Fj e H ρ m d E f c h=>
 yE.rec (motive:=λe Z=>wpAny (y6 Fd w) A (zQ e Fj) (bA w s H d) E s) (λb=>(C.glob x d h).elim λv q=>Calls.Name_function_global c.R.kind (fS b).1 (Calls.loadGlobal_global (mg:=mg) (c.R.glob▸Ns.keepAt G.g (c.hw.keep _)) q.1 ⟨Kp.refl _,q.2.mono (λa o Z e=>c.hw.keep a o e) λa o e q=>zA q (c.hw.off a o e)⟩) (by simpa using (fS b).2)) (tZ f)
theorem se_int(i:Int):SE Fd w A Fe cf (.int i):=λs Fj e H ρ m d E a c b=>
 ij.rec (motive:=λe Z=>wpAny (y6 Fd w) A (zQ e Fj) (bA w s H d) E s) (yW b▸Dp iv) (wn a)
theorem se_str(i:yS):SE Fd w A Fe cf (.str i):=λs Fj e H ρ m d E a c b=>
 ij.rec (motive:=λe Z=>wpAny (y6 Fd w) A (zQ e Fj) (bA w s H d) E s) (yW b▸Calls.Constant_str qY) (we a)
theorem se_bool(i:yU):SE Fd w A Fe cf (.bool i):=λs Fj e H ρ m d E a c b=>
 ij.rec (motive:=λe Z=>wpAny (y6 Fd w) A (zQ e Fj) (bA w s H d) E s) (yW b▸PyProof.Rows.Constant_bool jy) (t6 a)
theorem se_none:SE Fd w A Fe cf .none:=λs Fj e H ρ m d E a c b=>
 ij.rec (motive:=λe Z=>wpAny (y6 Fd w) A (zQ e Fj) (bA w s H d) E s) (yW b▸PyProof.Rows.Constant_none ⟨Kp.refl _,QQ⟩) (tY a)
noncomputable def ME.plain:ME->yU
 | .not _ | .bop _ _ | .cmp _ _ _=>yM
 | _=>yP
noncomputable def ME.isComp(e:ME):yU:=decide (e.ctorIdx=16)
structure Looks(me:ME)(e:zh):Prop where
 star:∀ es Fj,B9 (e::es) Fj=(yM,zQ e Fj)::B9 es Fj
 test:me.plain=yP->∀ Fj whole,Cn e Fj whole=(do let v <- whole;standAt e.pos;holding [v] (truthy v))
 swap:me.isComp=yM->∀ t l Fj,Em e t l Fj=pure yM
theorem tK{k:KD}{e:zh}{a:ME}(h:aH k e a=yP):Looks a e:=by
 cases a with
 | u=>exact (ja h).rec λZ=>⟨λZ Z=>QQ,λZ Z Z=>QQ,λZ Z Z Z=>QQ⟩
 | glob=>exact (tZ h).rec λZ=>⟨λZ Z=>QQ,λZ Z Z=>QQ,λZ Z Z Z=>QQ⟩
 | int=>exact (wn h).rec ⟨λZ Z=>QQ,λZ Z Z=>QQ,λZ Z Z Z=>QQ⟩
 | str=>exact (we h).rec ⟨λZ Z=>QQ,λZ Z Z=>QQ,λZ Z Z Z=>QQ⟩
 | bool=>exact (t6 h).rec ⟨λZ Z=>QQ,λZ Z Z=>QQ,λZ Z Z Z=>QQ⟩
 | none=>exact (tY h).rec ⟨λZ Z=>QQ,λZ Z Z=>QQ,λZ Z Z Z=>QQ⟩
 | bin=>exact (wv h).rec λZ Z=>⟨λZ Z=>QQ,λZ Z Z=>QQ,λZ Z Z Z=>QQ⟩
 | cmp=>exact (sv h).rec λZ Z Z=>⟨λZ Z=>QQ,nofun,λZ Z Z Z=>QQ⟩
 | bop=>exact (sy h).rec λZ=>⟨λZ Z=>QQ,nofun,λZ Z Z Z=>QQ⟩
 | not=>exact (su h).rec λZ=>⟨λZ Z=>QQ,nofun,λZ Z Z Z=>QQ⟩
 | neg=>exact (wg h).rec λZ=>⟨λZ Z=>QQ,λZ Z Z=>QQ,λZ Z Z Z=>QQ⟩
 | tup=>exact (wc h).rec λZ=>⟨λZ Z=>QQ,λZ Z Z=>QQ,λZ Z Z Z=>QQ⟩
 | lst=>exact (wj h).rec λZ=>⟨λZ Z=>QQ,λZ Z Z=>QQ,λZ Z Z Z=>QQ⟩
 | dct=>exact (wq h).rec λZ Z=>⟨λZ Z=>QQ,λZ Z Z=>QQ,λZ Z Z Z=>QQ⟩
 | sub=>exact (oF h).rec λZ Z Z=>⟨λZ Z=>QQ,λZ Z Z=>QQ,λZ Z Z Z=>QQ⟩
 | sl=>exact (x7 h).rec λZ Z Z=>⟨λZ Z=>QQ,λZ Z Z=>QQ,λZ Z Z Z=>QQ⟩
 | comp=>exact (pJ h).rec λZ Z Z Z Z=>⟨λZ Z=>QQ,λZ Z Z=>QQ,nofun⟩
 | call=>exact (l6 h).rec λZ Z=>⟨λZ Z=>QQ,λZ Z Z=>QQ,λZ Z Z Z=>QQ⟩
 | blt=>exact (wt h).rec λZ Z=>⟨λZ Z=>QQ,λZ Z Z=>QQ,λZ Z Z Z=>QQ⟩
 | isi=>exact (wm h).rec λZ Z Z=>⟨λZ Z=>QQ,λZ Z Z=>QQ,λZ Z Z Z=>QQ⟩
 | lcp=>exact (wl h).rec λZ Z=>⟨λZ Z=>QQ,λZ Z Z=>QQ,λZ Z Z Z=>QQ⟩
 | sset=>exact (tX h).rec λZ Z=>⟨λZ Z=>QQ,λZ Z Z=>QQ,λZ Z Z Z=>QQ⟩
 | srt=>exact (wf h).rec λZ Z Z=>⟨λZ Z=>QQ,λZ Z Z=>QQ,λZ Z Z Z=>QQ⟩
 | inn=>exact (wo h).rec λZ Z=>⟨λZ Z=>QQ,λZ Z Z=>QQ,λZ Z Z Z=>QQ⟩
theorem iH{k:KD}{es:yN zh}{b:yN ME}{C:yN zh->Prop}(h:cD k es (a::b)=yP)(c:∀ e es,aH k e a=yP->cD k es b=yP->C (e::es)):C es:=by
 cases es with
 | nil=>cases h
 | cons e es=>exact bR h (c e es)
theorem p9{k:KD}{es:yN zh}{C:yN zh->Prop}(h:cD k es []=yP)(c:C []):C es:=kO h c
theorem iq{k:KD}{e:zh}{a:ME}(h:aH k e a=yP){es:yN zh}{Fj:Env}:B9 (e::es) Fj=(yM,zQ e Fj)::B9 es Fj:=(tK h).star es Fj
theorem fV{es:yN zh}{b:yN ME}{k:KD}(c:cD k es b=yP)(Fj:Env):B9 es Fj=es.map λe=>(yM,zQ e Fj):=by
 induction b generalizing es with
 | nil=>exact p9 (C:=λes=>B9 es Fj=es.map λe=>(yM,zQ e Fj)) c QQ
 | cons a r f=>exact iH (C:=λes=>B9 es Fj=es.map λe=>(yM,zQ e Fj)) c λe es h1 h=>(iq h1).trans (zj _ (f h))
theorem iJ(a:Pos)(es:yN zh)(Fj:Env):backTo a (es.map λe=>(yM,zQ e Fj))=es.map λe=>(yM,zQ e Fj):=Ad
theorem sf_bin{z:AU}(B:SE Fd w A Fe cf a)(C:SE Fd w A Fe cf b):SF Fd w A Fe cf (.bin z a b):=λs Fj e H ρ m d fr E G c j=>
 fP j QQ λj I=>evi_bin j λx y J L M=>IBin.rec (motive:=λe Z=>wpAny (y6 Fd w) A (zQ e Fj) (cE w s H d fr) E s) (λh1 N=>wpAny_BinOp (B.go h1 c.l J λv n f=>C.go N (c.r.k f.k) L λo q h=>
  have k:=Kp.trans f.k h.k
  bI (bin_snd (f.r.keeps (Kp.heap h.k)) h.r (c.k k).x M) λt u i=>I▸i.tr k)) (wv G)
theorem xy{u:CV}(z:A.units+2<Bl)(B:SE Fd w A Fe cf a)(C:SE Fd w A Fe cf b):SE Fd w A Fe cf (.cmp u a b):=λs Fj e H ρ m d E G c I=>
 wI I λx y J L M=>ICmp.rec (motive:=λe Z=>wpAny (y6 Fd w) A (zQ e Fj) (bA w s H d) E s) (λN h1 O=>wpAny_Compare1 (B.go h1 c.l J λv j f=>C.go O (c.r.k f.k) L λn o h=>
  bI (wO (f.r.keeps (Kp.heap h.k)) h.r z M) λq t i=>i.tr (Kp.trans f.k h.k)) (lV N)) (sv G)
theorem st_cmp{G:CV}(I:A.units+2<Bl)(J:SE Fd w A Fe cf a)(L:SE Fd w A Fe cf b):ST Fd w A Fe cf (.cmp G a b):=λs Fj e H ρ m d t E M c N O=>
 wI N λx y T U V=>ICmp.rec (motive:=λe Z=>wpAny (y6 Fd w) A (Cn e Fj (zQ e Fj)) (eX s t) E s) (λX h1 Y=>wpAny_isTrue_Compare1 (J.go h1 c.l T λv n f=>L.go Y (c.r.k f.k) U λo q h=>
  bI (wO (f.r.keeps (Kp.heap h.k)) h.r I V) λu z i=>bI (io i.r O) λB C j=>j.tr (Kp.trans (Kp.trans f.k h.k) i.k)) (lV X)) (sv M)
theorem xx(o:SE Fd w A Fe cf a):SE Fd w A Fe cf (.not a):=λs Fj e H ρ m d E q c u=>
 wH u λx t y z B=>IUn.rec (motive:=λe Z=>wpAny (y6 Fd w) A (zQ e Fj) (bA w s H d) E s) (λh=>PyProof.Rows.UnaryOp_ (o.go h c y λv j f=>PyProof.Rows.not_of (bI (io f.r z) λb n i=>⟨Kp.trans f.k i.k,B▸i.e▸rfl⟩))) (su q)
theorem st_not(n:ST Fd w A Fe cf a):ST Fd w A Fe cf (.not a):=λs Fj e H ρ m d t E o c q u=>
 wH q λx y z i B=>IUn.rec (motive:=λe Z=>wpAny (y6 Fd w) A (Cn e Fj (zQ e Fj)) (eX s t) E s) (λh=>PyProof.Rows.isTrue_not (bI (n s Fj _ H ρ m x y E h c z i) λb j f=>⟨f.k,(zj _ f.e).trans (yW ((zj bW B).trans u))⟩)) (su o)
theorem se_neg(j:SE Fd w A Fe cf a):SE Fd w A Fe cf (.neg a):=λs Fj e H ρ m d E n c o=>
 evi_neg o λi q t=>IUn.rec (motive:=λe Z=>wpAny (y6 Fd w) A (zQ e Fj) (bA w s H d) E s) (λh=>PyProof.Rows.UnaryOp_ (j.go h c q λv f b=>b.r.intE λZ=>PyProof.Rows.neg_int (t▸iv.tr b.k))) (wg n)
theorem vx:SEs Fd w A Fe cf []:=λs Fj es H ρ m ds E a c b=>
 p9 (C:=λes=>wpAny (y6 Fd w) A (spliced (es.map λe=>(yM,zQ e Fj))) (yC w s H ds) E s) a (Calls.spliced_nil ⟨Kp.refl _,yW b▸rfl⟩)
theorem tn{r:yN ME}(q:SE Fd w A Fe cf a)(t:SEs Fd w A Fe cf r):SEs Fd w A Fe cf (a::r):=λs Fj es H ρ m ds E u c y=>
 uh y λx xs z j e=>iH (C:=λes=>wpAny (y6 Fd w) A (spliced (es.map λe=>(yM,zQ e Fj))) (yC w s H ds) E s) u λn f h1 B=>Calls.spliced_cons (q.go h1 c.l z λv h b=>bI (t h Fj f H ρ m xs E B (c.r.k b.k) j) λvs o i=>i.rec λk r=>⟨Kp.trans b.k k,e▸.cons (b.r.keeps (Kp.heap k)) r⟩)
theorem se_tup{f:yN ME}(o:SEs Fd w A Fe cf f):SE Fd w A Fe cf (.tup f):=λs Fj e H ρ m d E q c t=>
 evi_tup t λds b i u=>ITup.rec (motive:=λe Z=>wpAny (y6 Fd w) A (zQ e Fj) (bA w s H d) E s) (λ{vs n p} h=>PyProof.Rows.Tuple_ (by
  rw[fV h,iJ];exact bI (o s Fj _ H ρ m ds E h c b) λvs j a=>a.rec λk r=>Ah ⟨Kp.trans k (Kp.push _ _),u▸lh (c.k k).x i r⟩ (show vs.toArray.size<=sizeLine from yQ (zk (CI.trans r.length)) i))) (wc q)
theorem sf_lst{i:yN ME}(o:SEs Fd w A Fe cf i):SF Fd w A Fe cf (.lst i):=λs Fj e H ρ m d fr E q c b=>
 fP b QQ λb t=>evi_lst b λds f j u=>ILst.rec (motive:=λe Z=>wpAny (y6 Fd w) A (zQ e Fj) (cE w s H d fr) E s) (λ{vs p} h=>PyProof.Rows.List_ (by
  rw[fV h,iJ];exact bI (o s Fj _ H ρ m ds E h c f) λvs n a=>a.rec λk r=>Ah (u▸t▸(kB (vs:=vs.toArray) (c.k k).x j r (λZ Z e=>Heap.gt_push_of_some _ e) (Heap.get?_push_size _ QQ)).tr k) (show vs.toArray.size<=sizeLine from yQ (zk (CI.trans r.length)) j))) (wj q)
end
section
variable {Fd:zv} {w:zD} {A:zF} {s:yY} {Fe:Heap} {mg mb:Str->yX yR} {cf:CF} {H:y0->Prop} {E:yR->yY->Prop} {a b:ME} {d:D}
theorem se_of_sf{a:ME}(h:SF Fd w A Fe cf a)(f:∀ ρ d,evE cf ρ a=ac d->∃ fr,evF cf ρ a=ac (d,fr)):SE Fd w A Fe cf a:=λs Fj e H ρ m d E i c j=>
 (f ρ d j).elim λfr b=>bI (h s Fj e H ρ m d fr E i c b) λZ Z q=>q.post
theorem subscripted_plain{f:zh}{o i:yR}(h:∀ a b c d,f=.Slice a b c d->False):subscripted f yM o i=operate [o,i] (DR o i):=by
 cases f with
 | Slice a b c d=>exact (h a b c d QQ).elim
 | _=>rfl
theorem xw(B:A.units+1<Bl)(C:SE Fd w A Fe cf a)(G:SE Fd w A Fe cf b):SE Fd w A Fe cf (.sub a b):=λs Fj e H ρ m d E I c J=>
 evi_sub J λx y L M N=>ISub.rec (motive:=λe Z=>wpAny (y6 Fd w) A (zQ e Fj) (bA w s H d) E s) (λj h1 O=>PyProof.Rows.Subscript_ (C.go h1 c.l L λv n f=>G.go O (c.r.k f.k) M λo t h=>
  have g:=getItem_snd B (Fd:=Fd) (w:=w) (A:=A) (E:=E) (f.r.keeps (Kp.heap h.k)) h.r N
  g.2.elim λT q=>q.elim λid q=>PyProof.Rows.tail_any q.1 q.2 (bI g.1 λu z i=>i.tr (Kp.trans f.k h.k)) (subscripted_plain j))) (oF I)
theorem tB(h:SE Fd w A Fe cf a){s:yY}{Fj:Env}{l:yX zh}{H:y0->Prop}{ρ:yN (yS×D)}{m:Str->yX yR}{d:D}{Q:yR->yY->Prop}
  (f:chkO Fj.kindOf l a=yP) (c:Cc w Fe s Fj H ρ m a.names) (he:evE cf ρ a=ac d) (k:∀ v b,bA w s H d v b->Q v b):wpAny (y6 Fd w) A (evalPart l Fj) Q E s:=by
 cases l with
 | none=>exact y9 (k _ _ ⟨Kp.refl _,isNone_inv (C:=λa=>evE cf ρ a=ac d->Rep w.params s.heap H .none d) f (λhe=>yW he▸rfl) he⟩)
 | some x=>exact h.go f c he k
theorem qN{α:Type}(l:yN α)(a b:Nat):(l.drop (min a l.length)).take (min b l.length - min a l.length)=(l.take b).drop a:=by
 rw[List.drop_take]
 by_cases c:a<=l.length
 ·rw[Cv c]
  by_cases f:b<=l.length
  ·rw[Cv f]
  ·have f:=Nat.le_of_not_le f
   rw[DM f,CB (zk Co),CB (by rw[Co];exact Nat.sub_le_sub_right f a)]
 ·have c:=Nat.le_of_not_le c
  rw[DM c,List.drop_of_length_le (ze _),List.drop_of_length_le c,En,En]
structure lD(v:yR)(n dflt:Nat)(k:yX Int):Prop where
 p:IsPart v k
 e:(k=y7/\n=dflt)\/k=ac (n:Int)
theorem lT{P:zT}{h:Heap}{v:yR}{x:D}{n:Nat}(dflt:Nat)(b:Rep P h H v x)(a:bnd x dflt=ac n):∃ k,lD v n dflt k:=by
 cases x with
 | none=>exact b.noneE ⟨y7,.none,.inl ⟨QQ,(yW a).symm⟩⟩
 | int i=>exact b.intE λt=>bj a λc e=>⟨ac i,.int _ _,.inr (by rw[<- e,Bv c])⟩
 | _=>exact aj a
theorem lD.clip{v:yR}{n dflt k:Nat}{o:yX Int}(h:lD v k dflt o)(a:dflt<=n):o.elim dflt (clipAt n)=min k n:=h.e.elim (λq=>by rw[q.1,q.2,Cv a];rfl) λq=>by rw[q];exact clipAt_nat n k
theorem sl_list{x:yR}{ds:yN D}{f h:yR}{lo hi:D}(q:Ex s.heap H)(t:Rep w.params s.heap H x (.list ds))(u:Rep w.params s.heap H f lo)(y:Rep w.params s.heap H h hi)(he:slD (.list ds) lo hi=ac d){a:y0}
  (z:s.heap.get? a=ac { cls:=.type "slice",data:=.fields #[f,h,.none] }):wpAny (y6 Fd w) A (DR x (.ref a)) (cE w s H d d.isList) E s:=
 iU he λi h1 he=>bO he λj B e=>e▸t.listE λl vs n C G b c=>(lT 0 u h1).elim λI m=>(lT vs.size y (c.size.symm▸B)).elim λJ o=>
  wpAny_getItem_list_slice (aT C) ⟨_,z,QQ,QQ⟩ m.p o.p .none nofun (kB q (by rw[Co,C1];exact yQ (Dt _ _) (yQ (DN _ _) b)) (by
   rw[slicePick_plain,m.clip (zn _),o.clip (ze _)];exact (qN vs.toList i j).symm▸(c.take j).drop i) (λZ Z e=>Heap.gt_push_of_some _ e) (Heap.get?_push_size _ QQ)) (c.size.symm▸b)
theorem tA{P:zT}{h:Heap}{v:yR}{d:D}{a:yX Int}(r:Rep P h H v d)(b:bndS d=ac a):∃ l:yX (Int×Tok),v=partValue l/\l.map (·.1)=a:=by
 cases d with
 | none=>exact r.noneE ⟨y7,QQ,yW b⟩
 | int i=>exact r.intE λt=>⟨ac (i,t),QQ,yW b⟩
 | _=>exact aj b
theorem sl_str{x:Str}{t:Tok}{c f:yR}{lo hi:D}(h:Rep w.params s.heap H c lo)(i:Rep w.params s.heap H f hi)(he:slD (.str x) lo hi=ac d){a:y0}
  (j:s.heap.get? a=ac { cls:=.type "slice",data:=.fields #[c,f,.none] }):wpAny (y6 Fd w) A (DR (.str x t) (.ref a)) (cE w s H d d.isList) E s:=
 cN he λb he=>iU he λq h1 he=>bO he λy m e=>(tA h h1).elim λl n=>(tA i m).elim λu o=>by
  obtain⟨rfl,rfl⟩:=n;obtain⟨rfl,rfl⟩:=o;exact e▸wpAny_getItem_str_slice (st:=y7) ⟨_,j,QQ,QQ⟩ QQ (post_val_or_str ⟨yQ (Txt.slice_le _ _ _) b,λz k=>qY.pf QQ⟩)
theorem kU{v:yR}{k:yX Int}{Q:yX Int->yY->Prop}(a:IsPart v k)(h:Q k s):wpAny (y6 Fd w) A (Builtin.Slice.slicePartIndex v) Q E s:=by
 cases a with
 | none=>exact PyProof.Rows.slicePart_none h
 | int i t=>exact PyProof.Rows.slicePart_int h
theorem adjust_nat{f h:yR}{c kb:yX Int}{a b n:Nat}(i:lD f a 0 c)(j:lD h b n kb):Builtin.Slice.sliceAdjust c kb 1 (n:Int)=(((min a n:Nat):Int),((min b n:Nat):Int)):=by
 unfold Builtin.Slice.sliceAdjust;have h1:¬ ((1:Int)<0):=by decide
 simp only[h1,CA]
 congr 1
 ·rcases i.e with⟨rfl,rfl⟩ | rfl
  ·show (0:Int)=_;exact om44
  ·show (if (a:Int)<0 then _ else _)=_
   rw[za (uS)];exact om46
 ·rcases j.e with⟨rfl,rfl⟩ | rfl
  ·show (b:Int)=_;exact om47
  ·show (if (b:Int)<0 then _ else _)=_
   rw[za (uS)];exact om46
theorem places_nat(a b:Nat):Builtin.Slice.slicePlaces (a:Int) (b:Int) 1=b - a:=by
 unfold Builtin.Slice.slicePlaces;have h1:(1:Int) > 0:=by decide
 simp only[h1,Ed,Int.ediv_one]
 split
 ·rw[Int.sub_add_cancel];exact Int.toNat_sub b a
 ·next h=>exact (Nat.sub_eq_zero_of_le (AD.mp (Ce.mp h))).symm
theorem pick_nat(xs:zw yR)(a k:Nat):((zt k).filterMap λ(j:Nat)=>xs[((a:Int)+(j:Int) * 1).toNat]?)=(xs.toList.drop a).take k:=by
 have e:(λ(j:Nat)=>xs[((a:Int)+(j:Int) * 1).toNat]?)=λj=>xs[a+j]?:=by
  funext j
  have:((a:Int)+(j:Int) * 1).toNat=a+j:=by exact om48
  rw[this]
 rw[e];have:=pick_run xs a k;rw[List.filterMap_map] at this;exact this
theorem sliceApplied_nat{j:y0}{c f:yR}{m kb:yX Int}{a b n:Nat}{Q:Int×Int×Nat->yY->Prop}(i:s.heap.get? j=ac { cls:=.type "slice",data:=.fields #[c,f,.none] })(o:lD c a 0 m)(q:lD f b n kb)(h:Q (((min a n:Nat):Int),1,min b n - min a n) s):wpAny (y6 Fd w) A (Builtin.Slice.sliceApplied (.ref j) (pure (n:Int))) Q E s:=by
 unfold Builtin.Slice.sliceApplied Builtin.Slice.sliceFields;refine yT (yT (CC i QQ (x:=c) QQ (yT (CC i QQ (x:=f) QQ (yT (CC i QQ (x:=.none) QQ (y9 ?_)))))));refine yT (PyProof.Rows.slicePart_none ?_);show wpAny _ _ (if ((1:Int) == 0)=yP then _ else _) _ _ s
 rw[za (by decide)]
 refine yT (kU o.p (yT (kU q.p (yT (y9 ?_)))));show wpAny _ _ (match Builtin.Slice.sliceAdjust m kb 1 (n:Int) with | (lo,t)=>pure (lo,(1:Int),Builtin.Slice.slicePlaces lo t 1)) _ _ s
 rw[adjust_nat o q];show wpAny _ _ (pure (((min a n:Nat):Int),(1:Int),Builtin.Slice.slicePlaces ((min a n:Nat):Int) ((min b n:Nat):Int) 1)) _ _ s;rw[places_nat];exact y9 h
theorem sl_tup{x:yR}{ds:yN D}{q u:yR}{lo hi:D}(I:Ex s.heap H)(J:Rep w.params s.heap H x (.tup ds))(L:Rep w.params s.heap H q lo)(M:Rep w.params s.heap H u hi)(he:slD (.tup ds) lo hi=ac d){i:y0}
  (y:s.heap.get? i=ac { cls:=.type "slice",data:=.fields #[q,u,.none] }):wpAny (y6 Fd w) A (DR x (.ref i)) (cE w s H d d.isList) E s:=by
 refine iU he λa h1 he=>bO he λb N e=>e▸J.tupE λt items n z j o B=>(lT 0 L h1).elim λV O=>(lT items.size M (B.size.symm▸N)).elim λX T=>?_
 have h:=fC z;have f:((ds.take b).drop a).length<=big:=by rw[Co,C1];exact yQ (Dt _ _) (yQ (DN _ _) o)
 have c:ao w.params s.heap H ((items.toList.drop (min a items.size)).take (min b items.size - min a items.size)) ((ds.take b).drop a):=(qN items.toList a b).symm▸(B.take b).drop a;unfold DR
 try with_reducible refine Bx ?_
 first | refine yT (y9 ?_) | skip
 refine yT (wpAny_sequenceKey h.typeIs (by decide) ?_)
 refine yT (BX (name:=yO "__getitem__") h.typeIs PyProof.Rows.slot_tuple_getitem
  (AV PyProof.Rows.slot_tuple_getitem h.typeIs PyProof.Rows.entry_tuple_getitem ?_ (PyProof.Rows.args_tuple_getitem _ _)))
 show wpAny _ _ (Builtin.Tuple.tupleItemsOf (.ref t) >>= _) _ _ s;refine yT (PyProof.Rows.tupleItemsOf_ h (yT (EI (show s.TypeIs (.ref i) "slice" from⟨_,y,QQ⟩) ?_)));rw[y8 (by decide)]
 refine yT (sliceApplied_nat y O T ?_);show wpAny _ _ (if (((min a items.size:Nat):Int) == 0&&(1:Int) == 1&&(min b items.size - min a items.size) == items.size)=yP then _ else _) _ _ s
 split
 ·rename_i U
  refine iL U λc1 Z c2=>?_
  have C:min a items.size=0:=Bb (eq_of_beq c1);have G:=eq_of_beq c2;rw[C,Nat.sub_zero] at G;rw[C,Nat.sub_zero,G,List.drop_zero,CB (zk zP)] at c;refine yT (m:=Builtin.Tuple.tupleIsExact _) (yT (EI h.typeIs (y9 ?_)));rw[y8 (by decide)]
  exact yT (Dy (y9 ⟨_,QQ,y9 ⟨Kp.refl _,.mk z j f c,nofun⟩⟩))
 ·rw[pick_nat]
  exact yT (m:=Builtin.Tuple.tupleExact _) (Ah (y9 ⟨_,QQ,y9 ⟨Kp.push _ _,lh I f c,nofun⟩⟩) (show ((items.toList.drop (min a items.size)).take (min b items.size - min a items.size)).toArray.size<=sizeLine from yQ (zk (CI.trans c.length)) (yQ f (by decide))))
theorem slice_snd{v:yR}{x:D}{j m:yR}{lo hi:D}(n:Ex s.heap H)(b:Rep w.params s.heap H v x)(c:Rep w.params s.heap H j lo)(f:Rep w.params s.heap H m hi)(he:slD x lo hi=ac d){a:y0}
  (h:s.heap.get? a=ac { cls:=.type "slice",data:=.fields #[j,m,.none] }):wpAny (y6 Fd w) A (DR v (.ref a)) (cE w s H d d.isList) E s/\yH s v:=by
 cases x with
 | str x=>exact b.strE λt=>⟨sl_str c f he h,"str",_,typeIs_str _ _ _,F.slot_str_getitem.lookup⟩
 | tup ds=>exact⟨sl_tup n b c f he h,b.tupE λZ Z Z i Z Z Z=>⟨"tuple",_,(fC i).typeIs,F.slot_tuple_getitem.lookup⟩⟩
 | list ds=>exact⟨sl_list n b c f he h,b.listE λZ Z Z i Z Z Z=>⟨"list",_,(aT i).typeIs,F.slot_list_getitem.lookup⟩⟩
 | _=>exact aj he
theorem sf_sl{lo hi:ME}(G:SE Fd w A Fe cf a)(I:SE Fd w A Fe cf lo)(J:SE Fd w A Fe cf hi):SF Fd w A Fe cf (.sl a lo hi):=λs Fj e H ρ m d fr E L c n=>
 fP n QQ λn M=>evi_sl n λx y z N O U V=>ISl.rec (motive:=λe Z=>wpAny (y6 Fd w) A (zQ e Fj) (cE w s H d fr) E s) (λh1 X Y=>PyProof.Rows.Subscript_ (G.go h1 c.l.l N λv o h=>wpAny_Slice (tB I X (c.l.r.k h.k) O λt u i=>
  have k2:=Kp.trans h.k i.k
  tB J Y (c.r.k k2) U λB b f=>y9 (
   have j:=Kp.push b { cls:=.type "slice",data:=.fields #[t,B,.none] }
   have C:=Kp.trans (Kp.trans k2 f.k) j
   have g:=slice_snd (Fd:=Fd) (A:=A) (E:=E) (s:={ b with heap:=b.heap.push { cls:=.type "slice",data:=.fields #[t,B,.none] } }) (c.k C).x (h.r.keeps (Kp.heap (Kp.trans (Kp.trans i.k f.k) j))) (i.r.keeps (Kp.heap (Kp.trans f.k j))) (f.r.keeps (Kp.heap j)) V (Heap.get?_push_size b.heap QQ)
   g.2.elim λT q=>q.elim λid q=>PyProof.Rows.tail_any (ops:=[_,_]) q.1 q.2 (bI g.1 λZ Z q=>M▸q.tr C) QQ)))) (x7 L)
end
section
variable {Fd:zv} {w:zD} {A:zF} {s:yY} {Fe:Heap} {mg mb:Str->yX yR} {cf:CF}
theorem jg{f:yR}{es:yN zh}{b:yN ME}{Fj:Env}{a:Pos}{Q:Args->yY->Prop}{E:yR->yY->Prop}(c:cD Fj.kindOf es b=yP)
  (h:wpAny (y6 Fd w) A (spliced (es.map λe=>(yM,zQ e Fj))) (λvs s'=>Q ⟨vs,[]⟩ s') E s) :
  wpAny (y6 Fd w) A (evalArgs f yP (backTo a (B9 es Fj)) []) Q E s:=by
 rw[fV c,iJ];cases es with
 | nil=>
  unfold evalArgs;show wpAny _ A (spliced [] >>= _) Q E s;exact yT (bI h λvs s' h'=>yT (y9 (Bx (yT (y9 (yT (y9 (y9 h'))))))))
 | cons e es=>exact Calls.evalArgs_plain h
theorem any_false(es:yN zh)(Fj:Env):((es.map λe=>(yM,zQ e Fj)).any (·.1))=yM:=by
 induction es with
 | nil=>rfl
 | cons _ _ a=>simpa using a
theorem vt(G:GOk mg mb Fe)(C:CS0 Fd w Fe mg cf A){f:yS}{u:yN ME}(B:SEs Fd w A Fe cf u):SF Fd w A Fe cf (.call f u):=λs Fj e H ρ m d fr E I c J=>
 evi_callF J λds n t=>rL.rec (motive:=λe Z=>wpAny (y6 Fd w) A (zQ e Fj) (cE w s H d fr) E s) (λ{N L M} y h=>(C f ds d fr t).elim λa q=>q.elim λo q=>q.elim λfd q=>
  PyProof.Rows.Call_Name QQ (Calls.Name_function_global c.R.kind (fS y).1 (Calls.loadGlobal_global (mg:=mg) (c.R.glob▸Ns.keepAt G.g (c.hw.keep _)) q.1 (Calls.callWith_function (o:=o) (fd:=fd) (jg h (
   bI (B s Fj L H ρ m ds E h c n) λvs b i=>i.rec λk r=>⟨⟨Heap.of_gt ((c.k k).hw.keep _ _ q.2.1) (cH (by rw[q.2.2.1];nofun)),q.2.2.1⟩,bI (q.2.2.2 b H vs E (c.k k).hw r) λv z j=>j.tr k⟩)))) (by simpa using (fS y).2))) (l6 I)
theorem fB(G:GOk mg mb Fe){Fj:Env}{m:Str->yX yR}{H:y0->Prop}{f:yS}{p:Pos}{E:yR->yY->Prop}{Q:yR->yY->Prop}(a:f∈dC)(R:bN s.heap Fj m)(c:HOk Fe s.heap H)
  (i:cF Fj.kindOf (yO f)=yP) (h:Q (dZ f) s):wpAny (y6 Fd w) A (zQ (.Name (yO f) p) Fj) Q E s:=
 Calls.Name_function_global R.kind (fS i).1 (Calls.loadGlobal_builtin (mg:=mg) (mb:=mb) (R.glob▸Ns.keepAt G.g (c.keep _)) (G.blt f a).1 (R.blt▸Ns.keepAt G.b (c.keep _)) (G.blt f a).2 h) (by simpa using (fS i).2)
theorem bltVal_is(f:yS):(∃ id,dZ f=.builtin id)\/∃ T,dZ f=.type T:=by
 unfold dZ;cases yx.contains f with
 | true=>exact .inl ⟨_,QQ⟩
 | false=>exact .inr ⟨_,QQ⟩
theorem eV{f:yS}{a:Pos}{es:yN zh}{i:yN ME}{Fj:Env}{Q:yR->yY->Prop}{E:yR->yY->Prop}(b:cD Fj.kindOf es i=yP)
  (h:wpAny (y6 Fd w) A (spliced (es.map λe=>(yM,zQ e Fj))) (λvs s'=>wpAny (y6 Fd w) A (call (dZ f) vs) Q E s') E s) :
  wpAny (y6 Fd w) A (callWith a (dZ f) [] (backTo a (B9 es Fj)) []) Q E s:=by
 have c:(backTo a (B9 es Fj)).any (·.1)=yM:=by rw[fV b,iJ];exact any_false _ _
 rcases bltVal_is f with⟨id,e⟩ | ⟨T,e⟩
 ·rw[e] at h ⊢;exact Calls.callWith_builtin c (jg b h)
 ·rw[e] at h ⊢;exact PyProof.Rows.callWith_type c (jg b h)
theorem se_blt(G:GOk mg mb Fe)(q:A.handled=y7){f:yS}{j:yN ME}(t:f∈dC)(u:SEs Fd w A Fe cf j):SE Fd w A Fe cf (.blt f j):=λs Fj e H ρ m d E y c z=>
 wJ z λds i B=>rL.rec (motive:=λe Z=>wpAny (y6 Fd w) A (zQ e Fj) (bA w s H d) E s) (λ{L C I} J h=>PyProof.Rows.Call_Name QQ (fB G t c.R c.hw J (eV h (
  bI (u s Fj C H ρ m ds E h c i) λvs n a=>a.rec λk r=>bI (blt_snd q r (c.k k).x B) λv o b=>b.tr k)))) (wt y)
theorem xh{k:KD}{x:zh}{a:ME}(h:aH k x a=yP):cD k [x] [a]=yP:=zE.mpr ⟨h,QQ⟩
theorem sf_lcp(G:GOk mg mb Fe)(t:A.handled=y7){a:ME}(u:SE Fd w A Fe cf a):SF Fd w A Fe cf (.lcp a):=λs Fj e H ρ m d fr E y c j=>
 fP j QQ λj z=>evi_lcp j λx ds B n C=>km.rec (motive:=λe Z=>wpAny (y6 Fd w) A (zQ e Fj) (cE w s H d fr) E s) (λI h=>PyProof.Rows.Call_Name QQ (fB G (f:="list") (by decide) c.R c.hw I (eV (xh h) (Calls.spliced_cons (
  u.go h c B λv o b=>Calls.spliced_nil (bI (lst_snd t b.r (c.k b.k).x n) λv q i=>C▸z▸i.tr b.k)))))) (wl y)
theorem tT{d:D}{T:yS}{t:yU}(h:pH d T=ac t):T∈dC/\dZ T=.type T:=
 cN h λa Z=>ri (C:=λT=>T∈dC/\dZ T=.type T) a ⟨by decide,QQ⟩ ⟨by decide,QQ⟩ ⟨by decide,QQ⟩ ⟨by decide,QQ⟩ ⟨by decide,QQ⟩
theorem se_isi(G:GOk mg mb Fe){a:ME}{T:yS}(u:SE Fd w A Fe cf a):SE Fd w A Fe cf (.isi a T):=λs Fj e H ρ m d E y c z=>
 evi_isi z λx t B j C=>IIsi.rec (motive:=λe Z=>wpAny (y6 Fd w) A (zQ e Fj) (bA w s H d) E s) (λ{M x I J} L n h=>PyProof.Rows.Call_Name (trees:=[(yM,zQ x Fj),(yM,zQ (.Name (yO T) I) Fj)]) (by rw[iq h];rfl) (fB G (f:="isinstance") (by decide) c.R c.hw L
  (Calls.callWith_builtin QQ (Calls.evalArgs_plain (Calls.spliced_cons (u.go h c B λv o b=>Calls.spliced_cons (fB G (tT j).1 (c.k b.k).R (c.k b.k).hw n (Calls.spliced_nil ((tT j).2.symm▸bI (isi_snd b.r j) λv q i=>C▸i.tr b.k))))))))) (wm y)
end
end Mine
namespace Mine
open PySem PyProof.Rows
theorem xO{lo hi:Nat}(h:lo<hi):lo<=(lo+hi) / 2/\(lo+hi) / 2<hi:=
 ⟨(Nat.le_div_iff_mul_le (Az 1)).mpr (Nat.mul_two lo▸zN (zU h) lo),Nat.div_lt_of_lt_mul (Nat.two_mul hi▸Nat.add_lt_add_right h hi)⟩
theorem mid_less{lo hi m n x:Nat}(h1:lo<=m)(b:m<hi)(a:hi - lo<=n - x)(c:x<n):hi - (m+1)<=n - (x+1)/\m - lo<=n - (x+1):=
 ⟨yQ (Nat.sub_le_sub_left (zs h1) hi) (Nat.pred_le_pred a),CJ (zf (Nat.sub_lt_sub_right h1 b) a)⟩
structure Wk(kl:Nat->Nat->yU):Prop where
 irr:∀ p,kl p p=yM
 tr:∀ {p q r},kl p q=yP->kl q r=yP->kl p r=yP
 neg:∀ {p q r},kl p q=yM->kl q r=yM->kl p r=yM
noncomputable def Rk(kl:Nat->Nat->yU)(p q:Nat):Prop:=kl p q=yP\/(kl q p=yM/\p<q)
section
variable {kl:Nat->Nat->yU}
section
variable {p q r:Nat}
theorem Wk.asym(W:Wk kl)(h:kl p q=yP):kl q p=yM:=by
 cases e:kl q p with
 | false=>rfl
 | true=>have:=W.tr h e;rw[W.irr] at this;cases this
theorem Wk.lt_le(W:Wk kl)(h:kl p q=yP)(a:kl r q=yM):kl p r=yP:=by
 cases e:kl p r with
 | true=>rfl
 | false=>have:=W.neg e a;rw[h] at this;cases this
theorem Wk.le_lt(W:Wk kl)(h:kl q p=yM)(a:kl q r=yP):kl p r=yP:=by
 cases e:kl p r with
 | true=>rfl
 | false=>have:=W.neg h e;rw[a] at this;cases this
theorem Rk.le(W:Wk kl)(h:Rk kl p q):kl q p=yM:=h.elim W.asym (·.1)
theorem Rk.tr(W:Wk kl)(h:Rk kl p q)(a:Rk kl q r):Rk kl p r:=by
 rcases h with h | ⟨h,l⟩
 ·exact .inl (W.lt_le h (a.le W))
 ·rcases a with a | ⟨a,l2⟩
  ·exact .inl (W.le_lt h a)
  ·exact .inr ⟨W.neg a h,Aj l l2⟩
end
structure Mg(R:Nat->Nat->Prop)(T G xs ys:yN Nat):Prop where
 perm:(G++(xs++ys)).Perm T
 srt:G.Pairwise R
 le:∀ g∈G,∀ y,y∈xs\/y∈ys->R g y
variable {R:Nat->Nat->Prop} {T G xs ys:yN Nat}
end
end Mine
namespace Mine
open PySem
noncomputable abbrev Ris(xs:zw Nat):Prop:=xs.toList.Pairwise (·<·)
theorem qp{xs:zw Nat}(w:Ris xs)(j:Nat):∀ (fuel lo hi:Nat),hi - lo<=fuel->lo<=hi->hi<=xs.size->(∀ i (h:i<xs.size),i<lo->xs[i]<j)->(∀ i (h:i<xs.size),hi<=i->j<=xs[i]) ->
  ∃ k,SetTable.below.go xs j fuel lo hi=k/\k<=xs.size/\(∀ i (h:i<xs.size),i<k->xs[i]<j)/\(∀ i (h:i<xs.size),k<=i->j<=xs[i])
 | 0,lo,hi,h1,y,f,s,t=>by
  have e:lo=hi:=BM y (DS (Eg.mp h1));subst e;exact⟨lo,QQ,f,s,t⟩
 | fuel+1,lo,hi,h1,y,f,s,t=>by
  have mono:∀ i n (h:i<xs.size) (h':n<xs.size),i<n->xs[i]<xs[n]:=λi n h h' l=>by
   have:=BF.mp w i n (by simpa using h) (by simpa using h') l
   simpa using this
  show ∃ k,(if lo<hi then (if xs.getD ((lo+hi) / 2) j<j then SetTable.below.go xs j fuel ((lo+hi) / 2+1) hi else SetTable.below.go xs j fuel lo ((lo+hi) / 2)) else lo)=k/\_
  by_cases u:lo<hi
  ·rw[y8 u]
   have o:=xO u;have b:lo<=(lo+hi) / 2/\(lo+hi) / 2<hi/\hi - ((lo+hi) / 2+1)<=fuel/\(lo+hi) / 2 - lo<=fuel:=⟨o.1,o.2,mid_less (x:=0) o.1 o.2 h1 (Az fuel)⟩;clear o;generalize (lo+hi) / 2=m at b ⊢;have a:m<xs.size:=zf b.2.1 f;have z:xs.getD m j=xs[m]:=by rw[Array.getD_eq_getD_getElem?,Bp xs m a];rfl
   rw[z]
   by_cases c:xs[m]<j
   ·rw[y8 c]
    refine qp w j fuel (m+1) hi b.2.2.1 b.2.1 f (λi h q=>?_) t
    rcases zY (zJ q) with q | rfl
    ·exact Aj (mono i m h a q) c
    ·exact c
   ·rw[za c]
    refine qp w j fuel lo m b.2.2.2 b.1 (zU a) s λi h q=>?_
    rcases zY q with q | rfl
    ·exact zU (y3 (EJ c) (mono m i a h q))
    ·exact EJ c
  ·rw[za u]
   have e:lo=hi:=BM y (EJ u);subst e;exact⟨lo,QQ,f,s,t⟩
theorem uv{xs:zw Nat}(a:Ris xs)(j:Nat):SetTable.below xs j<=xs.size/\(∀ i (h:i<xs.size),i<SetTable.below xs j->xs[i]<j)/\(∀ i (h:i<xs.size),SetTable.below xs j<=i->j<=xs[i]):=by
 obtain⟨k,e,h⟩:=qp a j xs.size 0 xs.size (zk (Nat.sub_zero _)) (zn _) (ze _) (λZ Z h=>zA h (AZ _)) λi h q=>zA h (DO q)
 unfold SetTable.below;rw[e];exact h
structure eK(bt:yU)(t:Bq):Prop where
 dum:t.dummies=#[]
 ris:Ris t.place
 led:t.led=!bt
theorem wB(j:Nat):SetTable.has #[] j=yM:=rfl
theorem eK.put{bt:yU}{t:Bq}(h:eK bt t){j:Nat}(s:t.slot j=.empty):eK bt (t.put j).1:=by
 have o:=uv h.ris j;have m:t.place[SetTable.below t.place j]?≠ac j:=λe=>by
  unfold SetTable.slot at s;rw[y8 (by rw[e];exact zu _)] at s;cases s
 refine⟨?_,?_,h.led⟩
 ·show (if SetTable.has t.dummies j=yP then _ else t.dummies)=#[]
  rw[h.dum,wB];rfl
 ·show (SetTable.insertAt t.place (SetTable.below t.place j) j).toList.Pairwise (·<·)
  rw[SetTable.toList_insertAt];generalize SetTable.below t.place j=k at o m;have n:t.place.toList.Pairwise (·<·):=h.ris;have b:=C2.mp ((CM k t.place.toList).symm▸n);have lo:∀ x∈t.place.toList.take k,x<j:=λx c=>by
   obtain⟨i,f,rfl⟩:=BY c;have a:i<k:=zf f (List.length_take_le _ _);have:=o.2.1 i (zf a o.1) a;rw[List.getElem_take];simpa using this
  have f:∀ x∈t.place.toList.drop k,j<x:=λx c=>by
   obtain⟨i,f,rfl⟩:=BY c;rw[Co] at f;have a:k+i<t.place.size:=by simpa using Nat.add_lt_of_lt_sub' f
   have u:k<t.place.size:=y3 (zo _ _) a;have w:=o.2.2 k u (ze _);have h1:t.place[k]≠j:=λe=>m (by rw[Bp _ k u,e])
   have z:t.place[k]<=t.place[k+i]:=by
    rcases Nat.eq_zero_or_pos i with rfl | q
    ·exact ze _
    ·have:=BF.mp h.ris k (k+i) (by simpa using u) (by simpa using a) (AL q)
     exact zU (by simpa using this)
   rw[List.getElem_drop];have:j<t.place[k+i]:=zf (Cw w (Ne.symm h1)) z;simpa using this
  refine C2.mpr ⟨b.1,AG.mpr ⟨f,b.2.1⟩,λx c y hy=>?_⟩
  rcases zc.mp hy with rfl | hy
  ·exact lo x c
  ·exact b.2.2 x c y hy
theorem ris_range(n:Nat):Ris (Array.range n):=by
 show (Array.range n).toList.Pairwise _;rw[Array.toList_range];exact DI
theorem eK.standIn{bt:yU}{t:Bq}(h:eK bt t)(n:Nat):eK bt (t.standIn n):=⟨QQ,ris_range n,h.led⟩
theorem eK.orStandIn{bt:yU}{t:Bq}(h:eK bt t)(n:Nat):eK bt (t.orStandIn n):=by
 unfold SetTable.orStandIn;split
 ·exact h
 ·exact h.standIn n
theorem ty{t:Bq}(m:t.dummies=#[]){f:Nat->Int}{h:Int}:∀ (fuel:Nat) (p:SetTable.Probe) {j:Nat} {d:yX Nat},p.dummy=y7->SetTable.probe.go t f h fuel p=ac (.empty j d)->t.slot j=.empty/\d=y7
 | 0,p,j,d,b,e=>by cases e
 | fuel+1,p,j,d,b,e=>by
  have c:∀ q:SetTable.Probe,q.dummy=y7->(t.advance q).dummy=y7:=λq hq=>by unfold SetTable.advance;split <;> exact hq
  unfold SetTable.probe.go at e;cases a:t.slot p.j with
  | empty=>rw[a] at e;cases e;exact⟨a,b⟩
  | dummy=>
   exfalso;unfold SetTable.slot at a;rw[m,wB] at a;dsimp only at a;split at a <;> cases a
  | live i=>
   rw[a] at e;dsimp only at e;split at e
   ·cases e
   ·exact ty m fuel _ (c p b) e
theorem free_ok{bt:yU}{t:Bq}(h:eK bt t){x:Int}{j:Nat}{b:yU}(e:t.freeSlot x=ac (j,b)):t.slot j=.empty:=by
 unfold SetTable.freeSlot at e;split at e
 ·rename_i c d a
  have:=ty h.dum _ _ QQ a;rw[this.2] at e;cases e;exact this.1
 ·cases e
theorem eK.layNew{bt:yU}{t:Bq}(h:eK bt t)(es:zw (Int×yR))(x:Int)(v:yR):eK bt (layNew t es x v).2.1:=by
 unfold PySem.layNew
 split
 ·rename_i b a e
  exact (h.put (free_ok h e)).orStandIn _
 ·exact h.standIn _
theorem pv{g:Nat->yX Nat}:∀ l:yN Nat,((l.filterMap λj=>(g j).map (j,·)).map (·.1))=l.filter λj=>(g j).isSome
 | []=>rfl
 | j::l=>by
  rw[Df,AK];cases e:g j with
  | none=>exact pv l
  | some y=>exact zj (j::·) (pv l)
theorem eK.relay{bt:yU}{t:Bq}(h:eK bt t)(es:zw (Int×yR))(n:Nat):eK bt (EK t es n).2.1:=by
 unfold EK
 split
 ·rename_i i b e
  dsimp only
  split
  ·unfold SetTable.relaid SetTable.laid at e
   cases c:SetTable.layClean (SetTable.sizeAbove n - 1) (es.map (·.1)) with
   | none=>rw[c] at e;cases e
   | some a=>
    rw[c] at e;have f:=(z9 (yW e)).1;rw[<- f];refine⟨QQ,?_,h.led⟩;show ((((zt (SetTable.sizeAbove n - 1+1)).filterMap λj=>(a.getD j y7).map (j,·)).map (·.1)).toArray).toList.Pairwise (·<·)
    rw[pv];exact DI.sublist List.filter_sublist
  ·exact h.standIn _
 ·exact h.standIn _
noncomputable abbrev jx(es:zw (Int×yR))(ep:Nat)(t:Bq):Obj:={ cls:=.type "set",dict:=none,data:=.set es ep t,slots:=#[] }
noncomputable def bX(es:zw (Int×yR)):yN Int:=es.toList.map λe=>PyProof.Rows.numOf e.2
structure lC(bt:yU)(h:Heap)(a:y0)(es:zw (Int×yR)):Prop where
 obj:∃ ep t,h.get? a=ac (jx es ep t)/\t.fits es.size=yP/\eK bt t
 el:∀ e∈es.toList,∃ k tok,e=(Du k,.int k tok)
 nod:(bX es).Nodup
section
variable {Fd:zv} {w:zD} {A:zF} {E:yR->yY->Prop} {s:yY} {bt:yU} {a:y0} {es:zw (Int×yR)}
theorem els_of(h:∀ e∈es.toList,∃ k tok,e=(Du k,.int k tok)):ElemsOf (ED Fd w) es.toList:=λe a=>by
 obtain⟨k,tok,rfl⟩:=h e a;exact⟨⟨k,fg k tok,QQ⟩,QQ⟩
theorem lE{b:zw (Int×yR)}{ep:Nat}{t c:Bq}{Q:Unit->yY->Prop}(f:s.heap.get? a=ac (jx es ep t))(hz:b.size<CT)
  (h:∀ h',Heap.SameBut a s.heap h'->h'.get? a=ac (jx b (ep+1) c)->Q () { s with heap:=h' }):wpAny (y6 Fd w) A (storeSet a b c) Q E s:=by
 refine wpAny_storeSet_of f QQ (h _ (Heap.SameBut.update _ _ _) ?_) (Ey hz);exact Heap.get?_update_self (Obj.putSet b c) f QQ
theorem wpAny_addI{k:Int}{tok:Tok}{Q:yU->yY->Prop}(FR:lC bt s.heap a es)(B:es.size+1<CT)
  (h:∀ h' i,Heap.SameBut a s.heap h'->lC bt h' a i->(bX i).Perm (if k∈bX es then bX es else bX es++[k])->∀ b,Q b { s with heap:=h' }) :
  wpAny (y6 Fd w) A (setAddHashed a (.int k tok) (Du k)) Q E s:=by
 obtain⟨⟨ep,t,Fz,FA,FN⟩,C,M⟩:=FR;have N:=els_of (Fd:=Fd) (w:=w) C;have Fp:(ED Fd w).is k (.int k tok)=yP:=fg k tok;unfold setAddHashed setAddHashedIn;refine Bx (yT (Cb Fz QQ FA ?_));dsimp only;rw[byScan_of (knd:=ED Fd w) rfl (Aa B) N,y8 rfl];unfold setAddByScan;refine yT (yT (Dy (yT (wpAny_setScan_of Fp Fz QQ FA N ?_))));have Fq:∀ e∈es.toList,(ED Fd w).is k e.2=yP->k∈bX es:=λe he q=>by
  obtain⟨O,n,rfl⟩:=C e he;have:=Value.isInt_inj (.int O n) k O q (fg O n);subst this;exact zz.mpr ⟨_,he,QQ⟩
 cases FO:List.findIdx? (λe=>(ED Fd w).is k e.2) es.toList with
 | some j=>
  obtain⟨FS,FE,_⟩:=List.findIdx?_eq_some_iff_getElem.mp FO;have FF:=Fq _ (AJ FS) FE;refine y9 (y9 ?_);exact h s.heap es (Heap.SameBut.refl a s.heap) ⟨⟨ep,t,Fz,FA,FN⟩,C,M⟩ (by rw[y8 FF]) yM
 | none=>
  have T:k ∉ bX es:=λq=>by
   obtain⟨e,he,q⟩:=zz.mp q;obtain⟨O,n,rfl⟩:=C e he;have FT:O=k:=q;subst FT;have:=List.findIdx?_eq_none_iff.mp FO _ he;rw[show (ED Fd w).is O (.int O n)=yP from fg O n] at this;cases this
  rw[za T] at h;have f:=layNew_perm t es (Du k) (.int k tok);have m:=layNew_fits t es (Du k) (.int k tok);have J:=FN.layNew es (Du k) (.int k tok);dsimp only;generalize layNew t es (Du k) (.int k tok)=L at f m J ⊢;obtain⟨c,F5,u,FP⟩:=L;dsimp only at f m J ⊢;rw[CH] at f;have U:∀ e∈c.toList,∃ k tok,e=(Du k,.int k tok):=λe he=>by
   rcases zM.mp (f.mem_iff.mp he) with he | he
   ·exact C e he
   ·rw[zg.mp he];exact⟨k,tok,QQ⟩
  have X:(bX c).Perm (bX es++[k]):=by
   have:=f.map λ(e:Int×yR)=>PyProof.Rows.numOf e.2
   rwa [zq] at this
  have V:c.size<CT:=by
   have:=f.length_eq;rw[zd,zP,zP] at this;rw[this];exact B
  have G:∀ o,(bX o).Perm (bX es++[k])->(bX o).Nodup:=λo FU=>FU.nodup_iff.mpr (List.nodup_append.mpr ⟨M,Be.mpr ⟨zV,List.nodup_nil⟩,λx FV y FW e=>T (by
   rw[zg.mp FW] at e;exact e▸FV)⟩)
  have FQ:∀ (b:yU) {H:yY} {FG:Unit->yY->Prop},FG () H->wpAny (y6 Fd w) A (match b with | true=>rule "set.scan.the-table-gave-way" | false=>pure ()) FG E H:=
   λb H FG hq=>by cases b <;> first | exact y9 hq | exact Dy hq
  have fin:∀ z:Bq,z.fits c.size=yP->eK bt z->wpAny (y6 Fd w) A (do
    storeSet a c z
    if (!u&&z.tooFull)=yP then do
      (match (EK z c (SetTable.grown c.size)).2.2 with | true=>rule "set.scan.the-table-gave-way" | false=>pure ())
      storeSet a (EK z c (SetTable.grown c.size)).1 (EK z c (SetTable.grown c.size)).2.1
      pure (ac yP)
     else pure (ac yP)) (λr s'=>∃ h' i,s'={ s with heap:=h' }/\r=ac yP/\Heap.SameBut a s.heap h'/\lC bt h' a i/\(bX i).Perm (bX es++[k])) E s:=λz FH Fs=>by
   refine yT (lE Fz V λh1 Ft Fu=>?_)
   split
   ·have I:=relayAll_perm z c (SetTable.grown c.size)
    have Y:=relayAll_fits z c (SetTable.grown c.size);have Z:=Fs.relay c (SetTable.grown c.size);generalize EK z c (SetTable.grown c.size)=FY at I Y Z ⊢;obtain⟨o,FZ,FJ⟩:=FY;dsimp only at I Y Z ⊢;have Fv:(bX o).Perm (bX es++[k]):=(I.map λ(e:Int×yR)=>PyProof.Rows.numOf e.2).trans X
    have Fw:o.size<CT:=by
     have:=I.length_eq;rw[zP,zP] at this;rw[this];exact V
    refine yT (FQ _ (yT (lE (s:={ s with heap:=h1 }) Fu Fw λF0 FK FM=>y9 ?_)))
    exact⟨F0,o,QQ,QQ,Ft.trans FK,⟨⟨_,FZ,FM,Y,Z⟩,λe he=>U e (I.mem_iff.mp he),G o Fv⟩,Fv⟩
   ·exact y9 ⟨h1,c,QQ,QQ,Ft,⟨⟨_,z,Fu,FH,Fs⟩,U,G c X⟩,X⟩
  have done:∀ r s',(∃ h' i,s'={ s with heap:=h' }/\r=ac yP/\Heap.SameBut a s.heap h'/\lC bt h' a i/\(bX i).Perm (bX es++[k])) ->
    wpAny (y6 Fd w) A (match r with | some Fo=>pure Fo | none=>setAddHashedIn a (.int k tok) (Du k) 99999) Q E s':=λr s' q=>by
   obtain⟨h',i,rfl,rfl,F3,q2,F4⟩:=q;exact y9 (h h' i F3 q2 F4 yP)
  refine yT (FQ _ ?_)
  split
  ·refine yT ?_
   rw[hashByValue_scannable 8 rfl];exact y9 (CW (fin _ m J) (λr s' q=>done r s' q) λEV EV e=>e)
  ·exact yT (y9 (CW (fin _ m J) (λr s' q=>done r s' q) λEV EV e=>e))
end
noncomputable def dS(w:zD):yU:=w.params.followText "set-order"
section
variable {Fd:zv} {w:zD} {A:zF} {E:yR->yY->Prop} {s:yY}
theorem fM{Q:yU->yY->Prop}(h:Q (dS w) s):wpAny (y6 Fd w) A setsByText Q E s:=by
 unfold setsByText;exact yT (wpAny_askSetting (y9 h))
theorem code_set_new'(a:yR){Q₁:yR->yY->Prop}
  (h:Q₁ (.ref s.heap.objs.size) { s with heap:=s.heap.push (jx #[] 0 (.fresh 0 0 (!dS w))) }) :
  EC (y6 Fd w) A (.call (.builtin "set.__new__") ⟨[.type "set",a],[]⟩) (wants Q₁ E) s:=by
 refine codeAny_of_tree ?_;show wpAny _ A.in1 (do checkBuiltinCall "set.__new__" ⟨[.type "set",a],[]⟩;again (.builtin "set.__new__" ⟨[.type "set",a],[]⟩)) _ _ s
 refine yT (BH (F.newCall_set_1 a) (y9 ⟨DK F.plain_set_new _,B7 F.entry_set_new ?_⟩));rw[Around.under_plainId F.plain_set_new _];unfold Bz.«set.__new__» Builtin.Frozenset.newClass;have b:=sub_set_self;obtain⟨c,g,d,tk,os⟩:=s;dsimp only
 wp_walk
 refine wpAny_askSetting (y9 ?_);dsimp only;simp only[newObj];refine yT (wpAny_alloc (y9 ?_));exact y9 h
theorem lC.move{bt:yU}{h h':Heap}{a:y0}{es:zw (Int×yR)}(S:lC bt h a es)(k:∀ o,h.get? a=ac o->h'.get? a=ac o):lC bt h' a es:=by
 obtain⟨ep,t,b,c,f⟩:=S.obj;exact⟨⟨ep,t,k _ b,c,f⟩,S.el,S.nod⟩
theorem fill_loop{R:Result->yY->Prop}{I:y0}{fp O:yN y0}{n:Nat}{P:Nat->yR->Prop}{St:Nat->Heap->Prop}(W:C0 Fd w A.in1 I fp O n P St)(S:y0)(H:S ∉ fp){bt:yU}
  {ns:yN Int} (J:∀ i v,P i v->∃ k t,ns[i]?=ac k/\v=.int k t) (Fp:ns.length=n) (u:n+1<CT)
  (Fq:∀ (h':Heap) (tk:Nat) es,(∀ b o,b ∉ S::O->s.heap.get? b=ac o->h'.get? b=ac o)->lC bt h' S es->(∀ k,k∈bX es↔k∈ns)->R (.ok (.ret .none)) { s with heap:=h',toks:=tk }) :
  ∀ (k i:Nat) (h:Heap) (tk:Nat) (es:zw (Int×yR)),n - i=k->i<=n->St i h->(∀ b o,b ∉ S::O->s.heap.get? b=ac o->h.get? b=ac o)->lC bt h S es->(∀ k,k∈bX es↔k∈ns.take i)->es.size<=i ->
   EC (y6 Fd w) A (.builtin "set.update.loop" ⟨[.ref S,.ref I],[]⟩) R { s with heap:=h,toks:=tk }:=by
 have L:S ∉ O:=λh=>H (W.sub _ h)
 intro k
 induction k with
 | zero=>
  intro i h tk es T U B a V X _;have Y:i=n:=BM U (DS T);subst Y;refine B7 PyProof.Rows.F.entry_set_update_loop ?_;rw[Around.under_plainId PyProof.Rows.F.plain_set_update_loop _];show wpAny _ A.in1 (Ca (.ref I) >>= _) _ _ _;refine yT (W.done _ _ _ B λh' Z M=>?_)
  show wpAny _ A.in1 (ret Value.none) _ _ _;refine y9 (Fq h' Z es (λb o u e=>M b o (λq=>u (Ae _ q)) (a b o u e)) (V.move λo e=>M S o L e) λk=>?_)
  rw[X k,<- Fp,DP]
 | succ k Fs=>
  intro i h tk es T U B a V X C;have N:i<n:=Nat.lt_of_sub_pos (T▸Az k);refine B7 PyProof.Rows.F.entry_set_update_loop ?_;rw[Around.under_plainId PyProof.Rows.F.plain_set_update_loop _];show wpAny _ A.in1 (Ca (.ref I) >>= _) _ _ _;refine yT (W.item i _ _ _ N B λv Fk c Ft y f=>?_)
  obtain⟨z,t,Fu,rfl⟩:=J i v Ft;show wpAny _ A.in1 (holding [Value.int z t] (setAdd S (.int z t)) >>= _) _ _ _;refine yT (Bx ?_);unfold setAdd;refine Bx (yT ((ED Fd w).pyHash (k:=z) (fg z t) ?_));refine wpAny_addI (s:={ s with heap:=Fk,toks:=c+1 }) (V.move λo e=>f S o L e) (y3 (zs (yQ C U)) u) λE0 E j G m b=>?_
  refine y9 ⟨DK PyProof.Rows.F.plain_set_update_loop _,Fs (i+1) E0 (c+1) E (by rw[Nat.sub_add_eq,T];rfl) N (W.frame _ _ _ y λb u o e=>?_) (λb o u e=>?_) G (λFv=>?_) ?_⟩
  ·rw[j.2 b λq=>H (q▸u)];exact e
  ·rw[j.2 b λq=>u (q▸zG)]
   exact f b o (λq=>u (Ae _ q)) (a b o u e)
  ·rw[m.mem_iff,List.take_add_one,Fu,Option.toList_some,zM,<- X Fv]
   split
   ·next q=>exact⟨.inl,λFo=>Fo.elim id λFo=>(zg.mp Fo).symm▸q⟩
   ·rw[zM]
  ·have:=m.length_eq
   unfold bX at this;rw[yV,zP] at this;rw[this]
   split
   ·rw[yV,zP];exact zR C
   ·rw[zd,yV,zP];exact zs C
end
section
variable {Fd:zv} {w:zD} {A:zF} {E:yR->yY->Prop} {s:yY}
theorem setI_fresh{h:Heap}{a:y0}{b:yU}(c:h.get? a=ac (jx #[] 0 (.fresh 0 0 (!b)))):lC b h a #[]:=
 ⟨⟨_,_,c,QQ,⟨QQ,.nil,QQ⟩⟩,λZ f=>by simp at f,.nil⟩
set_option maxRecDepth 100000 in
set_option maxHeartbeats 3200000 in
theorem call_setI{l:y0}{items:zw yR}{n:Nat}{ns:yN Int}{Q:yR->yY->Prop}(Fp:A.handled=y7)(V:s.heap.get? l=ac (fY items n))(hi:∀ (i:Nat) (v:yR),items[i]?=ac v->∃ (k:Int) (t:Tok),ns[i]?=ac k/\v=Value.int k t)
  (Fq:ns.length=items.size) (J:items.size+1<CT)
  (h:∀ (h':Heap) (tk:Nat) es,(∀ b o,s.heap.get? b=ac o->h'.get? b=ac o)->lC (dS w) h' s.heap.objs.size es->(∀ k,k∈bX es↔k∈ns)->Q (.ref s.heap.objs.size) { s with heap:=h',toks:=tk }) :
  wpAny (y6 Fd w) A (call (.type "set") [.ref l]) Q E s:=by
 obtain⟨c,FF,X⟩:=F.called_set.mro;have L:=F.called_set.made;have Y:=F.called_set.sub;refine wpAny_call (codeAny_of_tree ?_);show wpAny _ _ (callAny (.type "set") _) _ _ _;refine y9 ⟨Code.quiet_builtin _ (by decide +kernel),B7 F.entry_type_call ?_⟩
 rw[Around.under_plain (weight_type_call_type "set" [.ref l] []) QQ];have h1:=F.called_set.notType;have FG:=F.called_set.canCreate;have Fs:=F.typeCall_set_1 (.ref l)
 repeat (any_goals (first | assumption | wp_step))
 generalize f:s.heap.push (jx #[] 0 (.fresh 0 0 (!dS w)))=y;have j:y.get? s.heap.objs.size=ac (jx #[] 0 (.fresh 0 0 (!dS w))):=f▸Heap.get?_push_size _ QQ;have z:y.objs.size=s.heap.objs.size+1:=f▸Heap.size_push ..;have m:∀ b o,s.heap.get? b=ac o->y.get? b=ac o:=λb o e=>f▸Heap.get?_push_of_some _ e
 refine codeAny_mono (code_set_new' (.ref l) (E:=E) (Q₁:=λobj q=>obj=.ref s.heap.objs.size/\q={ s with heap:=y }) ⟨QQ,by rw[f]⟩) λr q M=>?_
 cases r with
 | error e=>exact M
 | ok Ft=>
  cases Ft with
  | ret obj=>
   obtain⟨rfl,rfl⟩:=M;have Fu:Shared.TypeIs { s with heap:=y } (.ref s.heap.objs.size) "set":=⟨_,j,QQ⟩
   have Fv:=F.called_set.init.lookup;have Fw:=F.called_set.init.bind (.ref s.heap.objs.size)
   repeat (any_goals (first | assumption | wp_step))
   refine codeAny_mono (codeAny_call_builtin (R:=wants (λr u=>r=.none/\Q (.ref s.heap.objs.size) u) E) F.called_set.init.plain F.entry_set_init (check_set_init_1 Fu ?_)) λC u a=>?_
   ·have N:=m l _ V
    have Z:=F.sub_list_set;have Fo:=F.sub_list_frozenset;have Fz:(Value.type "list" == Value.type "dict")=yM:=by decide
    have G:y.IsList l items:=⟨_,N,QQ,n,QQ⟩;unfold Bz.«set.__init__» noKeywords Builtin.Frozenset.updateFrom;generalize O:DG=FH
    wp_walk
    subst O;refine wpAny_pyIter_list G ?_;refine yT (wpAny_runValue ?_);have H:l<s.heap.objs.size:=Heap.lt_size V;have I:l≠y.objs.size:=by rw[z];exact zO (Ab H)
    have T:A.in1.in1.in1.handled=y7:=Fp;refine fill_loop (s:={ s with heap:=s.heap }) (Walks.list T _ l I items) s.heap.objs.size ?_ (bt:=dS w) hi Fq J (λh' tk es FA U FE=>?_) (items.size - 0) 0 _ _ #[] QQ (zn _)
     ⟨⟨_,Heap.get?_push_size _ QQ,QQ,QQ⟩,G.push _⟩ (λb o EV e=>Heap.get?_push_of_some _ (m b o e)) (setI_fresh (Heap.get?_push_of_some _ j)) (λk=>by simp[bX]) (ze _)
    ·rw[z];simp only[zc,zV,Bs,not_or]
     exact⟨zO (Ap _),Dq H⟩
    ·refine y9 ?_
     show wpAny _ _ (ret Value.none) _ _ _;refine y9 ⟨QQ,h h' tk es (λb o e=>FA b o ?_ e) U FE⟩
     have J:=Heap.lt_size e;rw[z];simp only[zc,zV,Bs,not_or];exact⟨zO J,zO (Ab J)⟩
   ·cases C with
    | error e=>exact a
    | ok B=>
     cases B with
     | ret r=>
      obtain⟨rfl,hq⟩:=a
      repeat (any_goals (first | assumption | wp_step))
     | _=>exact a.elim
  | _=>exact M.elim
end
theorem dy:Slot "set_iterator" "__next__" "set_iterator.__next__":=
 .of (owner:="set_iterator") (n:="__next__") (by rw[Cy,BB];kernel_rfl) (by decide +kernel) (by decide +kernel) (by decide +kernel)
  (by first | exact .inl (by decide +kernel) | exact .inr (by decide +kernel)) (by rw[Cj];kernel_rfl)
theorem jq:Slot "set_iterator" "__iter__" "set_iterator.__iter__":=
 .of (owner:="set_iterator") (n:="__iter__") (by rw[Cy,BB];kernel_rfl) (by decide +kernel) (by decide +kernel) (by decide +kernel)
  (by first | exact .inl (by decide +kernel) | exact .inr (by decide +kernel)) (by rw[Cj];kernel_rfl)
theorem entry_setit_next:entryFor table "set_iterator.__next__"=ac Bz.«set_iterator.__next__»:=entryFor_of_tree (by kernel_rfl)
theorem entry_set_iter:entryFor table "set.__iter__"=ac Bz.«frozenset.__iter__»:=
 entryFor_alias (id':="frozenset.__iter__") (by kernel_rfl) QQ (by decide +kernel) (by kernel_rfl)
theorem entry_setit_iter:entryFor table "set_iterator.__iter__"=ac Bz.«dict_keyiterator.__iter__»:=
 entryFor_alias (id':="dict_keyiterator.__iter__") (by kernel_rfl) QQ (by decide +kernel) (by kernel_rfl)
theorem args_setit_iter(a:yR):Dr "set_iterator.__iter__" ⟨[a],[]⟩:=by unfold Dr;kernel_rfl
theorem args_setit_next(a:yR):Dr "set_iterator.__next__" ⟨[a],[]⟩:=by unfold Dr;kernel_rfl
noncomputable abbrev fc(first:yR)(a:y0)(i n ep:Nat):Obj:={ cls:=.type "set_iterator",dict:=none,data:=.fields #[first,.int i 0,.ref a,.int n 0,.int ep 0],slots:=#[] }
section
variable {Fd:zv} {w:zD} {A:zF} {E:yR->yY->Prop} {s:yY} {I a:y0} {first:yR} {i ep:Nat} {es:zw (Int×yR)} {t:Bq} {Q:yX yR->yY->Prop}
theorem kE(hit:s.heap.get? I=ac (fc first a i es.size ep))(f:s.heap.get? a=ac (jx es ep t))(j:t.fits es.size=yP)
  (h:wpAny (y6 Fd w) A.in1 (if let .int slot _:=first then do
    match <- EE a slot.toNat (i:Int).toNat (ep:Int).toNat with
    | some (x,next)=>
     Do (.ref I) 0 (Bw next)
     Do (.ref I) 1 (Bw ((i:Int)+1))
     ret x
    | none=>Do (.ref I) 2 .none;EH (<- Ek (.type "StopIteration") [])
   else do
    let ac places <- seqItems? first | DJ "internal:set_iterator"
    match places[(i:Int).toNat]? with
    | some (.int b _)=>
     let x <- setNextDrawn a b.toNat (ep:Int).toNat
     Do (.ref I) 1 (Bw ((i:Int)+1))
     ret x
    | some _=>DJ "internal:set_iterator"
    | none=>Do (.ref I) 0 (Bw 0);Do (.ref I) 2 .none;EH (<- Ek (.type "StopIteration") []))
   (λfin s'=>∃ v,fin=.done (.ret v)/\Q (ac v) s') (λe s'=>wpAny (y6 Fd w) A (do if <- isInstance e (.type "StopIteration") then pure y7 else throw e) Q E s') s) :
  wpAny (y6 Fd w) A (Ca (.ref I)) Q E s:=by
 have c:s.TypeIs (.ref I) "set_iterator":=⟨_,hit,QQ⟩;unfold Ca;refine yT (C9 (BX (name:=yO "__next__") c dy (AV dy c entry_setit_next ?_ (args_setit_next _))));refine yT (y9 (yT (wpAny_fieldsOf hit QQ ?_)));refine yT (wpAny_setEntries_of f QQ j ?_);show wpAny _ _ (if (((es.size:Nat):Int) != ((es.size:Nat):Int))=yP then _ else _) _ _ _
 rw[za (by simp)]
 exact CW h (λfin s' q=>by obtain⟨v,e,q⟩:=q;exact⟨v,e,y9 q⟩) λe s' q=>q
theorem qP(c:A.handled=y7){Fk:Heap}(h:∀ h',(∀ b o,Fk.get? b=ac o->h'.get? b=ac o)->Q y7 { s with heap:=h' }){f:Fin->yY->Prop} :
  wpAny (y6 Fd w) A.in1 (do EH (<- Ek (.type "StopIteration") [])) f
   (λe s'=>wpAny (y6 Fd w) A (do if <- isInstance e (.type "StopIteration") then pure y7 else throw e) Q E s') { s with heap:=Fk }:=by
 refine yT ?_;simp only[Ek,newTuple];refine yT (Ah ?_ (by size_fits))
 refine yT (m:=CP _ _) (BH (a:=Value.none) (by first | rfl | (simp only[CP];rfl)) ?_)
 refine Ah ?_ (by size_fits)
 simp only[EH];refine yT (wpAny_handled ?_);rw[show A.in1.handled=y7 from c];refine yT (y9 (wpAny_throw ?_));refine yT (CZ (T:="StopIteration") (b:=yP) ⟨_,Heap.get?_push_size _ QQ,QQ⟩ isSubtype_stop ?_);exact y9 (h _ λb o e=>Heap.get?_push_of_some _ (Heap.get?_push_of_some _ e))
theorem tI{b j:Nat}{x:yR}(hit:s.heap.get? I=ac (fc (.int b 0) a i es.size ep))(o:s.heap.get? a=ac (jx es ep t))(q:t.fits es.size=yP)
  (u:∀ (y:yR->yY->Prop) (n:yX (yR×Nat)->yY->Prop),n (ac (x,j)) s->wpAny (y6 Fd w) A.in1 (EE a b i ep) n y s)
  (z:∀ h',h'.get? I=ac (fc (.int j 0) a (i+1) es.size ep)->Heap.SameBut I s.heap h'->Q (ac x) { s with heap:=h' }):wpAny (y6 Fd w) A (Ca (.ref I)) Q E s:=by
 refine kE hit o q (yT (u _ _ ?_));refine yT (B6 hit (by simp) λFk c f=>yT (B6 (s:={ s with heap:=Fk }) c (by simp) λE0 h m=>?_))
 exact y9 ⟨x,QQ,z E0 h (f.trans m)⟩
theorem lX(m:A.handled=y7){c:Nat}(hit:s.heap.get? I=ac (fc (.int c 0) a i es.size ep))(n:s.heap.get? a=ac (jx es ep t))(q:t.fits es.size=yP)
  (u:∀ (y:yR->yY->Prop) (h:yX (yR×Nat)->yY->Prop),h y7 s->wpAny (y6 Fd w) A.in1 (EE a c i ep) h y s)
  (z:∀ h',(∀ b o,b≠I->s.heap.get? b=ac o->h'.get? b=ac o)->Q y7 { s with heap:=h' }):wpAny (y6 Fd w) A (Ca (.ref I)) Q E s:=by
 refine kE hit n q (yT (u _ _ ?_));refine yT (B6 hit (by simp) λFk j f=>qP m λh' B=>z h' λb o C e=>B b o ((f.2 b C).trans e))
theorem next_dr{T:y0}{ps:zw yR}{n' pl:Nat}{tok:Tok}{x:Int×yR}(hit:s.heap.get? I=ac (fc (.ref T) a i es.size ep))(h:s.heap.get? a=ac (jx es ep t))(j:t.fits es.size=yP)
  (m:s.heap.get? T=ac (ec ps n')) (n:ps[i]?=ac (.int pl tok)) (o:es[pl]?=ac x)
  (q:∀ h',h'.get? I=ac (fc (.ref T) a (i+1) es.size ep)->Heap.SameBut I s.heap h'->Q (ac x.2) { s with heap:=h' }):wpAny (y6 Fd w) A (Ca (.ref I)) Q E s:=by
 refine kE hit h j (yT (wpAny_seqItems m QQ ?_));show wpAny _ _ (match ps[i]? with | some (Value.int f tok)=>_ | some u=>_ | none=>_) _ _ _
 rw[n];refine yT ?_;unfold setNextDrawn;refine yT (Cb h QQ j ?_);show wpAny _ _ (if (ep != ep)=yP then _ else _) _ _ _
 rw[za (by simp)]
 show wpAny _ _ (match es[pl]? with | some (_,x)=>_ | _=>_) _ _ _
 rw[o];refine y9 (yT (B6 hit (by simp) λFk b c=>?_))
 exact y9 ⟨x.2,QQ,q Fk b c⟩
theorem next_dr_end(n:A.handled=y7){T:y0}{ps:zw yR}{n':Nat}(hit:s.heap.get? I=ac (fc (.ref T) a i es.size ep))(q:s.heap.get? a=ac (jx es ep t))(u:t.fits es.size=yP)
  (y:s.heap.get? T=ac (ec ps n')) (z:ps[i]?=y7)
  (B:∀ h',(∀ b o,b≠I->s.heap.get? b=ac o->h'.get? b=ac o)->Q y7 { s with heap:=h' }):wpAny (y6 Fd w) A (Ca (.ref I)) Q E s:=by
 refine kE hit q u (yT (wpAny_seqItems y QQ ?_));show wpAny _ _ (match ps[i]? with | some (Value.int j tok)=>_ | some C=>_ | none=>_) _ _ _
 rw[z];refine yT (B6 hit (by simp) λFk c f=>yT (B6 (s:={ s with heap:=Fk }) c (by simp) λE0 m h=>?_))
 exact qP n λh' G=>B h' λb o H e=>G b o (((f.trans h).2 b H).trans e)
end
section
variable {Fd:zv} {w:zD} {A:zF} {E:yR->yY->Prop} {s:yY}
theorem wpAny_chooseI{Fm:Source}{n:Nat}{Q:Nat->yY->Prop}(a:0<n)(h:∀ i dw,i<n->Q i { s with drawn:=dw }):wpAny (y6 Fd w) A (choose Fm n) Q E s:=λZ Z Z=>by
 unfold choose;rw[Sem.wp_choose];exact⟨Dq a,h _ _ (Nat.mod_lt _ a)⟩
theorem ly{α:Type}{x:α}:∀ {l:yN α} {i:Nat},l[i]?=ac x->(x::l.eraseIdx i).Perm l
 | [],_,h=>by simp at h
 | y::l,0,h=>by cases h;exact Ci.refl _
 | y::l,i+1,h=>(Ci.swap y x (l.eraseIdx i)).trans (Ci.cons y (ly h))
theorem wL{α:Type}{Q:yN α->yY->Prop}:∀ (n:Nat) (xs:yN α) (dw:Drawn),xs.length=n->(∀ ys f,ys.Perm xs->Q ys { s with drawn:=f })->wpAny (y6 Fd w) A (drawOrder n xs) Q E { s with drawn:=dw }
 | 0,xs,dw,c,h=>y9 (h [] dw (by rw[BV c]))
 | n+1,[],dw,c,h=>nomatch c
 | n+1,x::xs,dw,c,h=>by
  unfold drawOrder;refine yT (wpAny_chooseI (s:={ s with drawn:=dw }) (Az _) λi a j=>?_)
  have e:(x::xs)[i]?=ac (x::xs)[i]:=y4 j;rw[e];refine yT (wL n _ a ?_ λys b m=>y9 (h _ b ((Ci.cons _ m).trans (ly e))))
  rw[List.length_eraseIdx,y8 j,c];rfl
theorem vF{α:Type}(next:Nat->Nat):∀ (fuel k:Nat) (left:yN α) (out:zw α),left.length=fuel->(pickOrder.go next fuel k left out).toList.Perm (out.toList++left)
 | 0,k,left,out,h=>by rw[BV h,zy];exact Ci.refl _
 | fuel+1,k,left,out,h=>by
  have a:next k % left.length<left.length:=Nat.mod_lt _ (h▸Az _);have e:left[next k % left.length]?=ac left[next k % left.length]:=y4 a;unfold pickOrder.go;rw[e];refine (vF next fuel (k+1) _ _ (by rw[List.length_eraseIdx,y8 a,h];rfl)).trans ?_
  rw[CH,Cd];exact Ci.append_left _ (ly e)
theorem mL{α:Type}(next:Nat->Nat)(xs:zw α):(DT next xs).toList.Perm xs.toList:=vF next _ 0 xs.toList #[] (zP ..)
noncomputable def fE(t:Bq)(i:Nat):Nat:=match i with | 0=>0 | i+1=>t.place.getD i 0+1
theorem below_slot{t:Bq}(m:Ris t.place){i:Nat}(hi:i<=t.place.size):SetTable.below t.place (fE t i)=i:=by
 have f:=uv m (fE t i)
 have mono:∀ i b (h:i<t.place.size) (h':b<t.place.size),i<b->t.place[i]<t.place[b]:=λi b h h' l=>by
  have:=BF.mp m i b (by simpa using h) (by simpa using h') l
  simpa using this
 rcases Nat.lt_trichotomy (SetTable.below t.place (fE t i)) i with h | h | h
 ·exfalso
  cases i with
  | zero=>exact AZ _ h
  | succ j=>
   have c:j<t.place.size:=hi;have e:fE t (j+1)=t.place[j]+1:=by unfold fE;dsimp only;rw[Array.getD_eq_getD_getElem?,Bp _ j c];rfl
   have:=f.2.2 j c (zJ h);rw[e] at this;exact D1 _ this
 ·exact h
 ·exfalso
  have a:i<t.place.size:=zf h f.1;have:=f.2.1 i a h;cases i with
  | zero=>exact AZ _ this
  | succ j=>
   have c:j<t.place.size:=Aa a;have e:fE t (j+1)=t.place[j]+1:=by unfold fE;dsimp only;rw[Array.getD_eq_getD_getElem?,Bp _ j c];rfl
   rw[e] at this;exact Af _ (zf (mono j (j+1) c a (Ap _)) (zJ this))
section
variable {a:y0} {es:zw (Int×yR)} {ep i:Nat} {t:Bq}
theorem q9(b:dS w=yP)(c:s.heap.get? a=ac (jx es ep t))(f:t.fits es.size=yP){Q:yX (yR×Nat)->yY->Prop}
  (h:Q (((DT (w.params.setOrder a ep) es)[i]?).map λe=>(e.2,0)) s):wpAny (y6 Fd w) A (EE a 0 i ep) Q E s:=by
 unfold EE;refine yT (Cb c QQ f (yT (fM ?_)));rw[b];show wpAny _ _ (if (ep != ep)=yP then _ else _) _ _ _
 rw[za (by simp)]
 refine yT ?_;unfold setWalk;refine yT (Cb c QQ f (yT (fM ?_)));rw[b];exact yT (wpAny_askSetting (y9 (y9 h)))
theorem tH(m:dS w=yM)(n:(!t.plain&&decide (es.size > 1))=yM)(o:s.heap.get? a=ac (jx es ep t))(c:t.fits es.size=yP)(f:eK yM t)(hi:i<=es.size){Q:yX (yR×Nat)->yY->Prop}
  (h:Q (es[i]?.map λe=>(e.2,fE t (i+1))) s):wpAny (y6 Fd w) A (EE a (fE t i) i ep) Q E s:=by
 have b:t.place.size=es.size:=by
  simp only[SetTable.fits,Bo,Bh] at c;exact c.1
 unfold EE;refine yT (Cb o QQ c (yT (fM ?_)));rw[m];refine Cz (λq=>zA q y5) λZ=>?_
 refine Cz (λq=>zA (n▸q:yM=yP) y5) λZ=>?_
 refine yT ?_;show wpAny _ _ (if (!t.led&&!es.isEmpty)=yP then DJ "set:maker-not-led" else pure ()) _ _ _
 rw[f.led,za (by simp)]
 refine y9 (y9 ?_);rw[below_slot f.ris (b▸hi)]
 rcases zY hi with hl | rfl
 ·have h1:es[i]?=ac es[i]:=Bp es i hl
  have j:t.place[i]?=ac t.place[i]:=Bp _ i (b▸hl);rw[h1] at h;rw[h1,j];have e:fE t (i+1)=t.place[i]'(b▸hl)+1:=by unfold fE;dsimp only;rw[Array.getD_eq_getD_getElem?,j];rfl
  rw[e] at h;exact h
 ·have h1:es[es.size]?=y7:=Array.getElem?_size
  rw[h1] at h ⊢;exact h
end
end
section
variable {Fd:zv} {w:zD} {A:zF} {E:yR->yY->Prop} {s:yY}
theorem lc{I a:y0}{first:yR}{i n ep:Nat}{Q:yR->yY->Prop}(hit:s.heap.get? I=ac (fc first a i n ep))(h:Q (.ref I) s):wpAny (y6 Fd w) A (DG (.ref I)) Q E s:=by
 have b:s.TypeIs (.ref I) "set_iterator":=⟨_,hit,QQ⟩;refine DB b jq (AV jq b entry_setit_iter ?_ (args_setit_iter _));show wpAny _ _ (ret (.ref I)) _ _ s;exact y9 ⟨_,QQ,"set_iterator",_,b,dy.lookup,h⟩
theorem walks_text(C:A.handled=y7){I a:y0}(z:a≠I){es:zw (Int×yR)}{ep:Nat}{t:Bq}(c:dS w=yP)(u:t.fits es.size=yP) :
  C0 Fd w A I [I,a] [I] es.size (λi v=>((DT (w.params.setOrder a ep) es).toList.map (·.2))[i]?=ac v) (λi h=>h.get? I=ac (fc (.int 0 0) a i es.size ep)/\h.get? a=ac (jx es ep t)) where
 sub:=λb c=>by rw[zg.mp c];exact zG
 frame:=λZ Z Z st y=>⟨y I zG _ st.1,y a (Ae _ zG) _ st.2⟩
 item:=λi s Q E G st f=>by
  have B:(DT (w.params.setOrder a ep) es).size=es.size:=by have:=(mL (w.params.setOrder a ep) es).length_eq;rwa [zP,zP] at this
  have e:(DT (w.params.setOrder a ep) es)[i]?=ac ((DT (w.params.setOrder a ep) es)[i]'(B.symm▸G)):=Bp _ i _;refine tI (j:=0) st.1 st.2 u (λH J q=>q9 c st.2 u (by rw[e];exact q)) λh' m n=>f _ h' s.toks ?_ ⟨m,(n.2 a z).trans st.2⟩ λb o c e=>(n.2 b λq=>c (q▸zG)).trans e
  rw[As,zW,e];rfl
 done:=λs Q E st f=>by
  have B:(DT (w.params.setOrder a ep) es).size=es.size:=by have:=(mL (w.params.setOrder a ep) es).length_eq;rwa [zP,zP] at this
  refine lX C st.1 st.2 u (λH J q=>q9 c st.2 u (by rw[DH (zk B)];exact q)) λh' y=>f h' s.toks λb o c e=>y b o (λq=>c (q▸zG)) e
 self:=λZ Z Z Z st f=>lc st.1 f
theorem walks_tab(G:A.handled=y7){I a:y0}(y:a≠I){es:zw (Int×yR)}{ep:Nat}{t:Bq}(c:dS w=yM)(z:(!t.plain&&decide (es.size > 1))=yM)(n:t.fits es.size=yP)(B:eK yM t) :
  C0 Fd w A I [I,a] [I] es.size (λi v=>(es.toList.map (·.2))[i]?=ac v) (λi h=>i<=es.size/\h.get? I=ac (fc (.int (fE t i) 0) a i es.size ep)/\h.get? a=ac (jx es ep t)) where
 sub:=λb c=>by rw[zg.mp c];exact zG
 frame:=λZ Z Z st u=>⟨st.1,u I zG _ st.2.1,u a (Ae _ zG) _ st.2.2⟩
 item:=λi s Q E C st f=>by
  have e:es[i]?=ac es[i]:=Bp _ i C;refine tI st.2.1 st.2.2 n (λH J q=>tH c z st.2.2 n B st.1 (by rw[e];exact q)) λh' j m=>f _ h' s.toks ?_ ⟨C,j,(m.2 a y).trans st.2.2⟩ λb o c e=>(m.2 b λq=>c (q▸zG)).trans e
  rw[As,zW,e];rfl
 done:=λs Q E st f=>
  lX G st.2.1 st.2.2 n (λH J q=>tH c z st.2.2 n B st.1 (by rw[Array.getElem?_size];exact q)) λh' u=>f h' s.toks λb o c e=>u b o (λq=>c (q▸zG)) e
 self:=λZ Z Z Z st f=>lc st.2.1 f
theorem walks_dr(M:A.handled=y7){I a T:y0}(z:a≠I)(B:T≠I){es:zw (Int×yR)}{ep n':Nat}{t:Bq}{ys:yN Nat}(C:ys.Perm (zt es.size))(H:t.fits es.size=yP) :
  C0 Fd w A I [I,a,T] [I] es.size (λi v=>((ys.map λj=>es.getD j (0,.none)).map (·.2))[i]?=ac v)
   (λi h=>h.get? I=ac (fc (.ref T) a i es.size ep)/\h.get? a=ac (jx es ep t)/\h.get? T=ac (ec (ys.map λ(i:Nat)=>Bw i).toArray n')) where
 sub:=λb f=>by rw[zg.mp f];exact zG
 frame:=λZ Z Z st m=>⟨m I zG _ st.1,m a (Ae _ zG) _ st.2.1,m T (Ae _ (Ae _ zG)) _ st.2.2⟩
 item:=λi s Q E N st n=>by
  have G:ys.length=es.size:=C.length_eq.trans zX;obtain⟨y,e⟩:∃ y,ys[i]?=ac y:=⟨_,y4 (G.symm▸N)⟩;have J:y<es.size:=AY.mp (C.mem_iff.mp (List.mem_of_getElem? e));have L:es[y]?=ac (es[y]'J):=Bp es y J;refine next_dr st.1 st.2.1 H st.2.2 (by rw[DU,As,e];rfl) L λh' u c=>n _ h' s.toks ?_ ⟨u,(c.2 a z).trans st.2.1,(c.2 T B).trans st.2.2⟩ λb o f e=>(c.2 b λq=>f (q▸zG)).trans e
  rw[As,As,e];show ac (es.getD _ _).2=_;rw[Array.getD_eq_getD_getElem?,L];rfl
 done:=λs Q E st n=>by
  have G:ys.length=es.size:=C.length_eq.trans zX;refine next_dr_end M st.1 st.2.1 H st.2.2 ?_ λh' m=>n h' s.toks λb o f e=>m b o (λq=>f (q▸zG)) e
  rw[DU];exact DV (by rw[yV,G];exact ze _)
 self:=λZ Z Z Z st n=>lc st.1 n
theorem perm_get{es:zw (Int×yR)}{ys:yN Nat}(a:ys.Perm (zt es.size)):((ys.map λj=>es.getD j (0,.none)).map (·.2)).Perm (es.toList.map (·.2)):=by
 refine Ci.map _ ((a.map _).trans (Ci.of_eq ?_));apply List.ext_getElem
 ·simp
 ·intro i h1 b
  have c:i<es.size:=by simpa using b
  rw[List.getElem_map,List.getElem_range,Array.getD_eq_getD_getElem?,Bp es i c,Array.getElem_toList];rfl
theorem iter_setI{a:y0}{es:zw (Int×yR)}{Q:yR->yY->Prop}(L:lC (dS w) s.heap a es)(hz:es.size<CT)
  (h:∀ (h':Heap) (dw:Drawn) (I:y0) (fp:yN y0) (xs:yN yR) (St:Nat->Heap->Prop),(∀ b o,s.heap.get? b=ac o->h'.get? b=ac o)->s.heap.objs.size<=I->(∀ b∈fp,b=a\/s.heap.objs.size<=b)->xs.Perm (es.toList.map (·.2)) ->
   (∀ m:zF,m.handled=y7->C0 Fd w m I fp [I] es.size (λi v=>xs[i]?=ac v) St)->St 0 h'->Q (.ref I) { s with heap:=h',drawn:=dw }):wpAny (y6 Fd w) A (DG (.ref a)) Q E s:=by
 obtain⟨⟨ep,t,c,j,J⟩,_,_⟩:=L;have n:s.TypeIs (.ref a) "set":=⟨_,c,QQ⟩;have u:a<s.heap.objs.size:=Heap.lt_size c;refine DB n F.slot_set_iter (AV F.slot_set_iter n entry_set_iter ?_ (F.args_set_iter_1 _));unfold Bz.«frozenset.__iter__» Builtin.Frozenset.slot0;refine yT (yT (y9 (y9 ?_)));refine yT ?_;unfold Builtin.Frozenset.sizeOf;refine yT (wpAny_setEntries_of c QQ j (y9 ?_));refine yT ?_;unfold setDrawn;refine yT (Cb c QQ j (yT (fM (y9 ?_))));refine Cz (λq=>?_) λq=>?_
 ·replace q:(!dS w&&(!t.plain&&decide (es.size > 1)))=yP:=q
  refine yT (wL es.size (zt es.size) s.drawn zX λys dw C=>yT (wpAny_newTuple ?_ (by
   rw[yV,C.length_eq,zX];exact Ey hz)))
  refine yT (wpAny_setEpoch_of (o:=jx es ep t) (Heap.get?_push_of_some _ c) QQ j ?_);refine yT ?_;unfold newFields;refine Ah (y9 ⟨_,QQ,"set_iterator",_,⟨_,Heap.get?_push_size _ QQ,QQ⟩,dy.lookup,?_⟩);generalize hh1:s.heap.push { cls:=.type "tuple",data:=.seq (ys.map λ(i:Nat)=>Bw i).toArray }=Fk
  have G:Fk.get? s.heap.objs.size=ac (ec (ys.map λ(i:Nat)=>Bw i).toArray 0):=hh1▸Heap.get?_push_size _ QQ
  have f:Fk.objs.size=s.heap.objs.size+1:=hh1▸Heap.size_push ..;have y:∀ b o,s.heap.get? b=ac o->Fk.get? b=ac o:=λb o e=>hh1▸Heap.get?_push_of_some _ e
  refine h (Fk.push (fc (.ref s.heap.objs.size) a 0 es.size ep)) dw Fk.objs.size [Fk.objs.size,a,s.heap.objs.size] _ _ (λb o e=>Heap.get?_push_of_some _ (y b o e)) (f.symm▸AM _) (λb hb=>?_) (perm_get C)
   (λm z=>walks_dr (n':=0) (t:=t) (ep:=ep) z (f.symm▸zO (Ab u)) (f.symm▸zO (Ap _)) C j) ⟨Heap.get?_push_size _ QQ,Heap.get?_push_of_some _ (y _ _ c),Heap.get?_push_of_some _ G⟩
  rcases zc.mp hb with rfl | hb
  ·exact .inr (f.symm▸AM _)
  ·rcases zc.mp hb with rfl | hb
   ·exact .inl QQ
   ·rw[zg.mp hb];exact .inr (ze _)
 ·replace q:¬ (!dS w&&(!t.plain&&decide (es.size > 1)))=yP:=q
  refine yT (y9 (yT (wpAny_setEpoch_of c QQ j ?_)));refine yT ?_;unfold newFields;refine Ah (y9 ⟨_,QQ,"set_iterator",_,⟨_,Heap.get?_push_size _ QQ,QQ⟩,dy.lookup,?_⟩);have H:∀ b∈[s.heap.objs.size,a],b=a\/s.heap.objs.size<=b:=λb hb=>by
   rcases zc.mp hb with rfl | hb
   ·exact .inr (ze _)
   ·exact .inl (zg.mp hb)
  have B:a≠s.heap.objs.size:=zO u;have go:=λxs St=>h (s.heap.push (fc (.int 0 0) a 0 es.size ep)) s.drawn s.heap.objs.size [s.heap.objs.size,a] xs St (λb o e=>Heap.get?_push_of_some _ e) (ze _) H
  cases hb:dS w with
  | true=>exact go _ _ ((mL (w.params.setOrder a ep) es).map _) (λm z=>walks_text (t:=t) z B hb j) ⟨Heap.get?_push_size _ QQ,Heap.get?_push_of_some _ c⟩
  | false=>
   rw[hb] at q J;have M:(!t.plain&&decide (es.size > 1))=yM:=by simpa using q
   exact go _ _ (Ci.refl _) (λm z=>walks_tab (t:=t) (ep:=ep) z B hb M j J) ⟨zn _,Heap.get?_push_size _ QQ,Heap.get?_push_of_some _ c⟩
end
section
variable {Fd:zv} {w:zD} {A:zF} {E:yR->yY->Prop} {s:yY}
set_option maxRecDepth 100000 in
theorem hint_set{r:y0}{Q:yU->yY->Prop}(f:s.TypeIs (.ref r) "set")(h:Q yM s):wpAny (y6 Fd w) A (Builtin.List.listLengthHint (.ref r)) Q E s:=by
 unfold Builtin.List.listLengthHint;refine yT (D2 f F.slot_set_len.lookup ?_);generalize c:("set.__len__":yS)=i
 wp_delta
 rw[show splitId i=ac ("set","__len__") from by subst c;decide +kernel]
 subst c;refine yT (CZ (T:="set") (b:=yP) f (by rw[Cj];kernel_rfl) ?_)
 refine Cz (λa=>zA a (by decide)) (λZ=>?_)
 refine Cz (λZ=>?_) (λa=>zA (by decide +kernel) a)
 refine yT (EI f ?_);exact y9 h
theorem items_list{xs:yN yR}{acc:zw yR}(h:ItemsOf (λi v=>xs[i]?=ac v) acc xs.length):acc.toList=xs:=by
 apply List.ext_getElem?;intro i
 rcases EF i xs.length with hi | hi
 ·have a:i<acc.size:=h.1.symm▸hi
  rw[zW,Bp acc i a,h.2 i _ (Bp acc i a)]
 ·rw[zW,DH (h.1.symm▸hi),DV hi]
theorem extend_setI{R:Result->yY->Prop}{a S:y0}{es:zw (Int×yR)}(V:A.handled=y7)(M:lC (dS w) s.heap a es)(hz:es.size<CT)(G:S≠a)(n:yR)(X:s.heap.get? S=ac (fY #[] 0))
  (Fp:∀ h' tk dw i C,(∀ b o,b≠S->s.heap.get? b=ac o->h'.get? b=ac o)->h'.get? S=ac (fY i C)->i.toList.Perm (es.toList.map (·.2))->R (.ok (.ret n)) { s with heap:=h',toks:=tk,drawn:=dw }) :
  wpAny (y6 Fd w) A.in1 (Builtin.List.listExtendWith (.ref S) (.ref a) n)
   (λfin s'=>match fin with | .done f=>R (.ok f) s' | .again C=>C.quiet=yP/\EC (y6 Fd w) A C R s') (λe s'=>R (.error e) s') s:=by
 have Fq:s.TypeIs (.ref a) "set":=by obtain⟨ep,t,N,_⟩:=M.obj;exact⟨_,N,QQ⟩
 have u:S<s.heap.objs.size:=Heap.lt_size X;unfold Builtin.List.listExtendWith;refine yT (EI Fq ?_);have h1:Builtin.List.listSameRef (.ref S) (.ref a)=yM:=by simp[Builtin.List.listSameRef,G]
 have Fs:(Value.type "set" == Value.type "list")=yM:=by decide
 have Ft:(Value.type "set" == Value.type "tuple")=yM:=by decide
 rw[h1,Fs,Ft];simp only[Bool.or_false,B5,CA];refine yT (iter_setI M hz λFk dw I fp xs St E Y O Z W st=>?_)
 have Fu:S≠I:=zO (zf u Y);have H:S ∉ fp:=λq=>(O S q).elim G λq=>Af _ (zf u q)
 have Fv:xs.length=es.size:=by rw[Z.length_eq,yV,zP]
 have J:∀ (h:Heap) (j tk:Nat),St 0 h->(∀ b o,b≠S->s.heap.get? b=ac o->h.get? b=ac o)->h.get? S=ac (fY #[] j) ->
   EC (y6 Fd w) A (.builtin "list.extend.loop" ⟨[.ref S,.ref I,n],[]⟩) R { s with heap:=h,toks:=tk,drawn:=dw }:=by
  intro h j tk T E c;refine codeAny_extend_loopS (W A.in1 V).toS (Ey hz) S H n es.size 0 _ #[] j QQ (zn _) T c (ItemsOf.nil _) λs' i C Fo U y=>?_
  rw[Moved.eq_with Fo];refine Fp s'.heap s'.toks dw i C (λb o z e=>Fo.heap b o (λhmem=>?_) (E b o z e)) U ?_
  ·rcases zc.mp hmem with e' | hmem
   ·exact z e'
   ·exact zA (Heap.lt_size e) (by rw[zg.mp hmem];exact DO Y)
  ·rw[<- Fv] at y;rw[items_list y];exact Z
 have c:=E _ _ X;refine yT (Bx (hint_set (s:={ s with heap:=Fk,drawn:=dw }) (by obtain⟨ep,t,N,_⟩:=M.obj;exact⟨_,E _ _ N,QQ⟩) ?_))
 refine Cz (λEV=>?_) (λEV=>y9 ⟨DK PySem.F.plain_extend_loop _,J _ 0 _ st (λb o EV e=>E b o e) c⟩)
 refine yT (Dy (yT ?_));show wpAny _ _ (updateSeq S (·.push .none) >>= λEV=>updateSeq S (·.pop)) _ _ _
 refine yT (wpAny_updateSeq c QQ ?_);have m:=Heap.get?_update_self (Obj.mapSeq (·.push Value.none)) c QQ;refine wpAny_updateSeq (hz:=by seq_fits) m QQ ?_
 have B:=Heap.get?_update_self (Obj.mapSeq (·.pop)) m QQ;refine y9 ⟨DK PySem.F.plain_extend_loop _,J _ _ _ ?_ (λb o z e=>?_) B⟩
 ·refine (W A.in1 V).frame 0 _ _ st λb z o e=>?_
  have L:b≠S:=λh=>H (h▸z)
  exact (Heap.get?_update_other _ _ (Ne.symm L)).trans ((Heap.get?_update_other _ _ (Ne.symm L)).trans e)
 ·exact (Heap.get?_update_other _ _ (Ne.symm z)).trans ((Heap.get?_update_other _ _ (Ne.symm z)).trans (E b o e))
theorem collect_setI{a:y0}{es:zw (Int×yR)}{Q:yN yR->yY->Prop}(j:A.handled=y7)(f:lC (dS w) s.heap a es)(hz:es.size<CT)
  (h:∀ h' tk dw xs,(∀ b o,s.heap.get? b=ac o->h'.get? b=ac o)->xs.Perm (es.toList.map (·.2))->Q xs { s with heap:=h',toks:=tk,drawn:=dw }):wpAny (y6 Fd w) A (collect (.ref a)) Q E s:=by
 have c:a<s.heap.objs.size:=by obtain⟨ep,t,m,_⟩:=f.obj;exact Heap.lt_size m
 unfold collect;refine yT (wpAny_runValue (B7 PyProof.Rows.entry_proto_collect' ?_));show wpAny _ _ (do again (.builtin "list.__iadd__" ⟨[<- newList [],.ref a],[]⟩)) _ _ s
 refine yT (Ep (y9 ⟨Code.quiet_builtin _ (by decide +kernel),B7 PyProof.Rows.entry_list_iadd' ?_⟩))
 rw[Around.under_plainId (show plainId "list.__iadd__"=yP by decide +kernel) _]
 show wpAny _ _ (Builtin.List.listExtendWith (.ref s.heap.objs.size) (.ref a) (.ref s.heap.objs.size)) _ _ _;refine extend_setI (R:=λr s'=>match r with
  | .ok (.ret v)=>wpAny (y6 Fd w) A (match v with
   | .ref a=>do
    match (<- load a).data with
    | .seq xs _=>pure xs.toList
    | _=>DJ "internal:collect"
   | _=>DJ "internal:collect") Q E s'
  | .ok _=>False
  | .error e=>E e s') (A:=A) (s:={ s with heap:=s.heap.push (fY #[] 0) }) j (f.move λo e=>Heap.get?_push_of_some _ e) hz (Dq c) _ (Heap.get?_push_size _ QQ) λh' tk dw i y n q u=>?_
 show wpAny (y6 Fd w) A (do
   let o <- load s.heap.objs.size
   match o.data with
   | .seq xs _=>pure xs.toList
   | _=>DJ "internal:collect") Q E { s with heap:=h',toks:=tk,drawn:=dw }
 refine yT (wpAny_load q (y9 (h h' tk dw _ (λb o e=>n b o (zO (Heap.lt_size e)) (Heap.get?_push_of_some _ e)) u)))
end
end Mine
namespace Mine
open PySem PyProof.Rows
section
variable {Fd:zv} {w:zD} {A:zF} {E:yR->yY->Prop} {s:yY}
theorem sorted_setI{a:y0}{es:zw (Int×yR)}{Q:yR->yY->Prop}(z:A.handled=y7)(u:lC (dS w) s.heap a es)(hz:es.size<64)
  (h:∀ h' tk dw L c (out:zw yR) E9,(∀ b o,s.heap.get? b=ac o->h'.get? b=ac o)->(∀ b o,s.heap.get? b=ac o->@LT.lt Nat _ b L)->h'.get? L=ac (fY out c)->IntsAre out.toList E9->E9.Perm (bX es)->E9.Pairwise (·<=·) ->
   Q (.ref L) { s with heap:=h',toks:=tk,drawn:=dw }):wpAny (y6 Fd w) A (call (.builtin "sorted") [.ref a]) Q E s:=by
 refine Calls.call_function_entry kind_sorted plain_sorted entry_sorted (args_sorted1 _) ?_;unfold Bz.«sorted»;refine yT (m:=checkCount "sorted" 1 1 _) (y9 ?_);refine yT (collect_setI (A:=A.in1) z u (Aj hz (by decide)) λFk tk dw xs j n=>?_)
 have B:IntsAre xs (xs.map numOf):=intsAre_map xs λv C=>by
  obtain⟨e,G,rfl⟩:=zz.mp (n.mem_iff.mp C);obtain⟨k,tok,rfl⟩:=u.el e G;exact⟨k,tok,QQ⟩
 have q:(xs.map numOf).Perm (bX es):=by
  have:=n.map numOf
  rwa [Ad] at this
 have f:xs.length<64:=by rw[n.length_eq,yV,zP];exact hz
 refine yT (Ep ?_ (by rw[sizeLine_eq];exact yQ (zU f) (by decide)))
 have i:(Fk.push (AO "list" xs.toArray 0)).get? Fk.objs.size=ac (AO "list" xs.toArray 0):=Heap.get?_push_size _ QQ;refine yT (Bx (AV slot_list_sort ⟨_,i,QQ⟩ entry_list_sort (list_sort_tree i B f λout E9 a1 a2 a3=>⟨_,QQ,?_⟩) (args_list_sort _)))
 obtain⟨c,H⟩:=sortedHeap_at (out:=out) (vs:=xs) i;refine y9 ⟨_,QQ,h _ tk dw Fk.objs.size c out E9 (λb o e=>?_) (λb o e=>Heap.lt_size (j b o e)) H a1 (a2.trans q) a3⟩
 ·have y:=Heap.lt_size (j b o e)
  have t:b<(Fk.push (AO "list" xs.toArray 0)).objs.size:=by rw[size_push'];exact Ab y
  rw[sortedHeap_old (zO y) t];exact Heap.get?_push_of_some _ (j b o e)
end
end Mine
namespace Mine
open PySem PySem.SeqAt
theorem pM(x z:Int):∀ l,z∈mX x l↔z=x\/z∈l
 | []=>zg.trans ⟨.inl,λh=>h.elim id λh=>nomatch h⟩
 | y::l=>by
  unfold mX
  split
  ·exact zc
  ·split
   ·next h=>subst h;exact⟨.inr,λh=>h.elim (λh=>h▸zG) id⟩
   ·rw[zc,pM x z l,zc]
    exact⟨λh=>h.elim (λh=>.inr (.inl h)) λh=>h.elim .inl λh=>.inr (.inr h),λh=>h.elim (λh=>.inr (.inl h)) λh=>h.elim .inl λh=>.inr (.inr h)⟩
theorem t7(x:Int):∀ {l:yN Int},l.Pairwise (·<·)->(mX x l).Pairwise (·<·)
 | [],_=>List.pairwise_singleton _ _
 | y::l,h=>by
  have h':=AG.mp h;unfold mX
  split
  ·next hl=>exact AG.mpr ⟨λz a=>(zc.mp a).elim (λe=>e▸hl) λa=>Ba hl (h'.1 z a),h⟩
  ·split
   ·exact h
   ·next h1 h2=>exact AG.mpr ⟨λz a=>((pM x z l).mp a).elim (λe=>e▸Int.lt_iff_le_and_ne.mpr ⟨Ce.mp h1,Ne.symm h2⟩) (h'.1 z),t7 x h'.2⟩
theorem kt:∀ ns:yN Int,(cP ns).Pairwise (·<·)
 | []=>.nil
 | x::ns=>t7 x (kt ns)
theorem im(z:Int):∀ ns:yN Int,z∈cP ns↔z∈ns
 | []=>Iff.rfl
 | x::ns=>by
  show z∈mX x (cP ns)↔_;rw[pM,im z ns,zc]
theorem xU:∀ {l m:yN Int},l.Nodup->(∀ z∈l,z∈m)->l.length<=m.length
 | [],_,_,_=>zn _
 | x::l,m,i,h=>by
  have a:=Be.mp i;have b:x∈m:=h x zG;have c:=xU (m:=m.erase x) a.2 λz f=>(List.mem_erase_of_ne (λe:z=x=>a.1 (e▸f))).mpr (h z (Ae _ f))
  rw[List.length_erase_of_mem b] at c;exact yQ (zs c) (zk (Dl (List.length_pos_of_mem b)))
theorem tc:∀ {l m:yN Int},l.Pairwise (·<·)->m.Pairwise (·<·)->(∀ z,z∈l↔z∈m)->l=m
 | [],[],_,_,_=>rfl
 | [],y::m,_,_,h=>zA ((h y).mpr zG) zV
 | x::l,[],_,_,h=>zA ((h x).mp zG) zV
 | x::l,y::m,f,i,h=>by
  have a:=AG.mp f;have b:=AG.mp i;have e:x=y:=by
   rcases zc.mp ((h x).mp zG) with e | h1
   ·exact e
   ·rcases zc.mp ((h y).mpr zG) with e | h2
    ·exact e.symm
    ·exact zA (Ba (a.1 y h2) (b.1 x h1)) (Er _)
  subst e;rw[tc a.2 b.2 λz=>?_]
  constructor
  ·intro c
   rcases zc.mp ((h z).mp (Ae _ c)) with e | hz'
   ·exact zA (a.1 z c) (e▸Er _)
   ·exact hz'
  ·intro c
   rcases zc.mp ((h z).mpr (Ae _ c)) with e | hz'
   ·exact zA (b.1 z c) (e▸Er _)
   ·exact hz'
section
variable {Fd:zv} {w:zD} {A:zF} {E:yR->yY->Prop} {s:yY} {H:y0->Prop}
theorem intsD_at{ds:yN D}{ns:yN Int}{vs:yN yR}(h:pL ds=ac ns)(a:ao w.params s.heap H vs ds):vs.length=ns.length/\∀ (i:Nat) (v:yR),vs[i]?=ac v->∃ (k:Int) (t:Tok),ns[i]?=ac k/\v=Value.int k t:=by
 induction ds generalizing ns vs with
 | nil=>
  rw[show vs=[] from a];cases h;exact⟨QQ,λi v e=>by rw[DA] at e;cases e⟩
 | cons d ds b=>
  cases d with
  | int k=>exact bO (o:=pL ds) (f:=λl=>k::l) h λE9 h e=>e▸dT.rec (motive:=λvs Z=>vs.length=(k::E9).length/\∀ (i:Nat) (v:yR),vs[i]?=ac v->∃ (c:Int) (t:Tok),(k::E9)[i]?=ac c/\v=Value.int c t) (λj a=>⟨zj EG (b h a).1,λi v e=>by
    cases i with
    | zero=>exact yW e▸j.intE λt=>⟨k,t,QQ,QQ⟩
    | succ i=>exact (b h a).2 i v e⟩) a
  | _=>exact aj h
theorem ints_reps{h:Heap}{P:zT}{vs:yN yR}{ns:yN Int}(r:PyProof.Rows.IntsAre vs ns):ao P h H vs (ns.map .int):=r.rec QQ λn t Z Z Z a=>.mk (.mk t) a
theorem sset_snd{x:yR}{a d:D}(T:A.handled=y7)(X:Rep w.params s.heap H x a)(Y:Ex s.heap H)(he:oX a=ac d) :
  wpAny (y6 Fd w) A (call (.type "set") [x]) (λv s'=>wpAny (y6 Fd w) A (call (.builtin "sorted") [v]) (cE w s H d yP) E s') E s:=by
 cases a with
 | list ds=>
  refine cN he λB he=>bO he λns J e=>e▸X.listE λl vs n Z Fw Fz U=>?_
  have f:=intsD_at J U;have C:vs.size<63:=U.size.symm▸B
  refine call_setI (ns:=ns) T Z (λi v e=>f.2 i v (by rw[zW];exact e)) f.1.symm (Aj (CY C) (by decide)) λh' tk es Fo M V=>?_
  have G:es.size<64:=by
   have h1:(bX es).length<=ns.length:=xU M.nod λz Fp=>(V z).mp Fp
   unfold bX at h1;rw[yV,zP,<- f.1] at h1;exact y3 h1 (Ab C)
  refine sorted_setI (s:={ s with heap:=h',toks:=tk }) T M G λE0 j dw L c Fq E9 m Fs N Ft O Fu=>?_
  have Fv:E9=cP ns:=tc ((Fu.and (O.nodup_iff.mpr M.nod)).imp λh=>Int.lt_iff_le_and_ne.mpr h) (kt ns) λz=>by rw[O.mem_iff,V z,im]
  subst Fv;have t:((cP ns).map D.int).length<=big:=by
   rw[yV,O.length_eq];unfold bX;rw[yV,zP];exact yQ (zU G) (by decide)
  have u:=Heap.gt_up Fo;have I:∀ b o,gat h' b=ac o->@LT.lt Nat _ b L:=λb o e=>(Heap.gt_some e).elim λEV q=>Fs b _ q.1
  have E7:jn w.params E0 H L ((cP ns).map .int):=⟨N,t,ints_reps Ft⟩;have y:gat s.heap L=none:=by
   cases e:gat s.heap L with
   | none=>rfl
   | some o=>exact zA (I L o (u _ _ e)) (Af _)
  exact⟨.mk E0 j dw λb o e=>Heap.gt_up m b o (u b o e),E7.rep λq=>(Y L q).elim λb q=>q.elim λo q=>zA (I b o (u b o q.2)) (DO q.1),λEV=>⟨y,E7⟩⟩
 | _=>exact aj he
end
section
variable {Fd:zv} {w:zD} {A:zF} {s:yY} {Fe:Heap} {mg mb:Str->yX yR} {cf:CF}
theorem sf_sset(G:GOk mg mb Fe)(J:A.handled=y7){a:ME}(L:SE Fd w A Fe cf a):SF Fd w A Fe cf (.sset a):=λs Fj e H ρ m d fr E M c o=>
 fP o QQ λo N=>evi_sset o λY O T=>km.rec (motive:=λe Z=>wpAny (y6 Fd w) A (zQ e Fj) (cE w s H d fr) E s) (λ{U y q} V X=>km.rec (motive:=λy Z=>wpAny (y6 Fd w) A (zQ (.Call (.Name (yO "sorted") U) [y] [] q) Fj) (cE w s H d fr) E s) (λ{t x p} i h=>by
  have z:cD Fj.kindOf [.Call (.Name (yO "set") t) [x] [] p] [.blt "set" [a]]=yP:=xh (show (yO "set" == yO "set"&&cF Fj.kindOf (yO "set")&&cD Fj.kindOf [x] [a])=yP from by rw[i,xh h];decide)
  refine PyProof.Rows.Call_Name QQ (fB G (f:="sorted") (by decide) c.R c.hw V (eV z (Calls.spliced_cons ?_)))
  refine PyProof.Rows.Call_Name QQ (fB G (f:="set") (by decide) c.R c.hw i (eV (xh h) (Calls.spliced_cons ?_)))
  refine L.go h c O λv B b=>Calls.spliced_nil (bI (sset_snd J b.r (c.k b.k).x T) λu C j=>Calls.spliced_nil (bI j λv I n=>?_))
  exact N▸n.tr b.k) X) (tX M)
end
end Mine
namespace Mine
open PySem PyProof.Rows PySem.SeqAt PySem.W
noncomputable def InT(n:Nat){α:Type}(R:α->Prop):KasT α->Prop
 | .ret a=>R a
 | .ask i j k=>i<n/\j<n/\∀ b,InT n R (k b)
theorem InT.bind{n:Nat}{α c:Type}{R:α->Prop}{T:c->Prop}{f:α->KasT c}(i:∀ a,R a->InT n T (f a)):∀ {t:KasT α},InT n R t->InT n T (t.bind f)
 | .ret a,h=>i a h
 | .ask _ _ _,h=>⟨h.1,h.2.1,λb=>InT.bind i (h.2.2 b)⟩
theorem InT.run{n:Nat}{α:Type}{R:α->Prop}(lt:Nat->Nat->yU):∀ {t:KasT α},InT n R t->R (cC lt t)
 | .ret _,h=>h
 | .ask i j k,h=>InT.run (t:=k (lt i j)) lt (h.2.2 _)
theorem InT.wp{n:Nat}{α:Type}{R:α->Prop}{lt:Nat->Nat->yU}{a:Nat->Nat->(yU->yY->Prop)->yY->Prop}{s:yY}{Q:α->yY->Prop}(b:∀ i j C,i<n->j<n->C (lt i j) s->a i j C s):∀ {t:KasT α},InT n R t->Q (cC lt t) s->t.kasWp a Q s
 | .ret _,_,h=>h
 | .ask i j _,k,h=>b i j _ k.1 k.2.1 (InT.wp b (k.2.2 _) h)
noncomputable def Pm(n:Nat)(p:zw Nat):Prop:=p.Perm (zt n).toArray
section
variable {n:Nat}
theorem Pm.lt{p:zw Nat}(h:Pm n p)(a:0<n)(k:Nat):p.getD k 0<n:=by
 unfold Array.getD
 split
 ·exact AY.mp (h.mem_iff.mp (Array.getElem_mem _) |> λq=>by simpa using q)
 ·exact a
theorem Pm.rev{p:zw Nat}(h:Pm n p)(i j:Nat):Pm n (De p i j):=(mirror_perm _ _ _ _).trans h
theorem uZ{p:zw Nat}(a:Pm n p)(c:0<n):∀ f m,InT n (λZ=>True) (kas_asc p f m)
 | 0,_=>trivial
 | f+1,m=>⟨a.lt c _,a.lt c _,λb=>by cases b;exact uZ a c f (m+1);exact trivial⟩
theorem oG(c:0<n):∀ f (p:zw Nat) m q,Pm n p->InT n (λr=>Pm n r.1) (Ee f p m q)
 | 0,_,_,_,a=>a
 | f+1,p,m,q,a=>⟨a.lt c _,a.lt c _,λb=>by
  cases b with
  | true=>
   show InT n _ (if q > 0 then _ else _)
   split
   ·exact oG c f _ _ _ (a.rev _ _)
   ·exact oG c f _ _ _ a
  | false=>exact⟨a.lt c _,a.lt c _,λb=>by cases b;exact oG c f _ _ _ a;exact a⟩⟩
theorem t9{p:zw Nat}(b:0<n)(m k:Nat)(a:Pm n p):InT n (λr=>Pm n r.2) (kas_tail3 m k p):=InT.bind (n:=n) (T:=λr:Nat×zw Nat=>Pm n r.2) (f:=λk=>.ret (k,De p 0 m)) (λZ Z=>a.rev 0 m) (uZ (a.rev 0 m) b _ _)
theorem nM{p:zw Nat}(a:0<n)(m k:Nat)(c:Pm n p):InT n (λr=>Pm n r.2) (EL m k p):=(oG a _ _ _ _ c).bind λr b=>by
 show InT n _ (if _ then _ else _)
 split
 ·exact t9 a _ _ (b.rev _ _)
 ·exact t9 a _ _ b
theorem in_count{p:zw Nat}(c:0<n)(k:Nat)(a:Pm n p):InT n (λr=>Pm n r.2) (kas_count k p):=(uZ a c _ _).bind λm Z=>by
 show InT n _ (if _ then _ else _)
 split
 ·exact a
 ·split
  ·exact⟨a.lt c _,a.lt c _,λb=>by cases b;exact nM c _ _ (a.rev _ _);exact a⟩
  ·exact nM c _ _ a
theorem pN{p:zw Nat}(a:Pm n p)(c:0<n)(k:Nat):∀ f l r,InT n (λZ=>True) (kas_place p k f l r)
 | 0,_,_=>trivial
 | f+1,l,r=>by
  show InT n _ (if _ then _ else _)
  split
  ·exact trivial
  ·exact⟨a.lt c _,a.lt c _,λb=>by cases b;exact pN a c k f _ _;exact pN a c k f _ _⟩
theorem x9(b:0<n):∀ f (p:zw Nat) k,Pm n p->InT n (Pm n) (kas_bin f p k)
 | 0,_,_,a=>a
 | f+1,_,k,a=>(pN a b k _ _ _).bind λZ Z=>x9 b f _ _ ((bubble_perm _ _ _).trans a)
theorem ww(a:0<n):InT n (Pm n) (kas_sort n):=(in_count a n (Array.Perm.refl _)).bind λr b=>by
 show InT n _ (if _ then _ else _)
 split
 ·exact x9 a _ _ _ b
 ·exact b
end
theorem lZ(ks:yN D):(kix ks).Perm (zt ks.length):=by
 unfold kix
 split
 ·exact Ci.refl _
 ·next h=>exact ((ww (zf Nat.two_pos (Ac.mp h))).run _).toList
inductive eZ(h:Heap):yR->D->Prop where
 | int {a:y0} {i:Int} {t:Tok} {n:Nat} (e:h.get? a=ac (ec #[.bool yM,.int i t] n)):eZ h (.ref a) (.int i)
 | str {a:y0} {x:Str} {t:Tok} {n:Nat} (e:h.get? a=ac (ec #[.bool yP,.str x t] n)):eZ h (.ref a) (.str x)
theorem eZ.keeps{h h':Heap}{k:yR}{d:D}(q:eZ h k d)(b:∀ a xs n,h.get? a=ac (ec xs n)->h'.get? a=ac (ec xs n)):eZ h' k d:=q.rec (λe=>.int (b _ _ _ e)) λe=>.str (b _ _ _ e)
theorem eZ.first{h:Heap}{k:yR}{d:D}(q:eZ h k d):∃ a b v n,k=.ref a/\h.get? a=ac (ec #[.bool b,v] n):=q.rec (λe=>⟨_,_,_,_,QQ,e⟩) λe=>⟨_,_,_,_,QQ,e⟩
section
variable {Fd:zv} {w:zD} {A:zF} {E:yR->yY->Prop} {s:yY}
theorem pg{a b:yU}{Q:yU->yY->Prop}(h:Q (!a&&b) s):wpAny (y6 Fd w) A (oneLt' yP (.bool a) (.bool b)) Q E s:=by
 rw[oneLt'_eq,y8 rfl];refine yT (wpAny_cRoomFor_byValue QQ ?_);refine yT (wpAny_callSpecialIfBound?_slot (typeIs_bool' s a) PySem.F.slot_bool_lt (AV PySem.F.slot_bool_lt (typeIs_bool' s a) PySem.F.entry_int_lt ?_ (PySem.F.args_int_lt_2 _ _)));have e:Bz.«int.__lt__» ⟨[.bool a,.bool b],[]⟩=ret (.bool (!a&&b)):=by cases a <;> cases b <;> rfl
 rw[e];exact y9 ⟨_,QQ,wpAny_truthy_bool h⟩
theorem vY{a b:y0}{k:yU}{v u:yR}{n m:Nat}{Q:yU->yY->Prop}{e c:yU}(f:s.heap.get? a=ac (ec #[.bool k,v] n))(i:s.heap.get? b=ac (ec #[.bool k,u] m))(he:Cr A s v u e)(h:Q c s)(h1:e=yP->c=yM)(j:wpAny (y6 Fd w) A (Ch .Lt v u) (W.BoolBack Q) (λZ Z=>False) s) :
  wpAny (y6 Fd w) A (keyLt' (tuples' yP) (.ref a) (.ref b)) Q E s:=by
 refine kat_lt f QQ i QQ (kat_cons (EqAt.bool_bool _ _ Fd w _ _ ?_));rw[zu];refine kat_yes (kat_cons (he Fd w _ _ ?_));cases e with
 | true=>exact kat_yes (kat_nil (show Q yM s from h1 QQ▸h))
 | false=>exact kat_no (kat_one _ _ j)
theorem key_lt{x y:yR}{c d:D}{Q:yU->yY->Prop}(i:eZ s.heap x c)(f:eZ s.heap y d)(h:Q (aL c d) s):wpAny (y6 Fd w) A (keyLt' (tuples' yP) x y) Q E s:=by
 cases i with
 | int b=>cases f with
  | int a=>exact vY b a (EqAt.int_int _ _ _ _) h (λe=>Aq λq=>zA (eq_of_beq e) (Int.ne_of_lt q)) (PyProof.Rows.lt_int h)
  | str a=>exact kat_lt b QQ a QQ (kat_cons (EqAt.bool_bool _ _ Fd w _ _ (kat_no (pg h))))
 | str b=>cases f with
  | int a=>exact kat_lt b QQ a QQ (kat_cons (EqAt.bool_bool _ _ Fd w _ _ (kat_no (pg h))))
  | str a=>exact vY b a (EqAt.str_str _ _ _ _) h (λe=>Aq λq=>zA (zj (·.cps.toList) (eq_of_beq e)) λr=>List.lt_irrefl _ (r▸q)) (PyProof.Rows.lt_str h)
noncomputable def eY(h:Heap)(Fh:yN yR)(ds:yN D):Prop:=Fh.length=ds.length/\∀ p∈Fh.zip ds,eZ h p.1 p.2
theorem eY.snoc{h:Heap}{Fh:yN yR}{ds:yN D}{k:yR}{d:D}(K:eY h Fh ds)(b:eZ h k d):eY h (Fh++[k]) (ds++[d]):=
 ⟨by rw[zd,zd,K.1];rfl,λp a=>by
  rw[List.zip_append K.1] at a;exact (zM.mp a).elim (K.2 p) λq=>zg.mp q▸b⟩
theorem eY.keeps{h h':Heap}{Fh:yN yR}{ds:yN D}(K:eY h Fh ds)(b:∀ a xs n,h.get? a=ac (ec xs n)->h'.get? a=ac (ec xs n)):eY h' Fh ds:=⟨K.1,λp c=>(K.2 p c).keeps b⟩
theorem eY.rev{h:Heap}{Fh:yN yR}{ds:yN D}(K:eY h Fh ds)(b:yU):eY h (AT b Fh) (AT b ds):=by
 cases b with
 | false=>exact K
 | true=>exact⟨by show Fh.reverse.length=ds.reverse.length;rw[Dg,Dg,K.1],λp a=>K.2 p (DQ.mp ((List.reverse_zipWith (f:=Prod.mk) K.1)▸a))⟩
theorem eY.at{h:Heap}{Fh:yN yR}{ds:yN D}(K:eY h Fh ds){i:Nat}(hi:i<ds.length):eZ h (Fh.getD i .none) (eH ds i):=by
 have a:i<Fh.length:=K.1.symm▸hi;unfold eH;rw[zb,zb,y4 a,y4 hi];have b:i<(Fh.zip ds).length:=by rw[Di,K.1,DW];exact hi
 have q:=K.2 _ (AJ b);rw[List.getElem_zip] at q;exact q
theorem keys_kind{Fh:yN yR}{ds:yN D}{Q:SortKind->yY->Prop}(K:eY s.heap Fh ds)(j:2<=ds.length)(h:Q (tuples' yP) s):wpAny (y6 Fd w) A (keyKind' Fh.toArray) Q E s:=by
 have go:∀ (ks:yN yR),(∀ k∈ks,∃ a b v n,k=.ref a/\s.heap.get? a=ac (ec #[.bool b,v] n))->∃ c:yN yR,KatTups s.heap ks c/\c.length=ks.length/\∀ v∈c,∃ b,v=.bool b:=by
  intro ks
  induction ks with
  | nil=>exact λZ=>⟨[],.nil,QQ,λZ q=>nomatch q⟩
  | cons k ks t=>
   intro f;obtain⟨c,h1,j,m⟩:=t λy q=>f y (Ae _ q)
   obtain⟨a,b,v,n,rfl,z⟩:=f k zG;exact⟨.bool b::c,.cons z QQ QQ QQ h1,zj EG j,λu q=>(zc.mp q).elim (λe=>⟨_,e⟩) (m u)⟩
 obtain⟨c,h1,m,B⟩:=go Fh λk f=>by
  obtain⟨i,o,e⟩:=BY f;have q:=K.at (K.1▸o);rw[zb,y4 o,Option.getD_some,e] at q;exact q.first
 refine kat_kind (T:=.type "bool") h1 (by rw[m,K.1];exact zf Nat.two_pos j) (λv C=>?_) QQ h
 obtain⟨b,rfl⟩:=B v C;exact .now
end
section
variable {Fd:zv} {w:zD} {A:zF} {E:yR->yY->Prop} {s:yY} {a kS:y0} {rev:yU} {vs:yN yR} {ds:yN D} {Fh:yN yR} {f:yR} {e e1:Nat} {P:PySem.Fin->yY->Prop}
theorem gK{n m:Nat}(h:n<64)(a:n=m):m<=sizeLine:=by rw[<- a,sizeLine_eq];exact yQ (zU h) (by decide)
noncomputable abbrev Kp2(a b:y0)(h h':Heap):Prop:=∀ c o,c≠a->c≠b->gat h c=ac o->gat h' c=ac o
theorem key_tail{st:SortSt}{out:yN yR}(t:(arrOf st).map (·.2)=(AT rev out).toArray)(n:s.heap.get? kS=ac (AO "list" Fh.toArray e))(u:s.heap.get? a=ac (AO "list" #[] e1))(i:kS≠a)(hz:Fh.length<64)(j:out.length=Fh.length)(y:failedOf st=y7)
  (h:∀ h' c,Kp2 a kS s.heap h'->h'.get? a=ac (AO "list" out.toArray c)->P (.done (.ret .none)) { s with heap:=h' }) :
  wpAny (y6 Fd w) A (ksk_tail a rev e1 (.ref kS) st) P E s:=by
 have s1:=Heap.SameBut.update s.heap kS (Obj.mapSeq λZ=>(#[]:zw yR))
 have f:(s.heap.update kS (Obj.mapSeq λZ=>(#[]:zw yR))).get? a=ac (AO "list" #[] e1):=(s1.2 a i.symm).trans u
 have z:=Heap.SameBut.update (s.heap.update kS (Obj.mapSeq λZ=>(#[]:zw yR))) a (Obj.mapSeq λZ=>out.toArray)
 have m:=get?_update_seq f λZ=>out.toArray
 delta ksk_tail
 dsimp only;rw[t,kat_outs,show AT rev (AT rev out)=out from by cases rev;rfl;exact D3 _,y]
 refine yT (Es n QQ ?_ (gK hz QQ) (zn _));refine yT (wpAny_letGo ?_);refine yT (seqEpoch_at f QQ ?_);refine yT (Es f QQ ?_ (zn _) (zR (gK hz j.symm)));rw[bne_self_eq_false,za y5];exact y9 (h _ _ (λb o h1 B q=>g1 z (ce f) b h1 (g1 s1 (ce n) b B q)) m)
theorem tJ{α:Type}{z:α}(l:yN α):(zt l.length).map (λi=>l.getD i z)=l:=by
 apply List.ext_getElem
 ·rw[yV,zX]
 ·intro i h1 a
  rw[List.getElem_map,List.getElem_range,zb,y4 a];rfl
theorem oY{α:Type}{z:α}{b:yU}{ks:yN D}{l:yN α}:(ir z b ks l).length=ks.length:=by
 unfold ir;rw[BS,yV,(lZ _).length_eq,zX,BS]
theorem key_end(N:s.heap.get? kS=ac (AO "list" Fh.toArray e))(O:s.heap.get? a=ac (AO "list" #[] e1))(z:kS≠a)(K:eY s.heap Fh ds)(o:vs.length=ds.length)(hz:ds.length<64)
  (h:∀ h' c,Kp2 a kS s.heap h'->h'.get? a=ac (AO "list" (ir .none rev ds vs).toArray c)->P (.done (.ret .none)) { s with heap:=h' }) :
  wpAny (y6 Fd w) A (ksk_end a rev vs.toArray e1 (.ref kS) Fh.toArray) P E s:=by
 have u:Fh.length=vs.length:=K.1.trans o.symm;have n:(AT rev Fh).length=(AT rev vs).length:=by rw[BS,BS,u]
 have f:∀ (st:SortSt),failedOf st=y7->(arrOf st).map (·.2)=((kix (AT rev ds)).map λi=>(AT rev vs).getD i Value.none).toArray->wpAny (y6 Fd w) A (ksk_tail a rev e1 (.ref kS) st) P E s:=λst B H=>
  key_tail (out:=ir .none rev ds vs) (by rw[H];unfold ir;cases rev;rfl;exact zj _ (D3 _).symm) N O z (K.1.symm▸hz) (oY.trans K.1.symm) B h
 have step:∀ t:Sem PySem.Fin,wpAny (y6 Fd w) A t P E s->wpAny (y6 Fd w) A (if rev=yP then (do let _ <- rule "list.sort.reverse";t) else t) P E s:=by
  intro t I
  split
  ·exact yT (Dy I)
  ·exact I
 delta ksk_end
 dsimp only;refine step _ ?_;rw[kat_pairs rev u]
 by_cases m:vs.toArray.size<2
 ·rw[y8 m,y8 m]
  refine yT (y9 ?_);rw[StateT.run_pure];refine yT (y9 (f _ QQ ?_));unfold kix;rw[y8 (by rw[BS,<- o];exact m),BS,<- o,<- BS rev vs,tJ]
  show Array.map (·.2) ((AT rev Fh).toArray.zip (AT rev vs).toArray)=_;apply Array.ext';rw[Array.toList_map,ksk_zip];exact List.map_snd_zip (zk n.symm)
 ·rw[za m,za m]
  have b:2<=ds.length:=o▸Ac.mp m;refine yT (keys_kind K b ?_);have y:(AT rev vs).length=(AT rev ds).length:=by rw[BS,BS,o]
  refine yT (CW (kat_run (Q:=λst s'=>s'=s/\failedOf st=y7/\(arrOf st).map (·.2)=((kix (AT rev ds)).map λi=>(AT rev vs).getD i Value.none).toArray) (G:=λp s'=>s'=s/\p.toList=kix (AT rev ds)) n (by rw[y,BS];exact b) (by rw[y,BS];exact hz)
   (λp st s' Z m T J=>⟨J.1,T,(kat_snds n m).trans (J.2▸rfl)⟩) ?_) (λr s' q=>?_) λZ Z x=>x)
  ·refine InT.wp (lt:=λi j=>aL (eH (AT rev ds) i) (eH (AT rev ds) j)) (λi j C L M U=>?_) (ww (by rw[y,BS];exact zf Nat.two_pos b)) ⟨QQ,?_⟩
   ·rw[y] at L M
    exact key_lt ((K.rev rev).at L) ((K.rev rev).at M) U
   ·unfold kix
    rw[za (by rw[BS];exact Ac.mpr b),y]
  ·obtain⟨⟨⟩,st⟩:=r
   obtain⟨rfl,B,H⟩:=q;exact f st B H
theorem key_rest(T:s.heap.get? kS=ac (AO "list" #[] 0))(U:s.heap.get? a=ac (AO "list" #[] e1))(z:kS≠a)(I:vs.length=ds.length)(hz:ds.length<64)
  (turn:∀ (i:Nat) (v:yR) (d:D),vs[i]?=ac v->ds[i]?=ac d->∀ h tk dw,Kp2 a kS s.heap h ->
   wpAny (y6 Fd w) A (call f [v]) (λk s'=>bQ { s with heap:=h,toks:=tk,drawn:=dw } s'/\eZ s'.heap k d) (λZ Z=>False) { s with heap:=h,toks:=tk,drawn:=dw })
  (h:∀ h' tk dw c,Kp2 a kS s.heap h'->h'.get? a=ac (AO "list" (ir .none rev ds vs).toArray c)->P (.done (.ret .none)) { s with heap:=h',toks:=tk,drawn:=dw }) :
  wpAny (y6 Fd w) A (ksk_rest a f rev vs.toArray e1 (.ref kS)) P E s:=by
 delta ksk_rest
 refine yT (Dy ?_);rw[List.forIn_toArray];refine yT (ksk_fold (λi s'=>∃ h' tk dw ks e,s'={ s with heap:=h',toks:=tk,drawn:=dw }/\Kp2 a kS s.heap h'/\h'.get? kS=ac (AO "list" (EM ks) e)/\h'.get? a=ac (AO "list" #[] e1)/\eY h' ks (ds.take i)) vs 0 s
  ⟨s.heap,s.toks,s.drawn,[],0,QQ,λZ Z Z Z q=>q,T,U,by rw[List.take_zero];exact⟨QQ,λZ q=>nomatch q⟩⟩ ?step ?done)
 case step=>
  rintro j x s' O ⟨h',tk,dw,ks,e,rfl,m,t,y,K⟩;rw[Al] at K ⊢;have C:j<ds.length:=I▸(List.getElem?_eq_some_iff.mp O).1;have B:ks.length+1<64:=by rw[K.1,C1,Cv (zU C)];exact y3 C hz
  refine yT (C9 (CW (turn j x ds[j] O (y4 C) h' tk dw m) (λv V q=>?_) λZ Z X=>X.elim))
  obtain⟨⟨g,J,L,G⟩,Y⟩:=q;have u:=Heap.of_gt (G _ _ (Heap.gt_of t));have s1:=Heap.SameBut.update g kS (Obj.mapSeq (·.push v));have M:=get?_update_seq u (·.push v);refine yT (Es u QQ ?_ (gK (Aa B) QQ) (zR (gK B (Array.size_push v).symm)));refine y9 ⟨QQ,_,J,L,ks++[v],_,QQ,λb o h1 H q=>g1 s1 (ce u) b H (G b o (m b o h1 H q)),by rw[<- List.push_toArray];exact M,(s1.2 a z.symm).trans (Heap.of_gt (G _ _ (Heap.gt_of y))),?_⟩
  rw[List.take_add_one,y4 C];refine ((K.keeps λb xs n q=>Heap.of_gt (G _ _ (Heap.gt_of q))).snoc Y).keeps λb xs n q=>(s1.2 b λr=>?_).trans q
  rw[r,u] at q;exact zA (zj Obj.cls (yW q)) (show ¬ Value.type "list"=Value.type "tuple" by decide)
 case done=>
  rintro s' ⟨h',tk,dw,ks,e,rfl,m,t,y,K⟩;rw[Al,I,DP] at K;refine yT (listItems_at t QQ ?_);exact key_end (s:={ s with heap:=h',toks:=tk,drawn:=dw }) t y z K I hz λN c h1 H=>h N tk dw c (λb o n1 n2 q=>h1 b o n1 n2 (m b o n1 n2 q)) H
theorem key_tree{n:Nat}(u:s.heap.get? a=ac (AO "list" vs.toArray n))(z:vs.length=ds.length)(hz:ds.length<64)
  (turn:∀ (i:Nat) (v:yR) (d:D),vs[i]?=ac v->ds[i]?=ac d->∀ h tk dw,(∀ b o,b≠a->gat s.heap b=ac o->gat h b=ac o) ->
   wpAny (y6 Fd w) A (call f [v]) (λk s'=>bQ { s with heap:=h,toks:=tk,drawn:=dw } s'/\eZ s'.heap k d) (λZ Z=>False) { s with heap:=h,toks:=tk,drawn:=dw })
  (h:∀ h' tk dw c,(∀ b o,b≠a->gat s.heap b=ac o->gat h' b=ac o)->h'.get? a=ac (AO "list" (ir .none rev ds vs).toArray c)->P (.done (.ret .none)) { s with heap:=h',toks:=tk,drawn:=dw }) :
  wpAny (y6 Fd w) A (ksk_tree a f rev) P E s:=by
 have C:a<s.heap.objs.size:=Heap.lt_size u;have s1:=Heap.SameBut.update s.heap a (Obj.mapSeq λZ=>(#[]:zw yR))
 have y:=get?_update_seq u λZ=>(#[]:zw yR)
 have t:((s.heap.update a (Obj.mapSeq λZ=>(#[]:zw yR))).push (AO "tuple" vs.toArray 0)).objs.size=s.heap.objs.size+1:=by rw[size_push',Heap.size_update]
 have j:∀ b o,b≠a->gat s.heap b=ac o->(gat (((s.heap.update a (Obj.mapSeq λZ=>(#[]:zw yR))).push (AO "tuple" vs.toArray 0)).push (AO "list" #[] 0)) b=ac o/\b≠s.heap.objs.size+1):=λb o m q=>
  ⟨Heap.gt_push_of_some _ (Heap.gt_push_of_some _ (g1 s1 (ce u) b m q)),zO (Ab (Heap.gt_lt q))⟩
 delta ksk_tree
 refine yT (listItems_at u QQ ?_);refine yT (Es u QQ ?_ (gK hz z.symm) (zn _));refine yT (seqEpoch_at y QQ ?_);refine yT (wpAny_newTuple ?_ (gK hz z.symm));refine yT (Ep ?_ (zn _));refine Bx ?_;exact key_rest (s:={ s with heap:=((s.heap.update a (Obj.mapSeq λZ=>(#[]:zw yR))).push (AO "tuple" vs.toArray 0)).push (AO "list" #[] 0) }) (kS:=((s.heap.update a (Obj.mapSeq λZ=>(#[]:zw yR))).push (AO "tuple" vs.toArray 0)).objs.size)
  (Heap.get?_push_size _ QQ) (Heap.get?_push_of_some _ (Heap.get?_push_of_some _ y)) (by rw[t];exact Dq (Ab C)) z hz
  (λi v d G H h tk dw B=>turn i v d G H h tk dw λb o m q=>B b o m (by rw[t];exact (j b o m q).2) (j b o m q).1)
  λh' tk dw c B I=>h h' tk dw c (λb o m q=>B b o m (by rw[t];exact (j b o m q).2) (j b o m q).1) I
end
section
variable {Fd:zv} {w:zD} {A:zF} {E:yR->yY->Prop} {s:yY} {l:y0} {rev:yU} {vs:yN yR} {ds:yN D} {f:yR} {Q:yR->yY->Prop}
theorem sorted_key{n:yN (Str×yR)}(G:s.heap.IsList l vs.toArray)(j:vs.length=ds.length)(hz:ds.length<64)
  (z:Dr "sorted" ⟨[.ref l],n⟩) (B:∀ x,Dr "list.sort" ⟨[.ref x],n⟩) (H:∀ x,Bz.«list.sort» ⟨[.ref x],n⟩=ksk_tree x f rev)
  (turn:∀ (i:Nat) (v:yR) (d:D),vs[i]?=ac v->ds[i]?=ac d->∀ h tk dw,KH s.heap h ->
   wpAny (y6 Fd w) A.in1.in1 (call f [v]) (λk s'=>bQ { s with heap:=h,toks:=tk,drawn:=dw } s'/\eZ s'.heap k d) (λZ Z=>False) { s with heap:=h,toks:=tk,drawn:=dw })
  (h:∀ h' tk dw S c,KH s.heap h'->gat s.heap S=y7->(∀ b o,gat s.heap b=ac o->@LT.lt Nat _ b S)->h'.get? S=ac (fY (ir .none rev ds vs).toArray c)->Q (.ref S) { s with heap:=h',toks:=tk,drawn:=dw }) :
  wpAny (y6 Fd w) A (call (.builtin "sorted") [.ref l] n) Q E s:=by
 refine call_function_entry_kw kind_sorted plain_sorted entry_sorted z ?_;unfold Bz.«sorted»;refine yT (m:=checkCount "sorted" 1 1 _) (y9 ?_);refine yT (collect_list G ?_ (gK hz j.symm));refine yT (Ep ?_ (gK hz j.symm));have t:((s.heap.push (AO "list" #[] 0)).update s.heap.objs.size (Obj.mapSeq (·++vs.toArray))).objs.size=s.heap.objs.size+1:=by
  rw[Heap.size_update,size_push']
 have u:(((s.heap.push (AO "list" #[] 0)).update s.heap.objs.size (Obj.mapSeq (·++vs.toArray))).push (AO "list" vs.toArray 0)).get? (s.heap.objs.size+1)=ac (AO "list" vs.toArray 0):=by
  rw[<- t];exact Heap.get?_push_size _ QQ
 have a:∀ b o,gat s.heap b=ac o->gat (((s.heap.push (AO "list" #[] 0)).update s.heap.objs.size (Obj.mapSeq (·++vs.toArray))).push (AO "list" vs.toArray 0)) b=ac o/\b<s.heap.objs.size+1:=λb o q=>
  have y:b<s.heap.objs.size:=Heap.gt_lt q
  ⟨Heap.gt_push_of_some _ (g1 (Heap.SameBut.update ..) (ce (Heap.get?_push_size _ QQ)) b (zO y) (Heap.gt_push_of_some _ q)),Ab y⟩
 show wpAny _ _ _ _ _ { s with heap:=((s.heap.push (AO "list" #[] 0)).update s.heap.objs.size (Obj.mapSeq (·++vs.toArray))).push (AO "list" vs.toArray 0) }
 rw[t];refine yT (Bx (wpAny_call_entry_kw slot_list_sort ⟨_,u,QQ⟩ entry_list_sort ?body (B _)));show wpAny (y6 Fd w) A.in1.in1 (Bz.«list.sort» ⟨[.ref (s.heap.objs.size+1)],n⟩) _ _ _;rw[H (s.heap.objs.size+1)];refine key_tree (s:={ s with heap:=((s.heap.push (AO "list" #[] 0)).update s.heap.objs.size (Obj.mapSeq (·++vs.toArray))).push (AO "list" vs.toArray 0) }) (ds:=ds) u j hz
  (λi v d I J h tk dw C=>turn i v d I J h tk dw λb o q=>C b o (zO (a b o q).2) (a b o q).1) λh' tk dw c C L=>⟨_,QQ,?_⟩
 refine y9 ⟨_,QQ,h h' tk dw _ c (λb o q=>C b o (zO (a b o q).2) (a b o q).1) ?_ (λb o q=>(a b o q).2) L⟩
 cases q:gat s.heap (s.heap.objs.size+1) with
 | none=>rfl
 | some o=>exact zA (a _ o q).2 (Af _)
end
end Mine
namespace Mine
open PySem
theorem lookup_zip_mem{α:Type}{ns:yN Str}{vs:yN α}(h:ns.length=vs.length){x:Str}(a:x∈ns):∃ v,(ns.zip vs).lookup x=ac v:=by
 induction ns generalizing vs with
 | nil=>nomatch a
 | cons n ns b=>cases vs with
  | nil=>cases h
  | cons v vs=>
   rw[Bn,aX]
   by_cases e:x=n
   ·exact⟨v,y8 e⟩
   ·rw[za e]
    exact b (Ax h) ((zc.mp a).resolve_left e)
theorem fm_congr{α b:Type}{f g:α->yX b}{l:yN α}(h:∀ x∈l,f x=g x):l.filterMap f=l.filterMap g:=by
 induction l with
 | nil=>rfl
 | cons a l c=>rw[Df,Df,h a (.head _),c λx i=>h x (.tail _ i)]
theorem filterMap_zip{α:Type}{ns:yN Str}{vs:yN α}(a:ns.Nodup)(h:ns.length=vs.length):ns.filterMap (λn=>((ns.zip vs).lookup n).map (n,·))=ns.zip vs:=by
 induction ns generalizing vs with
 | nil=>rfl
 | cons n ns b=>cases vs with
  | nil=>cases h
  | cons v vs=>
   have a:=Be.mp a;rw[Bn,Df,aX,y8 rfl];refine zj ((n,v)::·) ((fm_congr λx c=>?_).trans (b a.2 (Ax h)))
   rw[aX,za (show ¬ x=n from λe=>a.1 (e▸c))]
theorem ki{fd:FuncData}{vals:yN yR}(h1:fd.params.posonlyargs=[])(h:fd.params.kwonlyargs=[])(i:fd.params.vararg=y7)(j:fd.params.kwarg=y7)(m:fd.defaults=.none)
  (b:(fd.params.args.map (·.arg)).Nodup) (c:(fd.params.args.map (·.arg)).length=vals.length):bindArgs fd ⟨vals,[]⟩=pure ((fd.params.args.map (·.arg)).zip vals):=by
 obtain⟨z,A,⟨B,a,C,E,G,H,I⟩,J,sc,L,M,t,u,N,O,T,U,V,X⟩:=fd;dsimp only at h1 h i j m b c;subst h1 h i j m;have w:(a.map (·.arg)).filter (λn=>(Eh n ((a.map (·.arg)).zip vals)).isNone)=[]:=CD.mpr λx y e=>
  (lookup_zip_mem c y).elim λv q=>by rw[q] at e;cases e
 refine (za (λe=>DO (zk c.symm) (zS (zE.mp e).1))).trans ?_
 have o:∀ k,List.drop k ((y7:yX (zw yR)).getD #[]).toList=[]:=λk=>List.drop_nil
 refine (za λe=>?_).trans ?_
 ·rw[o] at e
  have s:(!(((a.map (·.arg)).take (a.map (·.arg)).length).filter (λn=>(Eh n ((a.map (·.arg)).zip vals)).isNone)).isEmpty)=yP:=e
  rw[DP,w] at s;cases s
 ·rw[o,List.zip_nil_right]
  exact zj (pure (f:=Sem)) ((zj (λl=>l.filterMap λn=>(((a.map (·.arg)).zip vals).lookup n).map (n,·)) (zy (a.map (·.arg)))).trans (filterMap_zip b c))
end Mine
namespace Mine
open PySem PySem.SeqAt PySem.W PyProof.Rows
section
variable {M:Model} {A:zF} {E:yR->yY->Prop} {s:yY}
theorem lam_tail{c:Cu}{body:zh}{scope:Bk}{Fj:Env}{ps:zw yR}{w:Pos}{a:Nat}{mg:Str->yX yR}{f:yN (Str×y0)}{name:Str}{Q:yR->yY->Prop}
  (U:closureFor scope Fj=pure f) (V:f.isEmpty=yM) (y:Fj.globals=AB) (Fv:s.heap.Ns AB mg) (j:Fj.code=.ref oc) (C:CodeHd s.heap oc tb) (z:s.heap.get? tb=ac (tabObj ps)) (X:jA s.heap ps.toList)
  (Y:codeAmong w ps.toList=y7) (T:s.heap.BuiltinsAt mg tb)
  (h:∀ B Z h' tk,KH s.heap h'->iO h' B ->
   Q (.ref h'.objs.size) { s with heap:=h'.push (kla_obj name pB c body scope f ((mg "__name__").getD .none) B Z),toks:=tk }) :
  wpAny M A (makeTail name pB c (.expr body) scope Fj .none .none y7 w a) Q E s:=by
 have Fo:AB≠tb:=λq=>by
  have e:=fR Fv (tabObj ps) (q▸z);cases e
 refine Classical.byContradiction λFw=>?_
 obtain⟨FM,FN,Fp,G,_,H,Fq,I,m,n⟩:=T;refine Fw ?_;clear Fw;unfold makeTail;rw[U,y];refine yT (y9 ?_);rw[V];simp only[B5,CA];refine yT (wpAny_newTextTuple ?_);refine yT (wpAny_functionCodeX j ((C.keeps λb o e=>Heap.get?_push_of_some _ e).code (Heap.get?_push_of_some _ z) X.triples) ((C.keeps λb o e=>Heap.get?_push_of_some _ e).tab (Heap.get?_push_of_some _ z)) Y λB h' tk Fz FE FF EV J Fs L=>?_)
 have N:=(Fv.push _).extBut Fz Fo;have u:Heap.ExtBut tb s.heap h':=λb o Ft e=>Fz b o Ft (Heap.get?_push_of_some _ e)
 have i:iO h' B:=by
  obtain⟨_,_,_,⟨o1,FO,FA,r2,FP,_⟩,_⟩:=L;obtain⟨c2,o2,vs,t,FG,Fu,FH,FJ⟩:=J;cases FG;exact⟨o1,vs,t,FA,r2,yW (Fu.symm.trans FA)▸FH,FJ⟩
 have O:KH s.heap h':=λb o e=>(Classical.em (b=tb)).elim (λq=>by
   subst q;rw[Heap.gt_good z ⟨ps,rfl,X⟩] at e;cases e;refine Heap.gt_good Fs.2 ⟨_,QQ,?_⟩;rw[D8];exact jA.snoc _ _ i (X.mono λb o e EV FK=>u b o (λq=>by rw[q,z] at e;cases e;exact FK QQ) e)) λT=>by
   rw[Heap.gt_ne T] at e ⊢;exact u b o T e
 refine yT (wpAny_builtinsFor N Fp G (u _ _ H Fq) I m n ?_);refine yT (wpAny_nsGet N ?_);exact yT (y9 (Ah (h B _ h' tk O i) (by size_fits)))
theorem lam_make{c:Cu}{body:zh}{scope:Bk}{Fj:Env}{ps:zw yR}{n:Pos}{a:Nat}{mg:Str->yX yR}{f:yN (Str×y0)}{name:Str}{Q:yR->yY->Prop}
  (q:closureFor scope Fj=pure f) (u:f.isEmpty=yM) (j:Fj.globals=AB) (z:s.heap.Ns AB mg) (i:Fj.code=.ref oc) (C:CodeHd s.heap oc tb) (B:s.heap.get? tb=ac (tabObj ps)) (w:jA s.heap ps.toList)
  (G:s.heap.BuiltinsAt mg tb)
  (h:∀ t m h' tk,KH s.heap h'->iO h' t ->
   Q (.ref h'.objs.size) { s with heap:=h'.push (kla_obj name pB c body scope f ((mg "__name__").getD .none) t m),toks:=tk }) :
  wpAny M A (makeFunction name pB c (.expr body) scope Fj [] [] [] n a) Q E s:=by
 cases y:codeAmong n ps.toList with
 | none=>
  rw[makeFunction_eq];simp only[List.zip_nil_right,List.filterMap_nil,List.isEmpty_nil,Ed,pure_bind];exact lam_tail q u j z i C B w y G h
 | some J=>
  obtain⟨t,rfl,I⟩:=w.among y;exact kla_makeFunctionHit q j z i C B w.triples y G λm h' tk H Z=>h t m h' tk (Heap.gt_up H) (I.mono λb o e Z Z=>H b o e)
end
section
variable {Fd:zv} {w:zD} {A:zF} {s:yY}
noncomputable abbrev pC(scope:Bk)(L:y0)(a:yN (Str×y0))(f c':y0):Env:=newEnv scope L AB a (pB++".<locals>.") (ac f) (.ref c') y7 EB
theorem lam_call{f c':y0}{a:Cu}{body:zh}{scope:Bk}{c:yN (Str×y0)}{C i v:yR}{x name:Str}{Q:yR->yY->Prop}{E:yR->yY->Prop}
  (N:s.heap.get? f=ac (kla_obj name pB a body scope c C c' i)) (O:iO s.heap c') (u:s.heap.NoLimit) (j:A.depth<BZ)
  (h1:a.posonlyargs=[]) (T:a.kwonlyargs=[]) (U:a.vararg=y7) (V:a.kwarg=y7) (G:a.args.map (·.arg)=[x])
  (X:scope.kind=.function) (H:scope.isCoroutine=yM) (z:scope.isGenerator=yM) (m:∀ p∈scope.names,p.2≠.cell) (Y:scope.names.lookup x=ac .local)
  (h:∀ Fk tk,Fk.Ns s.heap.objs.size (λy=>[(x,v)].lookup y)->(KH s.heap Fk) ->
   wpAny (y6 Fd w) (A.deeper (pC scope s.heap.objs.size c f c')) (zQ body (pC scope s.heap.objs.size c f c')) Q (λEV EV=>False) { s with heap:=Fk,toks:=tk }) :
  wpAny (y6 Fd w) A (call (.ref f) [v]) Q E s:=by
 obtain⟨I,vs,t,e1,Fp,Z,Fo⟩:=O;refine wpAny_call (kla_callFunE j N QQ H z QQ ⟨c',I,vs,t,QQ,e1,Z,Fo⟩ ?_);have n:bindArgs (kla_fn name pB a body scope c C (.ref c') i) ⟨[v],[]⟩=pure [(x,v)]:=by
  have q:=ki (fd:=kla_fn name pB a body scope c C (.ref c') i) (vals:=[v]) h1 T U V QQ (by show (a.args.map (·.arg)).Nodup;rw[G];exact Be.mpr ⟨nofun,List.nodup_nil⟩) (by show (a.args.map (·.arg)).length=_;rw[G];rfl)
  have q2:bindArgs (kla_fn name pB a body scope c C (.ref c') i) ⟨[v],[]⟩=pure ((a.args.map (·.arg)).zip [v]):=q;rw[G] at q2;exact q2
 rw[n];refine y9 (wpAny_newFunctionEnv m (λy M=>?_) (λFk J B=>⟨u.fresh _ B,?_⟩) X)
 ·simp only[zc,zV,Bs] at M
  subst M;exact Y
 ·refine kla_codeExpr (CW (h Fk _ J λb o e=>?_) (λv s' q=>q) λEV EV q=>q.elim)
  have L:(s.heap.push { cls:=.type "frame",data:=.dict #[] }).get? s.heap.objs.size=ac { cls:=.type "frame",data:=.dict #[] }:=Heap.get?_push_size _ QQ;exact g1 B (ce L) b (zO (Heap.gt_lt e)) (Heap.gt_push_of_some _ e)
theorem lam_env{h Fk:Heap}{Fj:Env}{m:Str->yX yR}{scope:Bk}{x:Str}{v:yR}{f c':y0}(R:bN h Fj m)(s:Fk.Ns h.objs.size (λy=>[(x,v)].lookup y))(keep:KH h Fk)
  (t:scope.kind=.function) (i:∀ p∈scope.names,p.2≠.cell) (j:∀ p∈scope.names,p.2=.free->Fj.kindOf p.1=ac .cell\/Fj.kindOf p.1=ac .free) (n:mN (λy=>scope.names.lookup y)=yM) :
  bN Fk (pC scope h.objs.size (gC Fj.cells scope.names []) f c') (λy=>if scope.names.lookup y=ac .free then m y else [(x,v)].lookup y):=by
 have a:∀ y c,(gC Fj.cells scope.names []).lookup y=ac c->Fj.cells.lookup y=ac c:=gB _ _ (λZ Z e=>by simp at e)
 refine⟨t,QQ,QQ,⟨_,s,λy hy=>?_⟩,λy hy=>?_,λy z c e1 u=>R.inj y z c (a y c e1) (a z c u),λy c e q=>?_,λy c e=>?_,λb=>?_⟩
 ·have hy:scope.names.lookup y=ac .local:=hy
  rw[hy,za (by nofun)]
 ·have hy:scope.names.lookup y=ac .cell\/scope.names.lookup y=ac .free:=hy
  rcases hy with hy | hy
  ·exact zA QQ (i _ (mem_of_lookup hy))
  ·obtain⟨c,w,q2⟩:=R.cell y (j _ (mem_of_lookup hy) QQ)
   exact⟨c,iG w _ _ (.inl (mem_of_lookup hy)),by rw[y8 hy];exact Cell.keepAt q2 (keep _)⟩
 ·obtain⟨o,b⟩:=R.ex y c (a y c e)
  have h1:=Heap.gt_lt b;have q:@Eq Nat c h.objs.size:=q;exact om49 h1 q
 ·obtain⟨o,b⟩:=R.ex y c (a y c e)
  exact⟨o,keep _ _ b⟩
 ·have b:mN (λy=>scope.names.lookup y)=yP:=b
  rw[n] at b;cases b
end
theorem keysD_inv{g:D->yX D}{d:D}{r ks:yN D}{C:Prop}(h:js g (d::r)=ac ks)(k:∀ k c b,g d=ac k->tO k=ac c->js g r=ac b->c::b=ks->C):C:=
 bK (a:=g d) (f:=λk=>oE (tO k) λc=>(js g r).map λl=>c::l) h λx i h=>bK h λc j h=>bO h λb m e=>k x c b i j m e
theorem keysD_at{g:D->yX D}{ds ks:yN D}(h:js g ds=ac ks):ks.length=ds.length/\∀ (i:Nat) c,ks[i]?=ac c->∃ d k,ds[i]?=ac d/\g d=ac k/\tO k=ac c:=by
 induction ds generalizing ks with
 | nil=>cases h;exact⟨QQ,λi c e=>by rw[DA] at e;cases e⟩
 | cons d r a=>exact keysD_inv h λk c j h1 m b e=>e▸⟨zj EG (a b).1,λi n f=>by
   cases i with
   | zero=>exact⟨d,k,QQ,h1,yW f▸m⟩
   | succ i=>exact (a b).2 i n f⟩
theorem keyD_inv{k c:D}(h:tO k=ac c):k=.tup [.bool (dR c),c]/\c.isCell=yP:=by
 unfold tO at h;split at h
 ·exact cN h λa e=>yW e▸bR a λh1 b=>⟨by rw[eq_of_beq b],h1⟩
 ·cases h
theorem ao.rev{P:zT}{h:Heap}{H:y0->Prop}{vs:yN yR}{ds:yN D}(r:ao P h H vs ds):ao P h H vs.reverse ds.reverse:=
 List.rec (motive:=λds=>∀ l,ao P h H l ds->ao P h H l.reverse ds.reverse) (λl r=>by rw[show l=[] from r];rfl) (λZ Z a Z r=>dT.rec (λh1 b=>by rw[Ez,Ez];exact (a _ b).append (.cons h1 .nil)) r) ds vs r
theorem ao.kat{P:zT}{h:Heap}{H:y0->Prop}{vs:yN yR}{ds:yN D}(r:ao P h H vs ds)(b:yU):ao P h H (AT b vs) (AT b ds):=by
 cases b with
 | false=>exact r
 | true=>exact r.rev
theorem repAll_of{P:zT}{h:Heap}{H:y0->Prop}{vs:yN yR}{ds:yN D}(r:ao P h H vs ds)(L:yN Nat)(a:∀ j∈L,j<ds.length):ao P h H (L.map λp=>vs.getD p .none) (L.map λj=>ds.getD j .none):=by
 induction L with
 | nil=>rfl
 | cons j L c=>
  have b:=a j (.head _);refine .cons ?_ (c λk f=>a k (.tail _ f))
  obtain⟨m,i,q2⟩:=r.get j (y4 b);show Rep P h H (vs.getD j .none) (ds.getD j .none);rw[zb,zb,i,y4 b];exact q2
theorem repAll_srt{P:zT}{h:Heap}{H:y0->Prop}{vs:yN yR}{ds ks:yN D}(r:ao P h H vs ds)(a:ks.length=ds.length)(b:yU):ao P h H (ir .none b ks vs) (ir .none b ks ds):=
 (repAll_of (r.kat b) _ λj c=>by rw[BS,<- a,<- BS b ks];exact AY.mp ((lZ _).mem_iff.mp c)).kat b
theorem key_of{h:Heap}{P:zT}{H:y0->Prop}{k:yR}{c:D}(r:Rep P h H k (.tup [.bool (dR c),c]))(m:c.isCell=yP):eZ h k c:=by
 refine r.tupE λa vs n b Z Z o=>?_
 obtain⟨vs⟩:=vs;cases o with
 | mk h1 f=>cases f with
  | mk f j=>
   have j:_=[]:=j;subst j;have h1:_=Value.bool _:=h1;subst h1;cases c with
   | int i=>
    refine yB.casesOn (motive:=λv Z=>h.get? a=ac (ec #[.bool yM,v] n)->eZ h (.ref a) (.int i)) f (λt b=>.int b) b
   | str x=>
    refine yA.casesOn (motive:=λv Z=>h.get? a=ac (ec #[.bool yP,v] n)->eZ h (.ref a) (.str x)) f (λt b=>.str b) b
   | _=>cases m
section
variable {Fd:zv} {w:zD} {A:zF} {s:yY} {Fe:Heap} {mg mb:Str->yX yR} {cf:CF}
theorem rC{h:Heap}{H:y0->Prop}(G:GOk mg mb Fe)(i:HOk Fe h H):CodeHd h oc tb/\h.BuiltinsAt mg tb/\∃ ps,h.get? tb=ac (tabObj ps)/\jA h ps.toList:=by
 obtain⟨c1,c2,t,u,w,y,z,A,B,C,E,j⟩:=G.lam;refine⟨?_,⟨t,u,w,y,z,A,Heap.of_gt (i.keep _ _ (Heap.gt_of B (cH (by rw[j];nofun)))) (cH (by rw[j];nofun)),C,E,j⟩,?_⟩
 ·obtain⟨o,vs,b,I,a,J,m,c,L,e1,M,r⟩:=CodeHd.of c1 c2
  have f:oc≠tb:=r.2.2.2.2.2.2.2;have n:gat Fe oc=ac o:=by rw[Heap.gt_ne f];exact e1
  have s:=i.keep _ _ n;rw[Heap.gt_ne f] at s;exact⟨o,vs,b,I,a,J,m,c,L,s,M,r⟩
 ·obtain⟨O,N,⟨_,q⟩ | ⟨_,_,xs,q,q2⟩⟩:=Heap.gt_some (i.keep _ _ (Heap.gt_good c2.2 jw.empty))
  ·cases q QQ
  ·subst q;exact⟨xs,N,q2⟩
theorem lamVar{k a:KD}{b:zh}{f x p:yS}(h:aH a b (.call f [.sub (.u x) (.u p)])=yP)(c:k (yO p)=ac .cell\/k (yO p)=ac .free):gO k (yO p)=yP:=
 rL.rec (motive:=λZ Z=>gO k (yO p)=yP) (λ{q i j} _ h=>by
  cases i with
  | nil=>cases h
  | cons e es=>exact bR h λh Z=>ISub.rec (motive:=λZ Z=>gO k (yO p)=yP) (λZ Z h=>uC.rec (motive:=λZ Z=>gO k (yO p)=yP) (λm=>qF m λZ n r2 o=>zE.mpr ⟨zE.mpr ⟨zE.mpr ⟨c.elim (λe=>by rw[e];rfl) λe=>by rw[e];rfl,n⟩,r2⟩,o⟩) (ja h)) (oF h)) (l6 h)
theorem lamAt_keepG{h h':Heap}{c:y0}(x:iO h c)(a:c≠tb)(b:KH h h'):iO h' c:=
 x.elim λo x=>x.elim λvs x=>x.elim λt x=>⟨o,vs,t,(Heap.gt_ne a).symm.trans (b _ _ ((Heap.gt_ne a).trans x.1)),x.2⟩
structure KwOk(fa:y0)(rev:yU)(kw:yN (Str×yR)):Prop where
 a1:∀ la,Dr "sorted" ⟨[.ref la],kw⟩
 a2:∀ x,Dr "list.sort" ⟨[.ref x],kw⟩
 t:∀ x,Bz.«list.sort» ⟨[.ref x],kw⟩=ksk_tree x (.ref fa) rev
inductive rJ(mg:Str->yX yR)(ps:Cu)(b:zh)(sc:Bk)(Fj:Env)(fa:y0)(h:Heap):Prop
 | mk {c' ctv} (ho:h.get? fa=ac (kla_obj "<lambda>" pB ps b sc (gC Fj.cells sc.names []) ((mg "__name__").getD .none) c' ctv)) (hl:iO h c'):rJ mg ps b sc Fj fa h
structure uB(k:KD)(ps:Cu)(sc:Bk)(x p:Str):Prop where
 o1:ps.posonlyargs=[]
 o2:ps.kwonlyargs=[]
 o3:ps.vararg=y7
 o4:ps.kwarg=y7
 o5:ps.defaults=[]
 o6:ps.kw_defaults=[]
 o7:ps.args.map (·.arg)=[x]
 o8:sc.kind=.function
 o9:sc.isCoroutine=yM
 o10:sc.isGenerator=yM
 o12:sc.names.lookup x=ac .local
 cell:∀ p∈sc.names,p.2≠.cell
 free:∀ p∈sc.names,p.2=.free->k p.1=ac .cell\/k p.1=ac .free
 o14:mN k=yP
 o15:mN (λy=>sc.names.lookup y)=yM
 o16:sc.names.lookup p=ac .free
theorem notB{b:yU}(h:(!b)=yP):b=yM:=by
 cases b with
 | false=>rfl
 | true=>cases h
theorem tN{k:KD}{ps:Cu}{sc:Bk}{x p:Str}(h:tF k ps sc x p=yP):uB k ps sc x p:=
 iL h λh1 c f=>and6 h1 λa1 a2 a3 a4 i j=>qE c λm n o s t=>qF f λc1 c2 c3 u=>
  have a:∀ p∈sc.names,p.2≠.cell/\(p.2=.free->k p.1=ac .cell\/k p.1=ac .free):=λp b=>bR (zx.mp c1 p b) λw d2=>⟨CX.mp w,λe=>(Bd.mp d2).elim (λd2=>(Bd.mp d2).elim (λq=>zA e (CX.mp q)) λq=>.inl (eq_of_beq q)) λq=>.inr (eq_of_beq q)⟩
  ⟨Am.mp a1,Am.mp a2,Bf.mp a3,Bf.mp a4,Am.mp i,Am.mp j,eq_of_beq m,eq_of_beq n,notB o,notB s,eq_of_beq t,λp b=>(a p b).1,λp b=>(a p b).2,c2,notB c3,eq_of_beq u⟩
section
variable {Fj:Env} {m:Str->yX yR} {H:y0->Prop} {ρ:yN (yS×D)} {ns:yN yS} {E:yR->yY->Prop} {ps:Cu} {b:zh} {sc:Bk} {x p f:yS} {lp:Pos}
theorem lam_eval(G:GOk mg mb Fe){Q:yR->yY->Prop}(O:uB Fj.kindOf ps sc (yO x) (yO p))(c:Cc w Fe s Fj H ρ m ns)(k:∀ f B,bQ s f->rJ mg ps b sc Fj B f.heap->Q (.ref B) f):wpAny (y6 Fd w) A (zQ (.Lambda ps b sc lp) Fj) Q E s:=by
 obtain⟨n,t,U,u,y⟩:=rC G c.hw;obtain⟨h,i⟩:=c.R.lam O.o14;have j:defaultsOf ps Fj=([],[]):=by
  obtain⟨V,q2,C,X,I,Y,J⟩:=ps;have L:J=[]:=O.o5;have M:I=[]:=O.o6;rw[L,M];rfl
 refine kla_eval j ?_;rw[i];refine lam_make (name:="<lambda>") (k6 λq hq e=>(c.R.cell q.1 (O.free q hq e)).elim λa r=>⟨a,r.1⟩) ?_ c.R.glob (Ns.keepAt G.g (c.hw.keep _)) h n u y t λZ N h' tk z T=>k _ _ (.mk _ _ s.drawn λb o e=>Heap.gt_push_of_some _ (z b o e)) ⟨Heap.get?_push_size _ QQ,T.mono λb o e EV EV=>Heap.get?_push_of_some _ e⟩
 obtain⟨a,q,_⟩:=c.R.cell (yO p) (O.free _ (mem_of_lookup O.o16) QQ);have q2:=iG q sc.names [] (.inl (mem_of_lookup O.o16));cases C:gC Fj.cells sc.names [] with
 | nil=>rw[C] at q2;cases q2
 | cons _ _=>rfl
theorem lam_key(G:GOk mg mb Fe)(C:e5 Fd w Fe mg cf A)(U:qw A)(O:uB Fj.kindOf ps sc (yO x) (yO p))(Fo:aH (λy=>sc.names.lookup y) b (.call f [.sub (.u x) (.u p)])=yP){i V c d:D}{v t:yR}{n:y0}(u:aV d i=ac V){fr:yU}(B:cf.call f [V]=ac (.tup [.bool (dR c),c],fr))(E:c.isCell=yP)
  (R:bN s.heap Fj m) (X:HOk Fe s.heap H) (I:m (yO p)=ac t) (Fp:Rep w.params s.heap H t i) (Fq:Rep w.params s.heap H v d) (L:rJ mg ps b sc Fj n s.heap) :
  wpAny (y6 Fd w) A.in1.in1 (call (.ref n) [v]) (λk s'=>bQ s s'/\eZ s'.heap k c) (λEV EV=>False) s:=L.rec λ{c' Fs} Ft Fu=>by
 refine lam_call Ft Fu (NoLimit.keepG G.lim X.keep) (y3 (zo _ _) U.depth) O.o1 O.o2 O.o3 O.o4 O.o7 O.o8 O.o9 O.o10 O.cell O.o12 λFk h J a=>?_
 have o:=lam_env (f:=n) (c':=c') R J a O.o8 O.cell O.free O.o15;have Fv:uA A (A.in1.in1.deeper (pC sc s.heap.objs.size (gC Fj.cells sc.names []) n c')):=⟨QQ,ze _,zN (by decide:5<=10) A.units⟩
 have M:(A.in1.in1.deeper (pC sc s.heap.objs.size (gC Fj.cells sc.names []) n c')).units+1<Bl:=y3 (zN (by decide:6<=20) A.units) U.units
 have N:(p == x)=yM:=beq_false_of_ne λq=>nomatch (q▸O.o12).symm.trans O.o16
 have Y:[(x,d),(p,i)].lookup x=ac d:=by rw[zl,zu]
 have Z:[(x,d),(p,i)].lookup p=ac i:=by rw[zl,N,zl,zu]
 have T:evF cf [(x,d),(p,i)] (.call f [.sub (.u x) (.u p)])=ac (.tup [.bool (dR c),c],fr):=by
  rw[mh,pX,yh,ig,ig,Y,Z];dsimp only;rw[u];exact B
 refine bI (vt G (C.at Fv) (tn (xw M (uO x) (uO p)) vx) { s with heap:=Fk,toks:=h } _ b H [(x,d),(p,i)] _ _ fr (λEV EV=>False) Fo ⟨o,X.keeps a,λz Fw Fz FA j=>?_⟩ T) λFE s' q=>⟨Kp.trans (.mk Fk h _ a) q.post.k,key_of q.post.r E⟩
 refine fO (show z∈[x,p] from Fw) (λe=>?_) λe=>?_
 ·subst e
  rw[Y] at j;exact⟨v,(za (by rw[O.o12];nofun)).trans (by rw[zl,zu]),yW j▸Fq.keeps a⟩
 ·subst e
  rw[Z] at j;exact⟨t,(y8 O.o16).trans I,yW j▸Fp.keeps a⟩
theorem rowKey_inv{i d k:D}{C:Prop}(h:gX cf f i d=ac k)(K:∀ c fr,aV d i=ac c->cf.call f [c]=ac (k,fr)->C):C:=
 bK (a:=aV d i) (f:=λc=>(cf.call f [c]).map λ(r:D×yU)=>r.1) h λc b h=>bO h λr j e=>K c r.2 b (j.trans (zj ac (EN e QQ)))
theorem lam_ct{a:y0}{h h':Heap}{Fe:Heap}{mg mb:Str->yX yR}(G:GOk mg mb Fe)(j:HOk Fe h H)(L:rJ mg ps b sc Fj a h)(c:KH h h'):rJ mg ps b sc Fj a h':=L.rec λ{t m} n f=>
 ⟨Heap.of_gt (c _ _ (Heap.gt_of n (cH nofun))) (cH nofun),lamAt_keepG f (λq=>by
  obtain⟨_,_,o,e,_⟩:=rC G j;obtain⟨_,_,_,i,s,_⟩:=f;rw[q,e] at i;cases i;cases s) c⟩
theorem srt_call(G:GOk mg mb Fe)(C:e5 Fd w Fe mg cf A)(Ft:qw A)(O:uB Fj.kindOf ps sc (yO x) (yO p))(Fu:aH (λy=>sc.names.lookup y) b (.call f [.sub (.u x) (.u p)])=yP){i:D}{Fp v:yR}{T:y0}{rev:yU}{Fq:yN (Str×yR)}{ds:yN D}(hz:ds.length<64){J:yN D}(M:js (gX cf f i) ds=ac J)
  (R:bN s.heap Fj m) (U:HOk Fe s.heap H) (V:m (yO p)=ac Fp) (Fv:Rep w.params s.heap H Fp i) (r:Rep w.params s.heap H v (.list ds)) (L:rJ mg ps b sc Fj T s.heap) (K:KwOk T rev Fq) :
  wpAny (y6 Fd w) A (call (.builtin "sorted") [v] Fq) (cE w s H (.list (ir .none rev J ds)) yP) E s:=r.listE λFw vs n X FK Fz N=>by
 have B:=keysD_at M;refine sorted_key (vs:=vs.toList) (ds:=J) (f:=.ref T) (rev:=rev) (aT X) (N.length.trans B.1.symm) (B.1.symm▸hz) (K.a1 Fw) K.a2 K.t (λj v c FA FE h tk dw u=>?_) λh' tk dw S cc u I Y FF=>?_
 ·obtain⟨FM,k,FG,Fs,Z⟩:=B.2 j c FE
  have e:=keyD_inv Z;rw[e.1] at Fs;obtain⟨FN,FH,q2⟩:=N.get j FG;refine rowKey_inv Fs λFO fr h1 FJ=>lam_key (s:={ s with heap:=h,toks:=tk,drawn:=dw }) G C Ft O Fu h1 FJ e.2 (R.keeps u) (U.keeps u) V (Fv.keeps u) (yW (FH.symm.trans FA)▸q2.keeps u) (lam_ct G U L u)
 ·have Fo:∀ q:H S,False:=λq=>(U.ex S q).elim λb z=>z.elim λo z=>Af _ (y3 z.1 (Y b o z.2))
  have E7:jn w.params h' H S (ir .none rev J ds):=⟨FF,by rw[oY,B.1];exact Fz,(repAll_srt N B.1 rev).mono (λa o EV e=>u a o e) λb o e q=>q.elim id λq=>cz e (q▸I)⟩
  exact⟨.mk h' tk dw u,E7.rep Fo,λEV=>⟨I,E7⟩⟩
theorem evi_srt{a:ME}{rev:yU}{d:D}{C:Prop}(h:evE cf ρ (.srt a f x p rev)=ac d)(k:∀ ds i b,evE cf ρ a=ac (.list ds)->ρ.lookup p=ac i->ds.length<64->js (gX cf f i) ds=ac b->.list (ir .none rev b ds)=d->C):C:=
 bK (a:=evE cf ρ a) (f:=λx=>oE (ρ.lookup p) λi=>srtD (gX cf f i) rev x) h λc j h=>bK h λi m h=>by
  cases c with
  | list ds=>exact cN h λn h=>bO h λb o e=>k ds i b j m n o e
  | _=>exact aj h
theorem kw_inv{ks:yN Keyword}{rev:yU}{C:Prop}(h:IKw Fj.kindOf f x p rev ks)(k:∀ ps b sc lp,uB Fj.kindOf ps sc (yO x) (yO p)->aH (λy=>sc.names.lookup y) b (.call f [.sub (.u x) (.u p)])=yP ->
  (∀ (a:Pos) (M:Model) (A:zF) (s:yY) (E:yR->yY->Prop) (Q:yN yR->yY->Prop),wpAny M A (zQ (.Lambda ps b sc lp) Fj) (λv s'=>∃ i,v=.ref i/\∀ c,KwOk i rev (((backToKw a (keywordEach ks Fj)).filterMap (·.1)).zip c)->Q c s') E s->wpAny M A (evalAll ((backToKw a (keywordEach ks Fj)).map (·.2))) Q E s) ->
  (∀ a,(backToKw a (keywordEach ks Fj)).all (·.1.isSome)=yP/\(backToKw a (keywordEach ks Fj)).any (·.1.isNone)=yM)->C):C:=by
 cases h with
 | up h1 j=>exact k _ _ _ _ (tN h1) (uq j) (λa M A s E Q h=>kws_cons (bI h λv s' q=>q.elim λi q=>kws_nil (q.1▸q.2 _ ⟨λZ=>ksk_s1 _ _,λZ=>ksk_l1 _ _,λZ=>ksk_t1 _ _⟩))) λa=>⟨QQ,QQ⟩
 | down h1 j=>exact k _ _ _ _ (tN h1) (uq j) (λa M A s E Q h=>kws_cons (bI h λv s' q=>q.elim λi q=>kws_cons (Constant_bool (kws_nil (q.1▸q.2 _ ⟨λZ=>ksk_s2 _ _ _,λZ=>ksk_l2 _ _ _,λZ=>ksk_t2 _ _ _⟩))))) λa=>⟨QQ,QQ⟩
end
theorem sf_srt(G:GOk mg mb Fe)(C:e5 Fd w Fe mg cf A)(N:qw A){a:ME}{f x p:yS}{rev:yU}(T:SE Fd w A Fe cf a):SF Fd w A Fe cf (.srt a f x p rev):=λs Fj e H ρ m d fr E U c he=>
 fP he QQ λhe V=>evi_srt he λds i X Y Z t n Fo=>ISrt.rec (motive:=λe EV=>wpAny (y6 Fd w) A (zQ e Fj) (cE w s H d fr) E s) (λ{Fp y ks j} Fq z Fs=>kw_inv Fs λps b sc lp O B Ft hall=>by
  have o:backTo j (B9 [y] Fj)=[(yM,zQ y Fj)]:=by rw[fV (xh z),iJ];rfl
  obtain⟨Fz,u,Fu⟩:=c.hn p (by rw[xL];exact z7 _ (.head _)) (lamVar B (O.free _ (mem_of_lookup O.o16) QQ)) i Z
  refine yT (m:=zQ (.Name (yO "sorted") Fp) Fj) (fB G (f:="sorted") (by decide) c.R c.hw Fq ?_)
  refine callWith_kw (id:="sorted") ?_ (he:=by rw[o];rfl) (hplain:=by rw[o];rfl) (hall:=(hall j).1) (hkw:=(hall j).2)
  rw[o];refine Calls.spliced_cons (T.go z (c.sub λEV t=>by rw[xL];exact AC _ t) Y λl I h=>Calls.spliced_nil (Ft j _ _ _ _ _ (lam_eval G O (c.k h.k) λJ Fv k2 L=>⟨Fv,QQ,λFw K=>?_⟩)))
  have c2:=(c.k h.k).k k2;exact bI (srt_call G C N O B t n c2.R c2.hw u ((Fu.keeps (Kp.heap h.k)).keeps (Kp.heap k2)) (h.r.keeps (Kp.heap k2)) L K) λv M q=>Fo▸V▸q.tr (Kp.trans h.k k2)) (wf U)
end
end Mine
namespace Mine
open PySem PySem.SeqAt
section
variable {Fd:zv} {w:zD} {A:zF} {s:yY} {Fe:Heap} {mg mb:Str->yX yR} {cf:CF}
theorem s8{j:ME}(h:SE Fd w A Fe cf j)(u:∀ e k Fj a,aH k e j=yP->Cn e Fj a=(do let v <- a;standAt e.pos;holding [v] (truthy v))):ST Fd w A Fe cf j:=λs Fj e H ρ m d t E n c y z=>
 PyProof.Rows.isTrue_plain (h.go n c y λv o f=>bI (io f.r z) λb q i=>i.tr f.k) (u e _ Fj _ n)
theorem sb_nil:SB Fd w A Fe cf []:=λs Fj es f a H ρ m d E h c b=>aj b
theorem sb_one{a:ME}(y:SE Fd w A Fe cf a)(q:ST Fd w A Fe cf a):SB Fd w A Fe cf [a]:=λs Fj es n i H ρ m d E z c o=>
 iH (C:=λes=>wpAny (y6 Fd w) A (zQ (.BoolOp n es i) Fj) (bA w s H d) E s/\∀ t h,bW d=ac t->wpAny (y6 Fd w) A (Cn (.BoolOp n es i) Fj h) (eX s t) E s) z λe es h1 B=>by
  have G:es=[]:=Am.mp B;subst G;refine⟨PyProof.Rows.BoolOp_one (y s Fj e H ρ m d E h1 c.l o),λt h u=>?_⟩
  cases n with
  | And=>exact PyProof.Rows.isTrue_and (bI (q s Fj e H ρ m d t E h1 c.l o u) λb j f=>by
    cases b with
    | true=>exact PyProof.Rows.isTrue_and_nil f
    | false=>exact f)
  | Or=>exact PyProof.Rows.isTrue_or (bI (q s Fj e H ρ m d t E h1 c.l o u) λb j f=>by
    cases b with
    | true=>exact f
    | false=>exact PyProof.Rows.isTrue_or_nil f)
theorem sb_cons{a b:ME}{r:yN ME}(V:SE Fd w A Fe cf a)(X:ST Fd w A Fe cf a)(Z:SB Fd w A Fe cf (b::r)):SB Fd w A Fe cf (a::b::r):=λs Fj es B J H ρ m d E Fo c Fp=>
 evi_bop Fp λx N O G T=>iH (C:=λes=>wpAny (y6 Fd w) A (zQ (.BoolOp B es J) Fj) (bA w s H d) E s/\∀ t u,bW d=ac t->wpAny (y6 Fd w) A (Cn (.BoolOp B es J) Fj u) (eX s t) E s) Fo λe es h1 Y=>by
  have Fi:∀ i,bQ s i->gP cf ρ B (b::r)=ac d->_:=λi (k:bQ s i) (h:gP cf ρ B (b::r)=ac d)=>Z i Fj es B J H ρ m d E Y (c.r.k k) h
  have U:∃ L z,es=L::z:=iH (C:=λes=>∃ L z,es=L::z) Y λL z EV EV=>⟨L,z,QQ⟩
  obtain⟨L,z,rfl⟩:=U;have go:∀ {v:yR} {i o:yY} {c:yU},bA w s H x v i->eX i N c o->c=sX B->bA w s H d v o:=λf j e=>⟨Kp.trans f.k j.k,(yW ((y8 (j.e.symm.trans e)).symm.trans T))▸f.r.keeps (Kp.heap j.k)⟩
  have y:∀ {c:yU},c=N->c≠sX B->gP cf ρ B (b::r)=ac d:=λe n=>(za (e▸n)).symm.trans T
  have I:∀ {c t:yU},c=N->c=sX B->bW d=ac t->c=t:=λe n M=>e.trans (yW (G.symm.trans ((zj bW (yW ((y8 (e.symm.trans n)).symm.trans T))).trans M)))
  refine⟨?_,λt u M=>?_⟩
  ·cases B with
   | And=>exact PyProof.Rows.BoolOp_and (V.go h1 c.l O λv i f=>bI (io f.r G) λc o j=>by
     cases c with
     | true=>exact bI (Fi o (Kp.trans f.k j.k) (y j.e nofun)).1 λEV EV q=>q.tr (Kp.trans f.k j.k)
     | false=>exact go f j QQ)
   | Or=>exact PyProof.Rows.BoolOp_or (V.go h1 c.l O λv i f=>bI (io f.r G) λc o j=>by
     cases c with
     | false=>exact bI (Fi o (Kp.trans f.k j.k) (y j.e nofun)).1 λEV EV q=>q.tr (Kp.trans f.k j.k)
     | true=>exact go f j QQ)
  ·cases B with
   | And=>exact PyProof.Rows.isTrue_and (bI (X s Fj e H ρ m x N E h1 c.l O G) λc i f=>by
     cases c with
     | true=>exact bI ((Fi i f.k (y f.e nofun)).2 t u M) λEV EV q=>q.tr f.k
     | false=>exact⟨f.k,I f.e QQ M⟩)
   | Or=>exact PyProof.Rows.isTrue_or (bI (X s Fj e H ρ m x N E h1 c.l O G) λc i f=>by
     cases c with
     | false=>exact bI ((Fi i f.k (y f.e nofun)).2 t u M) λEV EV q=>q.tr f.k
     | true=>exact⟨f.k,I f.e QQ M⟩)
theorem xz{b:C7}{f:yN ME}(h:SB Fd w A Fe cf f):SE Fd w A Fe cf (.bop b f):=λs Fj e H ρ m d E a c i=>
 IBop.rec (motive:=λe Z=>wpAny (y6 Fd w) A (zQ e Fj) (bA w s H d) E s) (λa=>(h s Fj _ b _ H ρ m d E a c i).1) (sy a)
theorem st_bop{b:C7}{f:yN ME}(h:SB Fd w A Fe cf f):ST Fd w A Fe cf (.bop b f):=λs Fj e H ρ m d t E a c i j=>
 IBop.rec (motive:=λe Z=>wpAny (y6 Fd w) A (Cn e Fj (zQ e Fj)) (eX s t) E s) (λa=>(h s Fj _ b _ H ρ m d E a c i).2 t _ j) (sy a)
theorem forIn_false{Fj:Env}{E:yR->yY->Prop}{Q:yU->yY->Prop}(es:yN zh)(h:Q yM s) :
  wpAny (y6 Fd w) A (forIn es yM λc r=>if r=yP then do let ok <- Cn c Fj (zQ c Fj);pure (ForInStep.yield ok) else pure (ForInStep.yield r)) Q E s:=by
 induction es with
 | nil=>rw[List.forIn_nil];exact y9 h
 | cons c es a=>
  rw[ES];simp only[B5,CA,pure_bind];exact a
theorem xA:SC Fd w A Fe cf []:=λs Fj es H ρ m t E a c b=>
 p9 (C:=λes=>wpAny (y6 Fd w) A (forIn es yP _) (eX s t) E s) a (by rw[List.forIn_nil];exact y9 ⟨Kp.refl _,yW b⟩)
theorem vz{a:ME}{r:yN ME}(j:ST Fd w A Fe cf a)(n:SC Fd w A Fe cf r):SC Fd w A Fe cf (a::r):=λs Fj es H ρ m t E o c y=>
 evi_cs y λx u z B i=>iH (C:=λes=>wpAny (y6 Fd w) A (forIn es yP _) (eX s t) E s) o λe es h1 G=>by
  rw[ES];simp only[Ed,bind_assoc,pure_bind];refine yT (bI (j s Fj e H ρ m x u E h1 c.l z B) λb h f=>?_)
  have e1:=f.e;subst e1;cases b with
  | true=>exact bI (n h Fj es H ρ m t E G (c.r.k f.k) i) λZ Z q=>q.tr f.k
  | false=>exact forIn_false es ⟨f.k,yW i⟩
theorem comp_inner{Fj i:Env}{m C:Str->yX yR}{scope:Bk}{x:yS}{ns:yN yS}{ρ:yN (yS×D)}{f:yY}{H h:y0->Prop}{v:yR}{dv:D}(G:iS Fj.kindOf scope (yO x)=yP)
  (M:i.kindOf=eQ Fj.kindOf scope) (N:C (yO x)=ac v) (O:Rep w.params f.heap h v dv) (I:∀ z,scope.names.lookup z=ac .free->C z=m z) (L:bQ s f) (n:sS s.heap H h) (T:bN f.heap i C) (U:Ex f.heap h)
  (c:Cc w Fe s Fj H ρ m (ns.filter (· != x))):Cc w Fe f i h ((x,dv)::ρ) C ns:=by
 refine⟨T,⟨λb o e=>Kp.heap L b o (c.hw.keep b o e),U,λb o e q=>c.hw.off b o e (n b o (c.hw.keep b o e) q)⟩,λz V u d y=>?_⟩
 rw[zl] at y
 by_cases j:z=x
 ·subst j
  rw[zu] at y;exact⟨v,N,yW y▸O⟩
 ·rw[show (z == x)=yM from Ay.mpr j] at y
  refine jI G λEV E EV t A EV=>qF u λh1 X Y J=>?_
  have B:scope.names.lookup (yO z)=ac .free:=by
   rw[M,l4] at h1;cases hq:scope.names.lookup (yO z) with
   | none=>rw[hq] at h1;cases h1
   | some k=>exact (A _ (mem_of_lookup hq)).elim (λq=>q.elim (λq=>q.elim (zj ac) λe=>by rw[hq,show k=.globalImplicit from e] at h1;cases h1) λe=>zA (dW e) j) λe=>by rw[show yO z=_ from e] at J;cases J
  exact (c.hn z (zC.mpr ⟨V,CX.mpr j⟩) (by
   unfold gO;rw[X,Y,J]
   rcases t _ (mem_of_lookup B) rfl with e | e <;> rw[e] <;> rfl) d y).elim λZ q=>⟨Z,(I _ B).trans q.1,q.2.mono (λa o EV e=>Kp.heap L a o e) n⟩
noncomputable def compG(cf:CF)(ρ:yN (yS×D))(elt:ME)(x:yS)(cs:yN ME)(a:D):yX (yX D):=oT (n0 cf ((x,a)::ρ) cs) λt=>if t=yP then oE (evE cf ((x,a)::ρ) elt) λy=>ac (ac y) else ac none
theorem compM_congr{f g:D->yX (yX D)}(h:∀ d,f d=g d)(l:yN D):bS f l=bS g l:=zj (λf=>bS f l) (funext h)
theorem evi_comp{ρ:yN (yS×D)}{elt Fm:ME}{x:yS}{cs:yN ME}{d:D}{C:Prop}(h:evE cf ρ (.comp elt x Fm cs)=ac d)(k:∀ y E8 out,evE cf ρ Fm=ac y->y.items=ac E8->E8.length<=big->bS (compG cf ρ elt x cs) E8=ac out->.list out=d->C):C:=by
 rw[ev_comp] at h;refine bK (a:=evE cf ρ Fm) h λy b h=>fq (a:=y.items) h λE8 c h=>cN h λf h=>bO h λout i e=>k y E8 out b c f ((compM_congr (λj=>?_) E8).trans i) e
 unfold compG;cases n0 cf ((x,j)::ρ) cs with
 | none=>rfl
 | some t=>cases t <;> rfl
theorem un{elt Fm:ME}{x:yS}{cs:yN ME}(Fs:A.handled=y7)(he:SE Fd w A Fe cf elt)(Ft:SE Fd w A Fe cf Fm)(T:SC Fd w A Fe cf cs)
  {s:yY} {Fj:Env} {H:y0->Prop} {ρ:yN (yS×D)} {m:Str->yX yR} {d:D} {E:yR->yY->Prop} {t B:zh} {Fu U G:Pos} {u:yN zh} {scope:Bk} {use:yX (yR->Sem Unit)} {Q:yR->yY->Prop}
  (I:ff B=yP) (J:iS Fj.kindOf scope (yO x)=yP) (z:aH Fj.kindOf B Fm=yP) (a:aH (eQ Fj.kindOf scope) t elt=yP) (f:cD (eQ Fj.kindOf scope) u cs=yP) (c:Cc w Fe s Fj H ρ m (ME.comp elt x Fm cs).names)
  (V:evE cf ρ (.comp elt x Fm cs)=ac d)
  (Fv:∀ L C h' tk dw m' j,d=.list j->(∀ b o,gat s.heap b=ac o->@LT.lt Nat _ b L)->gat s.heap C=y7->L≠C->h'.Ns C m'->jn w.params h' (λb=>H b\/b=C) L j->(KH s.heap h') ->
   compPost (y6 Fd w) A E use Q (.ref L) C (.ok .next) { s with heap:=h',toks:=tk,drawn:=dw }) :
  wpAny (y6 Fd w) A (comprehension (.ListComp t [⟨.Name (yO x) Fu,B,u,0⟩] scope U) scope Fj G (newList []) yM (zQ B Fj) use) Q E s:=by
 refine evi_comp V λy E8 j X Fw Fz FA e=>comp_core c.R J I Fs c.x (Ft s Fj B H ρ m y E z c.l X) Fw Fz FA (λh Fo n Y i v dv r FS O FE FF FG Z FH FJ M Fp=>?_) λL C h' tk dw m' h1 FK FM FN FO FP=>Fv L C h' tk dw m' j e.symm h1 FK FM FN FO FP
 have Fq:Cc w Fe n h i ((x,dv)::ρ) Y (elt.names++iV cs):=comp_inner J Fo FF FG Z FJ M FE FH c.r;rw[<- Fo] at a f;refine uT O λb FQ O=>bI (T n h u i _ Y b Fp f Fq.r FQ) λok N q=>⟨q.k,?_⟩
 cases b with
 | true=>exact bK O λy X e=>yW e▸⟨q.e,λFR e=>yW e▸he N h t i _ Y y Fp a (Fq.l.k q.k) X⟩
 | false=>exact yW O▸⟨q.e,λFR e=>nomatch e⟩
end
theorem dput_len(k d:D)(ks vs:yN D):(dK ks vs k d).1.length<=ks.length+1:=by
 induction ks generalizing vs with
 | nil=>exact ze _
 | cons b ks a=>cases vs with
  | nil=>exact zs (zn _)
  | cons v vs=>
   rw[oJ]
   split
   ·exact AM _
   ·exact zs (a vs)
section
variable {Fd:zv} {w:zD} {A:zF} {s:yY} {Fe:Heap} {mg mb:Str->yX yR} {cf:CF}
theorem nR{ρ:yN (yS×D)}{b:yN ME}{k:KD}{es:yN zh}(h:cu cf ρ b=ac [])(c:cD k es b=yP):es=[]:=by
 cases b with
 | nil=>exact Am.mp c
 | cons a r=>exact uh h λZ Z Z Z e=>nomatch e
theorem vO(G:GOk mg mb Fe){h:Heap}(a:KH Fe h):(h.objs.size == Dv)=yM:=(ua G.g).elim λo e=>Ay.mpr λq=>zA (q▸Heap.gt_lt (a _ _ e)) (by decide)
theorem evi_dct{ρ:yN (yS×D)}{ks vs:yN ME}{d:D}{C:Prop}(h:evE cf ρ (.dct ks vs)=ac d)(k:cu cf ρ ks=ac []->cu cf ρ vs=ac []->.dict [] []=d->C):C:=
 fq (a:=cu cf ρ ks) (f:=λds=>oEs (cu cf ρ vs) λes=>if (ds.isEmpty&&es.isEmpty)=yP then ac (D.dict [] []) else none) h λds h1 h=>fq h λes c h=>bj h λi e=>bR i λa b=>k (Am.mp a▸h1) (Am.mp b▸c) e
theorem sf_dct(G:GOk mg mb Fe){ks vs:yN ME}(b:∀ e∈ks,SE Fd w A Fe cf e)(f:∀ e∈vs,SE Fd w A Fe cf e):SF Fd w A Fe cf (.dct ks vs):=λs Fj e H ρ m d fr E h c a=>
 fP a QQ λa i=>evi_dct a λh1 j o=>IDct.rec (motive:=λe Z=>wpAny (y6 Fd w) A (zQ e Fj) (cE w s H d fr) E s) (λ{q t u} y z=>by
  have e1:=nR h1 y;have B:=nR j z;subst e1 B;have E7:dM w.params (s.heap.push { cls:=.type "dict",data:=.dict #[] }) H s.heap.objs.size (.dict [] []):=n9.mk (es:=#[]) (n:=0) (Heap.get?_push_size _ QQ) (zn _) QQ QQ QQ QQ .nil (vO G c.hw.keep);exact wpAny_Dict_empty (o▸i▸⟨Kp.push _ _,E7.rep c.x.fresh,λZ=>⟨dq _,E7⟩⟩)) (wq h)
end
section
variable {Fd:zv} {w:zD} {A:zF} {s:yY} {Fe:Heap} {mg mb:Str->yX yR} {cf:CF}
theorem inn_at(x:Str)(a b f:Tok):∃ t,(Dd (merged ([]:yN (Str×yR)) [(yO "group",.int 3 a),(yO "once",.int 1 b)]) x).getD (.int 2 f)=.int (qC x) t:=by
 have e:merged ([]:yN (Str×yR)) [(yO "group",.int 3 a),(yO "once",.int 1 b)]=[(yO "group",.int 3 a),(yO "once",.int 1 b)]:=merged_append_of_fresh [] _ (show[yO "group",yO "once"].Nodup by decide +kernel)
 rw[e];unfold Dd qC;rw[Dj,Dj,List.find?_nil]
 by_cases h1:x=yO "group"
 ·rw[y8 h1,Ak h1.symm];exact⟨a,QQ⟩
 ·rw[za h1,Aq λh=>h1 h.symm]
  by_cases c:x=yO "once"
  ·rw[y8 c,Ak c.symm];exact⟨b,QQ⟩
  ·rw[za c,Aq λh=>c h.symm];exact⟨f,QQ⟩
theorem inn_core(G:GOk mg mb Fe){Fj:Env}{H:y0->Prop}{ρ:yN (yS×D)}{m:Str->yX yR}{E:yR->yY->Prop}{a:ME}(L:SE Fd w A Fe cf a){x:Str}{y:zh}{M:Nat}{N p:Pos}(c:Cc w Fe s Fj H ρ m a.names)(O:evE cf ρ a=ac (.str x))(h:aH Fj.kindOf y a=yP){z B:Tok}{h':Heap}{tk:Nat}
  (q:h'.DictOf (strKind Fd w) s.heap.objs.size (merged [] [(yO "group",.int 3 z),(yO "once",.int 1 B)])) (T:Heap.SameBut s.heap.objs.size (s.heap.push { cls:=.type "dict",data:=.dict #[] }) h') :
  MethodOn Fd w A (yO "get") p (.ref s.heap.objs.size) [(yM,zQ y Fj),(yM,zQ (.Constant (.int 2) M N) Fj)] (bA w s H (.int (qC x))) E { s with heap:=h',toks:=tk }:=by
 have I:bQ s { s with heap:=h',toks:=tk }:=.mk h' tk s.drawn λb o e=>g1 T (ce (Heap.get?_push_size _ QQ)) b (zO (Heap.gt_lt e)) (Heap.gt_push_of_some _ e)
 refine⟨"dict","dict.get",F.plainAttrs_dict,F.slot_dict_get,F.type_dict_get,q.typeIs,q.mapOf.noDict,wpAny_dict_get2 (knd:=strKind Fd w) (vO G c.hw.keep) (L.go h (c.k I) O λv j f=>?_)⟩
 obtain⟨o,U,n⟩:=Heap.dictOf_iff.mp q;obtain⟨V,X⟩:∃ t,v=.str x t:=f.r.strE (C:=λv=>∃ t,v=.str x t) λt=>⟨t,QQ⟩
 subst X;have J:bL o=yM:=cH λu e=>by
  obtain⟨_,_,_,n,_⟩:=n;rw[e] at n;cases n
 have i:=Heap.of_gt (Kp.heap f.k _ _ (Heap.gt_of U J)) J;obtain⟨t,e⟩:=inn_at x z B j.toks;exact Dp ⟨x,_,strKind_is Fd w x V,(Heap.dictOf_iff.mpr ⟨o,i,n⟩).mapOf,e▸iv.tr (Kp.trans I f.k)⟩
theorem se_inn(G:GOk mg mb Fe){a:ME}(t:SE Fd w A Fe cf a):SE Fd w A Fe cf (.inn a):=λs Fj e H ρ m d E u c z=>
 evi_inn z λx B C=>C▸IInn.rec (motive:=λe Z=>wpAny (y6 Fd w) A (zQ e Fj) (bA w s H (.int (qC x))) E s) (λ{y n1 n2 f i M j n o q N dp O p} I h=>by
  refine wpAny_Call_method2_late QQ I (by rw[iq h];rfl) ?_
  refine wpAny_Dict_pairs (knd:=strKind Fd w) (pairs:=[(zQ (.Constant (.str (yO "group")) n1 j) Fj,do let x <- zQ (.Constant (.int 3) f o) Fj;standAt dp;pure x),(zQ (.Constant (.str (yO "once")) n2 n) Fj,do let x <- zQ (.Constant (.int 1) i q) Fj;standAt dp;pure x)]) ?a ?b ?c ?d
  case a=>
   rw[arm_evalEachOpt_cons,arm_evalEachOpt_cons,arm_evalEachOpt_nil,arm_evalEach_cons,arm_evalEach_cons,arm_evalEach_nil,arm_evalOpt_some,arm_evalOpt_some];generalize zQ (.Constant (.str (yO "group")) n1 j) Fj=e1;generalize zQ (.Constant (.str (yO "once")) n2 n) Fj=T;generalize zQ (.Constant (.int 3) f o) Fj=U;generalize zQ (.Constant (.int 1) i q) Fj=V
   rfl
  case b=>exact List.cons_ne_nil _ _
  case c=>exact yZ QQ
  case d=>
   refine evalPairs_cons (Calls.Constant_str (yT (Dp (yT (wpAny_standAt (y9 (evalPairs_cons (Calls.Constant_str (yT (Dp (yT (wpAny_standAt (y9 (evalPairs_nil ?_))))))))))))));exact⟨[(yO "group",_),(yO "once",_)],⟨strKind_is Fd w _ _,QQ,strKind_is Fd w _ _,QQ,trivial⟩,Heap.DictOf.new _,λh' J L=>inn_core G t c B h J L⟩) (wo u)
end
section
variable {Fd:zv} {w:zD} {A:zF} {s:yY} {Fe:Heap} {mg mb:Str->yX yR} {cf:CF}
theorem lN{a:ME}(h:SE Fd w A Fe cf a)(f:∀ ρ,evF cf ρ a=(evE cf ρ a).map λd=>(d,yM)):SF Fd w A Fe cf a:=λs Fj e H ρ m d fr E i c j=>
 bO ((f ρ).symm.trans j) λn h1 b=>bI (h s Fj e H ρ m d E i c (h1.trans (zj ac (z9 b).1))) λZ Z q=>q.pf (z9 b).2.symm
theorem sf_comp{elt Fm:ME}{x:yS}{cs:yN ME}(M:A.handled=y7)(he:SE Fd w A Fe cf elt)(N:SE Fd w A Fe cf Fm)(t:SC Fd w A Fe cf cs):SF Fd w A Fe cf (.comp elt x Fm cs):=λs Fj e H ρ m d fr E O c f=>
 fP f QQ λf T=>xb.rec (motive:=λe EV=>wpAny (y6 Fd w) A (zQ e Fj) (cE w s H d fr) E s) (λc1 c2 c3 U V=>by
  rw[eval_ListComp];refine un (use:=y7) M he N t c1 c2 c3 U V c f λL C h' tk X m' u Y J Z y i j Fo=>⟨m',i,λh n=>?_⟩
  have B:Mv C h' h:=λb o G e=>g1 n (fR i) b G e
  have E7:jn w.params h H L u:=j.mono (λo e=>B L o y e) (λa o G e=>B a o (λq=>G (.inr q)) e) λb o EV q=>.inl (.inl q)
  have I:gat s.heap L=y7:=by
   cases e:gat s.heap L with
   | none=>rfl
   | some o=>exact zA (J _ _ e) (Af _)
  exact Y▸T▸⟨.mk h tk X λb o e=>B b o (λq=>cz e (q▸Z)) (Fo b o e),E7.rep λq=>(c.x L q).elim λb z=>z.elim λo z=>Af _ (y3 z.1 (J b o z.2)),λEV=>⟨I,E7⟩⟩) (pJ O)
theorem evF_callx(f:yS)(a:yN ME)(ρ:yN (yS×D))(d:D)(h:evE cf ρ (.call f a)=ac d):∃ fr,evF cf ρ (.call f a)=ac (d,fr):=
 evi_call h λds r h1 b e=>⟨r.2,by rw[mh,h1];exact b.trans (zj ac (EN e QQ))⟩
theorem blt_name{f:yS}{ds:yN D}{d:D}(h:gI f ds=ac d):f∈dC:=by
 cases ds with
 | nil=>exact aj h
 | cons a ds=>cases ds with
  | nil=>
   refine dm (c:=f="len") h (λe Z=>e▸by decide) λZ h=>?_
   cases a with
   | int i=>exact dm h (λe Z=>e▸by decide) λZ h=>cN h λe Z=>e▸by decide
   | bool b=>exact bj h λe Z=>e▸by decide
   | str x=>exact bj h λe Z=>e▸by decide
   | list ds=>exact dm h (λe Z=>e▸by decide) λZ h=>cN h λe Z=>e▸by decide
   | _=>exact aj h
  | cons b ds=>cases ds with
   | nil=>exact eu (C:=λZ=>f∈dC) h λi h=>eu (C:=λZ=>f∈dC) h λj h=>dm h (λe Z=>e▸by decide) λZ h=>dm h (λe Z=>e▸by decide) λZ h=>bj h λe Z=>e▸by decide
   | cons=>exact aj h
structure AE(Fd:zv)(w:zD)(A:zF)(Fe:Heap)(cf:CF)(me:ME):Prop where
 e:SE Fd w A Fe cf me
 t:ST Fd w A Fe cf me
 f:SF Fd w A Fe cf me
structure AEs(Fd:zv)(w:zD)(A:zF)(Fe:Heap)(cf:CF)(ms:yN ME):Prop where
 s:SEs Fd w A Fe cf ms
 b:SB Fd w A Fe cf ms
 c:SC Fd w A Fe cf ms
 m:∀ e∈ms,SE Fd w A Fe cf e
theorem n8{b:ME}(h:SE Fd w A Fe cf b)(c:b.plain=yP)(f:∀ ρ,evF cf ρ b=(evE cf ρ b).map λd=>(d,yM)):AE Fd w A Fe cf b:=⟨h,s8 h (λe k Fj a i=>(tK i).test c Fj a),lN h f⟩
theorem sP{b:ME}(h:SF Fd w A Fe cf b)(f:b.plain=yP)(i:∀ ρ d,evE cf ρ b=ac d->∃ fr,evF cf ρ b=ac (d,fr)):AE Fd w A Fe cf b:=
 have c:=se_of_sf h i
 ⟨c,s8 c (λe k Fj a j=>(tK j).test f Fj a),h⟩
theorem nP{a:ME}(h:oD a=y7)(ρ:yN (yS×D))(d:D)(e:evE cf ρ a=ac d):∃ fr,evF cf ρ a=ac (d,fr):=⟨frF a d,by unfold evF;rw[h,e];rfl⟩
theorem se_bltx(G:GOk mg mb Fe)(i:A.handled=y7){f:yS}{b:yN ME}(h:SEs Fd w A Fe cf b):SE Fd w A Fe cf (.blt f b):=
 (Classical.em (f∈dC)).elim (λa=>se_blt G i a h) λa s Fj e H ρ m d E n c j=>wJ j λds Z h=>zA (blt_name h) a
theorem sb_step{a:ME}{r:yN ME}(h:AE Fd w A Fe cf a)(c:SB Fd w A Fe cf r):SB Fd w A Fe cf (a::r):=by
 cases r with
 | nil=>exact sb_one h.e h.t
 | cons b r=>exact sb_cons h.e h.t c
theorem rI(G:GOk mg mb Fe)(C:e5 Fd w Fe mg cf A)(y:A.handled=y7)(o:qw A)(B:ME):AE Fd w A Fe cf B:=
 ME.rec (motive_1:=AE Fd w A Fe cf) (motive_2:=AEs Fd w A Fe cf)
  (λx=>n8 (uO x) QQ λZ=>QQ) (λx=>n8 (se_glob G C x) QQ λZ=>QQ) (λi=>n8 (se_int i) QQ λZ=>QQ) (λx=>n8 (se_str x) QQ λZ=>QQ) (λb=>n8 (se_bool b) QQ λZ=>QQ) (n8 se_none QQ λZ=>QQ)
  (λE a b j n=>sP (sf_bin j.e n.e) QQ (nP QQ))
  (λE a b j n=>⟨xy o.u2 j.e n.e,st_cmp o.u2 j.e n.e,lN (xy o.u2 j.e n.e) λZ=>QQ⟩)
  (λE u h=>⟨xz h.b,st_bop h.b,lN (xz h.b) λZ=>QQ⟩)
  (λa h=>⟨xx h.e,st_not h.t,lN (xx h.e) λZ=>QQ⟩) (λa h=>n8 (se_neg h.e) QQ λZ=>QQ)
  (λu h=>n8 (se_tup h.s) QQ λZ=>QQ) (λu h=>sP (sf_lst h.s) QQ (nP QQ))
  (λa b j n=>n8 (xw o.u1 j.e n.e) QQ λZ=>QQ) (λa b c j n H=>sP (sf_sl j.e n.e H.e) QQ (nP QQ))
  (λks vs I J=>sP (sf_dct G I.m J.m) QQ (nP QQ))
  (λL x Fm U h1 M N=>sP (sf_comp y h1.e M.e N.c) QQ (nP QQ))
  (λf u h=>sP (vt G (C.at (.refl A)) h.s) QQ (evF_callx f u)) (λa T h=>n8 (se_isi G h.e) QQ λZ=>QQ)
  (λf u h=>n8 (se_bltx G y h.s) QQ λZ=>QQ) (λa h=>sP (sf_lcp G y h.e) QQ (nP QQ))
  (λa h=>sP (sf_sset G y h.e) QQ (nP QQ))
  (λa f x p rev h=>sP (sf_srt G C o h.e) QQ (nP QQ))
  (λa h=>n8 (se_inn G h.e) QQ λZ=>QQ)
  ⟨vx,sb_nil,xA,λZ h=>nomatch h⟩ (λa r j z=>⟨tn j.e z.s,sb_step j z.b,vz j.t z.c,λe O=>(zc.mp O).elim (λq=>q▸j.e) (z.m e)⟩) B
theorem all_Cs(G:GOk mg mb Fe)(C:e5 Fd w Fe mg cf A)(c:A.handled=y7)(f:qw A)(b:yN ME):SC Fd w A Fe cf b:=
 List.rec (motive:=SC Fd w A Fe cf) xA (λa Z h=>vz (rI G C c f a).t h) b
end
noncomputable def cw(k:KD)(x:Str):yU:=(k x == ac .local||k x == ac .cell)&&gO k x
noncomputable def r9(e:zh):yU:=!decide (e.ctorIdx=8)&&!decide (e.ctorIdx=9)&&!decide (e.ctorIdx=10)
noncomputable def mr(e:Ag)(f:yN zh->zh->Pos->yU):yU:=Cq (e.ctorIdx=5) (λh=>Stmt.Assign.elim (motive_2:=λZ=>yU) e h f) (λZ=>yM)
@[elab_as_elim] theorem kg{e:Ag}{f:yN zh->zh->Pos->yU}{C:Ag->Prop}(h:mr e f=yP)(k:∀ a b v2,f a b v2=yP->C (.Assign a b v2)):C e:=
 (bM h).elim λc h=>Stmt.Assign.elim (motive_2:=λe=>∀ c,Stmt.Assign.elim (motive_2:=λZ=>yU) e c f=yP->C e) e c (λa b v2 Z h=>k a b v2 h) c h
noncomputable def wQ(e:Ag)(f:zh->Pos->yU):yU:=Cq (e.ctorIdx=24) (λh=>Stmt.Expr.elim (motive_2:=λZ=>yU) e h f) (λZ=>yM)
@[elab_as_elim] theorem nj{e:Ag}{f:zh->Pos->yU}{C:Ag->Prop}(h:wQ e f=yP)(k:∀ a b,f a b=yP->C (.Expr a b)):C e:=
 (bM h).elim λc h=>Stmt.Expr.elim (motive_2:=λe=>∀ c,Stmt.Expr.elim (motive_2:=λZ=>yU) e c f=yP->C e) e c (λa b Z h=>k a b h) c h
noncomputable def cIf(e:Ag)(f:zh->yN Ag->yN Ag->Pos->yU):yU:=Cq (e.ctorIdx=12) (λh=>Stmt.If.elim (motive_2:=λZ=>yU) e h f) (λZ=>yM)
@[elab_as_elim] theorem sN{e:Ag}{f:zh->yN Ag->yN Ag->Pos->yU}{C:Ag->Prop}(h:cIf e f=yP)(k:∀ a b v2 c,f a b v2 c=yP->C (.If a b v2 c)):C e:=
 (bM h).elim λi h=>Stmt.If.elim (motive_2:=λe=>∀ i,Stmt.If.elim (motive_2:=λZ=>yU) e i f=yP->C e) e i (λa b v2 c Z h=>k a b v2 c h) i h
noncomputable def cFor(e:Ag)(f:zh->zh->yN Ag->yN Ag->Pos->yU):yU:=Cq (e.ctorIdx=9) (λh=>Stmt.For.elim (motive_2:=λZ=>yU) e h f) (λZ=>yM)
@[elab_as_elim] theorem qj{e:Ag}{f:zh->zh->yN Ag->yN Ag->Pos->yU}{C:Ag->Prop}(h:cFor e f=yP)(k:∀ a b v2 c i,f a b v2 c i=yP->C (.For a b v2 c i)):C e:=
 (bM h).elim λj h=>Stmt.For.elim (motive_2:=λe=>∀ j,Stmt.For.elim (motive_2:=λZ=>yU) e j f=yP->C e) e j (λa b v2 c i Z h=>k a b v2 c i h) j h
noncomputable def cRet(e:Ag)(f:yX zh->Pos->yU):yU:=Cq (e.ctorIdx=3) (λh=>Stmt.Return.elim (motive_2:=λZ=>yU) e h f) (λZ=>yM)
@[elab_as_elim] theorem cRet_inv{e:Ag}{f:yX zh->Pos->yU}{C:Ag->Prop}(h:cRet e f=yP)(k:∀ a b,f a b=yP->C (.Return a b)):C e:=
 (bM h).elim λc h=>Stmt.Return.elim (motive_2:=λe=>∀ c,Stmt.Return.elim (motive_2:=λZ=>yU) e c f=yP->C e) e c (λa b Z h=>k a b h) c h
noncomputable def yq(e:Ag)(f:zh->yN Ag->yN Ag->Pos->yU):yU:=Cq (e.ctorIdx=11) (λh=>Stmt.While.elim (motive_2:=λZ=>yU) e h f) (λZ=>yM)
@[elab_as_elim] theorem cWhile_inv{e:Ag}{f:zh->yN Ag->yN Ag->Pos->yU}{C:Ag->Prop}(h:yq e f=yP)(k:∀ a b v2 c,f a b v2 c=yP->C (.While a b v2 c)):C e:=
 (bM h).elim λi h=>Stmt.While.elim (motive_2:=λe=>∀ i,Stmt.While.elim (motive_2:=λZ=>yU) e i f=yP->C e) e i (λa b v2 c Z h=>k a b v2 c h) i h
noncomputable def c3{α:Type}(l:yN α)(f:α->α->α->yU):yU:=match l with | x::l=>c2 l (f x) | _=>yM
@[elab_as_elim] theorem c3_inv{α:Type}{l:yN α}{f:α->α->α->yU}{C:yN α->Prop}(h:c3 l f=yP)(k:∀ x y z,f x y z=yP->C [x,y,z]):C l:=by
 cases l with
 | nil=>cases h
 | cons x l=>exact nl (C:=λl=>C (x::l)) h (k x)
noncomputable def grp1(k:KD)(st:Ag):yU:=mr st λa v Z=>c1 a λt=>dJ t λy Z=>y == yO "own"&&cw k y&&aH k v (.call "cells_at" [.u "row",.u "places"])
noncomputable def grp2(k:KD)(st:Ag):yU:=cIf st λv b o Z=>aH k v (.cmp .NotIn (.u "own") (.u "groups"))&&o.isEmpty&&c1 b λst=>mr st λa v Z=>c1 a λt=>xi t λc f Z=>aH k c (.u "groups")&&aH k f (.u "own")&&aH k v (.lst [])
noncomputable def grp3(k:KD)(st:Ag):yU:=wQ st λv Z=>gS v λg as ks p=>ks.isEmpty&&c1 as λa=>wR g λb c f=>c == yO "append"&&f.endLine == p.line&&aH k b (.sub (.u "groups") (.u "own"))&&aH k a (.u "row")
noncomputable def grpB(k:KD)(st:Ag):yU:=cFor st λt a b o Z=>o.isEmpty&&dJ t λy Z=>y == yO "row"&&cw k y&&ff a&&aH k a (.u "rows")&&c3 b λs1 c f=>grp1 k s1&&grp2 k c&&grp3 k f
mutual
noncomputable def nh(k:KD)(st:Ag)(s:MS):yU:=match s with
 | .x0 x e=>mr st λj v Z=>c1 j λt=>dJ t λy Z=>y == yO x&&cw k y&&aH k v e
 | .append x e=>wQ st λv Z=>gS v λg m ks p=>ks.isEmpty&&c1 m λa=>wR g λn q u=>dJ n λy Z=>y == yO x&&cw k y&&q == yO "append"&&u.endLine == p.line&&aH k a e
 | .setk x w e=>mr st λj v Z=>c1 j λt=>xi t λo i Z=>dJ o λy Z=>y == yO x&&cw k y&&aH k i w&&aH k v e
 | .ite c t f=>cIf st λv b o Z=>aH k v c&&fL k b t&&fL k o f
 | .for_ x Fm body=>cFor st λt h b o Z=>o.isEmpty&&dJ t λy Z=>y == yO x&&cw k y&&ff h&&aH k h Fm&&u5 k b body
 | .ret e=>cRet st λv Z=>xj v λv=>aH k v e
 | .bad=>yP
 | .grp=>grpB k st
 | .expr e=>wQ st λv Z=>r9 v&&aH k v e
 | .while_ c body=>yq st λv b o Z=>o.isEmpty&&aH k v c&&fL k b body
 | .forr x Fm body=>cFor st λt h b o Z=>o.isEmpty&&dJ t λy Z=>y == yO x&&cw k y&&ff h&&(gS h λg m ks Z=>ks.isEmpty&&dJ g λg Z=>g == yO "reversed"&&cF k g&&c1 m λa=>aH k a Fm)&&fL k b body
termination_by structural s
noncomputable def fL(k:KD)(c:yN Ag)(f:yN MS):yU:=match f with
 | []=>c.isEmpty
 | a::r=>(match c with | s::b=>nh k s a&&fL k b r | []=>yM)
termination_by structural f
noncomputable def u5(k:KD)(i:yN Ag)(j:yN MS):yU:=match j with
 | []=>i.isEmpty
 | a::r=>(match i with | s::h=>(nh k s a&&u5 k h r)||(r.isEmpty&&cIf s λv b o Z=>o.isEmpty&&(c1 b λst=>decide (st.ctorIdx=27))&&(match a with | .ite c t f=>t.isEmpty&&(aH k v c&&fL k h f) | _=>yM)) | []=>yM)
termination_by structural j
end
theorem cb_cons(k:KD)(s:Ag)(h:yN Ag)(a:MS)(r:yN MS):u5 k (s::h) (a::r)=((nh k s a&&u5 k h r)||(r.isEmpty&&cIf s λv b o Z=>o.isEmpty&&(c1 b λst=>decide (st.ctorIdx=27))&&(match a with | .ite c t f=>t.isEmpty&&(aH k v c&&fL k h f) | _=>yM))):=by
 cases a <;> rfl
section
variable {k:KD} {st:Ag}
inductive oO(k:KD)(x:yS)(e:ME):Ag->Prop
 | mk {p v pos} (hst:cw k (yO x)=yP) (hc:aH k v e=yP):oO k x e (.Assign [.Name (yO x) p] v pos)
theorem pK{x:yS}{e:ME}(h:nh k st (.x0 x e)=yP):oO k x e st:=
 kg h λc v p h=>eW h λt h=>cj h λy f h=>iL h λh1=>eqb h1 λa b=>⟨a,b⟩
inductive sT(k:KD)(x:yS)(e:ME):Ag->Prop
 | mk {yp ap a p pos} (hst:cw k (yO x)=yP) (hl:(ap.endLine == p.line)=yP) (hc:aH k a e=yP):sT k x e (.Expr (.Call (.Attribute (.Name (yO x) yp) (yO "append") ap) [a] [] p) pos)
theorem inv_append{x:yS}{e:ME}(h:nh k st (.append x e)=yP):sT k x e st:=
 nj h λv b h=>eJ h λg o ks p h=>bR h λh1 h=>kO h1 (eW h λa h=>nk (e:=g) h λn c q h=>cj (e:=n) h λy s h=>qE h λh1=>eqb h1 λf i=>eqb i λj m=>⟨f,j,m⟩)
inductive yD(k:KD)(x:yS)(ke e:ME):Ag->Prop
 | mk {yp i p v pos} (hst:cw k (yO x)=yP) (hi:aH k i ke=yP) (hc:aH k v e=yP):yD k x ke e (.Assign [.Subscript (.Name (yO x) yp) i p] v pos)
theorem inv_setk{x:yS}{ke e:ME}(h:nh k st (.setk x ke e)=yP):yD k x ke e st:=
 kg h λj v a h=>eW h λt h=>mq h λo i p h=>cj (e:=o) h λy m h=>qF h λh1=>eqb h1 λb c f=>⟨b,c,f⟩
inductive IIte(k:KD)(c:ME)(t f:yN MS):Ag->Prop
 | mk {v b o p} (hc:aH k v c=yP) (ht:fL k b t=yP) (hf:fL k o f=yP):IIte k c t f (.If v b o p)
theorem inv_ite{c:ME}{t f:yN MS}(h:nh k st (.ite c t f)=yP):IIte k c t f st:=sN h λv b o p h=>iL h λh1 a i=>⟨h1,a,i⟩
inductive IFor(k:KD)(x:yS)(Fm:ME)(body:yN MS):Ag->Prop
 | mk {yp it b p} (hst:cw k (yO x)=yP) (hn:ff it=yP) (hc:aH k it Fm=yP) (hb:u5 k b body=yP):IFor k x Fm body (.For (.Name (yO x) yp) it b [] p)
theorem inv_for{x:yS}{Fm:ME}{body:yN MS}(h:nh k st (.for_ x Fm body)=yP):IFor k x Fm body st:=
 qj h λt j b o p h=>bR h λh1 h=>kO h1 (cj (e:=t) h λy m h=>qE h λh1=>eqb h1 λa c f i=>⟨a,c,f,i⟩)
inductive yG(k:KD)(e:ME):Ag->Prop
 | mk {v p} (hn:r9 v=yP) (hc:aH k v e=yP):yG k e (.Expr v p)
theorem inv_expr{e:ME}(h:nh k st (.expr e)=yP):yG k e st:=nj h λv p h=>bR h λh1 a=>⟨h1,a⟩
inductive u9(k:KD)(c:ME)(body:yN MS):Ag->Prop
 | mk {v b p} (hc:aH k v c=yP) (hb:fL k b body=yP):u9 k c body (.While v b [] p)
theorem inv_while{c:ME}{body:yN MS}(h:nh k st (.while_ c body)=yP):u9 k c body st:=cWhile_inv h λv b o p h=>iL h λh1 a f=>kO h1 ⟨a,f⟩
inductive yF(k:KD)(x:yS)(Fm:ME)(body:yN MS):Ag->Prop
 | mk {yp gp a cp b p} (hst:cw k (yO x)=yP) (hg:cF k (yO "reversed")=yP) (hc:aH k a Fm=yP) (hb:fL k b body=yP):yF k x Fm body (.For (.Name (yO x) yp) (.Call (.Name (yO "reversed") gp) [a] [] cp) b [] p)
theorem inv_forr{x:yS}{Fm:ME}{body:yN MS}(h:nh k st (.forr x Fm body)=yP):yF k x Fm body st:=
 qj h λt f b o p h=>bR h λh1 h=>kO h1 (cj (e:=t) h λy w h=>qE h λi=>eqb i λj Z m n=>eJ (e:=f) m λg z ks cp h=>bR h λq h=>kO q (cj (e:=g) h λg A h=>iL h λs=>eqb s λu c=>eW c λa c=>⟨j,u,c,n⟩))
inductive IRet(k:KD)(e:ME):Ag->Prop
 | mk {v p} (hc:aH k v e=yP):IRet k e (.Return (ac v) p)
theorem inv_ret{e:ME}(h:nh k st (.ret e)=yP):IRet k e st:=cRet_inv h λv p h=>qi h λv h=>⟨h⟩
end
noncomputable abbrev Own:=yS->yX y0
noncomputable def frm(Fj:Env)(b:y0):Prop:=b=Fj.locals\/∃ x,Fj.cells.lookup x=ac b
noncomputable def Hot(Fj:Env)(E5:y0->Prop)(E7:Own)(b:y0):Prop:=E5 b\/frm Fj b\/∃ x,E7 x=ac b
noncomputable def Own.less(E7:Own)(ns:yN yS):Own:=λx=>if x∈ns then y7 else E7 x
theorem eP{E7:Own}{ns:yN yS}{x:yS}{a:y0}(e:E7.less ns x=ac a):E7 x=ac a:=by unfold Own.less at e;split at e <;> first | cases e | exact e
theorem Hot.mono{Fj:Env}{E5 EY:y0->Prop}{E7 E4:Own}(c:∀ b,EY b->E5 b)(f:∀ x a,E4 x=ac a->E7 x=ac a){b:y0}(h:Hot Fj EY E4 b):Hot Fj E5 E7 b:=
 h.imp (c b) λh=>h.imp id λh=>h.elim λx h=>⟨x,f x b h⟩
theorem Hot.less{Fj:Env}{E5:y0->Prop}{E7:Own}{ns:yN yS}{b:y0}(h:Hot Fj E5 (E7.less ns) b):Hot Fj E5 E7 b:=h.mono (λZ q=>q) λZ Z=>eP
structure bG(w:zD)(Fe E6 h:Heap)(Fj:Env)(E5:y0->Prop)(E7:Own)(m:Str->yX yR)(σ:St):Prop where
 rep:bN h Fj m
 plain:∀ x d,σ.lookup x=ac (yM,d)->∃ v,m (yO x)=ac v/\Rep w.params h (Hot Fj E5 E7) v d
 owned:∀ x d,σ.lookup x=ac (yP,d)->∃ a,E7 x=ac a/\m (yO x)=ac (.ref a)/\dM w.params h (Hot Fj E5 E7) a d
 hot:HOk Fe h (Hot Fj E5 E7)
 keep:KH E6 h
 frE:∀ b,frm Fj b->gat E6 b=y7
 own1:∀ x a,E7 x=ac a->gat E6 a=y7/\¬ E5 a/\¬ frm Fj a
 inj:∀ x y a,E7 x=ac a->E7 y=ac a->x=y
 ownx:∀ x a,E7 x=ac a->∃ o,gat h a=ac o
section
variable {w:zD} {Fe E6 h h':Heap} {Fj:Env} {E5 EY:y0->Prop} {E7 E4:Own} {m m':Str->yX yR} {σ:St}
theorem bG.off(S:bG w Fe E6 h Fj E5 E7 m σ){x:yS}{a:y0}(c:E7 x=ac a)(f:∀ y b,E4 y=ac b->E7 y=ac b)(i:E4 x≠ac a):¬ Hot Fj E5 E4 a:=λq=>q.elim (S.own1 x a c).2.1 λq=>q.elim (S.own1 x a c).2.2 λq=>q.elim λy e=>i (S.inj y x a (f y a e) c▸e)
theorem bG.to(S:bG w Fe E6 h Fj E5 E7 m σ)(R:bN h' Fj m)(c:oa h (Hot Fj E5 E7) h')(f:∀ x a o,E7 x=ac a->gat h a=ac o->gat h' a=ac o)(ls:sS h (Hot Fj E5 E7) (Hot Fj EY E7))(ke:KH E6 h')(j:∀ b,EY b->∃ i o,@LE.le Nat _ b i/\gat h' i=ac o)(n:∀ x a,E7 x=ac a->¬ EY a):bG w Fe E6 h' Fj EY E7 m σ where
 rep:=R
 plain:=λx d e=>(S.plain x d e).elim λv q=>⟨v,q.1,q.2.mono c ls⟩
 owned:=λx d e=>(S.owned x d e).elim λa q=>⟨a,q.1,q.2.1,q.2.2.mono (λo e=>f x a o q.1 e) c λb o e z=>.inl (ls b o e z)⟩
 hot:=⟨λb o e=>c b o (S.hot.off b o e) (S.hot.keep b o e),λb q=>q.elim (j b) λq=>q.elim (λq=>(q.elim (λq=>R.loc.elim λZ z=>q▸ua z.1) λq=>q.elim λx z=>R.ex x b z).elim λo z=>⟨b,o,ze _,z⟩) λq=>q.elim λx q=>(S.ownx x b q).elim λo z=>⟨b,o,ze _,f x b o q z⟩,λb o e q=>S.hot.off b o e (ls b o (S.hot.keep b o e) q)⟩
 keep:=ke
 frE:=S.frE
 own1:=λx a e=>⟨(S.own1 x a e).1,n x a e,(S.own1 x a e).2.2⟩
 inj:=S.inj
 ownx:=λx a e=>(S.ownx x a e).elim λo z=>⟨o,f x a o e z⟩
theorem bG.keeps(S:bG w Fe E6 h Fj E5 E7 m σ)(c:KH h h'):bG w Fe E6 h' Fj E5 E7 m σ:=
 S.to (S.rep.keeps c) (λb o Z e=>c b o e) (λZ a o Z e=>c a o e) (λZ Z Z q=>q) (λb o e=>c b o (S.keep b o e)) (λb q=>(S.hot.ex b (.inl q)).elim λf z=>z.elim λo z=>⟨f,o,z.1,c _ _ z.2⟩) λx a e=>(S.own1 x a e).2.1
theorem nJ{ns:yN yS}{x:yS}{b:yU}{d:D}{C:Prop}(e:(Mine.freeze ns σ).lookup x=ac (b,d))(k:∀ o,σ.lookup x=ac (o,d)->(o&&!ns.contains x)=b->C):C:=by
 rw[bx] at e;exact bO e λp h1 a=>k p.1 (h1.trans (zj ac (EN QQ (z9 a).2))) (z9 a).1
theorem bG.freeze(S:bG w Fe E6 h Fj E5 E7 m σ)(ns:yN yS):bG w Fe E6 h Fj E5 (E7.less ns) m (Mine.freeze ns σ) where
 rep:=S.rep
 plain:=λx d e=>nJ e λo h1 c=>by
  cases o with
  | false=>exact (S.plain x d h1).elim λv q=>⟨v,q.1,q.2.sub λZ q=>q.less⟩
  | true=>
   have f:x∈ns:=AH.mp (by simpa using c)
   exact (S.owned x d h1).elim λa q=>⟨_,q.2.1,(q.2.2.sub λZ q=>q.less).rep (S.off q.1 (λZ Z=>eP) (by unfold Own.less;rw[y8 f];nofun))⟩
 owned:=λx d e=>nJ e λo h1 c=>bR c λj i=>by
  subst j;have f:¬ x∈ns:=λq=>by rw[AH.mpr q] at i;cases i
  exact (S.owned x d h1).elim λa q=>⟨a,(za f).trans q.1,q.2.1,q.2.2.sub λZ q=>q.less⟩
 hot:=⟨S.hot.keep,λa q=>S.hot.ex a q.less,λb o e q=>S.hot.off b o e q.less⟩
 keep:=S.keep
 frE:=S.frE
 own1:=λx a e=>S.own1 x a (eP e)
 inj:=λx y a e1 n=>S.inj x y a (eP e1) (eP n)
 ownx:=λx a e=>S.ownx x a (eP e)
theorem bG.cc(S:bG w Fe E6 h Fj E5 E7 m σ){s:yY}(b:s.heap=h)(ns:yN yS):Cc w Fe s Fj (Hot Fj E5 (E7.less ns)) (vis σ) m ns:=by
 subst b;refine⟨S.rep,(S.freeze ns).hot,λx c Z d a=>?_⟩
 rw[cB] at a;refine bO a λp h1 f=>(S.freeze ns).plain x d ?_
 rw[bx,h1,D4,f,AH.mpr c,Bool.not_true,CN]
end
section
variable {w:zD} {Fe E6 h Fk E0:Heap} {Fj:Env} {E5:y0->Prop} {E7:Own} {m:Str->yX yR} {σ:St}
theorem fD{a:y0}(R:bN h Fj m)(b:frm Fj a):∃ o,gat h a=ac o:=b.elim (λe=>R.loc.elim λZ q=>e▸ua q.1) λq=>q.elim λy e=>R.ex y a e
noncomputable def Own.set(E7:Own)(x:yS)(a:yX y0):Own:=λy=>if y=x then a else E7 y
theorem kA{x y:yS}{p q:yU×D}{C:Prop}(e:(az σ x p).lookup y=ac q)(a:y=x->p=q->C)(k2:¬ y=x->σ.lookup y=ac q->C):C:=by
 rw[aI] at e;exact dm e (λh e=>a h (yW e)) k2
theorem eM{x y:yS}{a:yX y0}{c:y0}{C:Prop}(e:E7.set x a y=ac c)(b:y=x->a=ac c->C)(k2:¬ y=x->E7 y=ac c->C):C:=dm e b k2
theorem xr{x y:yS}{v:yR}(h:¬ y=x):upd m (yO x) v (yO y)=m (yO y):=za λe=>h (dW e)
theorem bG.set(S:bG w Fe E6 h Fj E5 E7 m σ){x:yS}{v:yR}{j:yX y0}{fr:yU}{d:D}(i:bN E0 Fj (upd m (yO x) v))(A:oa h (Hot Fj E5 E7) E0)(L:∀ y a o,E7 y=ac a->gat h a=ac o->gat E0 a=ac o)(B:∀ b o,gat h b=ac o->∃ C,gat E0 b=ac C)(ke:KH E6 E0)
  (f:∀ c,j=ac c->gat h c=y7/\¬ E5 c/\∃ o,gat E0 c=ac o) (M:fr=yM->Rep w.params E0 (Hot Fj E5 (E7.set x j)) v d) (N:fr=yP->∃ c,j=ac c/\v=.ref c/\dM w.params E0 (Hot Fj E5 (E7.set x j)) c d) :
  bG w Fe E6 E0 Fj E5 (E7.set x j) (upd m (yO x) v) (az σ x (fr,d)):=
 have E:sS h (Hot Fj E5 E7) (Hot Fj E5 (E7.set x j)):=λb o e q=>q.imp id λq=>q.imp id λq=>q.elim λy q=>eM q (λZ q=>cz e (f b q).1) λZ q=>⟨y,q⟩
 {rep:=i
  plain:=λy G e=>kA e (λn ep=>⟨v,n▸y8 QQ,(z9 ep).2▸M (z9 ep).1⟩) λs e=>(S.plain y G e).elim λu q=>⟨u,(xr s).trans q.1,q.2.mono A E⟩
  owned:=λy G e=>kA e (λn ep=>(N (z9 ep).1).elim λc q=>⟨c,n▸(y8 QQ).trans q.1,n▸(y8 QQ).trans (zj ac q.2.1),(z9 ep).2▸q.2.2⟩) λs e=>(S.owned y G e).elim λc q=>⟨c,(za s).trans q.1,(xr s).trans q.2.1,q.2.2.mono (λo e=>L y c o q.1 e) A λb o e z=>.inl (E b o e z)⟩
  hot:=⟨λb o e=>A b o (S.hot.off b o e) (S.hot.keep b o e),λb q=>q.elim (λq=>(S.hot.ex b (.inl q)).elim λI z=>z.elim λo z=>(B I o z.2).elim λC e=>⟨I,C,z.1,e⟩) λq=>(q.elim (fD i) λq=>q.elim λy q=>eM q (λZ q=>(f b q).2.2) λZ q=>(S.ownx y b q).elim λo z=>B b o z).elim λo z=>⟨b,o,ze _,z⟩,λb o e q=>S.hot.off b o e (E b o (S.hot.keep b o e) q)⟩
  keep:=ke
  frE:=S.frE
  own1:=λy c H=>eM H (λZ q=>⟨lW S.keep (f c q).1,(f c q).2.1,λz=>(fD S.rep z).elim λo e=>cz e (f c q).1⟩) λZ q=>S.own1 y c q
  inj:=λy z c h1 J=>eM h1 (λe1 t=>eM J (λO Z=>e1.trans O.symm) λZ q=>(S.ownx z c q).elim λo e=>cz e (f c t).1) λZ t=>eM J (λZ q=>(S.ownx y c t).elim λo e=>cz e (f c q).1) λZ q=>S.inj y z c t q
  ownx:=λy c H=>eM H (λZ q=>(f c q).2.2) λZ q=>(S.ownx y c q).elim λo z=>B c o z }
theorem bG.turn(S:bG w Fe E6 h Fj E5 E7 m σ){x:yS}{a:y0}{j d:D}(H:σ.lookup x=ac (yP,j))(f:E7 x=ac a)(I:Heap.SameBut a h E0)(s:dM w.params E0 (Hot Fj E5 E7) a d) :
  bG w Fe E6 E0 Fj E5 E7 m (az σ x (yP,d)):=by
 refine (S.owned x _ H).elim λi q=>?_
 have J:i=a:=yW (q.1.symm.trans f);subst J;have n:Mv i h E0:=xB ⟨I,q.2.2.notTab,s.notTab⟩;have g:=S.own1 x i f;have t:oa h (Hot Fj E5 E7) E0:=λb o L e=>n b o (λz=>L (z▸.inr (.inr ⟨x,f⟩))) e
 have C:∀ b o,gat h b=ac o->∃ A,gat E0 b=ac A:=λb o e=>(Classical.em (b=i)).elim (λq=>q▸s.ex) λq=>⟨o,n b o q e⟩
 exact
  {rep:=S.rep.keepsAt λb o M e=>n b o (λz=>g.2.2 (z▸M)) e
   plain:=λy B e=>kA e (λZ ep=>nomatch (z9 ep).1) λZ e=>(S.plain y B e).elim λu z=>⟨u,z.1,z.2.mono t λZ Z Z q=>q⟩
   owned:=λy B e=>kA e (λE ep=>⟨i,E▸f,E▸q.2.1,(z9 ep).2▸s⟩) λN e=>(S.owned y B e).elim λc z=>⟨c,z.1,z.2.1,z.2.2.mono (λo e=>n c o (λw=>N (S.inj y x i (w▸z.1) f)) e) t λZ Z Z q=>.inl q⟩
   hot:=⟨λb o e=>t b o (S.hot.off b o e) (S.hot.keep b o e),λb q=>(S.hot.ex b q).elim λG z=>z.elim λo z=>(C G o z.2).elim λA e=>⟨G,A,z.1,e⟩,S.hot.off⟩
   keep:=λb o e=>n b o (λz=>cz e (z▸g.1)) (S.keep b o e)
   frE:=S.frE
   own1:=S.own1
   inj:=S.inj
   ownx:=λy c O=>(S.ownx y c O).elim λo z=>C c o z }
end
section
variable {Fd:zv} {w:zD} {A:zF}
theorem isKey_tk(k:yN CK):(e8 k).isKey=yP:=zx.mpr λd a=>(zz.mp a).elim λc q=>q.2▸by cases c <;> rfl
theorem dictH_own{Fd:zv}{w:zD}{h:Heap}{H:y0->Prop}{a:y0}{xs:yN (yN CK×y0×yR)}{ks vs:yN D}(y:h.DictOfH (TKd Fd w) a xs)(e1:xs.map kD=ks)(h1:ao w.params h (λb=>H b\/b=a) (xs.map λx=>Value.ref x.2.1) ks)(A:ao w.params h (λb=>H b\/b=a) (xs.map (·.2.2)) vs)(B:ks.length<=big)(C:(a == Dv)=yM):n9 w.params h H a ks vs:=by
 obtain⟨n,f,i,g1,⟨o,s,t⟩,u,j,I,E⟩:=y;have m:n=n6 f i:=by obtain⟨a,b,c,d⟩:=n;dsimp only at o s t u;subst o s t u;rfl
 subst e1;exact⟨m▸g1,B,by rw[j,Ad];exact h1,by rw[j,Ad];exact A,by rw[j,Ad,Ad];exact AP λx Z=>wA x.1,
  zx.mpr λz G=>(zz.mp G).elim λx q=>q.2▸isKey_tk x.1,AX.mpr ((AX.mp E).imp λh e=>h (ofTK_inj e)),C⟩
theorem bG.ownAt{Fe E6 h:Heap}{Fj:Env}{E5:y0->Prop}{E7:Own}{m:Str->yX yR}{σ:St}(S:bG w Fe E6 h Fj E5 E7 m σ){x:yS}{L:y0}{d:D}(a:σ.lookup x=ac (yP,d))(b:E7 x=ac L):dM w.params h (Hot Fj E5 E7) L d:=
 (S.owned x _ a).elim λc q=>yW (q.1.symm.trans b)▸q.2.2
theorem nB{s:yY}{H:y0->Prop}{L:y0}{ks vs:yN D}{u J:yR}{d dk:D}{Q:Unit->yY->Prop}{E:yR->yY->Prop}(V:A.units+1<Bl)(o:n9 w.params s.heap H L ks vs)
  (t:Rep w.params s.heap (λb=>H b\/b=L) J dk) (M:Rep w.params s.heap (λb=>H b\/b=L) u d) (X:dQ dk ks=yP) (a:ks.length<big)
  (y:∀ h' tk dw,Heap.SameBut L s.heap h'->n9 w.params h' H L (dK ks vs dk d).1 (dK ks vs dk d).2->Q () { s with heap:=h',toks:=tk,drawn:=dw }):wpAny (y6 Fd w) A (setItem (.ref L) J u) Q E s:=by
 refine o.rec λ{es n} o1 o2 j N O Fu m T=>?_
 have i:(dK ks vs dk d).1.length<=big:=yQ (dput_len dk d ks vs) a;have mv:∀ {h'},Heap.SameBut L s.heap h'->∀ {l:yN yR} {ds:yN D},ao w.params s.heap (λb=>H b\/b=L) l ds->ao w.params h' (λb=>H b\/b=L) l ds:=λf EV EV r=>
  r.mono (λb o Y e=>g1 f (ce o1) b (λq=>Y (.inr q)) e) λEV EV EV q=>q
 refine mU X (λh1 z=>?_) ?_
 ·obtain⟨B,rfl⟩:=qd z
  obtain⟨c,rfl⟩:=gR h1;have U:B.length=(es.toList.map (·.val)).length:=by have:=j.length;rw[yV,yV] at this;rw[yV,this]
  have C:B.Nodup:=(AX.mp m).imp λh e=>h (zj bz e)
  refine wpAny_setItem_pairs (knd:=cK Fd w) (mH t) (pY o1 j O m) (λh' G f=>?_) (by
   rw[Di,<- U,DW];rw[yV] at a;exact zU a)
  have p:=stored_dput (k:=c) M U C N;refine (rep_dictOf (H:=λb=>H b\/b=L) G).elim λZ r=>r.elim λFv r=>?_
  rw[p.1] at r;exact y _ _ _ f ⟨r.1,i,r.2.1,r.2.2.1▸mv f p.2,r.2.2.2.1,r.2.2.2.2.1,r.2.2.2.2.2,T⟩
 ·intro h1 z
  obtain⟨B,rfl⟩:=uI z;obtain⟨c,rfl⟩:=sV h1;obtain⟨xs,G,e1,Fo,Fp⟩:=ng (Fd:=Fd) o1 j O m;obtain⟨b,rfl,Fq⟩:=rZ (Fd:=Fd) t;subst e1;have Fs:(xs.map (·.1)).Nodup:=(AX.mp m).imp λh e=>h (by rw[e])
  have Ft:(xs.map (·.1)).map e8=xs.map kD:=by rw[Ad];rfl
  rw[Ft] at j i y;have p:=storedH_dput t M Fs (Fo▸j) (Fp▸N);exact wpAny_setItem_heap (knd:=TKd Fd w) V Fq G (λh' I f=>y _ _ _ f (dictH_own I p.1 (mv f p.2.1) (mv f p.2.2) i T)) (by
   rw[yV,yV] at a;exact zU a)
end
structure Tr(EZ:Heap)(Fj:Env)(EX:Own)(h:Heap)(E7:Own):Prop where
 k:∀ b o,gat EZ b=ac o->¬ frm Fj b->(∀ x,EX x≠ac b)->gat h b=ac o
 x:∀ b o,gat EZ b=ac o->∃ o',gat h b=ac o'
 o:∀ x a,E7 x=ac a->EX x=ac a\/gat EZ a=y7
section
variable {EZ h Fk E0:Heap} {Fj:Env} {EX E7 Fg own₂:Own}
theorem Tr.of(c:KH EZ h)(f:∀ x a,E7 x=ac a->EX x=ac a):Tr EZ Fj EX h E7:=⟨λb o e Z Z=>c b o e,λb o e=>⟨o,c b o e⟩,λx a e=>.inl (f x a e)⟩
theorem Tr.keeps(a:KH EZ h):Tr EZ Fj E7 h E7:=.of a λZ Z e=>e
theorem Tr.none(t:Tr EZ Fj EX h E7){a:y0}(e:gat h a=y7):gat EZ a=y7:=vP (t.x a) e
theorem Tr.sub(t:Tr EZ Fj EX h E7){b:y0}{o:Obj}(e:gat EZ b=ac o)(a:∀ x,EX x≠ac b):∀ x,E7 x≠ac b:=λx q=>(t.o x b q).elim (a x) λq=>cz e q
theorem Tr.trans(t:Tr EZ Fj EX Fk Fg)(u:Tr Fk Fj Fg E0 own₂):Tr EZ Fj EX E0 own₂:=
 ⟨λb o e c f=>u.k b o (t.k b o e c f) c (t.sub e f),λb o e=>(t.x b o e).elim λh i=>u.x b h i,λx a e=>(u.o x a e).elim (t.o x a) λe=>.inr (t.none e)⟩
end
structure w8(w:zD)(E6 h:Heap)(E5:y0->Prop)(v:yR)(fr:yU)(d:D):Prop where
 rep:Rep w.params h E5 v d
 keep:KH E6 h
 fr:fr=yP->Fr w.params E6 h E5 d v
noncomputable def vR:Own:=λZ=>y7
noncomputable def bg(w:zD)(Fe E6:Heap)(Fj:Env)(E5:y0->Prop)(s:yY)(E7:Own)(r:Fl×St)(f:DC)(s':yY):Prop:=
 ∀ Q:DC->yY->Prop,(∀ h tk dw E4 m,r.1=.next->Tr s.heap Fj E7 h E4->bG w Fe E6 h Fj E5 E4 m r.2->Q .next { s with heap:=h,toks:=tk,drawn:=dw }) ->
  (∀ h tk dw fr d v,r.1=.ret fr d->Tr s.heap Fj E7 h vR->w8 w E6 h E5 v fr d->Q (.ret v) { s with heap:=h,toks:=tk,drawn:=dw })->Q f s'
section
variable {Fd:zv} {w:zD} {A:zF} {Fe:Heap} {mg mb:Str->yX yR} {cf:CF}
noncomputable def SS(Fd:zv)(w:zD)(A:zF)(Fe:Heap)(cf:CF)(a:MS):Prop:=
 ∀ (s:yY) (Fj:Env) (st:Ag) (E5:y0->Prop) (E6:Heap) (E7:Own) (m:Str->yX yR) (σ:St) (r:Fl×St) (E:yR->yY->Prop),nh Fj.kindOf st a=yP->bG w Fe E6 s.heap Fj E5 E7 m σ ->
  exS cf a σ=ac r->wpAny (y6 Fd w) A (CR st Fj) (bg w Fe E6 Fj E5 s E7 r) E s
noncomputable def SSs(Fd:zv)(w:zD)(A:zF)(Fe:Heap)(cf:CF)(a:yN MS):Prop:=
 ∀ (s:yY) (Fj:Env) (b:yN Ag) (E5:y0->Prop) (E6:Heap) (E7:Own) (m:Str->yX yR) (σ:St) (r:Fl×St) (E:yR->yY->Prop),fL Fj.kindOf b a=yP->bG w Fe E6 s.heap Fj E5 E7 m σ ->
  bn cf a σ=ac r->wpAny (y6 Fd w) A (C3 b Fj) (bg w Fe E6 Fj E5 s E7 r) E s
section
variable {E6:Heap} {Fj:Env} {E5:y0->Prop} {s:yY} {E7 Fg:Own} {m:Str->yX yR} {σ:St} {r:Fl×St} {f:DC} {s':yY} {Fk E0:Heap} {tk:Nat} {dw:Drawn}
theorem bg.nx(t:Tr s.heap Fj E7 Fk Fg)(S:bG w Fe E6 Fk Fj E5 Fg m σ):bg w Fe E6 Fj E5 s E7 (.next,σ) .next { s with heap:=Fk,toks:=tk,drawn:=dw }:=λZ a Z=>a Fk tk dw Fg m QQ t S
theorem bg.rt{fr:yU}{d:D}{v:yR}(t:Tr s.heap Fj E7 Fk vR)(R:w8 w E6 Fk E5 v fr d):bg w Fe E6 Fj E5 s E7 (.ret fr d,σ) (.ret v) { s with heap:=Fk,toks:=tk,drawn:=dw }:=λZ Z a=>a Fk tk dw fr d v QQ t R
theorem bg.trans(t:Tr s.heap Fj E7 Fk Fg)(q:bg w Fe E6 Fj E5 { s with heap:=Fk,toks:=tk,drawn:=dw } Fg r f s'):bg w Fe E6 Fj E5 s E7 r f s':=
 λQ a b=>q Q (λh tk dw E4 m e u S=>a h tk dw E4 m e (t.trans u) S) λh tk dw fr d v e u R=>b h tk dw fr d v e (t.trans u) R
noncomputable def ew(E7:Own)(d:D)(ns:yN yS):Own:=if d.scalar then E7 else E7.less ns
theorem ix{d:D}{ns:yN yS}{x:yS}{a:y0}(e:ew E7 d ns x=ac a):E7 x=ac a:=by
 unfold ew at e;split at e
 ·exact e
 ·exact eP e
theorem bG.settle(S:bG w Fe E6 Fk Fj E5 E7 m σ)(d:D)(ns:yN yS):bG w Fe E6 Fk Fj E5 (ew E7 d ns) m (Mine.settle d ns σ):=by
 unfold Mine.settle ew;cases d.scalar with
 | true=>exact S
 | false=>exact S.freeze ns
theorem rep_settle{H:y0->Prop}{X:y0->Prop}{ns:yN yS}{v:yR}{d:D}(a:Rep w.params Fk (λb=>Hot Fj E5 (E7.less ns) b\/X b) v d):Rep w.params Fk (λb=>Hot Fj E5 (ew E7 d ns) b\/X b) v d:=by
 unfold ew;cases c:d.scalar with
 | true=>exact a.scalar c
 | false=>exact a
theorem jG{ns:yN yS}{v:yR}{d:D}(a:Rep w.params Fk (Hot Fj E5 (E7.less ns)) v d):Rep w.params Fk (Hot Fj E5 (ew E7 d ns)) v d:=by
 unfold ew;cases b:d.scalar with
 | true=>exact a.scalar b
 | false=>exact a
noncomputable def refOf(v:yR):yX y0:=match v with | .ref c=>ac c | _=>y7
noncomputable def r8(fr:yU)(v:yR):yX y0:=if fr then refOf v else y7
theorem k9{x:yS}{ns:yN yS}{d:D}{fr:yU}{v:yR}{a:y0}{X:y0->Prop}
  (S:bG w Fe E6 s.heap Fj E5 E7 m σ) (T:KH s.heap Fk) (L:Rep w.params Fk (λb=>Hot Fj E5 (E7.less ns) b\/X b) v d)
  (i:fr=yP->Fr w.params s.heap Fk (λb=>Hot Fj E5 (E7.less ns) b\/X b) d v)
  (h:bN E0 Fj (upd m (yO x) v)) (j:frm Fj a) (U:∀ b,X b->gat s.heap b=y7) (A:∀ b,b≠a->¬ X b->∀ {o},gat Fk b=ac o->gat E0 b=ac o) :
  bG w Fe E6 E0 Fj E5 ((ew E7 d ns).set x (r8 fr v)) (upd m (yO x) v) (az (Mine.settle d ns σ) x (fr,d))/\Tr s.heap Fj E7 E0 ((ew E7 d ns).set x (r8 fr v)):=by
 have V:∀ b o,gat s.heap b=ac o->¬ X b:=λb o e q=>cz e (U b q)
 have M:=S.settle d ns;have C:Hot Fj E5 (ew E7 d ns) a:=.inr (.inl j);have k2:∀ b o,gat s.heap b=ac o->b≠a->gat E0 b=ac o:=λb o e q=>A b q (V b o e) (T b o e)
 have N:∀ b o,gat s.heap b=ac o->∃ E,gat E0 b=ac E:=λb o e=>(Classical.em (b=a)).elim (λq=>q▸fD h j) λq=>⟨o,k2 b o e q⟩
 have G:∀ c,r8 fr v=ac c->fr=yP/\v=.ref c:=λc n=>by
  cases fr with
  | false=>cases n
  | true=>
   refine⟨QQ,Fr.rec (motive:=λv EV=>refOf v=ac c->v=.ref c) (λEV EV e=>zj Value.ref (yW e)) (i QQ) n⟩
 have O:∀ c,v=.ref c->fr=yP->gat s.heap c=y7/\¬ E5 c/\¬ X c/\dM w.params Fk (λb=>Hot Fj E5 (E7.less ns) b\/X b) c d:=λc e t=>by
  subst e;cases i t with
  | mk g o=>
   have z:=o.off L;exact⟨g,λq=>z (.inl (.inl q)),λq=>z (.inr q),o⟩
 have B:∀ c,r8 fr v=ac c->gat s.heap c=y7/\¬ E5 c/\∃ o,gat E0 c=ac o:=λc n=>
  have q:=O c (G c n).2 (G c n).1
  ⟨q.1,q.2.1,q.2.2.2.ex.elim λo e=>⟨o,A c (λz=>(fD S.rep j).elim λE I=>cz I (z▸q.1)) q.2.2.1 e⟩⟩
 have f:∀ b,Hot Fj E5 ((ew E7 d ns).set x (r8 fr v)) b->Hot Fj E5 (ew E7 d ns) b\/r8 fr v=ac b:=λb q=>q.elim (λq=>.inl (.inl q)) λq=>q.elim (λq=>.inl (.inr (.inl q))) λq=>q.elim λy q=>eM q (λEV q=>.inr q) λEV q=>.inl (.inr (.inr ⟨y,q⟩))
 refine⟨M.set h (λb o u e=>k2 b o e λq=>u (q▸C)) (λy c o Y e=>k2 c o e λq=>(M.own1 y c Y).2.2 (q▸j)) N (λb o e=>k2 b o (S.keep b o e) λq=>cz e (q▸S.frE a j)) B (λt=>?_) λt=>?_,λb o e t EV=>k2 b o e λq=>t (q▸j),N,λy c n=>eM n (λEV q=>.inr (B c q).1) λEV q=>.inl (ix q)⟩
 ·subst t
  exact (rep_settle (H:=E5) L).mono (λb o u e=>A b (λq=>u (.inl (q▸C))) (λq=>u (.inr q)) e) λb o EV q=>.inl ((f b q).elim id λq=>nomatch q)
 ·subst t
  have Z:∃ c,v=.ref c:=Fr.rec (motive:=λv EV=>∃ c,v=.ref c) (λEV EV=>⟨_,QQ⟩) (i QQ)
  refine Z.elim λc e=>⟨c,by rw[e];rfl,e,?_⟩
  have q:=O c e QQ;have J:ew E7 d ns=E7.less ns:=by unfold ew;rw[q.2.2.2.scalar];rfl
  have Fo:c≠a:=λz=>(fD S.rep j).elim λE I=>cz I (z▸q.1)
  rw[J] at C f ⊢;exact q.2.2.2.mono (λo e=>A c Fo q.2.2.1 e) (λb o u e=>A b (λq=>u (.inl (q▸C))) (λq=>u (.inr q)) e) λb o EV z=>(f b z).elim (λz=>.inl (.inl z)) λz=>.inr (Value.ref.inj ((G b z).2.symm.trans e))
end
theorem i9{k:KD}{x:Str}(a:cw k x=yP):k x=ac .local\/k x=ac .cell:=by
 unfold cw at a;simp only[Bo,D0,Bh] at a;exact a.1
structure Cx(Fd:zv)(w:zD)(A:zF)(Fe:Heap)(mg mb:Str->yX yR)(cf:CF):Prop where
 G:GOk mg mb Fe
 C:e5 Fd w Fe mg cf A
 hh:A.handled=y7
 hu:qw A
section
variable {s:yY} {Fj:Env} {E5:y0->Prop} {E6:Heap} {E7:Own} {m:Str->yX yR} {σ:St} {e:ME} {d:D} {fr:yU} {v:zh} {E:yR->yY->Prop} {Q:yR->yY->Prop}
theorem nC(Z:Cx Fd w A Fe mg mb cf)(S:bG w Fe E6 s.heap Fj E5 E7 m σ)(a:aH Fj.kindOf v e=yP)(b:evE cf (vis σ) e=ac d)
  (k:∀ u h tk dw,KH s.heap h->Rep w.params h (Hot Fj E5 (E7.less e.names)) u d->Q u { s with heap:=h,toks:=tk,drawn:=dw }):wpAny (y6 Fd w) A (zQ v Fj) Q E s:=by
 exact rN ((rI Z.G Z.C Z.hh Z.hu e).e s Fj v _ (vis σ) m d E a (S.cc QQ e.names) b) k
theorem xC(Z:Cx Fd w A Fe mg mb cf)(S:bG w Fe E6 s.heap Fj E5 E7 m σ)(i:aH Fj.kindOf v e=yP)(j:evF cf (vis σ) e=ac (d,fr))
  (k:∀ u h tk dw,KH s.heap h->Rep w.params h (Hot Fj E5 (E7.less e.names)) u d->(fr=yP->Fr w.params s.heap h (Hot Fj E5 (E7.less e.names)) d u)->Q u { s with heap:=h,toks:=tk,drawn:=dw }) :
  wpAny (y6 Fd w) A (zQ v Fj) Q E s:=by
 exact bI ((rI Z.G Z.C Z.hh Z.hu e).f s Fj v _ (vis σ) m d fr E i (S.cc QQ e.names) j) λu c q=>q.rec λn a b=>bQ.rec (motive:=λs' Y=>Rep w.params s'.heap (Hot Fj E5 (E7.less e.names)) u d->(fr=yP->Fr w.params s.heap s'.heap (Hot Fj E5 (E7.less e.names)) d u)->Q u s') (λh tk dw o a b=>k u h tk dw o a b) n a b
theorem qT(Z:Cx Fd w A Fe mg mb cf)(S:bG w Fe E6 s.heap Fj E5 E7 m σ)(c:aH Fj.kindOf v e=yP)(f:evE cf (vis σ) e=ac d){b:yU}(i:bW d=ac b){Q:yU->yY->Prop}
  (k:∀ h tk dw,KH s.heap h->Q b { s with heap:=h,toks:=tk,drawn:=dw }):wpAny (y6 Fd w) A (Cn v Fj (zQ v Fj)) Q E s:=by
 exact bI ((rI Z.G Z.C Z.hh Z.hu e).t s Fj v _ (vis σ) m d b E c (S.cc QQ e.names) f i) λu a q=>bQ.rec (motive:=λs' Y=>Q u s') (λh tk dw j=>q.e▸k h tk dw j) q.k
end
theorem isComp_inv{e:ME}{C:ME->Prop}(h:e.isComp=yP)(k:∀ elt x Fm cs,C (.comp elt x Fm cs)):C e:=ME.comp.elim (motive_1:=C) e (zS h) k
theorem xi_assign{x:yS}{e:ME}{σ:St}{r:Fl×St}{C:Prop}(h:exS cf (.x0 x e) σ=ac r)(k:∀ d fr,evF cf (vis σ) e=ac (d,fr)->(.next,az (Mine.settle d e.names σ) x (fr,d))=r->C):C:=by
 rw[qH] at h;cases a:evF cf (vis σ) e with
 | none=>rw[a] at h;exact aj h
 | some p=>rw[a] at h;exact k p.1 p.2 a (yW h)
theorem assign_comp(Z:Cx Fd w A Fe mg mb cf){s:yY}{Fj:Env}{E5:y0->Prop}{E6:Heap}{E7:Own}{m:Str->yX yR}{σ:St}{x z:yS}{elt Fm:ME}{cs:yN ME}{d:D}{fr:yU}{v:zh}{p h:Pos}{E:yR->yY->Prop}
  (H:cw Fj.kindOf (yO x)=yP) (S:bG w Fe E6 s.heap Fj E5 E7 m σ) (I:evF cf (vis σ) (.comp elt z Fm cs)=ac (d,fr)) (hi:xb Fj.kindOf elt z Fm cs v)
  (plain:Em v (ac (.Name (yO x) p)) h.line Fj=pure yM->wpAny (y6 Fd w) A (CR (.Assign [.Name (yO x) p] v h) Fj) (bg w Fe E6 Fj E5 s E7 (.next,az (Mine.settle d (ME.comp elt z Fm cs).names σ) x (fr,d))) E s) :
  wpAny (y6 Fd w) A (CR (.Assign [.Name (yO x) p] v h) Fj) (bg w Fe E6 Fj E5 s E7 (.next,az (Mine.settle d (ME.comp elt z Fm cs).names σ) x (fr,d))) E s:=by
 obtain @⟨t,py,it,ifs,scope,lp,c1,c2,c3,c4,c5⟩:=hi;have i:∃ b,Em (.ListComp t [⟨.Name (yO z) py,it,ifs,0⟩] scope lp) (ac (.Name (yO x) p)) h.line Fj=pure b:=⟨_,QQ⟩;obtain⟨b,i⟩:=i;cases b with
 | false=>exact plain i
 | true=>
  clear plain;refine fP I QQ λI Fw=>?_
  rw[exec_Assign_Name_used _ _ _ _ i];refine yT (wpAny_standAt (yT ?_));show wpAny _ A (do let _ <- comprehension (.ListComp t [⟨.Name (yO z) py,it,ifs,0⟩] scope lp) scope Fj _ (newList []) yM (zQ it Fj) (ac (assign (.Name (yO x) p) Fj))) _ _ s
  have c:=S.cc (s:=s) QQ (ME.comp elt z Fm cs).names;refine yT (bI (un (use:=ac (assign (.Name (yO x) p) Fj)) (Q:=λEV s'=>bg w Fe E6 Fj E5 s E7 (.next,az (Mine.settle d (ME.comp elt z Fm cs).names σ) x (fr,d)) .next s') Z.hh (rI Z.G Z.C Z.hh Z.hu elt).e (rI Z.G Z.C Z.hh Z.hu Fm).e (all_Cs Z.G Z.C Z.hh Z.hu cs) c1 c2 c3 c4 c5 c I ?_)
   λEV s' hq=>y9 (y9 hq))
  intro L Cc h' tk dw m' Fz J Fp Fq M N j Fs;subst J Fw;show wpAny _ A (assign (.Name (yO x) p) Fj (.ref L)) _ _ _;refine Ew (kz (s:={ s with heap:=h',toks:=tk,drawn:=dw }) (S.rep.keeps Fs) (i9 H) λE0 O T a n FA Ft=>?_)
  have u:frm Fj a:=FA.imp id λe=>⟨_,e⟩
  have y:¬ frm Fj Cc:=λq=>(fD S.rep q).elim λo e=>cz e Fq
  have B:=N.sameBut Ft.s λq=>y (q▸u)
  refine⟨m',B,λFu f=>?_⟩
  have Fv:=fR B;have U:gat s.heap L=y7:=by
   cases e:gat s.heap L with
   | none=>rfl
   | some o=>exact zA (Fp _ _ e) (Af _)
  have V:¬ Hot Fj E5 (E7.less (ME.comp elt z Fm cs).names) L:=λq=>(c.x L q).elim λb q=>q.elim λo q=>Af _ (y3 q.1 (Fp b o q.2))
  have q:=k9 (fr:=yP) (X:=λb=>b=Cc) (Fk:=h') S Fs (j.rep λq=>q.elim V M) (λEV=>⟨U,j⟩) (n.keepsAt λb o FE e=>g1 f Fv b (λq=>y (q▸FE)) e) u (λb q=>q▸Fq) λb Y Fo EV e=>g1 f Fv b Fo ((Ft.g b Y).trans e)
  exact bg.nx q.2 q.1
theorem mt(Z:Cx Fd w A Fe mg mb cf){s:yY}{Fj:Env}{E5:y0->Prop}{E6:Heap}{E7:Own}{m:Str->yX yR}{σ:St}{x:yS}{e:ME}{d:D}{fr:yU}{v:zh}{p n:Pos}{E:yR->yY->Prop}{Q:DC->yY->Prop}
  (t:cw Fj.kindOf (yO x)=yP) (C:aH Fj.kindOf v e=yP) (S:bG w Fe E6 s.heap Fj E5 E7 m σ) (G:evF cf (vis σ) e=ac (d,fr)) (y:Em v (ac (.Name (yO x) p)) n.line Fj=pure yM)
  (k:∀ u h tk dw,bG w Fe E6 h Fj E5 ((ew E7 d e.names).set x (r8 fr u)) (upd m (yO x) u) (az (Mine.settle d e.names σ) x (fr,d))->Tr s.heap Fj E7 h ((ew E7 d e.names).set x (r8 fr u))->Q .next { s with heap:=h,toks:=tk,drawn:=dw }):wpAny (y6 Fd w) A (CR (.Assign [.Name (yO x) p] v n) Fj) Q E s:=
 wpAny_Assign_Name (xC Z S C G λu Fk c f B H z=>kz (s:={ s with heap:=Fk,toks:=c,drawn:=f }) (S.rep.keeps B) (i9 t) λE0 i j a o I J=>
  have q:=k9 (X:=λY=>False) S B (H.sub λY q=>q.elim id False.elim) (λL=>(z L).sub λY q=>q.elim id False.elim) o (I.imp id λe=>⟨_,e⟩) (λY q=>q.elim) λb M Y Y e=>(J.g b M).trans e
  k u E0 i j q.1 q.2) y
theorem ss_assign(Z:Cx Fd w A Fe mg mb cf)(x:yS)(e:ME):SS Fd w A Fe cf (.x0 x e):=λs Fj st E5 E6 E7 m σ r E b S j=>
 xi_assign j λd fr i q=>q▸oO.rec (motive:=λst Y=>wpAny (y6 Fd w) A (CR st Fj) (bg w Fe E6 Fj E5 s E7 (.next,az (Mine.settle d e.names σ) x (fr,d))) E s) (λ{p v a} c b=>by
  have plain:Em v (ac (.Name (yO x) p)) a.line Fj=pure yM->wpAny (y6 Fd w) A (CR (.Assign [.Name (yO x) p] v a) Fj) (bg w Fe E6 Fj E5 s E7 (.next,az (Mine.settle d e.names σ) x (fr,d))) E s:=λn=>
   mt Z c b S i n λu h tk dw o q2=>bg.nx q2 o
  cases f:e.isComp with
  | false=>exact plain ((tK b).swap f _ _ _)
  | true=>exact isComp_inv (C:=λe=>aH Fj.kindOf v e=yP->evF cf (vis σ) e=ac (d,fr)->(_->wpAny (y6 Fd w) A (CR (.Assign [.Name (yO x) p] v a) Fj) (bg w Fe E6 Fj E5 s E7 (.next,az (Mine.settle d e.names σ) x (fr,d))) E s)->wpAny (y6 Fd w) A (CR (.Assign [.Name (yO x) p] v a) Fj) (bg w Fe E6 Fj E5 s E7 (.next,az (Mine.settle d e.names σ) x (fr,d))) E s) f (λt z Fm y b i plain=>assign_comp Z c S i (pJ b) plain) b i plain) (pK b)
end
theorem qZ:Manifest.owners.lookup (String.ofList ['d','e','s','r','e','v','e','r'].reverse)=ac Manifest.sig_reversed:=by kernel_rfl
theorem ed:Slot "reversed" "__next__" "reversed.__next__":=
 .of (owner:="reversed") (n:="__next__") (by rw[Cy,BB];kernel_rfl) (by decide +kernel) (by decide +kernel) (by decide +kernel)
  (by first | exact .inl (by decide +kernel) | exact .inr (by decide +kernel)) (by rw[Cj];kernel_rfl)
theorem j9:entryFor table "reversed.__next__"=ac Bz.«reversed.__next__»:=entryFor_of_tree (by kernel_rfl)
theorem k7(a:yR):Dr "reversed.__next__" ⟨[a],[]⟩:=by
 unfold Dr;rw[signature?_of (id:="reversed.__next__") (n:=['_','_','t','x','e','n','_','_']) (o:=['d','e','s','r','e','v','e','r']) (by kernel_rfl) qZ];kernel_rfl
theorem kR:Slot "reversed" "__iter__" "reversed.__iter__":=
 .of (owner:="reversed") (n:="__iter__") (by rw[Cy,BB];kernel_rfl) (by decide +kernel) (by decide +kernel) (by decide +kernel)
  (by first | exact .inl (by decide +kernel) | exact .inr (by decide +kernel)) (by rw[Cj];kernel_rfl)
theorem args_rev_iter(a:yR):Dr "reversed.__iter__" ⟨[a],[]⟩:=by
 unfold Dr;rw[signature?_of (id:="reversed.__iter__") (n:=['_','_','r','e','t','i','_','_']) (o:=['d','e','s','r','e','v','e','r']) (by kernel_rfl) qZ];kernel_rfl
theorem entry_rev_iter:entryFor table "reversed.__iter__"=ac Bz.«dict_keyiterator.__iter__»:=
 entryFor_alias (id':="dict_keyiterator.__iter__") (by kernel_rfl) (by first | rfl | decide +kernel | (unfold String.splitOn;simp +decide [String.splitOnAux])) (by decide +kernel) (by kernel_rfl)
theorem lookup_tuple_reversed:typeLookup (.type "tuple") "__reversed__"=pure y7:=by rw[Cy,BB];kernel_rfl
noncomputable abbrev rvO(l:y0)(i:Int):Obj:={ cls:=.type "reversed",data:=.fields #[.ref l,Bw i] }
theorem kT:Slot "reversed" "__init__" "object.__init__":=
 .of (owner:="object") (n:="__init__") (by rw[Cy,BB];kernel_rfl) (by decide +kernel) (by decide +kernel) (by decide +kernel)
  (by first | exact .inl (by decide +kernel) | exact .inr (by decide +kernel)) (by rw[Cj];kernel_rfl)
theorem called_rev:TypeCalled "reversed" "reversed.__new__" "object.__init__":=
 ⟨by decide +kernel,F.create_reversed,⟨_,_,F.mro_reversed⟩,F.made_reversed,F.plain_reversed_new,F.sub_reversed_self,kT⟩
section
variable {Fd:zv} {w:zD} {A:zF} {E:yR->yY->Prop} {s:yY}
theorem code_rev_tuple{l:y0}{items:zw yR}{Q₁:yR->yY->Prop}(f:PyProof.Rows.IsTup s.heap l items)(hz:(items.size:Int)<2 ^ 63)
  (h:∀ tk,Q₁ (.ref s.heap.objs.size) { s with heap:=s.heap.push (rvO l ((items.size:Int) - 1)),toks:=tk }) :
  EC (y6 Fd w) A (.call (.builtin "reversed.__new__") ⟨[.type "reversed",.ref l],[]⟩) (wants Q₁ E) s:=by
 have c:s.TypeIs (.ref l) "tuple":=let ⟨o,ho,hc,_⟩:=f;⟨o,ho,hc⟩;refine codeAny_of_tree ?_;show wpAny _ A.in1 (do checkBuiltinCall "reversed.__new__" ⟨[.type "reversed",.ref l],[]⟩;again (.builtin "reversed.__new__" ⟨[.type "reversed",.ref l],[]⟩)) _ _ s
 refine yT (BH (F.newCall_reversed_1 _) (y9 ⟨DK F.plain_reversed_new _,B7 F.entry_reversed_new ?_⟩));rw[Around.under_plainId F.plain_reversed_new _];unfold Bz.«reversed.__new__»;refine yT (BH (newClass_reversed _) ?_)
 try dsimp only
 refine yT (BH (a:=()) (by first | rfl | kernel_rfl) ?_)
 refine yT (BH (a:=()) (by first | rfl | kernel_rfl) ?_)
 try dsimp only
 refine yT (D2 c lookup_tuple_reversed ?_)
 try dsimp only
 refine yT (yT (CZ (T:="tuple") (b:=yM) c (by rw[Cj];kernel_rfl) ?_))
 rw[za y5];refine yT (D2 c F.slot_tuple_getitem.lookup ?_);dsimp only;rw[y8 (by decide)]
 refine y9 ?_;rw[za (by decide)]
 refine yT (PyProof.Rows.len_tuple f hz ?_);refine yT (BH (a:=ac (items.size:Int)) QQ ?_);dsimp only;refine yT ?_;refine Ah (data:=.fields #[.ref l,Bw ((items.size:Int) - 1)]) (y9 (h _)) (by size_fits)
theorem call_rev_tuple{l:y0}{items:zw yR}{Q:yR->yY->Prop}(c:PyProof.Rows.IsTup s.heap l items)(hz:(items.size:Int)<2 ^ 63)
  (h:∀ tk,Q (.ref s.heap.objs.size) { s with heap:=s.heap.push (rvO l ((items.size:Int) - 1)),toks:=tk }):wpAny (y6 Fd w) A (call (.type "reversed") [.ref l]) Q E s:=by
 refine callType_codes (Q₁:=λobj a=>∃ tk,obj=.ref s.heap.objs.size/\a={ s with heap:=s.heap.push (rvO l ((items.size:Int) - 1)),toks:=tk }) called_rev (F.typeCall_reversed_1 _) F.entry_object_init (code_rev_tuple c hz λtk=>⟨tk,QQ,QQ⟩) ?_
 rintro obj a ⟨tk,rfl,rfl⟩;have b:Shared.TypeIs { s with heap:=s.heap.push (rvO l ((items.size:Int) - 1)),toks:=tk } (.ref s.heap.objs.size) "reversed":=⟨_,Heap.get?_push_size _ QQ,QQ⟩
 refine⟨b,F.args_object_init_2 _ _,?_⟩;exact object_init_meets kT.lookup F.made_reversed (by decide) Fd w A.in1 _ _ ⟨b,QQ,h tk⟩
end
section
variable {Fd:zv} {w:zD} {A:zF} {E:yR->yY->Prop} {s:yY}
noncomputable def od(h:Heap)(a l:y0)(i:Int):Prop:=∃ o,h.get? a=ac o/\o.cls=.type "reversed"/\o.data=.fields #[.ref l,Bw i]
theorem od.typeIs{a l:y0}{i:Int}(x:od s.heap a l i):s.TypeIs (.ref a) "reversed":=let ⟨o,ho,hc,_⟩:=x;⟨o,ho,hc⟩
theorem next_rv_item{c l:y0}{i:Nat}{items:zw yR}{x:yR}{Q:yX yR->yY->Prop}(hit:od s.heap c l (i:Int))(m:PyProof.Rows.IsTup s.heap l items)(hz:(items.size:Int)<2 ^ 63)(n:items[i]?=ac x)
  (t:∀ h' tk,od h' c l ((i:Int) - 1)->Heap.SameBut c s.heap h'->Q (ac x) { s with heap:=h',toks:=tk }):wpAny (y6 Fd w) A (Ca (.ref c)) Q E s:=by
 obtain⟨o,b,h,f⟩:=id hit;have q:i<items.size:=(Array.getElem?_eq_some_iff.mp n).1;have u:s.TypeIs (.ref l) "tuple":=let ⟨o,b,h,_⟩:=m;⟨o,b,h⟩;unfold Ca;refine yT (C9 (BX (name:=yO "__next__") hit.typeIs ed
  (AV ed hit.typeIs j9 ?_ (k7 _))))
 unfold Bz.«reversed.__next__»;refine yT (BH (a:=(Value.ref c,[])) QQ ?_)
 try dsimp only
 refine yT (CC b f (x:=.ref l) QQ ?_);refine yT (CC b f (x:=Bw (i:Int)) QQ ?_);show wpAny _ _ (if (i:Int)<0 then _ else _) _ _ s
 rw[za (uS)];refine yT (D2 u F.slot_tuple_getitem.lookup ?_);rw[za (by simp)]
 refine yT (wpAny_mkInt ?_);refine yT (C9 (PyProof.Rows.getItem_tuple (j:=i) m (om184) (om185 hz q) ?_ n ?_))
 ·have h1:idx (i:Int) items.size=ac i:=by unfold idx;rw[y8 (om186 q)];rfl
  exact (sA h1).1
 ·refine yT (CC b f (x:=Bw (i:Int)) QQ ?_)
  show wpAny _ _ (Do (.ref c) 1 (Bw ((i:Int) - 1)) >>= _) _ _ _;refine yT (Dw b f (by simp) ?_)
  refine y9 ⟨x,QQ,y9 (t _ _ ?_ (Heap.SameBut.update ..))⟩;exact⟨_,Heap.get?_update_self _ b (Obj.isFreed_of_fields (Obj.data_mapFields f _)),(Obj.cls_mapFields ..).trans h,by
   rw[Obj.data_mapFields f];simp⟩
theorem next_rv_end{f l:y0}{Q:yX yR->yY->Prop}(j:A.handled=y7)(hit:od s.heap f l (-1))
  (n:∀ h',Heap.ExtBut f s.heap h'->Q y7 { s with heap:=h' }):wpAny (y6 Fd w) A (Ca (.ref f)) Q E s:=by
 obtain⟨o,h,q,c⟩:=id hit;unfold Ca;refine yT (C9 (BX (name:=yO "__next__") hit.typeIs ed
  (AV ed hit.typeIs j9 ?_ (k7 _))))
 unfold Bz.«reversed.__next__»;refine yT (BH (a:=(Value.ref f,[])) QQ ?_)
 try dsimp only
 refine yT (CC h c (x:=.ref l) QQ ?_);refine yT (CC h c (x:=Bw (-1)) QQ ?_);show wpAny _ _ (if (-1:Int)<0 then _ else _) _ _ s
 rw[y8 (by decide)]
 refine yT (Dy ?_);refine yT (yT (Dw h c (by simp) ?_))
 have i:=Heap.get?_update_self (Obj.mapFields (λvs=>vs.setIfInBounds 1 (Bw (-1)))) h (Obj.isFreed_of_fields (Obj.data_mapFields c _))
 refine Dw i (Obj.data_mapFields c _) (by simp) ?_
 first
 | show wpAny _ _ (Ek (.type "StopIteration") [] >>= _) _ _ _
 | (refine yT ?_;show wpAny _ _ (Ek (.type "StopIteration") [] >>= _) _ _ _)
 refine yT ?_;simp only[Ek,newTuple];refine yT (Ah ?_ (by size_fits))
 refine yT (m:=CP _ _) (BH (a:=Value.none) (by first | rfl | (simp only[CP];rfl)) ?_)
 refine Ah ?_ (by size_fits)
 simp only[EH];refine yT (wpAny_handled ?_);rw[show A.in1.handled=y7 from j];refine yT (y9 (wpAny_throw ?_));refine yT (CZ (T:="StopIteration") (b:=yP) ⟨_,Heap.get?_push_size _ QQ,QQ⟩ isSubtype_stop ?_);exact y9 (n _ (((((Heap.SameBut.update ..).trans (Heap.SameBut.update ..)).extBut).push _).push _))
end
section
variable {Fd:zv} {w:zD} {A:zF} {E:yR->yY->Prop} {s:yY}
theorem v7{a l:y0}{i:Int}{Q:yR->yY->Prop}(hit:od s.heap a l i)(h:Q (.ref a) s):wpAny (y6 Fd w) A (DG (.ref a)) Q E s:=by
 refine DB hit.typeIs kR (AV kR hit.typeIs entry_rev_iter ?_ (args_rev_iter _));show wpAny _ _ (ret (.ref a)) _ _ s;exact y9 ⟨_,QQ,"reversed",_,hit.typeIs,ed.lookup,h⟩
theorem od.at{h h':Heap}{a l:y0}{i:Int}(x:od h a l i)(e:∀ o,h.get? a=ac o->h'.get? a=ac o):od h' a l i:=let ⟨o,ho,r⟩:=x;⟨o,e _ ho,r⟩
theorem pI{h h':Heap}{a:y0}{vs:zw yR}(x:PyProof.Rows.IsTup h a vs)(e:∀ o,h.get? a=ac o->h'.get? a=ac o):PyProof.Rows.IsTup h' a vs:=let ⟨o,ho,r⟩:=x;⟨o,e _ ho,r⟩
theorem walks_rv(z:A.handled=y7)(I l:y0)(q:l≠I)(items:zw yR)(hz:(items.size:Int)<2 ^ 63) :
  C0 Fd w A I [I,l] [I] items.size (λi v=>items[items.size - 1 - i]?=ac v) (λi h=>i<=items.size/\od h I l ((items.size:Int) - 1 - (i:Int))/\PyProof.Rows.IsTup h l items) where
 sub:=λb c=>by simp at c;simp[c]
 frame:=λZ Z Z x u=>⟨x.1,x.2.1.at λo e=>u I (by simp) o e,pI x.2.2 λo e=>u l (by simp) o e⟩
 item:=λi s Q E f x j=>by
  have e:(items.size:Int) - 1 - (i:Int)=((items.size - 1 - i:Nat):Int):=by exact om187 f
  have hit:=x.2.1;rw[e] at hit;have y:items[items.size - 1 - i]?=ac (items[items.size - 1 - i]'(om188 f)):=Bi (om188 f);refine next_rv_item hit x.2.2 hz y λh' tk a m=>?_
  have B:((items.size - 1 - i:Nat):Int) - 1=(items.size:Int) - 1 - ((i+1:Nat):Int):=by exact om189 f
  rw[B] at a;exact j _ h' tk y ⟨f,a,pI x.2.2 λo n=>(m.2 l q).trans n⟩ λb o c n=>m.extBut b o (λh=>c (by simp[h])) n
 done:=λs Q E x j=>by
  have e:(items.size:Int) - 1 - (items.size:Int)=-1:=by exact om190
  have hit:=x.2.1;rw[e] at hit;exact next_rv_end z hit λh' t=>j h' s.toks λb o c n=>t b o (λh=>c (by simp[h])) n
 self:=λZ Z Z Z x j=>v7 x.2.1 j
end
section
variable {Fd:zv} {w:zD} {A:zF} {E:yR->yY->Prop} {s:yY} {H:y0->Prop}
theorem item_rev{P:zT}{h:Heap}{vs:zw yR}{ds:yN D}(b:ao P h H vs.toList ds){i:Nat}{v:yR}(hi:i<ds.reverse.length)(a:vs[ds.reverse.length - 1 - i]?=ac v):∃ d,ds.reverse[i]?=ac d/\Rep P h H v d:=by
 rw[Dg] at hi a;rw[List.getElem?_reverse hi];exact v8 b (y3 (Dt _ _) (AW (y3 (zn _) hi) AQ)) a
theorem iter_rvs{x:yR}{ds:yN D}(y:Rep w.params s.heap H x (.tup ds))(B:A.handled=y7) :
  wpAny (y6 Fd w) A (call (.type "reversed") [x]) (λv c=>wpAny (y6 Fd w) A (DG v) (qx Fd w A s H ds.reverse) E c) E s:=by
 refine y.tupE λa vs n f C G j=>?_
 have e:vs.size=ds.reverse.length:=j.size.trans Dg.symm;have t:(vs.size:Int)<2 ^ 63:=by rw[j.size];exact se G
 refine call_rev_tuple (fC f) t λtk=>?_
 have u:od (s.heap.push (rvO a ((vs.size:Int) - 1))) s.heap.objs.size a ((vs.size:Int) - 1):=⟨_,Heap.get?_push_size _ QQ,QQ,QQ⟩;have W:C0 Fd w A s.heap.objs.size [s.heap.objs.size,a] [s.heap.objs.size] ds.reverse.length (λi v=>vs[ds.reverse.length - 1 - i]?=ac v) (λi h=>i<=ds.reverse.length/\od h s.heap.objs.size a ((ds.reverse.length:Int) - 1 - (i:Int))/\PyProof.Rows.IsTup h a vs):=e▸walks_rv B s.heap.objs.size a (zO (Heap.lt_size f)) vs t
 refine v7 (s:={ s with heap:=s.heap.push (rvO a ((vs.size:Int) - 1)),toks:=tk }) u ⟨.mk _ _ _ λZ Z e=>Heap.gt_push_of_some _ e,dq _,⟨_,Heap.gt_push_size _ QQ⟩,W,
  ⟨zn _,?_,pI (fC f) λo e=>Heap.get?_push_of_some _ e⟩,λb m=>fO m .inl λe=>.inr (e▸⟨C,_,Heap.gt_of f⟩),λi v I J=>item_rev j I J,λi h st=>st.2.1.elim λo q=>⟨o,Heap.gt_of q.1 (eG q.2.1 (by decide))⟩,
  λb m i h o st e=>fO m (λq=>st.2.1.elim λL z=>fW (q▸z.1) e (eG z.2.1 (by decide))) λq=>st.2.2.elim λL z=>fW (q▸z.1) e (eG z.2.1 (by decide))⟩
 rw[Int.natCast_zero,Int.sub_zero,<- e];exact u
end
theorem pR:∀ (σ:St),freeze [] σ=σ
 | []=>rfl
 | (x,(o,d))::r=>by
  have:=pR r;unfold freeze at this ⊢;rw[zm,this];simp
theorem settle_nil(d:D)(σ:St):settle d [] σ=σ:=by
 unfold settle
 split
 ·rfl
 ·exact pR σ
theorem px(E7:Own):E7.less []=E7:=by
 funext x
 simp[Own.less]
section
variable {Fd:zv} {w:zD} {A:zF} {Fe:Heap} {mg mb:Str->yX yR} {cf:CF}
variable {E6 h h':Heap} {Fj:Env} {E5:y0->Prop} {E7:Own} {m:Str->yX yR} {σ:St} {I:y0}
section
variable {r:Fl×St}{C:Prop}{e:ME}
theorem wy{b:y0}(q:Hot Fj (λb=>E5 b\/b=I) E7 b):Hot Fj E5 E7 b\/b=I:=q.elim (λq=>q.elim (λq=>.inl (.inl q)) .inr) λq=>.inl (.inr q)
theorem hot_sub{b:y0}(q:Hot Fj E5 E7 b):Hot Fj (λb=>E5 b\/b=I) E7 b:=q.imp .inl id
theorem bG.addH(S:bG w Fe E6 h Fj E5 E7 m σ)(c:KH h h')(i:gat h I=y7)(f:∃ o,gat h' I=ac o) :
  bG w Fe E6 h' Fj (λb=>E5 b\/b=I) E7 m σ:=
 S.to (S.rep.keeps c) (λb o Z e=>c b o e) (λZ a o Z e=>c a o e) (λb o e q=>(wy q).elim id λq=>cz e (q▸i)) (λb o e=>c b o (S.keep b o e)) (λb q=>q.elim (λq=>(S.hot.ex b (.inl q)).elim λj z=>z.elim λo z=>⟨j,o,z.1,c _ _ z.2⟩) λq=>f.elim λo z=>⟨I,o,q▸ze _,z⟩)
  λx a e q=>q.elim (S.own1 x a e).2.1 λq=>(S.ownx x a e).elim λo z=>cz z (q▸i)
theorem xX(a:Mv I h h'):oa h (Hot Fj (λb=>E5 b\/b=I) E7) h':=λb o c e=>a b o (λq=>c (q▸.inl (.inr QQ))) e
theorem bG.turnI(S:bG w Fe E6 h Fj (λb=>E5 b\/b=I) E7 m σ)(c:Mv I h h')(f:∃ o,gat h' I=ac o)(j:¬ frm Fj I)(n:gat E6 I=y7) :
  bG w Fe E6 h' Fj (λb=>E5 b\/b=I) E7 m σ:=
 S.to (S.rep.keepsAt λb o s e=>c b o (λq=>j (q▸s)) e) (xX c) (λx a o t e=>c a o (λq=>(S.own1 x a t).2.1 (.inr q)) e) (λZ Z Z q=>q) (λb o e=>c b o (λq=>cz e (q▸n)) (S.keep b o e))
  (λb q=>(S.hot.ex b (.inl q)).elim λi z=>z.elim λo z=>(Classical.em (i=I)).elim (λe=>f.elim λu y=>⟨I,u,e▸z.1,y⟩) λe=>⟨i,o,z.1,c i o e z.2⟩) λx a e=>(S.own1 x a e).2.1
theorem bG.leave(S:bG w Fe E6 h Fj (λb=>E5 b\/b=I) E7 m σ)(c:Mv I h h')(f:Ex h' E5)(i:¬ frm Fj I)(j:gat E6 I=y7) :
  bG w Fe E6 h' Fj E5 E7 m σ:=
 S.to (S.rep.keepsAt λb o n e=>c b o (λq=>i (q▸n)) e) (xX c) (λx a o f e=>c a o (λq=>(S.own1 x a f).2.1 (.inr q)) e) (λZ Z Z q=>hot_sub q) (λb o e=>c b o (λq=>cz e (q▸j)) (S.keep b o e)) f λx a e q=>(S.own1 x a e).2.1 (.inl q)
theorem xi_ret(h:exS cf (.ret e) σ=ac r)(c:∀ x d,e=.u x->σ.lookup x=ac (yP,d)->(.ret yP d,σ)=r->C)(k:∀ d fr,evF cf (vis σ) e=ac (d,fr)->(.ret fr d,σ)=r->C):C:=by
 rw[uE] at h;cases b:e.varOf with
 | none=>
  rw[b] at h;dsimp only at h;cases a:evF cf (vis σ) e with
  | none=>rw[a] at h;exact aj h
  | some p=>rw[a] at h;exact k p.1 p.2 a (yW h)
 | some x=>
  rw[b] at h;dsimp only at h;cases a:σ.lookup x with
  | none=>rw[a] at h;exact aj h
  | some p=>
   rw[a] at h;obtain⟨fr,d⟩:=p;refine varOf_inv (C:=λe=>e=.u x) b QQ |> λq=>?_
   cases fr with
   | true=>exact c x d q a (yW h)
   | false=>exact k d yM (q.symm▸by show (evE cf (vis σ) (.u x)).map _=_;rw[ig,cB,a];rfl) (yW h)
theorem ss_ret(Z:Cx Fd w A Fe mg mb cf)(e:ME):SS Fd w A Fe cf (.ret e):=λs Fj st E5 E6 E7 m σ r E c S f=>
 IRet.rec (motive:=λst Y=>wpAny (y6 Fd w) A (CR st Fj) (bg w Fe E6 Fj E5 s E7 r) E s) (λ{v h} c=>xi_ret f (λx d q i j=>by
  subst j q;refine uC.rec (motive:=λv Y=>wpAny (y6 Fd w) A (CR (.Return (ac v) h) Fj) _ E s) (λB=>(S.owned x d i).elim λa q=>wpAny_Return_some (gf S.rep B q.2.1 ?_)) (ja c)
  have o:=q.2.2.sub (H':=E5) λY q=>.inl q
  have g:=S.own1 x a q.1;exact bg.rt (tk:=s.toks) (dw:=s.drawn) (.of (λY Y e=>e) λY Y e=>nomatch e) ⟨o.rep g.2.1,S.keep,λY=>⟨g.1,o⟩⟩)
  λd fr i j=>j▸wpAny_Return_some (xC Z S c i λu Fk n t z C y=>bg.rt (.of z λY Y e=>nomatch e) ⟨C.sub λY q=>.inl q,λb o e=>z b o (S.keep b o e),λG=>((y G).old S.keep).sub λY q=>.inl q⟩)) (inv_ret c)
theorem rR{s:Heap}{E7 Fg:Own}{x:yS}{L:y0}{Fk E0:Heap}(c:∀ x a,Fg x=ac a->E7 x=ac a)(f:KH s Fk)(i:Fg x=ac L)(h:∀ b,b≠L->∀ {o},gat Fk b=ac o->gat E0 b=ac o)(j:∃ o,gat E0 L=ac o):Tr s Fj E7 E0 Fg:=
 ⟨λb o e Z m=>h b (λq=>m x (c x b (q▸i))) (f b o e),λb o e=>by
  by_cases q:b=L
  ·exact q▸j
  ·exact⟨o,h b q (f b o e)⟩,λy a e=>.inl (c y a e)⟩
theorem tU{k:KD}{x:Str}(h:cw k x=yP):gO k x=yP:=bR h λZ h=>h
theorem xi_append{x:yS}(h:exS cf (.append x e) σ=ac r)(k:∀ d ds,evE cf (vis σ) e=ac d->(Mine.settle d e.names σ).lookup x=ac (yP,.list ds)->ds.length<big->(.next,az (Mine.settle d e.names σ) x (yP,.list (ds++[d])))=r->C):C:=
 bK (a:=evE cf (vis σ) e) (f:=λd=>match (Mine.settle d e.names σ).lookup x with
  | some (yP,.list ds)=>if ds.length<big then ac (Fl.next,az (Mine.settle d e.names σ) x (yP,.list (ds++[d]))) else none
  | _=>none) h λd c h=>by
  cases b:(Mine.settle d e.names σ).lookup x with
  | none=>rw[b] at h;exact aj h
  | some p=>
   rw[b] at h;obtain⟨o,i⟩:=p;cases o with
   | false=>exact aj h
   | true=>cases i with
    | list ds=>exact bj h λj e=>k d ds c b j e
    | _=>exact aj h
theorem ss_append(Z:Cx Fd w A Fe mg mb cf)(x:yS)(e:ME):SS Fd w A Fe cf (.append x e):=λs Fj st E5 E6 E7 m σ r E C S H=>
 xi_append H λd ds Fo y z Fp=>Fp▸sT.rec (motive:=λst EV=>wpAny (y6 Fd w) A (CR st Fj) (bg w Fe E6 Fj E5 s E7 (.next,az (Mine.settle d e.names σ) x (yP,.list (ds++[d])))) E s) (λ{Fz FA a p Fq} I j C=>by
  have T:=S.settle d e.names;refine (T.owned x _ y).elim λL q=>jn.rec (motive:=λEV=>_) (λ{vs n} U Fs V=>?_) q.2.2
  have c:B9 [a] Fj=[(yM,zQ a Fj)]:=iq C;refine wpAny_Expr (wpAny_Call_append QQ (by rw[c];rfl) (by simpa using j) (by rw[c];rfl) (gf S.rep (tU I) q.2.1 ⟨L,vs,QQ,⟨_,n,U,QQ,QQ,QQ⟩,?_⟩)) (by unfold interactive;rw[S.rep.kind];rfl) QQ
  refine nC Z S C Fo λu Fk J M G Ft=>?_
  have B:=Heap.of_gt (G _ _ (Heap.gt_of U));refine Dz (items:=vs) ⟨n,B⟩ (λE0 t f=>?_) (V.size.symm▸Fs)
  have h:∃ X,E0.get? L=ac (fY (vs.push u) X):=t;have Y:Mv L Fk E0:=λb o N e=>g1 f (ce B) b N e
  have Fu:∀ b,(Hot Fj E5 (ew E7 d e.names) b\/b=L)->Hot Fj E5 (ew E7 d e.names) b:=λb O=>O.elim id λO=>O▸.inr (.inr ⟨x,q.1⟩)
  have i:jn w.params E0 (Hot Fj E5 (ew E7 d e.names)) L (ds++[d]):=h.elim λX Fv=>⟨Fv,by rw[zd];exact z,by
   rw[CH];exact ((V.keeps G).append (.cons ((jG Ft).sub Fu) .nil)).mono (λb o Fw e=>Y b o (λq=>Fw (.inr q)) e) λEV EV EV q=>q⟩
  exact bg.nx (rR (λEV EV e=>ix e) G q.1 (λb N EV e=>Y b _ N e) (dM.ex (d:=.list _) i)) ((T.keeps G).turn y q.1 f (d:=.list _) i)) (inv_append C)
theorem xi_setk{x:yS}{ke:ME}(h:exS cf (.setk x ke e) σ=ac r)(k:∀ d b ks vs,evE cf (vis σ) e=ac d->evE cf (vis σ) ke=ac b->(Mine.settle b ke.names (Mine.settle d e.names σ)).lookup x=ac (yP,.dict ks vs)->dQ b ks=yP->ks.length<big ->
  (.next,az (Mine.settle b ke.names (Mine.settle d e.names σ)) x (yP,.dict (dK ks vs b d).1 (dK ks vs b d).2))=r->C):C:=
 bK (a:=evE cf (vis σ) e) (f:=λd=>oE (evE cf (vis σ) ke) λb=>match (Mine.settle b ke.names (Mine.settle d e.names σ)).lookup x with
  | some (yP,.dict ks vs)=>if (dQ b ks&&decide (ks.length<big))=yP then ac (Fl.next,az (Mine.settle b ke.names (Mine.settle d e.names σ)) x (yP,.dict (dK ks vs b d).1 (dK ks vs b d).2)) else none
  | _=>none) h λd j h=>bK h λb c h=>by
  cases i:(Mine.settle b ke.names (Mine.settle d e.names σ)).lookup x with
  | none=>rw[i] at h;exact aj h
  | some p=>
   rw[i] at h;obtain⟨o,m⟩:=p;cases o with
   | false=>exact aj h
   | true=>cases m with
    | dict ks vs=>exact bj h λn e=>bR n λh1 q=>k d b ks vs j c i h1 (zS q) e
    | _=>exact aj h
theorem less_less{E7:Own}{d:D}{ns b:yN yS}:∀ x a,(ew E7 d ns).less b x=ac a->E7.less b x=ac a:=λx a e=>by
 unfold Own.less at e ⊢;split at e <;> first | cases e | (rename_i c;rw[za c];exact ix e)
theorem ss_setk(Z:Cx Fd w A Fe mg mb cf)(x:yS)(ke e:ME):SS Fd w A Fe cf (.setk x ke e):=λs Fj st E5 E6 E7 m σ r E Fo S H=>
 xi_setk H λd n ks vs Fp I t J M Fq=>Fq▸yD.rec (motive:=λst EV=>wpAny (y6 Fd w) A (CR st Fj) (bg w Fe E6 Fj E5 s E7 (.next,az (Mine.settle n ke.names (Mine.settle d e.names σ)) x (yP,.dict (dK ks vs n d).1 (dK ks vs n d).2))) E s) (λ{FA i p v Fs} N O T=>by
  have U:=(S.settle d e.names).settle n ke.names;refine (U.owned x _ t).elim λL q=>wpAny_Assign_Subscript (nC Z S T Fp λu Fk c f V Ft=>gf (s:={ s with heap:=Fk,toks:=c,drawn:=f }) (S.rep.keeps V) (tU N) q.2.1 ?_) (by cases v <;> rfl)
  have Fu:bG w Fe E6 ({ s with heap:=Fk,toks:=c,drawn:=f }:yY).heap Fj E5 E7 m σ:=S.keeps V
  refine nC Z Fu O I λFE E0 y B G Fv=>?_
  have C:KH s.heap E0:=λb o e=>G b o (V b o e)
  have h:∀ b,Hot Fj E5 (ew (ew E7 d e.names) n ke.names) b\/b=L->Hot Fj E5 (ew (ew E7 d e.names) n ke.names) b:=λb z=>z.elim id λz=>z▸.inr (.inr ⟨x,q.1⟩)
  have X:n9 w.params E0 (Hot Fj E5 (ew (ew E7 d e.names) n ke.names)) L ks vs:=(U.keeps C).ownAt t q.1;refine nB (s:={ s with heap:=E0,toks:=y,drawn:=B }) Z.hu.u1 X ((jG (Fv.sub λEV q=>q.mono (λEV q=>q) less_less)).sub h) ((jG Ft).mono (λb o EV e=>G b o e) λb o EV q=>(h b q).mono (λEV q=>q) λEV EV=>ix) J M λh' tk dw Y j=>?_
  have Fw:∀ o,E0.get? L=ac o->bL o=yM:=dM.notTab (d:=.dict _ _) X;exact bg.nx (rR (λEV a e=>ix (ix e)) C q.1 (λb Fz EV e=>g1 Y Fw b Fz e) (dM.ex (d:=.dict _ _) j)) ((U.keeps C).turn t q.1 Y (d:=.dict _ _) j)) (inv_setk Fo)
theorem uF{M:Model}{s:yY}{E:yR->yY->Prop}{c:Sem DC}{Q:DC->yY->Prop}(hq:wpAny M A c (bg w Fe E6 Fj E5 s E7 r) E s)
  (a:∀ h tk dw E4 m,r.1=.next->Tr s.heap Fj E7 h E4->bG w Fe E6 h Fj E5 E4 m r.2->Q .next { s with heap:=h,toks:=tk,drawn:=dw })
  (b:∀ h tk dw fr d v,r.1=.ret fr d->Tr s.heap Fj E7 h vR->w8 w E6 h E5 v fr d->Q (.ret v) { s with heap:=h,toks:=tk,drawn:=dw }):wpAny M A c Q E s:=
 CW hq (λf s' q=>q Q a b) λZ Z e=>e
theorem rV:SSs Fd w A Fe cf []:=λs Fj b E5 E6 E7 m σ r E c S a=>
 kO (C:=λb=>wpAny (y6 Fd w) A (C3 b Fj) (bg w Fe E6 Fj E5 s E7 r) E s) c (B8 (yW a▸bg.nx (tk:=s.toks) (dw:=s.drawn) (.keeps λZ Z e=>e) S))
theorem rM{a:MS}{l:yN MS}(h:bn cf (a::l) σ=ac r)(f:∀ b,exS cf a σ=ac (.next,b)->bn cf l b=ac r->C)(k2:∀ fr d,exS cf a σ=ac r->r.1=.ret fr d->C):C:=by
 rw[oP] at h;cases c:exS cf a σ with
 | none=>rw[c] at h;exact aj h
 | some p=>
  rw[c] at h;obtain⟨i,b⟩:=p;cases i with
  | next=>exact f b c h
  | ret fr d=>exact k2 fr d (c.trans h) (zj Prod.fst (yW h)).symm
theorem s9{a:MS}{l:yN MS}(u:SS Fd w A Fe cf a)(B:SSs Fd w A Fe cf l):SSs Fd w A Fe cf (a::l):=λs Fj C E5 E6 E7 m σ r E y S i=>by
 cases C with
 | nil=>cases y
 | cons st j=>
  exact bR y λc n=>rM i (λb h1 o=>A8 (uF (u s Fj st E5 E6 E7 m σ _ E c S h1) (λh tk dw E4 m' Z t G=>bI (B _ Fj j E5 E6 E4 m' b r E n G o) λf z q=>q.trans t) λZ Z Z Z Z Z e Z Z=>nomatch e))
   λfr d h1 o=>A8 (uF (u s Fj st E5 E6 E7 m σ r E c S h1) (λZ Z Z Z Z e Z Z=>nomatch o.symm.trans e) λh tk dw fr d v e t R Q Z H=>H h tk dw fr d v e t R)
theorem xm{c:ME}{t f:yN MS}(h:exS cf (.ite c t f) σ=ac r)(k:∀ d b,evE cf (vis σ) c=ac d->bW d=ac b->bn cf (if b then t else f) σ=ac r->C):C:=
 bK (a:=evE cf (vis σ) c) (f:=λd=>match bW d with
   | some yP=>bn cf t σ
   | some yM=>bn cf f σ
   | none=>none) h λd j h=>by
  cases i:bW d with
  | none=>rw[i] at h;exact aj h
  | some b=>rw[i] at h;cases b <;> exact k d _ j i h
theorem ss_ite(Z:Cx Fd w A Fe mg mb cf){c:ME}{t f:yN MS}(z:SSs Fd w A Fe cf t)(B:SSs Fd w A Fe cf f):SS Fd w A Fe cf (.ite c t f):=λs Fj st E5 E6 E7 m σ r E i S j=>
 xm j λd b C G y=>IIte.rec (motive:=λst Y=>wpAny (y6 Fd w) A (CR st Fj) (bg w Fe E6 Fj E5 s E7 r) E s) (λ{v I o p} i h1 H=>wpAny_If (qT Z S i C G λFk n u h=>by
  cases b with
  | true=>exact bI (z _ Fj _ E5 E6 E7 m σ r E h1 (S.keeps h) y) λf a q=>q.trans (.keeps h)
  | false=>exact bI (B _ Fj _ E5 E6 E7 m σ r E H (S.keeps h) y) λf a q=>q.trans (.keeps h))) (inv_ite i)
end
noncomputable def gU(w:zD)(Fe E6:Heap)(Fj:Env)(E5:y0->Prop)(s:yY)(E7:Own)(J:yN D->Own->St->Prop)(K:yU->D->St->Prop)(Fi:yN D)(f:DC)(s':yY):Prop:=
 ∀ Q:DC->yY->Prop,(∀ h tk dw E4 m σ,J Fi E4 σ->Tr s.heap Fj E7 h E4->bG w Fe E6 h Fj E5 E4 m σ->Q .next { s with heap:=h,toks:=tk,drawn:=dw }) ->
  (∀ h tk dw fr d v σ,K fr d σ->Tr s.heap Fj E7 h vR->w8 w E6 h E5 v fr d->Q (.ret v) { s with heap:=h,toks:=tk,drawn:=dw })->Q f s'
noncomputable def nf(f:DC):DC:=match f with | .cont=>.next | f=>f
theorem nf_in{P:DC->Prop}(h:P .next->P .cont)(f:DC)(q:P (nf f)):P f:=match f,q with
 | .cont,q=>h q
 | .next,q=>q
 | .brk,q=>q
 | .ret _,q=>q
theorem th{s s':yY}{r:Fl×St}{f:DC}(q:bg w Fe E6 Fj E5 s E7 r f s'):bg w Fe E6 Fj E5 s E7 r (nf f) s':=λQ a b=>q (λf s=>Q (nf f) s) a b
theorem jpost_nf{s s':yY}{J:yN D->Own->St->Prop}{K:yU->D->St->Prop}{Fi:yN D}{f:DC}(q:gU w Fe E6 Fj E5 s E7 J K Fi f s'):gU w Fe E6 Fj E5 s E7 J K Fi (nf f) s':=λQ a b=>q (λf s=>Q (nf f) s) a b
noncomputable def SSB(Fd:zv)(w:zD)(A:zF)(Fe:Heap)(cf:CF)(a:yN MS):Prop:=
 ∀ (s:yY) (Fj:Env) (b:yN Ag) (E5:y0->Prop) (E6:Heap) (E7:Own) (m:Str->yX yR) (σ:St) (r:Fl×St) (E:yR->yY->Prop),u5 Fj.kindOf b a=yP->bG w Fe E6 s.heap Fj E5 E7 m σ ->
  bn cf a σ=ac r->wpAny (y6 Fd w) A (C3 b Fj) (λf s'=>bg w Fe E6 Fj E5 s E7 r (nf f) s') E s
noncomputable def S1(Fd:zv)(w:zD)(A:zF)(Fe:Heap)(cf:CF)(a:MS):Prop:=SS Fd w A Fe cf a/\∀ c t f,a=.ite c t f->SSs Fd w A Fe cf f
noncomputable def S2(Fd:zv)(w:zD)(A:zF)(Fe:Heap)(cf:CF)(a:yN MS):Prop:=SSs Fd w A Fe cf a/\SSB Fd w A Fe cf a
theorem s1{a:MS}(h:SS Fd w A Fe cf a)(b:(a.ctorIdx == 3)=yM):S1 Fd w A Fe cf a:=⟨h,λc t f e=>by rw[e] at b;cases b⟩
theorem s2_nil:S2 Fd w A Fe cf []:=⟨rV,λs Fj b E5 E6 E7 m σ r E c S a=>bI (rV s Fj b E5 E6 E7 m σ r E c S a) λZ Z q=>th q⟩
theorem iteB_inv{a:MS}{g:ME->yN MS->yN MS->yU}{C:Prop}(h:(match a with | .ite c t f=>g c t f | _=>yM)=yP)(k:∀ c t f,a=.ite c t f->g c t f=yP->C):C:=by
 cases a with
 | ite c t f=>exact k c t f QQ h
 | _=>cases h
theorem xi_one{a:MS}{r:Fl×St}(h:bn cf [a] σ=ac r):exS cf a σ=ac r:=rM h (λb h1 c=>h1.trans c) λZ Z h Z=>h
theorem s2_cons(Z:Cx Fd w A Fe mg mb cf){a:MS}{l:yN MS}(z:S1 Fd w A Fe cf a)(O:S2 Fd w A Fe cf l):S2 Fd w A Fe cf (a::l):=⟨s9 z.1 O.1,λs Fj V E5 E6 E7 m σ r E hc S i=>by
 cases V with
 | nil=>cases hc
 | cons st n=>
  rw[cb_cons] at hc
  rcases Bd.mp hc with hc | hc
  ·exact bR hc λj u=>rM i (λy h1 H=>A8 (uF (z.1 s Fj st E5 E6 E7 m σ _ E j S h1) (λh tk dw E4 m' EV t X=>bI (O.2 _ Fj n E5 E6 E4 m' y r E u X H) λf T q=>q.trans t) λEV EV EV EV EV EV e EV EV=>nomatch e))
    λfr d h1 H=>A8 (uF (z.1 s Fj st E5 E6 E7 m σ r E j S h1) (λEV EV EV EV EV e EV EV=>nomatch H.symm.trans e) λh tk dw fr d v e t R Q EV Y=>Y h tk dw fr d v e t R)
  ·refine bR hc λI hc=>sN (C:=λst=>wpAny (y6 Fd w) A (C3 (st::n) Fj) _ E s) hc λv b o p hc=>iL hc λJ Fo hc=>iteB_inv hc λc t f U hc=>bR hc λFp hc=>bR hc λj u=>?_
   have i:=kO (C:=λl=>bn cf (a::l) σ=ac r->exS cf a σ=ac r) I xi_one i
   rw[U] at i;refine xm i λd Fq Fs L B=>A8 (wpAny_If (qT Z S j Fs L λFk M N G=>?_))
   cases Fq with
   | true=>exact eW (C:=λb=>wpAny (y6 Fd w) A (C3 b Fj) _ E _) Fo λst Ft=>Stmt.Continue.elim (motive_2:=λst=>wpAny (y6 Fd w) A (C3 [st] Fj) _ E _) st (zS Ft) λEV=>A8 (wpAny_Continue (kO (C:=λt=>bn cf t σ=ac r->bg w Fe E6 Fj E5 s E7 r .next _) Fp (λB=>yW B▸bg.nx (.keeps G) (S.keeps G)) B))
   | false=>
    have J:=Am.mp J;subst J;exact B8 (bI (z.2 c t f U _ Fj n E5 E6 E7 m σ r E u (S.keeps G) B) λEV EV q=>th (q.trans (.keeps G)))⟩
inductive yI(w:zD)(Fe E6 h1:Heap)(Fj:Env)(E5:y0->Prop)(I:y0)(E7:Own)(E8:yN D)(E1:Nat->Heap->Prop)(J:yN D->Own->St->Prop)(s:yY)(k:Nat):yY->Prop
 | mk {h tk dw done Fi E4 m' E2} (dr:E8=done++Fi) (st:E1 done.length h) (S:bG w Fe E6 h Fj (λb=>E5 b\/b=I) E4 m' E2) (t:Tr h1 Fj E7 h E4) (fr:J Fi E4 E2) (kn:k=Fi.length+1) :
  yI w Fe E6 h1 Fj E5 I E7 E8 E1 J s k { s with heap:=h,toks:=tk,drawn:=dw }
theorem ownS_nil(E7:Own)(d:D):ew E7 d []=E7:=by
 unfold ew;split
 ·rfl
 ·exact px E7
noncomputable def qA(Fd:zv)(w:zD)(A:zF)(Fe E6:Heap)(Fj:Env)(x:yS)(J:yN D->Own->St->Prop)(K:yU->D->St->Prop)(b:yN Ag):Prop:=
 ∀ (s:yY) (EY:y0->Prop) (E7:Own) (m:Str->yX yR) (σ:St) (dv:D) (Fi:yN D) (E:yR->yY->Prop),J (dv::Fi) E7 σ->bG w Fe E6 s.heap Fj EY (E7.set x y7) m (az σ x (yM,dv)) ->
  wpAny (y6 Fd w) A (C3 b Fj) (λf s'=>gU w Fe E6 Fj EY s (E7.set x y7) J K Fi (nf f) s') E s
section
variable {h1 hh1:Heap} {EX E4:Own} {E8 done Fi:yN D} {fp:yN y0} {P:Nat->yR->Prop} {E1:Nat->Heap->Prop}
theorem hot_tr(t:Tr h1 Fj EX h E4)(a:gat h1 I=y7){b:y0}{o:Obj}(e:gat h1 b=ac o)(q:Hot Fj (λb=>E5 b\/b=I) E4 b):Hot Fj E5 EX b:=
 (wy q).elim (λq=>q.imp id λq=>q.imp id λq=>q.elim λz q=>(t.o z b q).elim (λq=>⟨z,q⟩) λq=>cz e q) λq=>cz e (q▸a)
theorem kk_tr(t:Tr h1 Fj EX h E4)(c:Mv I h h')(f:gat h1 I=y7){b:y0}{o:Obj}(a:¬ Hot Fj E5 EX b)(e:gat h1 b=ac o):gat h' b=ac o:=
 c b o (λq=>cz e (q▸f)) (t.k b o e (λq=>a (.inr (.inl q))) λz q=>a (.inr (.inr ⟨z,q⟩)))
theorem tr_I(t:Tr h1 Fj EX h E4)(a:Mv I h h')(c:gat h1 I=y7):Tr h1 Fj EX h' E4:=
 ⟨λb o e i j=>a b o (λq=>cz e (q▸c)) (t.k b o e i j),λb o e=>(t.x b o e).elim λf m=>⟨f,a b f (λq=>cz e (q▸c)) m⟩,t.o⟩
theorem qK(W:C0 Fd w A I fp [I] E8.length P E1)(a:∀ b∈fp,b=I\/(¬ Hot Fj E5 EX b/\∃ o,gat h1 b=ac o))(tab:∀ b∈fp,∀ i h o,E1 i h->h.get? b=ac o->bL o=yM){Fg:Own}{i:Nat}(st:E1 i h)(t:Tr h1 Fj EX h E4)(u:Tr h Fj E4 h' Fg)(c:¬ frm Fj I)(f:∀ z,E4 z≠ac I):E1 i h':=
 eD W tab i h h' st λb j o e=>(a b j).elim (λq=>q▸(u.k I o (q▸e) c f)) λq=>u.k b o e (λz=>q.1 (.inr (.inl z))) λz y=>q.2.elim λn m=>(t.o z b y).elim (λy=>q.1 (.inr (.inr ⟨z,y⟩))) λy=>cz m y
end
section
variable {r:Fl×St}{C:Prop}
theorem ry{b:D->St->yX (Fl×St)}{dv:D}{Fi:yN D}{σ:St}(h:cG b (dv::Fi) σ=ac r)(k:∀ rb,b dv σ=ac rb->(rb.1=.next->cG b Fi rb.2=ac r)->(∀ fr d,rb.1=.ret fr d->(.ret fr d,rb.2)=r)->C):C:=by
 cases e:b dv σ with
 | none=>rw[cG,e] at h;exact aj h
 | some rb=>
  rw[cG,e] at h;obtain⟨c,a⟩:=rb;cases c with
  | next=>exact k _ e (λZ=>h) λZ Z e=>nomatch e
  | ret fr d=>exact k _ e (λe=>nomatch e) λi j q=>(zj (λf=>(f,a)) q.symm).trans (yW h)
theorem for_turn{x:yS}{FN:Pos}{b:yN Ag}{E8 done Fi:yN D}{dv:D}{J:yN D->Own->St->Prop}{K:yU->D->St->Prop}(Y:qA Fd w A Fe E6 Fj x J K b)
  {s:yY} {E7 EX E4:Own} {m':Str->yX yR} {E2:St} {h1:Heap} {tk:Nat} {dw:Drawn} {k:Nat} {fp:yN y0} {P:Nat->yR->Prop} {E1:Nat->Heap->Prop}
  (Fz:cw Fj.kindOf (yO x)=yP) (W:C0 Fd w A I fp [I] E8.length P E1) (Z:∀ b∈fp,b=I\/(¬ Hot Fj E5 EX b/\∃ o,gat h1 b=ac o)) (item:∀ i v,i<E8.length->P i v->∃ d,E8[i]?=ac d/\Rep w.params h1 (Hot Fj E5 EX) v d) (Fo:∀ i h,E1 i h->∃ o,gat h I=ac o) (tab:∀ b∈fp,∀ i h o,E1 i h->h.get? b=ac o->bL o=yM)
  (M:gat h1 I=y7) (N:¬ frm Fj I) (FA:gat E6 I=y7) (FO:Tr s.heap Fj E7 h1 EX)
  (FE:E8=done++dv::Fi) (st:E1 done.length h) (FJ:bG w Fe E6 h Fj (λb=>E5 b\/b=I) E4 m' E2) (t:Tr h1 Fj EX h E4) (Fp:J (dv::Fi) E4 E2) (kn:k=(dv::Fi).length+1)
  {FF:yR->yY->Prop} {R:yY->Prop} :
  wpAny (y6 Fd w) A (Ca (.ref I)) (λo G=>match o with
   | none=>R G
   | some v=>wpAny (y6 Fd w) A (assign (.Name (yO x) FN) Fj v) (λEV Fq=>wpAny (y6 Fd w) A (C3 b Fj) (λf c=>match f with
     | .next | .cont=>∃ m,m<k/\yI w Fe E6 h1 Fj E5 I EX E8 E1 J s m c
     | .brk=>gU w Fe E6 Fj E5 s E7 J K [] .next c
     | .ret v=>gU w Fe E6 Fj E5 s E7 J K [] (.ret v) c) FF Fq) FF G) FF { s with heap:=h,toks:=tk,drawn:=dw }:=by
 have Fs:done.length<E8.length:=by rw[FE,zd];exact AL (Az _)
 refine W.item done.length _ _ _ Fs st λv Fk j FG n O=>?_
 have FH:Mv I h Fk:=λb o Y e=>kr W tab st O b o (λq=>Y (zg.mp q)) e
 have FK:=FJ.turnI FH (Fo _ _ n) N FA;have H:=tr_I t FH M;have FP:Rep w.params Fk (Hot Fj (λb=>E5 b\/b=I) E4) v dv:=(item _ v Fs FG).elim λd q=>by
  have e:d=dv:=by
   have e1:=q.1;rw[FE,Av (ze _),CQ] at e1;exact (yW e1).symm
  exact e▸q.2.mono (λb o FQ e=>kk_tr t FH M FQ e) λb o e q=>hot_tr t M e q
 refine Ew (kz (s:={ s with heap:=Fk,toks:=j,drawn:=dw }) FK.rep (i9 Fz) λE0 T U a Ft FR FS=>?_)
 have Fu:=k9 (s:={ s with heap:=Fk,toks:=j,drawn:=dw }) (x:=x) (ns:=[]) (d:=dv) (fr:=yM) (v:=v) (Fk:=Fk) (E0:=E0) (a:=a) (X:=λEV=>False) FK (λEV EV e=>e)
  (by rw[px];exact FP.sub λEV q=>q.elim id False.elim) (λe=>nomatch e) Ft (FR.imp id λe=>⟨_,e⟩) (λEV q=>q.elim) λb Y EV EV e=>(FS.g b Y).trans e
 rw[settle_nil,ownS_nil] at Fu;have V:=qK W Z tab n H Fu.2 N λz q=>(FJ.own1 z I q).2.1 (.inr QQ)
 have y:=H.trans Fu.2;exact bI (Y { s with heap:=E0,toks:=T,drawn:=U } _ E4 _ E2 dv Fi _ Fp Fu.1) λf c q=>nf_in (P:=λf=>match f with
     | .next | .cont=>∃ m,m<k/\yI w Fe E6 h1 Fj E5 I EX E8 E1 J s m c
     | .brk=>gU w Fe E6 Fj E5 s E7 J K [] .next c
     | .ret v=>gU w Fe E6 Fj E5 s E7 J K [] (.ret v) c) id f <| q (λf c=>match f with
     | .next | .cont=>∃ m,m<k/\yI w Fe E6 h1 Fj E5 I EX E8 E1 J s m c
     | .brk=>gU w Fe E6 Fj E5 s E7 J K [] .next c
     | .ret v=>gU w Fe E6 Fj E5 s E7 J K [] (.ret v) c) (λL B C Fw FM E e u Fv=>
   ⟨Fi.length+1,by rw[kn];exact Ap _,.mk (done:=done++[dv]) (Fi:=Fi) (FE.trans (Cm ..)) (by rw[zd];exact qK W Z tab V y u N λz q=>(Fu.1.own1 z I q).2.1 (.inr QQ)) Fv (y.trans u) e QQ⟩)
  λL B C fr d v E e u R Q EV FT=>FT L B C fr d v E e (FO.trans (y.trans u)) ⟨R.rep.sub λEV q=>.inl q,R.keep,λFU=>(R.fr FU).sub λEV q=>.inl q⟩
theorem pS{x:yS}{Fq L:Pos}{M:zh}{b:yN Ag}{ns:yN yS}{E8:yN D}{J:yN D->Own->St->Prop}{K:yU->D->St->Prop}
  {s:yY} {Fj:Env} {E5:y0->Prop} {E6:Heap} {E7:Own} {m:Str->yX yR} {σ:St} {E:yR->yY->Prop} (N:qA Fd w A Fe E6 Fj x J K b) (S:bG w Fe E6 s.heap Fj E5 E7 m σ) (O:cw Fj.kindOf (yO x)=yP) (f:ff M=yP)
  (i:∀ Q:yR->yY->Prop,(∀ I h1 j n u,KH s.heap h1->KH h1 j->gat h1 I=y7->(∃ o,gat j I=ac o)->rK Fd w A h1 (Hot Fj E5 (E7.less ns)) E8 I j->Q (.ref I) { s with heap:=j,toks:=n,drawn:=u })->wpAny (y6 Fd w) A (zQ M Fj) (λFs y=>wpAny (y6 Fd w) A (DG Fs) Q E y) E s)
  (T:J E8 (E7.less ns) (freeze ns σ)):wpAny (y6 Fd w) A (CR (.For (.Name (yO x) Fq) M b [] L) Fj) (gU w Fe E6 Fj E5 s E7 J K []) E s:=by
 refine wpAny_For (i _ λI h1 j n u a z fresh ex Ft=>?_) (kX f)
 have U:=(S.freeze ns).keeps a;have S2:=U.addH (I:=I) z fresh ex;have B:¬ frm Fj I:=λq=>(fD U.rep q).elim λo e=>cz e fresh
 have C:gat E6 I=y7:=lW S.keep (lW a fresh);have Y:Tr s.heap Fj E7 h1 (E7.less ns):=.of a λEV EV=>eP
 refine Ft.rec λ{fp P E1} W st V G H tab=>codeAny_forLoop (yI w Fe E6 h1 Fj E5 I (E7.less ns) E8 E1 J s) (λk s' q=>?_) (E8.length+1) (.mk (done:=[]) (Fi:=E8) QQ st S2 (.keeps z) T QQ)
 obtain @⟨h,tk,dw,done,Fi,E4,m',E2,dr,st,S',t,hfor,kn⟩:=q;cases Fi with
 | cons dv Fi=>exact for_turn N O W V G H tab fresh B C Y dr st S' t hfor kn
 | nil=>
  rw[zy] at dr;subst dr;refine W.done _ _ _ st λh' Fu X=>?_
  have Z:Mv I h h':=λb o N e=>kr W tab st X b o (λq=>N (zg.mp q)) e
  have Fo:=tr_I t Z fresh;exact B8 λQ Fv EV=>Fv _ _ dw _ _ _ hfor (Y.trans Fo) (S'.leave Z (λc Fw=>(U.hot.ex c (.inl Fw)).elim λFp q=>q.elim λo q=>(Fo.x Fp o q.2).elim λFz FA=>⟨Fp,Fz,q.1,FA⟩) B C)
theorem body_ss{x:yS}{body:yN MS}{b:yN Ag}{E6:Heap}{Fj:Env}(i:SSs Fd w A Fe cf body)(c:fL Fj.kindOf b body=yP) :
  qA Fd w A Fe E6 Fj x (λFi Z σ=>cG (λj σ=>bn cf body (az σ x (yM,j))) Fi σ=ac r) (λfr d σ=>(.ret fr d,σ)=r) b:=λs EY E7 m σ dv Fi E a S=>
 ry a λrb h1 n o=>bI (i s Fj b EY E6 _ m _ rb E c S h1) λf s' q Q u y=>q (λf s=>Q (nf f) s) (λh tk dw E4 m' e t z=>u h tk dw E4 m' rb.2 (n e) t z) λh tk dw fr d v e t R=>y h tk dw fr d v rb.2 (o fr d e) t R
theorem body_sb{x:yS}{body:yN MS}{b:yN Ag}{E6:Heap}{Fj:Env}(i:SSB Fd w A Fe cf body)(c:u5 Fj.kindOf b body=yP) :
  qA Fd w A Fe E6 Fj x (λFi Z σ=>cG (λj σ=>bn cf body (az σ x (yM,j))) Fi σ=ac r) (λfr d σ=>(.ret fr d,σ)=r) b:=λs EY E7 m σ dv Fi E a S=>
 ry a λrb h1 n o=>bI (i s Fj b EY E6 _ m _ rb E c S h1) λf s' q Q u y=>q Q (λh tk dw E4 m' e t z=>u h tk dw E4 m' rb.2 (n e) t z) λh tk dw fr d v e t R=>y h tk dw fr d v rb.2 (o fr d e) t R
theorem v6{s s':yY}{a:D->St->yX (Fl×St)}{f:DC}(q:gU w Fe E6 Fj E5 s E7 (λFi Z σ=>cG a Fi σ=ac r) (λfr d σ=>(.ret fr d,σ)=r) [] f s'):bg w Fe E6 Fj E5 s E7 r f s':=λQ b c=>
 q Q (λh tk dw E4 m σ e t S=>have e:(Fl.next,σ)=r:=yW e;b h tk dw E4 m (e▸rfl) t (e▸S)) λh tk dw fr d v σ e t R=>c h tk dw fr d v (e▸rfl) t R
theorem xi_for{x:yS}{Fm:ME}{body:yN MS}(h:exS cf (.for_ x Fm body) σ=ac r)(k:∀ d E8,evE cf (vis σ) Fm=ac d->d.items=ac E8->cG (λb σ=>bn cf body (az σ x (yM,b))) E8 (freeze Fm.names σ)=ac r->C):C:=
 bK (a:=evE cf (vis σ) Fm) (f:=λd=>oEs d.items λE8=>cG (λb σ=>bn cf body (az σ x (yM,b))) E8 (freeze Fm.names σ)) h λd c h=>fq h λE8 i h=>k d E8 c i h
theorem ss_for(Z:Cx Fd w A Fe mg mb cf){x:yS}{Fm:ME}{body:yN MS}(y:S2 Fd w A Fe cf body):SS Fd w A Fe cf (.for_ x Fm body):=λs Fj st E5 E6 E7 m σ r E z S i=>
 IFor.rec (motive:=λst Y=>wpAny (y6 Fd w) A (CR st Fj) (bg w Fe E6 Fj E5 s E7 r) E s) (λj c n o=>xi_for i λd E8 B f C=>bI (pS (body_sb y.2 o) S j c (λQ k=>nC Z S n B λu Fk a b G H=>oh (pG (s:={ s with heap:=Fk,toks:=a,drawn:=b }) H Z.hh f) λI h tk dw t fr ex W=>k I Fk h tk dw G t fr ex W) C) λY Y q=>v6 q) (inv_for z)
theorem scal_post{P:zT}{h:Heap}{H:y0->Prop}{v:yR}{d:D}{X:Prop}(r:Rep P h H v d)(a:d.scalar=yP)(x:X):match (generalizing:=false) v with | .ref _=>False | _=>X:=by
 cases d with
 | none=>exact r.noneE (C:=λv=>match (generalizing:=false) v with | .ref _=>False | _=>X) x
 | bool b=>exact r.boolE (C:=λv=>match (generalizing:=false) v with | .ref _=>False | _=>X) x
 | int i=>exact r.intE (C:=λv=>match (generalizing:=false) v with | .ref _=>False | _=>X) λZ=>x
 | str i=>exact r.strE (C:=λv=>match (generalizing:=false) v with | .ref _=>False | _=>X) λZ=>x
 | _=>cases a
theorem xi_expr{e:ME}(h:exS cf (.expr e) σ=ac r)(k:∀ d,evE cf (vis σ) e=ac d->d.scalar=yP->(.next,σ)=r->C):C:=
 bK (a:=evE cf (vis σ) e) (f:=λd=>if d.scalar=yP then ac (Fl.next,σ) else none) h λd b h=>bj h λc e=>k d b c e
theorem swaps_none{v:zh}(h:r9 v=yP){l:Nat}{Fj:Env}:Em v y7 l Fj=pure yM:=by
 cases v with
 | ListComp | SetComp | DictComp=>cases h
 | _=>rfl
theorem ss_expr(Z:Cx Fd w A Fe mg mb cf)(e:ME):SS Fd w A Fe cf (.expr e):=λs Fj st E5 E6 E7 m σ r E a S b=>
 xi_expr b λd i j n=>n▸yG.rec (motive:=λst Y=>wpAny (y6 Fd w) A (CR st Fj) (bg w Fe E6 Fj E5 s E7 (.next,σ)) E s) (λo a=>wpAny_Expr (nC Z S a i λu Fk c f h q=>scal_post q j (bg.nx (.keeps h) (S.keeps h))) (by unfold interactive;rw[S.rep.kind];rfl) (swaps_none o)) (inv_expr a)
end
inductive WhI(w:zD)(Fe E6:Heap)(Fj:Env)(E5:y0->Prop)(E7:Own)(cd:St->yX yU)(bf:St->yX (Fl×St))(r:Fl×St)(s:yY)(k:Nat):yY->Prop
 | mk {h tk dw E4 m' E2} (t:Tr s.heap Fj E7 h E4) (S:bG w Fe E6 h Fj E5 E4 m' E2) (wh:fb cd bf k E2=ac r):WhI w Fe E6 Fj E5 E7 cd bf r s k { s with heap:=h,toks:=tk,drawn:=dw }
inductive WhT(cd:St->yX yU)(bf:St->yX (Fl×St))(r:Fl×St)(σ:St):Nat->Prop
 | done {n} (hc:cd σ=ac yM) (hr:r=(.next,σ)):WhT cd bf r σ (n+1)
 | next {n σ₁} (hc:cd σ=ac yP) (hb:bf σ=ac (.next,σ₁)) (hw:fb cd bf n σ₁=ac r):WhT cd bf r σ (n+1)
 | ret {n fr d σ₁} (hc:cd σ=ac yP) (hb:bf σ=ac (.ret fr d,σ₁)) (hr:r=(.ret fr d,σ₁)):WhT cd bf r σ (n+1)
theorem wh_inv{f:St->yX yU}{i:St->yX (Fl×St)}{r:Fl×St}{σ:St}{n:Nat}(h:fb f i n σ=ac r):WhT f i r σ n:=by
 cases n with
 | zero=>exact aj h
 | succ n=>
  cases a:f σ with
  | none=>rw[fb,a] at h;exact aj h
  | some b=>
   rw[fb,a] at h;cases b with
   | false=>exact .done a (yW h).symm
   | true=>
    cases c:i σ with
    | none=>dsimp only at h;rw[c] at h;exact aj h
    | some rb=>
     obtain⟨m,j⟩:=rb;dsimp only at h;rw[c] at h;cases m with
     | next=>exact .next a c h
     | ret fr d=>exact .ret a c (yW h).symm
theorem p7{c:ME}{b:yU}{C:Prop}(h:gQ cf c σ=ac b)(k:∀ d,evE cf (vis σ) c=ac d->bW d=ac b->C):C:=bK (a:=evE cf (vis σ) c) (f:=bW) h k
theorem wh_turn(Z:Cx Fd w A Fe mg mb cf){c:ME}{body:yN MS}(U:SSs Fd w A Fe cf body){s:yY}{r:Fl×St}{E4:Own}{m':Str->yX yR}{E2:St}{k:Nat}{v:zh}{b:yN Ag}{Fk:Heap}{h:Nat}{i:Drawn}{E:yR->yY->Prop}(y:aH Fj.kindOf v c=yP)(G:fL Fj.kindOf b body=yP)
  (t:Tr s.heap Fj E7 Fk E4) (S1:bG w Fe E6 Fk Fj E5 E4 m' E2) (X:WhT (gQ cf c) (λσ=>bn cf body σ) r E2 k) :
  wpAny (y6 Fd w) A (Cn v Fj (zQ v Fj)) (λO o=>if O=yP then wpAny (y6 Fd w) A (C3 b Fj) (λf a=>match f with
   | .next | .cont=>∃ m,m<k/\WhI w Fe E6 Fj E5 E7 (gQ cf c) (λσ=>bn cf body σ) r s m a
   | .brk=>bg w Fe E6 Fj E5 s E7 r .next a
   | .ret v=>bg w Fe E6 Fj E5 s E7 r (.ret v) a) E o else wpAny (y6 Fd w) A (C3 [] Fj) (λf a=>bg w Fe E6 Fj E5 s E7 r f a) E o) E { s with heap:=Fk,toks:=h,drawn:=i }:=
 WhT.rec (motive:=λk EV=>wpAny (y6 Fd w) A (Cn v Fj (zQ v Fj)) (λO o=>if O=yP then wpAny (y6 Fd w) A (C3 b Fj) (λf a=>match f with
   | .next | .cont=>∃ m,m<k/\WhI w Fe E6 Fj E5 E7 (gQ cf c) (λσ=>bn cf body σ) r s m a
   | .brk=>bg w Fe E6 Fj E5 s E7 r .next a
   | .ret v=>bg w Fe E6 Fj E5 s E7 r (.ret v) a) E o else wpAny (y6 Fd w) A (C3 [] Fj) (λf a=>bg w Fe E6 Fj E5 s E7 r f a) E o) E { s with heap:=Fk,toks:=h,drawn:=i })
  (λH T=>p7 H λd I J=>qT (s:={ s with heap:=Fk,toks:=h,drawn:=i }) Z S1 y I J λE0 j n q=>B8 (by rw[T];exact bg.nx (t.trans (.keeps q)) (S1.keeps q)))
  (λH z Y=>p7 H λd I J=>qT (s:={ s with heap:=Fk,toks:=h,drawn:=i }) Z S1 y I J λE0 j n q=>
   uF (U { s with heap:=E0,toks:=j,drawn:=n } Fj _ E5 E6 E4 m' E2 _ _ G (S1.keeps q) z) (λL B C N V EV u M=>⟨_,Ap _,.mk ((t.trans (.keeps q)).trans u) M Y⟩) λEV EV EV EV EV EV e EV EV=>nomatch e)
  (λH z T=>p7 H λd I J=>qT (s:={ s with heap:=Fk,toks:=h,drawn:=i }) Z S1 y I J λE0 j n q=>
   uF (U { s with heap:=E0,toks:=j,drawn:=n } Fj _ E5 E6 E4 m' E2 _ _ G (S1.keeps q) z) (λEV EV EV EV EV e EV EV=>nomatch e) λL B C fr d v e u R=>by cases e;show bg _ _ _ _ _ _ _ r _ _;rw[T];exact bg.rt ((t.trans (.keeps q)).trans u) R) X
theorem ss_while(Z:Cx Fd w A Fe mg mb cf){c:ME}{body:yN MS}(i:SSs Fd w A Fe cf body):SS Fd w A Fe cf (.while_ c body):=λs Fj st E5 E6 E7 m σ r E j S a=>
 u9.rec (motive:=λst Y=>wpAny (y6 Fd w) A (CR st Fj) (bg w Fe E6 Fj E5 s E7 r) E s) (λ{v b p} f h=>wpAny_While (codeAny_whileLoop (WhI w Fe E6 Fj E5 E7 (gQ cf c) (λσ=>bn cf body σ) r s) (λk s' q=>by
  obtain @⟨Fk,tk₁,dw₁,E4,m',E2,t,S',wh⟩:=q;exact wh_turn Z i f h t S' (wh_inv wh)) xc (.mk (tk:=s.toks) (dw:=s.drawn) (.keeps λY Y e=>e) S a))) (inv_while j)
theorem xi_forr{x:yS}{Fm:ME}{body:yN MS}{r:Fl×St}{C:Prop}(h:exS cf (.forr x Fm body) σ=ac r)(k:∀ ds,evE cf (vis σ) Fm=ac (.tup ds)->cG (λa σ=>bn cf body (az σ x (yM,a))) ds.reverse (freeze Fm.names σ)=ac r->C):C:=by
 rw[vf] at h;split at h
 ·exact k _ ‹_› h
 ·exact aj h
theorem ss_forr(Z:Cx Fd w A Fe mg mb cf){x:yS}{Fm:ME}{body:yN MS}(B:SSs Fd w A Fe cf body):SS Fd w A Fe cf (.forr x Fm body):=λs Fj st E5 E6 E7 m σ r E C S j=>
 yF.rec (motive:=λst Y=>wpAny (y6 Fd w) A (CR st Fj) (bg w Fe E6 Fj E5 s E7 r) E s) (λn H c o=>xi_forr j λds t J=>bI (pS (body_ss B o) S n QQ (λQ k=>PyProof.Rows.Call_Name QQ (fB Z.G (f:="reversed") (by decide) S.rep (S.freeze Fm.names).hot H (eV (xh c) (Calls.spliced_cons (
  nC Z S c t λu Fk a b L M=>Calls.spliced_nil (bI (iter_rvs (s:={ s with heap:=Fk,toks:=a,drawn:=b }) M Z.hh) λv z i=>oh (s:={ s with heap:=Fk,toks:=a,drawn:=b }) i λI h tk dw y fr ex W=>k I Fk h tk dw L y fr ex W)))))) J) λY Y q=>v6 q) (inv_forr C)
end
noncomputable def gh(i:Nat):yS:=String.ofList (Ef (i+1) '#')
theorem gh_list(i:Nat):(gh i).toList=Ef (i+1) '#':=String.toList_ofList
theorem sC(i:Nat):(gh i).toList.length=i+1:=by rw[gh_list,List.length_replicate]
theorem yf{i j:Nat}(h:gh i=gh j):i=j:=Ax ((sC i).symm.trans ((zj (λs=>s.toList.length) h).trans (sC j)))
theorem gh_ne{i:Nat}{x:yS}(h:x.toList.length<=i):gh i≠x:=λe=>D1 i (yQ (zk ((sC i).symm.trans (zj (λs=>s.toList.length) e))) h)
theorem gh_fresh(names:yN (Str×BJ)):∃ N,∀ i,N<=i->names.lookup (yO (gh i))=y7:=by
 induction names with
 | nil=>exact⟨0,λZ Z=>QQ⟩
 | cons p names b=>
  obtain⟨N,h⟩:=b;refine⟨max N p.1.cps.size,λi a=>?_⟩
  have c:(yO (gh i) == p.1)=yM:=beq_false_of_ne λe=>by
   have q:(yO (gh i)).cps.size=i+1:=by rw[Str.ofString_eq_toList,CI,yV,sC]
   exact D1 i (yQ (zk (q.symm.trans (zj (·.cps.size) e))) (yQ (zB _ _) a))
  rw[zl,c];exact h i (yQ (zL _ _) a)
section
variable {w:zD} {Fe E6 h E0:Heap} {Fj:Env} {E5:y0->Prop} {E7:Own} {m:Str->yX yR} {σ:St}
theorem bN.ghost(R:bN h Fj m){x:Str}{v:yR}(f:Fj.kindOf x=y7):bN h Fj (upd m x v):=
 have b:∀ {y k},Fj.kindOf y=ac k->upd m x v y=m y:=λ{y k} e=>za λq=>nomatch (q▸e).symm.trans f
 {R with
  loc:=R.loc.elim λi q=>⟨i,q.1,λy a=>(q.2 y a).trans (b a).symm⟩
  cell:=λy a=>(R.cell y a).elim λc q=>⟨c,q.1,(a.elim b b).symm▸q.2⟩ }
theorem bG.adopt(S:bG w Fe E6 h Fj E5 E7 m σ){x:yS}(f:Fj.kindOf (yO x)=y7){b:y0}{ds:yN D}(k:KH h E0)(i:gat h b=y7)(j:¬ E5 b)(o:jn w.params E0 (Hot Fj E5 E7) b ds) :
  bG w Fe E6 E0 Fj E5 (E7.set x (ac b)) (upd m (yO x) (.ref b)) (az σ x (yP,.list ds)):=
 S.set ((S.rep.keeps k).ghost f) (λb o Z e=>k b o e) (λZ a o Z e=>k a o e) (λb o e=>⟨o,k b o e⟩) (λb o e=>k b o (S.keep b o e)) (λc e=>yW e▸⟨i,j,dM.ex (d:=.list ds) o⟩) nofun
  λZ=>⟨b,QQ,QQ,o.mono (λZ e=>e) (λZ Z Z e=>e) λc o Z q=>q.elim (λq=>.inl (.inl q)) λq=>q.elim (λq=>.inl (.inr (.inl q))) λq=>q.elim λy q=>eM q (λZ q=>.inr (yW q).symm) λZ q=>.inl (.inr (.inr ⟨y,q⟩))⟩
end
noncomputable abbrev GL:=yN (D×y0×yN D)
noncomputable def GL.v(G:GL):yN (D×yN D):=G.map λq=>(q.1,q.2.2)
noncomputable def GL.k(G:GL):yN D:=G.map (·.1)
noncomputable def GL.p(G:GL):yN D:=G.map λq=>.ptr q.2.1
theorem uc{k r:D}{q:D×yN D}{G2:yN (D×yN D)}(hq:aO q.1 k=yP):∀ {G1:yN (D×yN D)},(∀ p∈G1,aO p.1 k=yM)->xg k r (G1++q::G2)=G1++(q.1,q.2++[r])::G2
 | [],_=>y8 hq
 | p::G1,h=>(za (by rw[h p (.head _)];nofun)).trans (zj (p::·) (uc hq λp a=>h p (.tail _ a)))
theorem ub{k r:D}:∀ {G:yN (D×yN D)},(∀ p∈G,aO p.1 k=yM)->xg k r G=G++[(k,[r])]
 | [],_=>rfl
 | p::G,h=>(za (by rw[h p (.head _)];nofun)).trans (zj (p::·) (ub λp a=>h p (.tail _ a)))
theorem um{k:D}{q:D×y0×yN D}{G2:GL}(hq:aO q.1 k=yP):∀ {G1:GL},(∀ p∈G1,aO p.1 k=yM)->n7 (GL.k (G1++q::G2)) (GL.p (G1++q::G2)) k=ac (.ptr q.2.1)
 | [],_=>y8 hq
 | p::G1,h=>(za (by rw[h p (.head _)];nofun)).trans (um hq λp a=>h p (.tail _ a))
theorem uk{k d:D}:∀ {G:GL},(∀ p∈G,aO p.1 k=yM)->dK G.k G.p k d=(G.k++[k],G.p++[d])
 | [],_=>rfl
 | p::G,h=>(za (by rw[h p (.head _)];nofun)).trans (by
  show (p.1::(dK (GL.k G) (GL.p G) k d).1,D.ptr p.2.1::(dK (GL.k G) (GL.p G) k d).2)=_;rw[uk λp a=>h p (.tail _ a)];rfl)
theorem ti{k:D}:∀ {G:GL},(G.k.any λx=>aO x k)=yP->∃ G1 q G2,G=G1++q::G2/\aO q.1 k=yP/\∀ p∈G1,aO p.1 k=yM
 | p::G,h=>by
  cases a:aO p.1 k with
  | true=>exact⟨[],p,G,QQ,a,λZ q=>nomatch q⟩
  | false=>
   have h':(aO p.1 k||(GL.k G).any λx=>aO x k)=yP:=h
   rw[a] at h';obtain⟨G1,q,G2,e,h1,b⟩:=ti (G:=G) h';exact⟨p::G1,q,G2,zj (p::·) e,h1,λx c=>(zc.mp c).elim (λe=>e▸a) (b x)⟩
theorem none_of_any{k:D}{G:GL}(h:(G.k.any λx=>aO x k)=yM):∀ p∈G,aO p.1 k=yM:=λp a=>by
 cases e:aO p.1 k with
 | false=>rfl
 | true=>exact zA e (EA.mp h p.1 (zz.mpr ⟨p,a,QQ⟩))
structure GS(N:Nat)(Fb:St)(G:GL)(E7:Own)(σ:St):Prop where
 tk:∀ q∈G,q.1.isTK=yP
 gr:σ.lookup "groups"=ac (yP,.dict G.k G.p)
 gs:∀ i q,G[i]?=ac q->σ.lookup (gh (N+i))=ac (yP,.list q.2.2)/\E7 (gh (N+i))=ac q.2.1
 sm:∀ x∈jK,σ.lookup x=Fb.lookup x
theorem pD{k:D}{G:GL}(a:k.isTK=yP)(h:∀ q∈G,q.1.isTK=yP):dQ k G.k=yP:=by
 unfold dQ;rw[a,show (GL.k G).all D.isTK=yP from zx.mpr λd b=>(zz.mp b).elim λq z=>z.2▸h q z.1]
 exact EO _
theorem jL{N i:Nat}(a:6<=N):gh (N+i)≠"groups"/\gh (N+i)≠"row"/\gh (N+i)≠"own"/\∀ x∈jK,gh (N+i)≠x:=
 have b:6<=N+i:=yQ a (zo _ _)
 have l:∀ x:yS,x.toList.length<=6->gh (N+i)≠x:=λx h=>gh_ne (yQ h b)
 ⟨l _ (by decide),l _ (by decide),l _ (by decide),λx c=>l x ((by decide:∀ x∈jK,x.toList.length<=6) x c)⟩
theorem GS.other{N:Nat}{Fb σ E2:St}{G:GL}{E7 E4:Own}(b:6<=N)(g:GS N Fb G E7 σ)(h:∀ x,x≠"row"->x≠"own"->(E4 x=E7 x\/x∈jK)/\E2.lookup x=σ.lookup x):GS N Fb G E4 E2 where
 tk:=g.tk
 gr:=(h _ (by decide) (by decide)).2.trans g.gr
 gs:=λi q e=>have z:=jL (i:=i) b;have y:=h _ z.2.1 z.2.2.1;⟨y.2.trans (g.gs i q e).1,(y.1.elim id λq=>zA QQ (z.2.2.2 _ q)).trans (g.gs i q e).2⟩
 sm:=λx a=>(h x (by rintro rfl;exact zA a (by decide)) (by rintro rfl;exact zA a (by decide))).2.trans (g.sm x a)
section
variable {Fd:zv} {w:zD} {A:zF} {Fe:Heap} {mg mb:Str->yX yR} {cf:CF}
variable {s:yY} {E6:Heap} {Fj:Env} {E5:y0->Prop} {E7:Own} {m:Str->yX yR} {σ Fb:St} {E:yR->yY->Prop} {N n:Nat} {G G1 G2:GL} {pl k dv:D} {GF:yN (D×yN D)} {Fi:yN D}
theorem grp_new(Z:Cx Fd w A Fe mg mb cf){J L v:zh}{FG O:Pos}(Ft:6<=N)(T:∀ i,N<=i->Fj.kindOf (yO (gh i))=y7)(U:aH Fj.kindOf J (.u "groups")=yP)(V:aH Fj.kindOf L (.u "own")=yP)(X:aH Fj.kindOf v (.lst [])=yP)
  (S:bG w Fe E6 s.heap Fj E5 E7 m σ) (g:GS N Fb G E7 σ) (Fu:k.isTK=yP) (FH:σ.lookup "own"=ac (yM,k)) (Y:∀ p∈G,aO p.1 k=yM) (FJ:G.length<big) {Q:DC->yY->Prop}
  (K:∀ h tk dw E4 m' E2 b,bG w Fe E6 h Fj E5 E4 m' E2->Tr s.heap Fj E7 h E4->GS N Fb (G++[(k,b,[])]) E4 E2->(∀ x,x≠"groups"->(∀ i,x≠gh (N+i))->E2.lookup x=σ.lookup x)->Q .next { s with heap:=h,toks:=tk,drawn:=dw }) :
  wpAny (y6 Fd w) A (CR (.Assign [.Subscript J L FG] v O) Fj) Q E s:=by
 refine wpAny_Assign_Subscript (xC Z S X (d:=.list []) (fr:=yP) QQ λu Fk f j t Fv y=>?_) (by cases v <;> rfl)
 replace y:=y QQ;obtain @⟨b,hb,o⟩:=y;rw[show (ME.lst []).names=[] from rfl,px] at o Fv;have FK:=dM.off o Fv;have S1:=S.adopt (T _ (zo N G.length)) t hb (λq=>FK (.inl q)) o
 have z:=jL (i:=G.length) Ft;have H:∀ x,x≠gh (N+G.length)->(az σ (gh (N+G.length)) (yP,D.list [])).lookup x=σ.lookup x:=λx B=>by rw[aI,za B]
 have Fw:(az σ (gh (N+G.length)) (yP,D.list [])).lookup "groups"=ac (yP,.dict G.k G.p):=(H _ z.1.symm).trans g.gr;have lo:(az σ (gh (N+G.length)) (yP,D.list [])).lookup "own"=ac (yM,k):=(H _ z.2.2.1.symm).trans FH;refine (S1.owned _ _ Fw).elim λM C=>(S1.plain _ _ lo).elim λFR Fz=>?_
 refine uC.rec (motive:=λJ EV=>wpAny _ _ (zQ J Fj) _ _ _) (λFo=>gf (s:={ s with heap:=Fk,toks:=f,drawn:=j }) S1.rep Fo C.2.1 ?_) (ja U)
 refine uC.rec (motive:=λL EV=>wpAny _ _ (zQ L Fj) _ _ _) (λFp=>gf (s:={ s with heap:=Fk,toks:=f,drawn:=j }) S1.rep Fp Fz.1 ?_) (ja V)
 have FM:∀ c,Hot Fj E5 (E7.set (gh (N+G.length)) (ac b)) c\/c=M->Hot Fj E5 (E7.set (gh (N+G.length)) (ac b)) c:=λc z=>z.elim id λz=>z▸.inr (.inr ⟨_,C.1⟩)
 refine nB (s:={ s with heap:=Fk,toks:=f,drawn:=j }) (d:=.ptr b) Z.hu.u1 C.2.2 (Fz.2.sub FM) QQ (pD Fu g.tk) (by unfold GL.k;rw[yV];exact FJ) λh' tk dw Fq n=>?_
 rw[uk Y] at n;have S2:=S1.turn Fw C.1 Fq (d:=.dict _ _) n;have FA:∀ o,Fk.get? M=ac o->bL o=yM:=dM.notTab (d:=.dict _ _) C.2.2;have FE:∀ x,x≠gh (N+G.length)->E7.set (gh (N+G.length)) (ac b) x=E7 x:=λx B=>za B
 have I:E7 "groups"=ac M:=(FE _ z.1.symm).symm.trans C.1;refine K h' tk dw _ _ _ b S2 ⟨λc o e EV FN=>g1 Fq FA c (λq=>FN _ (q▸I)) (t c o e),λc o e=>(Classical.em (c=M)).elim (λq=>q▸dM.ex (d:=.dict _ _) n) λq=>⟨o,g1 Fq FA c q (t c o e)⟩,λx a e=>eM e (λEV q=>.inr (yW q▸hb)) λEV q=>.inl q⟩ ⟨?_,?_,?_,?_⟩ λx h1 FO=>?_
 ·exact λq hq=>(zM.mp hq).elim (g.tk q) λhq=>zg.mp hq▸Fu
 ·rw[aI,y8 rfl];unfold GL.k GL.p;rw[zq,zq];rfl
 ·intro i q e
  have FP:=jL (i:=i) Ft;rw[aI,za FP.1]
  by_cases Fs:i<G.length
  ·rw[Cg Fs] at e
   have FF:gh (N+i)≠gh (N+G.length):=λq=>zO Fs (Nat.add_left_cancel (yf q))
   exact⟨(H _ FF).trans (g.gs i q e).1,(FE _ FF).trans (g.gs i q e).2⟩
  ·have FQ:i=G.length:=by
    have:=(List.getElem?_eq_some_iff.mp e).1;rw[zd] at this;exact BM (Nat.lt_succ_iff.mp this) (Ac.mp Fs)
   subst FQ;rw[Av (ze _),CQ] at e;rw[<- yW e,aI,y8 rfl];exact⟨QQ,y8 QQ⟩
 ·intro x B
  rw[aI,za (by rintro rfl;exact zA B (by decide))]
  exact (H x λq=>z.2.2.2 x B q.symm).trans (g.sm x B)
 ·rw[aI,za h1];exact H x (FO _)
theorem grp_app(Z:Cx Fd w A Fe mg mb cf){f a:zh}{Ft cp X:Pos}(Fu:6<=N)(O:aH Fj.kindOf f (.sub (.u "groups") (.u "own"))=yP)(T:aH Fj.kindOf a (.u "row")=yP)(G:(Ft.endLine == cp.line)=yP){q:D×y0×yN D}
  (S:bG w Fe E6 s.heap Fj E5 E7 m σ) (g:GS N Fb (G1++q::G2) E7 σ) (FF:k.isTK=yP) (FG:σ.lookup "own"=ac (yM,k)) (FH:σ.lookup "row"=ac (yM,dv)) (hq:aO q.1 k=yP) (Y:∀ p∈G1,aO p.1 k=yM) (FJ:q.2.2.length<big) {Q:DC->yY->Prop}
  (K:∀ h tk dw E2,bG w Fe E6 h Fj E5 E7 m E2->Tr s.heap Fj E7 h E7->GS N Fb (G1++(q.1,q.2.1,q.2.2++[dv])::G2) E7 E2->Q .next { s with heap:=h,toks:=tk,drawn:=dw }) :
  wpAny (y6 Fd w) A (CR (.Expr (.Call (.Attribute f (yO "append") Ft) [a] [] cp) X) Fj) Q E s:=by
 have FK:evE cf (vis σ) (.sub (.u "groups") (.u "own"))=ac (.ptr q.2.1):=by
  rw[yh,ig,ig,cB,cB,g.gr,FG];exact (y8 (pD FF g.tk)).trans (um hq Y)
 have H:=g.gs G1.length q (by rw[Av (ze _),CQ];rfl)
 have t:B9 [a] Fj=[(yM,zQ a Fj)]:=iq T;have U:attributeBase f (yO "append") Fj (zQ f Fj)=zQ f Fj:=(oF O).rec λEV EV EV=>QQ
 refine wpAny_Expr (wpAny_Call_append U (by rw[t];rfl) G (by rw[t];rfl) (nC Z S O FK λu Fk I J V Fo=>?_)) (by unfold interactive;rw[S.rep.kind];rfl) QQ
 have Fo:u=.ref q.2.1:=Fo;subst Fo;have S1:=S.keeps V;have o:jn w.params Fk (Hot Fj E5 E7) q.2.1 q.2.2:=S1.ownAt H.1 H.2;refine o.rec λ{vs n} o1 o2 Fv=>⟨q.2.1,vs,QQ,⟨_,n,o1,QQ,QQ,QQ⟩,?_⟩
 refine (S1.plain _ _ FH).elim λFp Fw=>uC.rec (motive:=λa EV=>wpAny _ _ (zQ a Fj) _ _ _) (λFq=>gf (s:={ s with heap:=Fk,toks:=I,drawn:=J }) S1.rep Fq Fw.1 ?_) (ja T)
 refine Dz (items:=vs) ⟨n,o1⟩ (λE0 L y=>?_) (Fv.size.symm▸o2)
 have B:∃ Fz,E0.get? q.2.1=ac (fY (vs.push Fp) Fz):=L;have FA:Mv q.2.1 Fk E0:=λb o U e=>g1 y (ce o1) b U e
 have FM:∀ c,Hot Fj E5 E7 c\/c=q.2.1->Hot Fj E5 E7 c:=λc z=>z.elim id λz=>z▸.inr (.inr ⟨_,H.2⟩)
 have C:jn w.params E0 (Hot Fj E5 E7) q.2.1 (q.2.2++[dv]):=B.elim λFz FN=>⟨FN,by rw[zd];exact FJ,by
  rw[CH];exact (Fv.append (.cons (Fw.2.sub FM) .nil)).mono (λb o FO e=>FA b o (λq=>FO (.inr q)) e) λEV EV EV q=>q⟩
 refine K E0 _ _ _ (S1.turn H.1 H.2 y (d:=.list _) C) (rR (λEV EV e=>e) V H.2 (λb U EV e=>FA b _ U e) (dM.ex (d:=.list _) C)) ⟨?_,?_,?_,?_⟩
 ·exact λp M=>(zM.mp M).elim (λM=>g.tk p (AC _ M)) λM=>(zc.mp M).elim (λe=>e▸g.tk q (z7 _ (.head _))) λM=>g.tk p (z7 _ (.tail _ M))
 ·rw[aI,za (jL Fu).1.symm,g.gr];unfold GL.k GL.p;rw[zq,zq,zq,zq];rfl
 ·intro i p e
  by_cases Fs:i=G1.length
  ·subst Fs
   rw[Av (ze _),CQ] at e;rw[<- yW e,aI,y8 rfl];exact⟨QQ,H.2⟩
  ·have FP:(G1++q::G2)[i]?=ac p:=by
    rw[<- e]
    by_cases h:i<G1.length
    ·rw[Cg h,Cg h]
    ·have h':=Cw (Ac.mp h) (Ne.symm Fs)
     rw[Av (Ac.mp h),Av (Ac.mp h)];obtain⟨j,FQ⟩:=Nat.exists_eq_succ_of_ne_zero (Nat.sub_ne_zero_of_lt h');rw[FQ];rfl
   rw[aI,za λq=>Fs (Nat.add_left_cancel (yf q))]
   exact g.gs i p FP
 ·intro x FE
  rw[aI,za λq=>(jL Fu).2.2.2 x FE q.symm]
  exact g.sm x FE
end
theorem look_settle{d:D}{ns:yN yS}{σ:St}{x:yS}(h:x ∉ ns\/∃ e,σ.lookup x=ac (yM,e)):(settle d ns σ).lookup x=σ.lookup x:=by
 unfold settle;cases d.scalar with
 | true=>rfl
 | false=>
  show (freeze ns σ).lookup x=_;rw[bx]
  rcases h with h | ⟨e,h⟩
  ·have:ns.contains x=yM:=CL.mpr λq=>h (AH.mp q)
   rw[this];cases σ.lookup x with
   | none=>rfl
   | some p=>exact zj ac (EN (C8 _) QQ)
  ·rw[h];rfl
theorem grpD_inv{cf:CF}{pl dv:D}{Fi:yN D}{G GF:yN (D×yN D)}{C:Prop}(h:nZ cf pl (dv::Fi) G=ac GF)(K:∀ k,cf.call "cells_at" [dv,pl]=ac (k,yM)->k.isTK=yP->nZ cf pl Fi (xg k dv G)=ac GF->C):C:=by
 rw[nZ] at h;cases e:cf.call "cells_at" [dv,pl] with
 | none=>rw[e] at h;exact aj h
 | some p=>
  rw[e] at h;obtain⟨k,fr⟩:=p;refine cN h λa h=>bR a λh1 b=>?_
  cases fr with
  | true=>cases b
  | false=>exact K k e h1 h
inductive GJ(cf:CF)(pl:D)(GF:yN (D×yN D))(N n:Nat)(Fb:St)(Fi:yN D)(E7:Own)(σ:St):Prop
 | mk (G:GL) (g:GS N Fb G E7 σ) (go:nZ cf pl Fi G.v=ac GF) (ln:∀ q∈G,q.2.2.length+Fi.length<=n) (lg:G.length+Fi.length<=n)
theorem v_no{k:D}{G:GL}(h:∀ p∈G,aO p.1 k=yM):∀ p∈G.v,aO p.1 k=yM:=λp a=>(zz.mp a).elim λb z=>z.2▸h b z.1
theorem keyEq_self{k:D}(h:k.isTK=yP):aO k k=yP:=(sV h).elim λc e=>e▸(l5 c c).trans (Ak QQ)
section
variable {Fd:zv} {w:zD} {A:zF} {Fe:Heap} {mg mb:Str->yX yR} {cf:CF}
variable {E6:Heap} {Fj:Env} {Fb:St} {N n:Nat} {pl:D} {GF:yN (D×yN D)}
theorem wC(Z:Cx Fd w A Fe mg mb cf){s:yY}{EY:y0->Prop}{E7 E4:Own}{m':Str->yX yR}{E2:St}{f:Ag}{k dv:D}{Fi:yN D}{q:D×y0×yN D}{G1 G2:GL}{h:Heap}{tk:Nat}{dw:Drawn}{E:yR->yY->Prop}(G:6<=N)(H:n<=big)(c3:grp3 Fj.kindOf f=yP)(I:k.isTK=yP)
  (S:bG w Fe E6 h Fj EY E4 m' E2) (t:Tr s.heap Fj E7 h E4) (g:GS N Fb (G1++q::G2) E4 E2) (J:E2.lookup "own"=ac (yM,k)) (L:E2.lookup "row"=ac (yM,dv)) (hq:aO q.1 k=yP) (i:∀ p∈G1,aO p.1 k=yM)
  (go:nZ cf pl Fi (G1.v++(q.1,q.2.2++[dv])::G2.v)=ac GF) (j:∀ p∈G1++q::G2,p.2.2.length+(dv::Fi).length<=n) (y:(G1++q::G2).length+Fi.length<=n) :
  wpAny (y6 Fd w) A (C3 [f] Fj) (gU w Fe E6 Fj EY s E7 (GJ cf pl GF N n Fb) (λEV EV EV=>False) Fi) E { s with heap:=h,toks:=tk,drawn:=dw }:=
 nj (C:=λf=>wpAny (y6 Fd w) A (C3 [f] Fj) (gU w Fe E6 Fj EY s E7 (GJ cf pl GF N n Fb) (λEV EV EV=>False) Fi) E { s with heap:=h,toks:=tk,drawn:=dw }) c3 λv p c=>eJ (e:=v) c λm M ks cp c=>bR c λO c=>kO (l:=ks) O (eW (l:=M) c λa c=>nk (e:=m) c λz T Y c=>qF c λc1=>eqb (a:=T) c1 λc2 c3 U=>
  have B:=j q (z7 _ (.head _))
  A8 (grp_app (s:={ s with heap:=h,toks:=tk,drawn:=dw }) Z G c3 U c2 S g I J L hq i (zf (zf (AL (Az _)) B) H) λh' tk dw o S2 V X=>B8 λQ u EV=>
   u h' tk dw E4 m' o (.mk _ X (by unfold GL.v at go ⊢;rw[zq];exact go) (λp b=>(zM.mp b).elim (λb=>yQ (zN (AM _) _) (j p (AC _ b))) λb=>(zc.mp b).elim (λe=>by
     rw[e,zd];exact yQ (zk (Au _ 1 _)) (yQ (zk (by rw[Ai 1];rfl)) B)) λb=>yQ (zN (AM _) _) (j p (z7 _ (.tail _ b))))
    (by rw[zd] at y ⊢;exact y)) (t.trans V) S2))
theorem grp_body(Z:Cx Fd w A Fe mg mb cf)(H:6<=N)(Y:∀ i,N<=i->Fj.kindOf (yO (gh i))=y7)(Fo:n<=big)(Fp:Fb.lookup "places"=ac (yM,pl)){s1 J T:Ag}(c1:grp1 Fj.kindOf s1=yP)(c2:grp2 Fj.kindOf J=yP)(c3:grp3 Fj.kindOf T=yP) :
  qA Fd w A Fe E6 Fj "row" (GJ cf pl GF N n Fb) (λEV EV EV=>False) [s1,J,T]:=λs EY E7 m σ dv Fi E FS S=>by
 refine bI (Q:=gU w Fe E6 Fj EY s (E7.set "row" y7) (GJ cf pl GF N n Fb) (λEV EV EV=>False) Fi) ?_ λEV EV q=>jpost_nf q
 obtain⟨G,g,go,FK,U⟩:=FS;refine grpD_inv go λk I L go=>?_
 have FM:GS N Fb G (E7.set "row" y7) (az σ "row" (yM,dv)):=g.other H λx h1 EV=>⟨.inl (za h1),by rw[aI,za h1]⟩
 have lp:(az σ "row" (yM,dv)).lookup "places"=ac (yM,pl):=(FM.sm _ (by decide)).trans Fp
 have Fq:(az σ "row" (yM,dv)).lookup "row"=ac (yM,dv):=by rw[aI,y8 rfl]
 have FT:evF cf (vis (az σ "row" (yM,dv))) (.call "cells_at" [.u "row",.u "places"])=ac (k,yM):=by
  rw[mh,pX,pX,evs_nil,ig,ig,cB,cB,Fq,lp];exact I
 refine oO.rec (motive:=λs1 EV=>wpAny (y6 Fd w) A (C3 [s1,J,T] Fj) _ E s) (λ{p v Fs} Ft FN=>?_) (pK (x:="own") (e:=.call "cells_at" [.u "row",.u "places"]) c1)
 refine A8 (mt Z Ft FN S FT ((tK FN).swap QQ _ _ _) λu h tk dw V FO=>?_)
 generalize t:az (settle k (ME.call "cells_at" [.u "row",.u "places"]).names (az σ "row" (yM,dv))) "own" (yM,k)=j at V;generalize Fu:(ew (E7.set "row" y7) k (ME.call "cells_at" [.u "row",.u "places"]).names).set "own" (r8 yM u)=y at V FO;have Fv:∀ x,x≠"own"->x="row"\/x="places"\/(x≠"row"/\x≠"places")->j.lookup x=(az σ "row" (yM,dv)).lookup x:=λx h1 a=>by
  rw[<- t,aI,za h1];exact look_settle (a.elim (λe=>.inr ⟨dv,e▸Fq⟩) λa=>a.elim (λe=>.inr ⟨pl,e▸lp⟩) λa=>.inl λq=>fO (show x∈["row","places"] from q) a.1 a.2)
 have X:GS N Fb G y j:=FM.other H λx h1 a=>by
  by_cases z:x="places"
  ·exact⟨.inr (z▸by decide),Fv x a (.inr (.inl z))⟩
  ·refine⟨.inl ?_,Fv x a (.inr (.inr ⟨h1,z⟩))⟩
   rw[<- Fu];refine (za a).trans ?_;unfold ew
   split
   ·rfl
   ·exact za λq=>fO (show x∈["row","places"] from q) h1 z
 have o:j.lookup "own"=ac (yM,k):=by rw[<- t,aI,y8 rfl]
 have M:j.lookup "row"=ac (yM,dv):=(Fv _ (by decide) (.inl QQ)).trans Fq
 refine sN (C:=λJ=>wpAny (y6 Fd w) A (C3 [J,T] Fj) _ E _) c2 λF8 FU o2 F9 c=>iL c λFw Fz c=>kO (l:=o2) Fz (eW (l:=FU) c λFV c=>?_)
 have FA:evE cf (vis j) (.cmp .NotIn (.u "own") (.u "groups"))=ac (.bool (!(G.k.any λx=>aO x k))):=by
  rw[ev_cmp,ig,ig,cB,cB,o,X.gr];show (mP k (.dict G.k G.p)).map (λx=>D.bool (!x))=_
  rw[show mP k (.dict G.k G.p)=ac (G.k.any λx=>aO x k) from y8 (pD L X.tk)];rfl
 refine A8 (wpAny_If (qT (s:={ s with heap:=h,toks:=tk,drawn:=dw }) Z V Fw FA QQ λa FE FF O=>?_))
 have FP:=V.keeps O;have tb:Tr s.heap Fj (E7.set "row" y7) a y:=FO.trans (.keeps O);cases B:G.k.any λx=>aO x k with
 | true=>
  obtain⟨G1,q,G2,e,hq,f⟩:=ti B;subst e;refine B8 (wC Z H Fo c3 L FP tb X o M hq f ?_ FK (yQ (zN (AM _) _) U));have e:GL.v (G1++q::G2)=GL.v G1++(q.1,q.2.2)::GL.v G2:=by unfold GL.v;rw[zq];rfl
  rw[e,uc (q:=(q.1,q.2.2)) hq (v_no f)] at go;exact go
 | false=>
  have f:=none_of_any B;rw[y8 (show (!yM)=yP from rfl)];refine kg c λFW v Fs c=>?_
  refine eW (l:=FW) c λFY c=>?_
  refine mq (e:=FY) c λGa Gb Gc c=>iL c λFG FH FJ=>?_
  have FZ:G.length<n:=zf (AL (Az _)) U;refine A8 (grp_new (s:={ s with heap:=a,toks:=FE,drawn:=FF }) Z H Y FG FH FJ FP X L o f (zf FZ Fo) λGd F0 F3 FQ Ge F4 b F5 F6 F7 FR=>B8 ?_)
  refine wC (q:=(k,b,[])) (G2:=[]) Z H Fo c3 L F5 (tb.trans F6) F7 ((FR _ (by decide) λi=>(jL H).2.2.1.symm).trans o) ((FR _ (by decide) λi=>(jL H).2.1.symm).trans M) (keyEq_self L) f ?_ (λp z=>(zM.mp z).elim (FK p) λz=>?_) ?_
  ·rw[ub (v_no f)] at go
   exact go
  ·rw[zg.mp z]
   exact yQ (zK (zn _) _) U
  ·rw[zd]
   exact yQ (zk (by rw[Au,Ai [_].length];rfl)) U
theorem ptrs_lists{P:zT}{h:Heap}{H:y0->Prop}{G:GL}{l:yN yR}(a:∀ q∈G,Rep P h H (.ref q.2.1) (.list q.2.2))(r:ao P h H l G.p):ao P h H l (G.map λq=>.list q.2.2):=by
 induction G generalizing l with
 | nil=>exact r
 | cons q G b=>
  cases r with
  | mk h1 c=>
   have h1:_=Value.ref q.2.1:=h1;subst h1;exact .cons (a q (.head _)) (b (λq hq=>a q (.tail _ hq)) c)
theorem nK{σ:St}{x:yS}{p:yU×D}(e:(σ.filter λp=>jK.contains p.1).lookup x=ac p):x∈jK/\σ.lookup x=ac p:=by
 induction σ with
 | nil=>cases e
 | cons q σ b=>
  rw[AK] at e;rw[zl];cases c:x == q.1 with
  | true=>
   have e1:=eq_of_beq c;cases a:jK.contains q.1 with
   | true=>
    rw[a,y8 rfl,zl,c] at e;exact⟨e1▸AH.mp a,e⟩
   | false=>
    rw[a,za y5] at e;have:=(b e).1;rw[e1,<- AH,a] at this;cases this
  | false=>
   split at e
   ·rw[zl,c] at e;exact b e
   ·exact b e
theorem grp_end{s:yY}{h:Heap}{E5:y0->Prop}{E7:Own}{m:Str->yX yR}{σ:St}(A:6<=N){Fi:yN D}(B:Fi=[])(J:GJ cf pl GF N n Fb Fi E7 σ)(S:bG w Fe E6 h Fj E5 E7 m σ) :
  ∃ E4,(∀ x a,E4 x=ac a->E7 x=ac a)/\bG w Fe E6 h Fj E5 E4 m (yd Fb GF):=by
 subst B;obtain⟨G,g,go,_,_⟩:=J;have go:G.v=GF:=yW go;subst go;have S1:=S.freeze ("groups"::(zt G.length).map λi=>gh (N+i))
 have b:∀ x∈jK,x ∉ "groups"::(zt G.length).map λi=>gh (N+i):=λx b q=>(zc.mp q).elim (λe=>zA (e▸b:"groups"∈jK) (by decide)) λq=>(zz.mp q).elim λi z=>(jL A).2.2.2 x b z.2
 generalize f:"groups"::(zt G.length).map (λi=>gh (N+i))=ns at S1 b
 have t:∀ x∈ns,∀ d,σ.lookup x=ac (yP,d)->(freeze ns σ).lookup x=ac (yM,d):=λx b d e=>by rw[bx,e,D4,AH.mpr b];rfl
 have c:∀ q∈G,Rep w.params h (Hot Fj E5 (E7.less ns)) (.ref q.2.1) (.list q.2.2):=λq hq=>by
  obtain⟨i,u,e⟩:=BY hq;have j:=g.gs i q (e▸y4 u);obtain⟨v,h1,o⟩:=S1.plain _ _ (t _ (f▸.tail _ (zz.mpr ⟨i,AY.mpr u,QQ⟩)) _ j.1);obtain⟨a,C,E,_⟩:=S.owned _ _ j.1;have H:a=q.2.1:=yW (C.symm.trans j.2);exact H▸yW (h1.symm.trans E)▸o
 obtain⟨v,I,L⟩:=S1.plain _ _ (t "groups" (f▸.head _) _ g.gr);have M:Rep w.params h (Hot Fj E5 (E7.less ns)) v (.dict (G.v.map (·.1)) (G.v.map λq=>.list q.2)):=by
  have e1:G.v.map (·.1)=G.k:=by unfold GL.v GL.k;rw[Ad];rfl
  have O:G.v.map (λq=>D.list q.2)=G.map λq=>.list q.2.2:=by unfold GL.v;rw[Ad];rfl
  rw[e1,O];exact qG.rec (motive:=λv EV=>qG w.params h (Hot Fj E5 (E7.less ns)) G.k _ _ v) (λT U V h1 o X Y Z Fo=>.mk T U V h1 (ptrs_lists c o) X Y Z Fo) L
 refine⟨E7.less ns,λEV EV=>eP,{ S1 with plain:=λy d e=>kA e (λFp ep=>?_) λEV e=>?_,owned:=λy d e=>kA e (λEV ep=>nomatch (z9 ep).1) λEV e=>?_ }⟩
 ·exact⟨v,Fp▸I,(z9 ep).2▸M⟩
 ·have q:=nK e
  refine S1.plain y d ?_;rw[bx,(g.sm y q.1).trans q.2];rfl
 ·have q:=nK e
  refine S1.owned y d ?_;rw[bx,(g.sm y q.1).trans q.2,D4,show ns.contains y=yM from CL.mpr λz=>b y q.1 (AH.mp z)];rfl
theorem isNew_inv{o:yX (yU×D)}(h:x0 o=yP):o=ac (yP,.dict [] []):=by
 unfold x0 at h;split at h
 ·rfl
 ·cases h
theorem xi_grp{σ:St}{r:Fl×St}{C:Prop}(h:exS cf .grp σ=ac r)(K:∀ b pl GF,σ.lookup "rows"=ac (yM,.list b)->σ.lookup "places"=ac (yM,pl)->σ.lookup "groups"=ac (yP,.dict [] [])->nZ cf pl b []=ac GF->(.next,yd σ GF)=r->C):C:=by
 rw[xl] at h;cases a:yc cf σ with
 | none=>rw[a] at h;exact aj h
 | some E2=>
  rw[a] at h;unfold yc at a;split at a
  ·split at a
   ·exact cN a λh1 a=>bO a λGF c e=>K _ _ GF ‹_› ‹_› (isNew_inv h1) c (e▸yW h)
   ·cases a
  ·cases a
theorem ss_grp(Z:Cx Fd w A Fe mg mb cf):SS Fd w A Fe cf .grp:=λs Fj st E5 E6 E7 m σ r E Fs S H=>xi_grp H λL pl GF j M N Ft Fu=>by
 obtain⟨Y,O⟩:=gh_fresh Fj.scope.names;have Fo:6<=max Y 6:=zB _ _;have T:∀ i,max Y 6<=i->Fj.kindOf (yO (gh i))=y7:=λi Fv=>O i (yQ (zL _ _) Fv)
 have Fw:evE cf (vis σ) (.u "rows")=ac (.list L):=by rw[ig,cB,j];rfl
 have B:L.length<=big:=(S.plain _ _ j).elim λv q=>q.2.listE (C:=λEV=>L.length<=big) λEV EV EV EV EV Fz EV=>Fz
 have FA:∀ x d,σ.lookup x=ac (yM,d)->(freeze ["rows"] σ).lookup x=ac (yM,d):=λx d e=>by rw[bx,e];rfl
 have Fp:∀ x,x≠"rows"->(freeze ["rows"] σ).lookup x=σ.lookup x:=λx FE=>by
  rw[bx,show["rows"].contains x=yM from CL.mpr λq=>FE (zg.mp (AH.mp q))]
  cases σ.lookup x with
  | none=>rfl
  | some p=>exact zj ac (EN (C8 _) QQ)
 have FF:∀ x∈jK,(freeze ["rows"] σ).lookup x=σ.lookup x:=λx EV=>(Classical.em (x="rows")).elim (λe=>e▸(FA _ _ j).trans j.symm) (Fp x)
 refine Fu▸qj (C:=λst=>wpAny (y6 Fd w) A (CR st Fj) (bg w Fe E6 Fj E5 s E7 (.next,yd σ GF)) E s) Fs λt FP b o p c=>bR c λFG c=>kO (l:=o) FG (cj (e:=t) c λy FQ c=>qE c λc1=>eqb (a:=y) c1 λU G V c=>c3_inv (l:=b) c λs1 FR FS c=>iL c λFH FJ FK=>
  bI (pS (ns:=["rows"]) (grp_body (E6:=E6) (GF:=GF) Z Fo T B (Fb:=σ) M FH FJ FK) S U G (λQ k=>nC Z S V Fw λu Fk n z FM FN=>oh (pG (s:={ s with heap:=Fk,toks:=n,drawn:=z }) FN Z.hh QQ) λI h tk dw X fr ex W=>k I Fk h tk dw FM X fr ex W)
   (.mk [] ⟨λEV q=>(nomatch q),(Fp _ (by decide)).trans N,λi q e=>(by rw[DA] at e;cases e),FF⟩ Ft (λEV q=>nomatch q) (zk (Al _)))) λf s' q=>?_)
 refine q _ (λh tk dw E4 m' E2 J t FO=>?_) λEV EV EV EV EV EV EV k=>k.elim
 obtain⟨Fq,h1,S2⟩:=grp_end (s:=s) Fo QQ J FO;exact bg.nx (t.trans (.of (λEV EV e=>e) h1)) S2
end
section
variable {Fd:zv} {w:zD} {A:zF} {Fe:Heap} {mg mb:Str->yX yR} {cf:CF}
theorem all_S1(Z:Cx Fd w A Fe mg mb cf)(i:MS):S1 Fd w A Fe cf i:=
 MS.rec (motive_1:=S1 Fd w A Fe cf) (motive_2:=S2 Fd w A Fe cf) (λx e=>s1 (ss_assign Z x e) QQ) (λx e=>s1 (ss_append Z x e) QQ) (λx k e=>s1 (ss_setk Z x k e) QQ) (λc t f n j=>⟨ss_ite Z n.1 j.1,λY Y Y e=>(MS.ite.inj e).2.2▸j.1⟩) (λx Fm body h=>s1 (ss_for Z h) QQ) (λe=>s1 (ss_ret Z e) QQ)
  (s1 (λs Fj st E5 E6 E7 m σ r E u S b=>aj b) QQ)
  (s1 (ss_grp Z) QQ)
  (λx Fm body h=>s1 (ss_forr Z h.1) QQ)
  (λe=>s1 (ss_expr Z e) QQ)
  (λc body h=>s1 (ss_while Z h.1) QQ)
  s2_nil (λa r o q=>s2_cons Z o q) i
theorem all_S(Z:Cx Fd w A Fe mg mb cf)(a:MS):SS Fd w A Fe cf a:=(all_S1 Z a).1
theorem all_Ss(Z:Cx Fd w A Fe mg mb cf)(b:yN MS):SSs Fd w A Fe cf b:=List.rec (motive:=SSs Fd w A Fe cf) rV (λa r c=>s9 (all_S Z a) c) b
end
noncomputable def qz(h:Heap)(a:yR)(q:Str):Prop:=∃ c o vs t,a=.ref c/\gat h c=ac o/\o.cls=.type "code"/\o.data=.fields vs/\vs[1]?=ac (.str q t)
theorem qz.rec{h:Heap}{a:yR}{q:Str}(x:qz h a q):h.CodeRec a q:=x.elim λc x=>x.elim λo x=>x.elim λvs x=>x.elim λt x=>⟨c,o,vs,t,x.1,Heap.of_gt' x.2.1 (by rw[x.2.2.1];nofun),x.2.2.2⟩
theorem qz.keeps{h h':Heap}{a:yR}{q:Str}(x:qz h a q)(b:KH h h'):qz h' a q:=x.elim λc x=>x.elim λo x=>x.elim λvs x=>x.elim λt x=>⟨c,o,vs,t,x.1,b _ _ x.2.1,x.2.2⟩
structure FnAt(Fe:Heap)(mg:Str->yX yR)(f:yS)(fn:Fn)(a:y0)(o:Obj)(fd:FuncData)(body:yN Ag):Prop where
 f1:mg (yO f)=ac (.ref a)
 f2:gat Fe a=ac o
 f3:o.data=.func fd
 f4:fd.body=.stmts body
 f5:fd.closure=[]
 f6:fd.globals=AB
 f7:fd.builtins=EB
 f8:qz Fe fd.code fd.qualname
 f9:fd.params.posonlyargs=[]
 f10:fd.params.kwonlyargs=[]
 f11:fd.params.vararg=y7
 f12:fd.params.kwarg=y7
 f13:fd.defaults=.none
 f14:fd.params.args.map (·.arg)=fn.params.map yO
 f15:fn.params.Nodup
 f16:fd.scope.kind=.function
 f17:fd.scope.isCoroutine=yM
 f18:fd.scope.isGenerator=yM
 f19:(fd.scope.names.map (·.1)).Nodup
 f20:(∀ p∈fd.scope.names,p.2≠.free)
 f21:(∀ x∈fn.params,fd.scope.names.lookup (yO x)=ac .local\/fd.scope.names.lookup (yO x)=ac .cell)
 f22:fL (λx=>fd.scope.names.lookup x) body fn.body=yP
 f23:(mN (λx=>fd.scope.names.lookup x)=yP->fd.code=.ref oc/\fd.qualname=uV)
structure FnOk(Fe:Heap)(mg:Str->yX yR)(f:yS)(fn:Fn):Prop where
 ok:∃ a o fd body,FnAt Fe mg f fn a o fd body
theorem q8{r:yN (Str×yR)}{n:Str}(h:¬ n∈r.map (·.1)):r.lookup n=y7:=by
 cases q:r.lookup n with
 | none=>rfl
 | some c=>exact zA (Ea (f:=(·.1)) (mem_of_lookup q)) h
theorem bindL_eq{k:KD}(binds:yN (Str×yR))(m:Str->yX yR)(x:Str)(a:(binds.map (·.1)).Nodup)(b:k x=ac .local):bindL k binds m x=(binds.lookup x).or (m x):=by
 induction binds generalizing m with
 | nil=>rfl
 | cons p r c=>
  have a:=Be.mp a;unfold bindL;rw[c _ a.2,aX]
  by_cases h:x=p.1
  ·subst h
   rw[q8 a.1,y8 rfl,y8 b];exact y8 QQ
  ·rw[za h]
   split
   ·exact zj _ (za h)
   ·rfl
theorem bindC_eq{k:KD}(binds:yN (Str×yR))(m:Str->yX yR)(x:Str)(a:(binds.map (·.1)).Nodup)(b:k x≠ac .local):bindC k binds m x=(binds.lookup x).or (m x):=by
 induction binds generalizing m with
 | nil=>rfl
 | cons p r c=>
  have a:=Be.mp a;unfold bindC;rw[c _ a.2,aX]
  by_cases h:x=p.1
  ·subst h
   rw[q8 a.1,y8 rfl,za b];exact y8 QQ
  ·rw[za h]
   split
   ·rfl
   ·exact zj _ (za h)
theorem lookup_zip_map{h:Heap}{P:zT}{H:y0->Prop}{ns:yN yS}{vs:yN yR}{ds:yN D}{x:yS}{d:D}(r:ao P h H vs ds)(e:(ns.zip ds).lookup x=ac d):∃ v,((ns.map yO).zip vs).lookup (yO x)=ac v/\Rep P h H v d:=by
 induction ns generalizing vs ds with
 | nil=>cases e
 | cons n ns a=>
  cases ds with
  | nil=>cases e
  | cons f ds=>
   refine dT.rec (motive:=λvs Z=>∃ v,(((n::ns).map yO).zip vs).lookup (yO x)=ac v/\Rep P h H v d) (λb c=>?_) r
   rw[Bn,zl] at e;rw[zm,Bn,aX]
   by_cases h:x=n
   ·subst h
    rw[zu] at e;exact⟨_,y8 QQ,yW e▸b⟩
   ·rw[show (x == n)=yM from Ay.mpr h] at e
    rw[za (λq=>h (dW q))]
    exact a c e
theorem lY(x:yS)(ns:yN yS)(ds:yN D):((ns.zip ds).map λp=>(p.1,(yM,p.2))).lookup x=((ns.zip ds).lookup x).map λd=>(yM,d):=by
 generalize ns.zip ds=l
 induction l with
 | nil=>rfl
 | cons p l a=>
  rw[zm,zl,zl];cases x == p.1 with
  | true=>rfl
  | false=>exact a
section
variable {Fd:zv} {w:zD} {Fe:Heap} {mg mb:Str->yX yR} {P:yN (yS×Fn)} {X:CF}
theorem xS{a b k j n m l:Nat}(h:a<=b+k)(c:b+m<l)(f:k+j+n<=m:=by decide):a+j+n<l:=y3 (yQ (zK (zK h j) n) (by rw[Au b,Au b];exact zN f b)) c
theorem call_fn(G:GOk mg mb Fe){j:zF}{cf:CF}(FH:j.handled=y7)(FG:j.depth+10<BZ)(F6:j.units+40<Bl)(C:∀ A,uA j A->∀ Fj,e5 Fd w Fe mg cf (A.deeper Fj)){f:yS}{J:Fn}(F:FnOk Fe mg f J){ds:yN D}(F7:ds.length=J.params.length)
  {r:Fl×St} (FJ:bn cf J.body ((J.params.zip ds).map λp=>(p.1,(yM,p.2)))=ac r) {d:D} {fr:yU} (Fp:r.1=.next->d=.none/\fr=yM) (Fq:∀ M Fs,r.1=.ret M Fs->Fs=d/\M=fr) :
  ∃ a o i,mg (yO f)=ac (.ref a)/\gat Fe a=ac o/\o.data=.func i /\
  ∀ A,uA j A->∀ (s:yY) (H:y0->Prop) (vs:yN yR) (E:yR->yY->Prop),HOk Fe s.heap H->ao w.params s.heap H vs ds->wpAny (y6 Fd w) A (PySem.call (.ref a) vs) (cE w s H d fr) E s:=by
 refine F.ok.elim λa q=>q.elim λo q=>q.elim λi q=>q.elim λbody q=>q.rec λF8 F3 FK F9 Ga Gb Gc Gd Ge FM FN FO FP I FQ Ft FR FS Gf FT FU FV Fu=>⟨a,o,i,F8,F3,FK,λA Fv s H vs E N Fw=>?_⟩
 replace FH:A.handled=y7:=Fv.handled.trans FH;have Fz:qw (A.deeper default):=⟨xS Fv.units F6,xS Fv.depth FG⟩;replace FG:A.depth<BZ:=y3 Fv.depth (y3 (zN (by decide) _) FG)
 have m:(i.params.args.map (·.arg)).Nodup:=I▸AX.mpr (FQ.imp λFW e=>FW (dW e))
 have L:(i.params.args.map (·.arg)).length=vs.length:=by rw[I,yV,Fw.length,F7]
 have FA:((((i.params.args.map (·.arg)).zip vs)).map (·.1))=i.params.args.map (·.arg):=og L;have FE:((((i.params.args.map (·.arg)).zip vs)).map (·.1)).Nodup:=FA.symm▸m
 have n:∀ x,i.scope.names.lookup x=ac .cell->∃ c,(CE i s.heap.objs.size a).cells.lookup x=ac c:=λx O=>(fA i.scope.names (s.heap.objs.size+1) x (mem_of_lookup O)).elim λc B=>ez B
 refine wpAny_call (codeAny_call_cells (binds:=(i.params.args.map (·.arg)).zip vs) FG (Heap.of_gt (N.keep _ _ F3) (cH (by rw[FK];nofun))) FK (NoLimit.keepG G.lim N.keep) (Gd.keeps N.keep).rec F9 (ki (vals:=vs) Ge FM FN FO FP m L) Ga (λx O=>?_) (λF4 Z=>?_) FR FS Ft)
 ·have FY:x.1∈J.params.map yO:=I▸FA▸Ea O
  exact (zz.mp FY).elim λz q=>q.2▸(FU z q.1).imp id λe=>⟨e,(n _ e).elim λc h=>by rw[show (AF (s.heap.objs.size+1) i.scope.names []).lookup (yO z)=ac c from h];rfl⟩
 ·obtain⟨Fk,T,rfl,Fo⟩:=Z.toInCall.done
  replace Fo:=Heap.gt_up Fo;have FF:∀ x c,(CE i s.heap.objs.size a).cells.lookup x=ac c->@LT.lt Nat _ s.heap.objs.size c:=λx c B=>Z.above x c (mem_of_lookup B)
  have R:bN Fk (CE i s.heap.objs.size a) (λx=>((i.params.args.map (·.arg)).zip vs).lookup x):=by
   refine⟨Ft,Gb,Gc,⟨_,Z.toInCall.ns,λx O=>?_⟩,λx O=>?_,λx y c h1 Gg=>name_of_addr Z.apart (mem_of_lookup h1) (mem_of_lookup Gg),λx c B e=>Af _ (e▸FF x c B),λx c B=>oH (Z.cell x c B),λF5=>⟨(Fu F5).1,by show i.qualname++_=_;rw[(Fu F5).2];rfl⟩⟩
   ·rw[bindL_eq _ _ x FE O,Option.or_none]
   ·have u:i.scope.names.lookup x=ac .cell:=O.elim id λq=>zA QQ (FT _ (mem_of_lookup q))
    refine (n x u).elim λc B=>⟨c,B,?_⟩
    have:=Z.cell x c B
    rwa [bindC_eq _ _ x FE (by rw[show (CE i s.heap.objs.size a).kindOf x=_ from u];nofun),Option.or_none] at this
  have U:∀ b,frm (CE i s.heap.objs.size a) b->gat s.heap b=y7:=λb q=>q.elim (λq=>q▸dq _) λq=>q.elim λx q=>Heap.gt_none_of_le (zU (FF x b q))
  have V:∀ b,Hot (CE i s.heap.objs.size a) H (λEV=>y7) b->H b\/frm (CE i s.heap.objs.size a) b:=λb q=>q.imp id λq=>q.elim id λq=>q.elim λEV e=>aj e
  have S:bG w Fe s.heap Fk (CE i s.heap.objs.size a) H (λEV=>y7) (λx=>((i.params.args.map (·.arg)).zip vs).lookup x) ((J.params.zip ds).map λp=>(p.1,(yM,p.2))):=by
   refine⟨R,λx Fs e=>?_,λx Fs e=>?_,⟨λb t e=>Fo b t (N.keep b t e),λb q=>(V b q).elim (λq=>(N.ex b q).elim λGh z=>z.elim λt z=>⟨Gh,t,z.1,Fo _ _ z.2⟩) λq=>(fD R q).elim λt FZ=>⟨b,t,ze _,FZ⟩,λb t e q=>(V b q).elim (N.off b t e) λq=>cz (N.keep b t e) (U b q)⟩,Fo,U,λx c e=>aj e,λx y c e=>aj e,λx c e=>aj e⟩
   ·rw[lY] at e
    exact bO e λGi e1 F0=>(lookup_zip_map (ns:=J.params) Fw e1).elim λv q=>⟨v,I▸q.1,(z9 F0).2▸q.2.mono (λb t EV e=>Fo b t e) λb t e q=>(V b q).elim id λq=>cz e (U b q)⟩
   ·rw[lY] at e
    exact bO e λEV EV F0=>nomatch (z9 F0).1
  exact uF (all_Ss ⟨G,C A Fv (CE i s.heap.objs.size a),FH,⟨Fz.units,Fz.depth⟩⟩ (A:=A.deeper (CE i s.heap.objs.size a)) J.body { s with heap:=Fk,toks:=T } (CE i s.heap.objs.size a) body H s.heap (λEV=>y7) _ _ r _ FV S FJ)
   (λh' X Y E4 m' e EV Gj=>⟨.mk h' X Y Gj.keep,(Fp e).1▸rfl,λq=>nomatch (Fp e).2.symm.trans q⟩) λh' X Y M Fs v e EV R=>(Fq _ _ e).1▸(Fq _ _ e).2▸⟨.mk h' X Y R.keep,R.rep,R.fr⟩
theorem AOk.zero{A:zF}{n:Nat}(h:AOk A n):AOk A 0:=⟨h.handled,y3 (zK (zN (zn _) _) _) h.depth,y3 (zK (zN (zn _) _) _) h.units⟩
theorem AOk.deeper{A a:zF}{n:Nat}(h:AOk A (n+1))(b:uA A a)(Fj:Env):AOk (a.deeper Fj) n:=⟨b.handled.trans h.handled,y3 (by
  have:=b.depth;show a.depth+1+2 * n+20<=A.depth+2 * (n+1)+20;exact om51 this) h.depth,y3 (by
  have:=b.units;show a.units+3+13 * n+100<=A.units+13 * (n+1)+100;exact om52 this) h.units⟩
theorem callN_sound(G:GOk mg mb Fe)(s:∀ f b,P.lookup f=ac b->FnOk Fe mg f b)(c:∀ A,AOk A 0->e5 Fd w Fe mg X A)(n:Nat):∀ (A:zF),AOk A n->e5 Fd w Fe mg (ai P X n) A:=by
 induction n with
 | zero=>exact λA a=>⟨λf ds d fr h=>aj h,(c A a).glob⟩
 | succ n t=>
  refine λA a=>⟨λf ds d fr h=>?_,(c A a.zero).glob⟩
  simp only[ai] at h;cases i:P.lookup f with
  | none=>rw[i] at h;exact (c A a.zero).call f ds d fr h
  | some b=>
   rw[i] at h;refine cN h λu h=>?_
   have y:A.depth+10<BZ:=y3 (zr (zo _ _) (by decide)) a.depth
   have z:A.units+40<Bl:=y3 (zr (zo _ _) (by decide)) a.units
   cases j:bn (ai P X n) b.body ((b.params.zip ds).map λp=>(p.1,(yM,p.2))) with
   | none=>rw[j] at h;exact aj h
   | some r=>
    rw[j] at h;obtain⟨o,σ⟩:=r;refine call_fn G a.handled y z (λE B Fj=>t _ (a.deeper B Fj)) (s f b i) u j ?_ ?_
    ·intro q
     have q:o=.next:=q;subst q;exact⟨(z9 (yW h)).1.symm,(z9 (yW h)).2.symm⟩
    ·intro m C q
     have q:o=.ret m C:=q;subst q;exact z9 (yW h)
end
end Mine
namespace Mine
open PySem PySem.SeqAt PySem.W PyProof.Rows
noncomputable def chkFn(d:DefRec)(a:Fn):yU:=
 (d.params.posonlyargs.isEmpty&&d.params.kwonlyargs.isEmpty&&d.params.vararg.isNone&&d.params.kwarg.isNone&&d.params.args.map (·.arg) == a.params.map yO)&&(decide a.params.Nodup &&
 d.scope.kind == .function&&!d.scope.isCoroutine&&!d.scope.isGenerator&&decide (d.scope.names.map (·.1)).Nodup)&&(d.scope.names.all (λp=>p.2 != .free) &&
 a.params.all (λx=>d.scope.names.lookup (yO x) == ac .local||d.scope.names.lookup (yO x) == ac .cell)&&fL (λx=>d.scope.names.lookup x) d.body a.body&&(!mN (λx=>d.scope.names.lookup x)||d.name == uV))
noncomputable def sM(a:yN DefRec)(P:yN (yS×Fn)):yU:=P.all λq=>match a.find? (λd=>d.name == yO q.1) with
 | some d=>chkFn d q.2
 | none=>yM
noncomputable def oM(p:zv)(loose:yN Str):yU:=((DF p).map (·.name)).contains uV&&dC.all λf=>!startupNames.contains (yO f)&&!loose.contains (yO f)&&!((DF p).map (·.name)).contains (yO f)&&!((litsOf p).map (·.1)).contains (yO f)&&!((clssOf p loose).map (·.name)).contains (yO f)
theorem mem_of_lookupS{α:Type}{l:yN (yS×α)}{x:yS}{c:α}(h:l.lookup x=ac c):(x,c)∈l:=by
 induction l with
 | nil=>cases h
 | cons p l a=>
  rw[zl] at h;cases e:x == p.1 with
  | true=>rw[e] at h;exact (show (x,c)=p from EN (eq_of_beq e) (yW h).symm)▸.head _
  | false=>rw[e] at h;exact .tail _ (a h)
noncomputable def TbOk(mg:Str->yX yR)(h:Heap):Prop:=∃ a o fd c vs,mg uV=ac (.ref a)/\h.get? a=ac o/\o.data=.func fd/\fd.code=.ref oc/\h.get? oc=ac c/\c.data=.fields vs/\vs[11]?=ac (.ref tb)
theorem TbOk.keeps{mg:Str->yX yR}{h h':Heap}(x:TbOk mg h)(f:∀ b o,h.get? b=ac o->h'.get? b=ac o):TbOk mg h':=
 x.elim λa x=>x.elim λo x=>x.elim λi x=>x.elim λc x=>x.elim λvs x=>⟨a,o,i,c,vs,x.1,f _ _ x.2.1,x.2.2.1,x.2.2.2.1,f _ _ x.2.2.2.2.1,x.2.2.2.2.2⟩
theorem cRef_inv{v:yX yR}{f:y0->yU}{C:Prop}(h:cRef v f=yP)(k:∀ a,v=ac (.ref a)->f a=yP->C):C:=by
 cases v with
 | none=>cases h
 | some v=>cases v with
  | ref a=>exact k a QQ h
  | _=>cases h
theorem ut{v:yX Obj}{f:Data->yU}{C:Prop}(h:cObj v f=yP)(k:∀ o,v=ac o->f o.data=yP->C):C:=by
 cases v with
 | none=>cases h
 | some v=>exact k v QQ h
theorem tb_of(s:yY)(e:tbAt s=yP):TbOk (s.heap.nsMap AB) s.heap:=by
 refine cRef_inv e λa h e=>ut e λo i e=>?_
 generalize j:o.data=b at e;cases b with
 | func m=>
  refine bR e λe1 e=>ut e λc n e=>?_
  generalize f:c.data=b at e;cases b with
  | fields vs=>exact⟨a,o,m,c,vs,h,i,j,eq_of_beq e1,n,f,eq_of_beq e⟩
  | _=>cases e
 | _=>cases e
theorem lam_of{p:zv}{loose:yN Str}{b:ExcName->yX yR}{mg mb:Str->yX yR}{h:Heap}(T:Top p loose b mg mb h)(i:oM p loose=yP)(y:TbOk mg h):h.IsCode oc tb #[]/\h.TableAt oc tb #[]/\h.BuiltinsAt mg tb:=by
 refine Classical.byContradiction λz=>bR i λi EV=>?_
 obtain⟨d,j,A⟩:=zz.mp (AH.mp i);obtain⟨Fq,Fs,B,c,C,g1,s,t,E,G,m⟩:=T.tab d j;obtain⟨a,o,Ft,H,vs,I,q2,J,L,M,N,O⟩:=y;rw[A,I] at g1;cases g1;rw[q2] at s;cases s;rw[J] at t;cases t;have e1:c=oc:=(Value.ref.inj ((show Value.ref oc=Value.ref c from L.symm.trans E))).symm;subst e1;obtain⟨o1,Fu,u,_,r2,U⟩:=m.1;rw[M] at u;cases u;rw[N] at r2;cases r2;have V:C=tb:=(Value.ref.inj (yW (O.symm.trans U))).symm;subst V;obtain⟨X,Y,Z,Fo,f,w,Fp,n⟩:=T.bmain;refine z ⟨G,m,X,Y,Z,Fo,λq=>?_,λq=>?_,f,w,Fp,n⟩
 ·obtain⟨o,es,ep,e,j,_⟩:=T.g
  rw[q,e] at f;cases f;rw[j] at n;cases n
 ·rw[q,m.2] at f;cases f;cases w
theorem notT:∀ {b:yU},(!b)=yP->b=yM
 | false,_=>rfl
theorem fnOk_of{p:zv}{loose:yN Str}{b:ExcName->yX yR}{mg mb:Str->yX yR}{h:Heap}(T:Top p loose b mg mb h)(u:TbOk mg h)(w:h.TableAt oc tb #[]){P:yN (yS×Fn)}(X:sM (DF p) P=yP){f:yS}{L:Fn}(Y:P.lookup f=ac L):FnOk h mg f L:=by
 refine Classical.byContradiction λZ=>?_
 have this:=zx.mp X _ (mem_of_lookupS Y);dsimp only at this;cases j:(DF p).find? (λd=>d.name == yO f) with
 | none=>rw[j] at this;cases this
 | some d=>
  rw[j] at this;have Fo:d.name=yO f:=eq_of_beq (List.find?_some (p:=λd:DefRec=>d.name == yO f) j)
  have M:=List.mem_of_find?_eq_some j;obtain⟨a,o,FP,code,Fp,h1,m,i,Fq⟩:=T.fn d M;refine iL this λFs k2 Ft=>qE Fs λc1 c2 c3 Fu Fv=>qE k2 λFw Fz FA FE y=>qF Ft λz A B C=>?_
  have FF:qz h code d.name:=by
   obtain⟨FG,FH,E,c,FQ,g1,N,O,FJ,_,⟨oc,FR,U,G,_⟩,_⟩:=T.tab d M;rw[h1] at g1;cases g1;rw[m] at N;cases N;rw[i] at O;cases O;obtain⟨n,FK,vs,t,s,q2,H,I⟩:=Fq;have FM:n=c:=Value.ref.inj (show Value.ref n=Value.ref c from s.symm.trans FJ);subst FM;rw[q2] at U;cases U;have J:n≠tb:=λq=>by
    rw[q,w.2] at q2;rw[<- yW q2] at G;cases G
   exact⟨n,_,vs,t,s,by rw[Heap.gt_ne J];exact q2,G,H,I⟩
  refine Z ⟨a,o,_,d.body,Fo▸h1,Heap.gt_of m (cH (by rw[i];nofun)),i,QQ,QQ,QQ,QQ,FF,Am.mp c1,Am.mp c2,Bf.mp c3,Bf.mp Fu,QQ,eq_of_beq Fv,zS Fw,eq_of_beq Fz,notT FA,notT FE,zS y,λq hq=>CX.mp (zx.mp z q hq),λx FN=>(Bd.mp (zx.mp A x FN)).imp eq_of_beq eq_of_beq,B,λFO=>?_⟩
  have V:d.name=uV:=(Bd.mp C).elim (λq=>by rw[show mN (λx=>d.scope.names.lookup x)=yP from FO] at q;cases q) eq_of_beq
  obtain⟨FG,FH,E,_,_,s,q2,H,I,_⟩:=u;rw[V,s] at h1;cases h1;rw[q2] at m;cases m;rw[H] at i;cases i;exact⟨I,V⟩
theorem gOk_of{p:zv}{loose:yN Str}{a:ExcName->yX yR}{mg mb:Str->yX yR}{h:Heap}(T:Top p loose a mg mb h)(c:oM p loose=yP)(n:TbOk mg h):GOk mg mb h:=by
 refine⟨T.g,T.b,T.nolimit,λf i=>⟨?_,?_⟩,lam_of T c n⟩
 ·refine bR c λZ c=>qE (zx.mp c f i) λc1 c2 c3 j m=>?_
  simp only[DD,List.contains_eq_mem,decide_eq_false_iff_not] at c1 c2 c3 j m;exact T.free _ c1 c2 c3 j m
 ·rw[T.builtins]
  ·have:(dC.all λf=>bootBuiltins (yO f) == ac (dZ f))=yP:=by decide +kernel
   exact eq_of_beq (zx.mp this f i)
  ·have:(dC.all λf=>yO f != yO "__name__")=yP:=by decide +kernel
   exact CX.mp (zx.mp this f i)
theorem oldK_of{h h':Heap}(f:∃ c,h.TableAt c tb #[])(m:KH h h'):OldK h h':=by
 obtain⟨c,i⟩:=f;have a:∀ b o,h.get? b=ac o->h'.get? b=ac o\/b=tb/\o=xe/\∃ xs,h'.get? b=ac { cls:=.none,data:=.fields xs }:=λb o e=>by
  by_cases j:b=tb
  ·subst j
   have n:o=xe:=yW (e.symm.trans i.2);obtain⟨t,s,⟨_,q⟩ | ⟨_,_,xs,q,_⟩⟩:=Heap.gt_some (m _ _ (Heap.gt_good i.2 jw.empty))
   ·cases q QQ
   ·exact .inr ⟨QQ,n,xs,q▸s⟩
  ·have q:=m b o (by rw[Heap.gt_ne j];exact e)
   rw[Heap.gt_ne j] at q;exact .inl q
 refine⟨λb o e=>?_,λb o e=>?_⟩
 ·rcases a b o e with q | ⟨rfl,rfl,xs,q⟩
  ·exact .inl q
  ·exact .inr (.inl ⟨i.isCodeTable,QQ,#[],xs,QQ,by rw[q,Array.empty_append]⟩)
 ·rcases a b o e with q | ⟨_,_,xs,q⟩
  ·exact⟨_,q⟩
  ·exact⟨_,q⟩
theorem wellInts{P:zT}{h:Heap}{H:y0->Prop}{ns:yN Int}{vs:yN yR}(a:WellAll P h vs (ofPys (ns.map PyData.int))):ao P h H vs (ns.map .int):=by
 induction ns generalizing vs with
 | nil=>cases a;rfl
 | cons n ns b=>
  cases a with
  | cons h1 c=>
   cases h1;exact .mk (.mk _) (b c)
theorem aOk_top{N:Nat}(b:N<=300):AOk callerA N:=⟨QQ,by
  show 1+claimMargin+2 * N+20<BZ;have e1:claimMargin=300:=rfl;have a:BZ=1000:=rfl;exact om53 b e1 a,by
  show 4+13 * N+100<Bl;have a:Bl=9900:=rfl;exact om54 b a⟩
theorem law_fin{l:OpenLaw}{w:zD}{i b:yY}{mg mb:Str->yX yR}{p:zv}{loose:yN Str}{m c:ExcName->yX yR}{P:yN (yS×Fn)}{X:CF}(N:Nat)(T:Top p loose m mg mb b.heap)
  (z:sM (DF p) P=yP) (B:oM p loose=yP) (C:N<=300) (E:∀ A,AOk A 0->e5 l.prog w b.heap mg X A) (n:TbOk mg b.heap)
  {u a:y0} {ns:yN Int} (y:mg (yO "law")=ac (.ref u)) (H:b.gens=#[]) (I:Well w.params b.heap (.ref a) (ofPy (PyData.list (ns.map PyData.int)))) (s:¬ ((63:Nat):Int)<(ns.length:Int))
  (j:∃ fr,(ai P X N).call "law" [.list (ns.map .int)]=ac (.bool yP,fr)) :
  wpAny (y6 l.row.toRowW.prog w) callerA (call (.ref u) [.ref a]) (λv s'=>GoodWG l.row.toRowW.claim (classAt i.heap) c [ofPy (PyData.list (ns.map PyData.int))] b (.ok (.ret v)) s')
   (λe s'=>GoodWG l.row.toRowW.claim (classAt i.heap) c [ofPy (PyData.list (ns.map PyData.int))] b (.error e) s') b:=by
 have G:=gOk_of T B n;have t:Rep w.params b.heap (λEV=>False) (.ref a) (.list (ns.map .int)):=by
  cases I with
  | list J L=>exact .mk J (λq=>q) (by rw[yV];exact yQ (AD.mp (Ce.mp s)) (by decide)) (wellInts (by simpa using L))
 refine j.elim λfr M=>((callN_sound (Fd:=l.prog) (w:=w) G (λf Y O=>fnOk_of T n G.lam.2.1 z O) E N callerA (aOk_top C)).call "law" _ _ fr M).elim λU q=>q.elim λo q=>q.elim λZ q=>?_
 have e:U=u:=Value.ref.inj (yW (q.1.symm.trans y));subst e;refine bI (q.2.2.2 callerA (.refl _) b (λEV=>False) [.ref a] _ ⟨λEV EV e=>e,λEV q=>q.elim,λEV EV EV q=>q⟩ (.cons t .nil)) λv s' q=>q.rec λk r EV=>?_
 refine bQ.rec (motive:=λs' EV=>GoodWG l.row.toRowW.claim (classAt i.heap) c [ofPy (PyData.list (ns.map PyData.int))] b (.ok (.ret v)) s') (λh' tk dw V=>?_) k
 rw[show v=.bool yP from r];exact⟨.inl ⟨.bool yP,.bool yP,[],QQ,λEV=>QQ,.bool yP,postW_of (r:=l.row.toRowW) QQ (w_eq_bool (w_res QQ) w_lit) QQ,λEV=>⟨.nil,λEV h=>nomatch h⟩⟩,oldK_of ⟨_,G.lam.2.1⟩ V,QQ,.of_eq H⟩
end Mine
namespace Mine
open PySem
noncomputable def Run(cf:CF)(a:yN MS)(σ:St)(d:D)(fr:yU):Prop:=fin (bn cf a σ)=ac (d,fr)
structure Stp(cf:CF)(s:MS)(σ E2:St):Prop where
 go:∀ r,bn cf (s::r) σ=bn cf r E2
section
variable {cf:CF} {ρ:yN (yS×D)} {σ E2:St} {a b c e:ME} {d x y:D} {i j:Int} {fr:yU} {r t f body:yN MS} {z:yS}
section
variable {u:Str}{Fm:ME}{k:Nat}
theorem aq(h:evE cf ρ e=ac d)(a:oD e=y7)(b:frF e d=fr):evF cf ρ e=ac (d,fr):=by
 unfold evF;rw[a,h];show ac (d,frF e d)=_;rw[b]
theorem aE{g:yS}{as:yN ME}{ds:yN D}(h:cu cf ρ as=ac ds)(a:cf.call g ds=ac (d,fr)):evF cf ρ (.call g as)=ac (d,fr):=by
 rw[mh,h];exact a
theorem al{g:yS}{as:yN ME}{ds:yN D}(h:cu cf ρ as=ac ds)(a:cf.call g ds=ac (d,fr)):evE cf ρ (.call g as)=ac d:=by
 rw[e_call,h];show (cf.call g ds).map _=_;rw[a];rfl
theorem ad{es:yN ME}{ds:yN D}(h:evE cf ρ e=ac d)(a:cu cf ρ es=ac ds):cu cf ρ (e::es)=ac (d::ds):=by
 rw[es_cons,h,a];rfl
theorem am{c:AU}(f:evE cf ρ a=ac x)(i:evE cf ρ b=ac y)(h:en c x y=ac d):evE cf ρ (.bin c a b)=ac d:=by
 rw[e_bin,f,i];exact h
theorem uw(h:-lim<j/\j<lim):en .Mult (.int i) (.int j)=ac (.int (i * j)):=y8 (.inr h)
theorem nq(h:-lim<i/\i<lim):en .Mult (.int i) (.int j)=ac (.int (i * j)):=y8 (.inl h)
theorem br(h:0<j/\j<lim):en .FloorDiv (.int i) (.int j)=ac (.int (i / j)):=y8 h
theorem aP(h:0<j):en .Mod (.int i) (.int j)=ac (.int (i % j)):=y8 h
theorem wY(h:-fG<i/\i<fG/\0<=j/\j<=100):en .Pow (.int i) (.int j)=ac (.int (i ^ j.toNat)):=y8 h
theorem cZ:en .Add (.int i) (.int j)=ac (.int (i+j)):=rfl
theorem u6:en .Sub (.int i) (.int j)=ac (.int (i - j)):=rfl
theorem ax{c:CV}(f:evE cf ρ a=ac x)(i:evE cf ρ b=ac y)(h:eT c x y=ac d):evE cf ρ (.cmp c a b)=ac d:=by
 rw[e_cmp,f,i];exact h
theorem aw(c:evE cf ρ a=ac x)(f:evE cf ρ b=ac y)(h:aV x y=ac d):evE cf ρ (.sub a b)=ac d:=by
 rw[e_sub,c,f];exact h
theorem qB{l h:ME}{u v:D}(b:evE cf ρ a=ac x)(c:evE cf ρ l=ac u)(f:evE cf ρ h=ac v)(i:slD x u v=ac d):evE cf ρ (.sl a l h)=ac d:=by
 rw[e_sl,b,c,f];exact i
theorem jD{k:yU}(b:evE cf ρ a=ac x)(h:bW x=ac k):evE cf ρ (.not a)=ac (.bool (!k)):=by
 rw[e_not,b];show (bW x).map _=_;rw[h];rfl
theorem lH{T:yS}{k:yU}(b:evE cf ρ a=ac x)(h:pH x T=ac k):evE cf ρ (.isi a T)=ac (.bool k):=by
 rw[e_isi,b];show (pH x T).map _=_;rw[h];rfl
theorem bP{g:yS}{as:yN ME}{ds:yN D}(a:cu cf ρ as=ac ds)(h:gI g ds=ac d):evE cf ρ (.blt g as)=ac d:=by
 rw[e_blt,a];exact h
theorem bD{as:yN ME}{ds:yN D}(a:cu cf ρ as=ac ds)(h:ds.length<=big):evE cf ρ (.tup as)=ac (.tup ds):=by
 rw[e_tup,a];exact y8 h
theorem cO{as:yN ME}{ds:yN D}(a:cu cf ρ as=ac ds)(h:ds.length<=big):evE cf ρ (.lst as)=ac (.list ds):=by
 rw[e_lst,a];exact y8 h
theorem v_inn(b:evE cf ρ a=ac (.str u)):evE cf ρ (.inn a)=ac (.int (qC u)):=by rw[e_inn,b];rfl
theorem v_sset(b:evE cf ρ a=ac x)(h:oX x=ac d):evE cf ρ (.sset a)=ac d:=by rw[e_sset,b];exact h
theorem xq{ds:yN D}(b:evE cf ρ a=ac x)(h:uU x=ac ds):evE cf ρ (.lcp a)=ac (.list ds):=by
 rw[e_lcp,b];show (uU x).map _=_;rw[h];rfl
theorem gW{elt:ME}{cs:yN ME}{E8 ds:yN D}(a:evE cf ρ Fm=ac x)(hi:x.items=ac E8)(b:E8.length<=big)(h:bS (k5 cf ρ elt z cs) E8=ac ds):evE cf ρ (.comp elt z Fm cs)=ac (.list ds):=by
 rw[e_comp,a];show (match x.items with | some E8=>_ | none=>_)=_;rw[hi];show (if E8.length<=big then _ else _)=_;rw[y8 b,h];rfl
theorem cW{k l:yU}{r':yN ME}(c:evE cf ρ a=ac (.bool k))(f:k=yP->evE cf ρ (.bop .And (b::r'))=ac (.bool l)):evE cf ρ (.bop .And (a::b::r'))=ac (.bool (k&&l)):=by
 rw[e_bop,b_and,c,vM];cases k with
 | false=>rfl
 | true=>exact f QQ
theorem fN{k l:yU}{r':yN ME}(c:evE cf ρ a=ac (.bool k))(f:k=yM->evE cf ρ (.bop .Or (b::r'))=ac (.bool l)):evE cf ρ (.bop .Or (a::b::r'))=ac (.bool (k||l)):=by
 rw[e_bop,b_or,c,vM];cases k with
 | true=>rfl
 | false=>exact f QQ
theorem bk{b:C7}(c:evE cf ρ a=ac d):evE cf ρ (.bop b [a])=ac d:=c
theorem ak(h:evF cf (vis σ) e=ac (d,fr)):Stp cf (.x0 z e) σ (az (settle d e.names σ) z (fr,d)):=⟨λr=>xo (by rw[qH,h])⟩
theorem bT{ds:yN D}(h:evE cf (vis σ) e=ac d)(a:(settle d e.names σ).lookup z=ac (yP,.list ds))(b:ds.length<big):Stp cf (.append z e) σ (az (settle d e.names σ) z (yP,.list (ds++[d]))):=⟨λr=>xo (by rw[xs_append,h];dsimp only;rw[a];exact y8 b)⟩
theorem uR{k:ME}{dk:D}{ks vs:yN D}(h:evE cf (vis σ) e=ac d)(a:evE cf (vis σ) k=ac dk)(b:(settle dk k.names (settle d e.names σ)).lookup z=ac (yP,.dict ks vs))(c:(dQ dk ks&&decide (ks.length<big))=yP) :
  Stp cf (.setk z k e) σ (az (settle dk k.names (settle d e.names σ)) z (yP,.dict (dK ks vs dk d).1 (dK ks vs dk d).2)):=⟨λr=>xo (by rw[xs_setk,h];dsimp only;rw[a];dsimp only;rw[b];exact y8 c)⟩
theorem p_grp(h:yc cf σ=ac E2):Stp cf .grp σ E2:=⟨λr=>xo (by rw[xl,h])⟩
theorem aA{s:MS}(h:Stp cf s σ E2)(k:Run cf r E2 d fr):Run cf (s::r) σ d fr:=by unfold Run;rw[h.go];exact k
theorem bc{k:yU}(h:evE cf (vis σ) c=ac x)(a:bW x=ac k)(b:k=yP->Run cf (t++r) σ d fr)(i:k=yM->Run cf (f++r) σ d fr):Run cf (.ite c t f::r) σ d fr:=by
 unfold Run;rw[xn h a];cases k with
 | true=>exact b QQ
 | false=>exact i QQ
theorem aD(h:evF cf (vis σ) e=ac (d,fr))(a:e.varOf=y7):Run cf (.ret e::r) σ d fr:=by unfold Run;rw[qI (x_rv a h)];rfl
theorem dP(h:σ.lookup z=ac (fr,d)):Run cf (.ret (.u z)::r) σ d fr:=by unfold Run;rw[qI (x_rx h)];rfl
theorem ef{E8:yN D}(a:evE cf (vis σ) Fm=ac x)(hi:x.items=ac E8)(h:cG (dB cf body z) E8 (freeze Fm.names σ)=ac (.next,E2))(k:Run cf r E2 d fr):Run cf (.for_ z Fm body::r) σ d fr:=by
 unfold Run;rw[xp a hi,h];exact k
theorem mI{E8:yN D}(a:evE cf (vis σ) Fm=ac x)(hi:x.items=ac E8)(h:cG (dB cf body z) E8 (freeze Fm.names σ)=ac (.ret fr d,E2)):Run cf (.for_ z Fm body::r) σ d fr:=by
 unfold Run;rw[xp a hi,h];rfl
theorem jH(h:evE cf (vis σ) e=ac d)(a:d.scalar=yP):Stp cf (.expr e) σ σ:=⟨λr=>xo (by rw[xs_expr,h];exact y8 a)⟩
theorem r_while(h:fb (gQ cf c) (λσ=>bn cf body σ) xc σ=ac (.next,E2))(k:Run cf r E2 d fr):Run cf (.while_ c body::r) σ d fr:=by
 unfold Run;rw[x_while,h,oV];exact k
theorem r_forr{ds:yN D}(a:evE cf (vis σ) Fm=ac (.tup ds))(h:cG (dB cf body z) ds.reverse (freeze Fm.names σ)=ac (.next,E2))(k:Run cf r E2 d fr):Run cf (.forr z Fm body::r) σ d fr:=by
 unfold Run;rw[x_forr _ _ _ _ _ _ a,h,oV];exact k
theorem av{P:yN (yS×Fn)}{X:CF}{g:yS}{ps:yN yS}{bd:yN MS}{n:Nat}{args:yN D}(h:P.lookup g=ac ⟨ps,bd⟩)(a:args.length=ps.length)(k:Run (ai P X n) bd ((ps.zip args).map λp=>(p.1,(yM,p.2))) d fr) :
  (ai P X (n+1)).call g args=ac (d,fr):=by rw[wP n args h a];exact k
theorem pp{k:yU}{α:Prop}(h:k=yP)(h':k=yM):α:=by rw[h] at h';cases h'
theorem np{v:Str}(h:u.length+v.length<=big):en .Add (.str u) (.str v)=ac (.str (u++v)):=y8 h
theorem bin_tt{u v:yN D}(h:u.length+v.length<=big):en .Add (.tup u) (.tup v)=ac (.tup (u++v)):=y8 h
theorem yy{u v:yN D}(h:u.length+v.length<=big):en .Add (.list u) (.list v)=ac (.list (u++v)):=y8 h
theorem bin_sm{k:Int}(h:0<=k/\k<=1000/\u.length<=1000):en .Mult (.str u) (.int k)=ac (.str (Txt.mul u k)):=y8 h
theorem sub_s{k:Int}(h:0<=k/\k<u.length/\u.length<=big):aV (.str u) (.int k)=ac (.str (cy u k.toNat)):=y8 h
theorem lK{u:yN D}(h:k<u.length)(he:u[k]?=ac d):aV (.list u) (.int k)=ac d:=by
 show (idx k u.length).bind _=_;have:idx (k:Int) u.length=ac k:=y8 ⟨At k,BI.mpr h⟩;rw[this];exact he
theorem sub_t{u:yN D}(h:k<u.length)(he:u[k]?=ac d):aV (.tup u) (.int k)=ac d:=lK h he
theorem kN(h:k<=big):gI "range" [.int k]=ac (.rng 0 k):=by
 show (if _ then _ else _)=_
 exact y8 (om183 h)
theorem len_s(h:u.length<=big):gI "len" [.str u]=ac (.int u.length):=y8 h
end
noncomputable def Rex(cf:CF)(a:yN MS)(σ:St)(Q:D->yU->Prop):Prop:=∃ d fr,Q d fr/\Run cf a σ d fr
variable {Q:D->yU->Prop}
theorem bi{s:MS}(h:Stp cf s σ E2)(k:Rex cf r E2 Q):Rex cf (s::r) σ Q:=let ⟨d,fr,q,k⟩:=k;⟨d,fr,q,aA h k⟩
theorem dU{k:yU}(h:evE cf (vis σ) c=ac x)(a:bW x=ac k)(b:k=yP->Rex cf (t++r) σ Q)(i:k=yM->Rex cf (f++r) σ Q):Rex cf (.ite c t f::r) σ Q:=by
 cases k with
 | true=>obtain⟨d,fr,q,k⟩:=b QQ;exact⟨d,fr,q,bc h a (λZ=>k) nofun⟩
 | false=>obtain⟨d,fr,q,k⟩:=i QQ;exact⟨d,fr,q,bc h a nofun λZ=>k⟩
theorem cI(h:evF cf (vis σ) e=ac (d,fr))(a:e.varOf=y7)(q:Q d fr):Rex cf (.ret e::r) σ Q:=⟨d,fr,q,aD h a⟩
theorem xF(h:σ.lookup z=ac (fr,d))(q:Q d fr):Rex cf (.ret (.u z)::r) σ Q:=⟨d,fr,q,dP h⟩
theorem xG(h:σ=E2)(k:Rex cf r E2 Q):Rex cf r σ Q:=h▸k
theorem q_for{Fm:ME}{E8:yN D}(a:evE cf (vis σ) Fm=ac x)(hi:x.items=ac E8)(h:cG (dB cf body z) E8 (freeze Fm.names σ)=ac (.next,E2))(k:Rex cf r E2 Q):Rex cf (.for_ z Fm body::r) σ Q:=
 let ⟨d,fr,q,k⟩:=k;⟨d,fr,q,ef a hi h k⟩
theorem q_forR{Fm:ME}{E8:yN D}(a:evE cf (vis σ) Fm=ac x)(hi:x.items=ac E8)(h:cG (dB cf body z) E8 (freeze Fm.names σ)=ac (.ret fr d,E2))(q:Q d fr):Rex cf (.for_ z Fm body::r) σ Q:=⟨d,fr,q,mI a hi h⟩
theorem dO{P:yN (yS×Fn)}{X:CF}{g:yS}{ps:yN yS}{bd:yN MS}{n:Nat}{args:yN D}(h:P.lookup g=ac ⟨ps,bd⟩)(a:args.length=ps.length)(k:Rex (ai P X n) bd ((ps.zip args).map λp=>(p.1,(yM,p.2))) Q) :
  ∃ d fr,Q d fr/\(ai P X (n+1)).call g args=ac (d,fr):=let ⟨d,fr,q,k⟩:=k;⟨d,fr,q,av h a k⟩
theorem k8{elt Fm:ME}{k:Nat}(c:k<=1000)(R:D->Prop)(f:evE cf ρ Fm=ac (.int k))(h:∀ i:Nat,i<k->∃ d,R d/\evE cf ((z,.int i)::ρ) elt=ac d) :
  ∃ ds:yN D,ds.length=k/\(∀ d∈ds,R d)/\evE cf ρ (.blt "tuple" [.comp elt z (.blt "range" [Fm]) []])=ac (.tup ds):=by
 obtain⟨ds,e,j,hq⟩:=uo (k5 cf ρ elt z []) (λZ d=>R d) ((zt k).map λ(i:Nat)=>D.int (i:Int)) (by
  intro o hit;obtain⟨i,m,rfl⟩:=zz.mp hit;obtain⟨d,q,e⟩:=h i (AY.mp m);exact⟨d,q,fT e⟩)
 have b:k<=big:=yQ c (by decide)
 have a:((zt k).map λ(i:Nat)=>D.int (i:Int)).length=k:=by simp
 refine⟨ds,j.trans a,λd n=>let ⟨_,_,q⟩:=hq d n;q,?_⟩
 exact bP (ad (gW (bP (ad f vN) (kN b)) (eI k) (yQ (zk a) b) e) vN) QQ
noncomputable def Out(cf:CF)(a:yN MS)(σ:St)(R:Fl->St->Prop):Prop:=∃ fl E2,R fl E2/\bn cf a σ=ac (fl,E2)
variable {R:Fl->St->Prop}
theorem aJ{s:MS}(h:Stp cf s σ E2)(k:Out cf r E2 R):Out cf (s::r) σ R:=let ⟨fl,s',q,k⟩:=k;⟨fl,s',q,(h.go r).trans k⟩
theorem cM{k:yU}(h:evE cf (vis σ) c=ac x)(a:bW x=ac k)(b:k=yP->Out cf (t++r) σ R)(i:k=yM->Out cf (f++r) σ R):Out cf (.ite c t f::r) σ R:=by
 unfold Out;rw[xn h a];cases k with
 | true=>exact b QQ
 | false=>exact i QQ
theorem tG(h:evF cf (vis σ) e=ac (d,fr))(a:e.varOf=y7)(q:R (.ret fr d) σ):Out cf (.ret e::r) σ R:=⟨_,_,q,qI (x_rv a h)⟩
theorem bB(q:R .next σ):Out cf [] σ R:=⟨_,_,q,x_nil cf σ⟩
theorem aW(h:evF cf (vis σ) e=ac (d,fr))(a:d.isCell=yP):Stp cf (.x0 z e) σ (az σ z (fr,d)):=by
 have:=ak (z:=z) h;unfold settle at this
 rwa [y8 (by cases d <;> first | rfl | cases a)] at this
theorem mQ(p:D->yU)(I:St->Prop)(fr:yU)(d:D):∀ (E8:yN D),(∀ it∈E8,∀ σ,I σ->Out cf body (az σ z (yM,it)) λc E2=>if p it=yP then c=.ret fr d else c=.next/\I E2) ->
  ∀ σ,I σ->∃ E2,(E8.any p=yP->cG (dB cf body z) E8 σ=ac (.ret fr d,E2))/\(E8.any p=yM->I E2/\cG (dB cf body z) E8 σ=ac (.next,E2))
 | [],_,σ,b=>⟨σ,nofun,λZ=>⟨b,QQ⟩⟩
 | it::r,h,σ,b=>by
  obtain⟨c,a,q,e⟩:=h it (.head _) σ b;rw[AI,cA,e];cases f:p it with
  | true=>
   rw[y8 f] at q;subst q;exact⟨a,λZ=>QQ,nofun⟩
  | false=>
   rw[za (by rw[f];exact y5)] at q
   obtain⟨rfl,j⟩:=q;exact mQ p I fr d r (λi m=>h i (.tail _ m)) a j
theorem fZ(I:yN D->St->Prop):∀ (E8 pre:yN D) (σ:St),I pre σ->(∀ a it b σ,pre++E8=a++it::b->I a σ->Out cf body (az σ z (yM,it)) λj E2=>j=.next/\I (a++[it]) E2) ->
  ∃ E2,I (pre++E8) E2/\cG (dB cf body z) E8 σ=ac (.next,E2)
 | [],pre,σ,h,_=>⟨σ,by simpa using h,QQ⟩
 | it::r,pre,σ,h,m=>by
  obtain⟨j,c,⟨rfl,n⟩,e⟩:=m pre it r σ QQ h;obtain⟨f,o,q⟩:=fZ I r (pre++[it]) c n λa i b s h=>m a i b s (by simpa using h)
  exact⟨f,by simpa using o,by rw[cA,e];exact q⟩
end
noncomputable def nu(ρ:yN (yS×D))(x:yS)(d:D):Prop:=ρ.lookup x=ac d
noncomputable def Has(σ:St)(x:yS)(d:D):Prop:=∃ fr,σ.lookup x=ac (fr,d)
noncomputable def bH(σ:St)(x:yS)(d:D):Prop:=σ.lookup x=ac (yP,d)
section
variable {cf:CF} {ρ:yN (yS×D)} {σ:St} {x y:yS} {d e:D} {v:yU×D} {ns:yN yS} {fr:yU}
theorem b0:nu ((x,d)::ρ) x d:=by unfold nu;rw[zl,zu]
theorem bE(h:(x == y)=yM)(k:nu ρ x d):nu ((y,e)::ρ) x d:=by unfold nu;rw[zl,h];exact k
theorem aM(h:Has σ x d):nu (vis σ) x d:=by obtain⟨fr,h⟩:=h;unfold nu;rw[cB,h];rfl
theorem ay:Has (az σ x (fr,d)) x d:=⟨fr,by rw[aI,y8 rfl]⟩
theorem ag(h:(x == y)=yM)(k:Has σ x d):Has (az σ y v) x d:=let ⟨fr,k⟩:=k;⟨fr,by rw[aI,za (by rintro rfl;rw[zu] at h;cases h)];exact k⟩
theorem cg(k:Has σ x d):Has (freeze ns σ) x d:=let ⟨fr,k⟩:=k;⟨_,by rw[bx,k];rfl⟩
theorem au(k:Has σ x d):Has (settle e ns σ) x d:=by unfold settle;split;exact k;exact cg k
theorem ae:Has ((x,(fr,d))::σ) x d:=⟨fr,by rw[zl,zu]⟩
theorem af(h:(x == y)=yM)(k:Has σ x d):Has ((y,v)::σ) x d:=let ⟨fr,k⟩:=k;⟨fr,by rw[zl,h];exact k⟩
theorem iB(k:bH σ x d):Has σ x d:=⟨yP,k⟩
theorem dF:bH (az σ x (yP,d)) x d:=by unfold bH;rw[aI,y8 rfl]
theorem bC(h:(x == y)=yM)(k:bH σ x d):bH (az σ y v) x d:=by unfold bH;rw[aI,za (by rintro rfl;rw[zu] at h;cases h)];exact k
theorem gG(h:ns.contains x=yM)(k:bH σ x d):bH (freeze ns σ) x d:=by unfold bH;rw[bx,k];show ac (yP&&!ns.contains x,d)=_;rw[h];rfl
theorem bZ(h:ns.contains x=yM)(k:bH σ x d):bH (settle e ns σ) x d:=by unfold settle;split;exact k;exact gG h k
theorem vL{Fm:ME}{z:yS}{body r:yN MS}{E8:yN D}{E2:St}{R:Fl->St->Prop}(a:evE cf (vis σ) Fm=ac d)(hi:d.items=ac E8)(h:cG (dB cf body z) E8 (freeze Fm.names σ)=ac (.next,E2))(k:Out cf r E2 R):Out cf (.for_ z Fm body::r) σ R:=by
 unfold Out;rw[xp a hi,h];exact k
theorem rP:evE cf ρ (.neg (.int 1))=ac (.int (-1)):=rfl
theorem aF(h:nu ρ x d):evE cf ρ (.u x)=ac d:=h
theorem vr{cf:CF}{σ:St}{x:yS}{d:D}(h:Has σ x d):evE cf (vis σ) (.u x)=ac d:=aM h
theorem vv{cf:CF}{σ:St}{x:yS}{d:D}{es:yN ME}{ds:yN D}(h:Has σ x d)(a:cu cf (vis σ) es=ac ds):cu cf (vis σ) (.u x::es)=ac (d::ds):=ad (aM h) a
theorem vsi{cf:CF}{σ:St}{x:yS}{d r:D}{i:Int}(h:Has σ x d)(k:aV d (.int i)=ac r):evE cf (vis σ) (.sub (.u x) (.int i))=ac r:=aw (aM h) QQ k
end
set_option maxHeartbeats 4000000
noncomputable def nb:Fn:=⟨["one","other"],[
  .ite (.cmp .NotEq (.isi (.u "one") "str") (.isi (.u "other") "str")) [.ret (.isi (.u "other") "str")] [],
  .ret (.cmp .Lt (.u "one") (.u "other"))]⟩
noncomputable def ie:Fn:=⟨["_law_one","_law_other"],[
  .ite (.bop .And [.isi (.u "_law_one") "str",.isi (.u "_law_other") "str"]) [.ret (.cmp .Lt (.u "_law_one") (.u "_law_other"))] [],
  .ite (.bop .Or [.isi (.u "_law_one") "str",.isi (.u "_law_other") "str"]) [.ret (.isi (.u "_law_other") "str")] [],
  .ret (.cmp .Lt (.u "_law_one") (.u "_law_other"))]⟩
noncomputable def je:Fn:=⟨["_law_one","_law_other"],[
  .ite (.bop .Or [.isi (.u "_law_one") "str",.isi (.u "_law_other") "str"]) [.ret (.bop .And [.isi (.u "_law_one") "str",.isi (.u "_law_other") "str",.cmp .Eq (.u "_law_one") (.u "_law_other")])] [],
  .ret (.cmp .Eq (.u "_law_one") (.u "_law_other"))]⟩
noncomputable def jQ:Fn:=⟨["_law_cell"],[
  .x0 "_law_some" (.str " !\"#$&'()*+,-./0123456789:;<=>?@ABCDEFGHIJKLMNOPQRSTUVWXYZ[\\]^_`"),
  .x0 "_law_some" (.bin .Add (.u "_law_some") (.str "abcdefghijklmnopqrstuvwxyz{|}~")),
  .ret (.sub (.u "_law_some") (.bin .Mod (.u "_law_cell") (.int 94)))]⟩
noncomputable def jY:Fn:=⟨["_law_script","_law_k"],[
  .ite (.cmp .Lt (.u "_law_k") (.blt "len" [.u "_law_script"])) [.ret (.sub (.u "_law_script") (.u "_law_k"))] [],
  .ret (.int 0)]⟩
noncomputable def fJ:Fn:=⟨["_law_cell"],[
  .x0 "_law_way" (.bin .Mod (.u "_law_cell") (.int 9)),
  .x0 "_law_rest" (.bin .FloorDiv (.u "_law_cell") (.int 9)),
  .ite (.cmp .Lt (.u "_law_way") (.int 4)) [.ret (.bin .Sub (.bin .Mod (.u "_law_rest") (.int 4)) (.int 1))] [],
  .ite (.cmp .Eq (.u "_law_way") (.int 4)) [.ret (.bin .Sub (.bin .Mod (.u "_law_rest") (.int 2000001)) (.int 1000000))] [],
  .ite (.cmp .Eq (.u "_law_way") (.int 5)) [.ret (.sub (.lst [.str "a",.str "b",.str "1",.str "0",.str "-1",.str "col",.str "is",.str "count"]) (.bin .Mod (.u "_law_rest") (.int 8)))] [],
  .ite (.cmp .Eq (.u "_law_way") (.int 6)) [.ret (.bin .Mult (.call "_law_sign_by" [.u "_law_rest"]) (.bin .Mod (.bin .FloorDiv (.u "_law_rest") (.int 94)) (.int 100)))] [],
  .ite (.cmp .Eq (.u "_law_way") (.int 7)) [.ret (.bin .Add (.bin .Sub (.bin .Mod (.bin .Pow (.bin .Add (.bin .Mod (.u "_law_rest") (.bin .Pow (.int 10) (.int 60))) (.int 3)) (.int 9)) (.bin .Sub (.bin .Mult (.int 2) (.bin .Pow (.int 10) (.int 60))) (.int 1))) (.bin .Pow (.int 10) (.int 60))) (.int 1))] [],
  .x0 "_law_word" (.sl (.str "any word") .none (.bin .Mod (.u "_law_rest") (.int 9))),
  .x0 "_law_at" (.bin .Mod (.bin .FloorDiv (.u "_law_rest") (.int 9)) (.bin .Add (.blt "len" [.u "_law_word"]) (.int 1))),
  .ret (.bin .Add (.bin .Add (.sl (.u "_law_word") .none (.u "_law_at")) (.call "_law_sign_by" [.bin .FloorDiv (.u "_law_rest") (.int 81)])) (.sl (.u "_law_word") (.u "_law_at") .none))]⟩
noncomputable def l9:Fn:=⟨["_law_cell","_law_k"],[
  .ret (.bin .Mod (.bin .Pow (.bin .Mod (.bin .Add (.bin .Mult (.u "_law_cell") (.int 48271)) (.bin .Mult (.bin .Add (.u "_law_k") (.int 1)) (.int 1299721))) (.int 2147483647)) (.int 5)) (.int 2147483647))]⟩
structure BG(P:yN (yS×Fn)):Prop where
 sign:P.lookup "_law_sign_by"=ac jQ
 cell:P.lookup "_law_cell_at"=ac jY
 thing:P.lookup "_law_thing_by"=ac fJ
 mixed:P.lookup "_law_mixed"=ac l9
structure BC(P:yN (yS×Fn)):Prop where
 before:P.lookup "before"=ac nb
 sq:P.lookup "_law_alike"=ac je
 iY:P.lookup "_law_before"=ac ie
noncomputable def cX:Str:=yO " !\"#$&'()*+,-./0123456789:;<=>?@ABCDEFGHIJKLMNOPQRSTUVWXYZ[\\]^_`"++yO "abcdefghijklmnopqrstuvwxyz{|}~"
theorem signs_len:cX.length=94:=by decide +kernel
theorem cq(c:Int){k:Nat}(h:0<k):∃ m:Nat,c % (k:Int)=m/\m<k:=⟨(c % k).toNat,(Bv (An _ (om15 h))).symm,by have:=An c (b:=(k:Int)) (om15 h);have:=AS c (b:=(k:Int)) (om16 h);exact om17 h this⟩
section
variable {P:yN (yS×Fn)} {X:CF}
theorem rW(B:BG P)(n:Nat)(c:Int):(ai P X (n+1)).call "_law_sign_by" [.int c]=ac (.str (cy cX (c % 94).toNat),yM):=by
 have h1:(yO " !\"#$&'()*+,-./0123456789:;<=>?@ABCDEFGHIJKLMNOPQRSTUVWXYZ[\\]^_`").length+(yO "abcdefghijklmnopqrstuvwxyz{|}~").length<=big:=by decide +kernel
 have a:0<=c % 94/\c % 94<(cX.length:Int)/\cX.length<=big:=by rw[signs_len];refine⟨by exact om18,by exact om19,by decide⟩
 refine av B.sign QQ ?_;have q:en .Add (.str (yO " !\"#$&'()*+,-./0123456789:;<=>?@ABCDEFGHIJKLMNOPQRSTUVWXYZ[\\]^_`")) (.str (yO "abcdefghijklmnopqrstuvwxyz{|}~"))=ac (.str cX):=np h1;have q2:=sub_s a;exact aA (aW (d:=.str (yO " !\"#$&'()*+,-./0123456789:;<=>?@ABCDEFGHIJKLMNOPQRSTUVWXYZ[\\]^_`")) (fr:=yM) (aq vS QQ QQ) QQ) (aA (aW (d:=.str cX) (fr:=yM) (aq (am (vr ay) vS q) QQ QQ) QQ) (aD (aq (aw (vr ay) (am (vr (ag QQ (ag QQ ae))) vI (aP (by decide))) q2) QQ QQ) QQ))
theorem vq(B:BG P)(n:Nat)(c:Int):∃ x:Str,x.length=1/\(ai P X (n+1)).call "_law_sign_by" [.int c]=ac (.str x,yM):=⟨cy cX (c % 94).toNat,QQ,rW B n c⟩
noncomputable def eC(a b:D):yU:=bw a b
noncomputable def bh(a b:D):yU:=match a with
 | .int i=>(match b with | .int j=>decide (i<j) | _=>yP)
 | .str x=>(match b with | .str y=>decide (x.cps.toList<y.cps.toList) | _=>yM)
 | _=>yM
theorem aU{a:D}{C:D->Prop}(b:a.isCell=yP)(hi:∀ i,C (.int i))(c:∀ x,C (.str x)):C a:=by
 cases a <;> first | exact hi _ | exact c _ | cases b
theorem eU(B:BG P)(n:Nat)(ns:yN Int)(k:Nat):(ai P X (n+1)).call "_law_cell_at" [.list (ns.map .int),.int k]=ac (.int (ns.getD k 0),yM):=by
 have b:(ns.map D.int).length=ns.length:=yV ..;refine av B.cell QQ ?_;have a:gI "len" [.list (ns.map .int)]=ac (.int ns.length):=by show ac (D.int ((ns.map D.int).length:Nat))=_;rw[b]
 refine bc (k:=decide ((k:Int)<ns.length)) (ax (vr (af QQ ae)) (bP (vv ae vN) a) QQ) QQ (λh=>?_) λh=>?_
 ·have h:k<ns.length:=BI.mp (zS h)
  exact aD (aq (aw (vr ae) (vr (af QQ ae)) (lK (by rw[b];exact h) (by rw[As,y4 h,zb,y4 h];rfl))) QQ QQ) QQ
 ·have h:ns.length<=k:=Ac.mp λq=>A7 h (BI.mpr q)
  rw[zb,DV h];exact aD (aq vI QQ QQ) QQ
theorem mixed(B:BG P)(n:Nat)(c k:Int):∃ r:Int,0<=r/\(ai P X (n+1)).call "_law_mixed" [.int c,.int k]=ac (.int r,yM):=by
 have a:-fG<(c * 48271+(k+1) * 1299721) % 2147483647/\(c * 48271+(k+1) * 1299721) % 2147483647<fG/\(0:Int)<=5/\(5:Int)<=100:=by
  have h1:(2147483647:Int)<fG:=by decide +kernel
  generalize fG=pl at *;generalize c * 48271+(k+1) * 1299721=z;exact om20 h1
 have q:=wY a;exact⟨((c * 48271+(k+1) * 1299721) % 2147483647) ^ (5:Int).toNat % 2147483647,An _ (by decide),av B.mixed QQ (aD (aq (am (am (am (am (am (vr ae) vI (uw (by decide))) (am (am (vr (af QQ ae)) vI cZ) vI (uw (by decide))) cZ) vI (aP (by decide))) vI q) vI (aP (by decide))) QQ QQ) QQ)⟩
end
noncomputable def vd(d:D):Prop:=(∃ i:Int,d=.int i/\-(10 ^ 61)<i/\i<10 ^ 61)\/∃ x:Str,d=.str x/\x.length<=200
theorem vd.cell{d:D}(h:vd d):d.isCell=yP:=by rcases h with⟨i,rfl,_⟩ | ⟨x,rfl,_⟩ <;> rfl
theorem gt(x y:Str):(x++y).length=x.length+y.length:=by
 show (x.cps++y.cps).size=_;simp[Str.length]
theorem mul_len{x:Str}(b:x.length=1){n:Int}(f:0<=n)(h1:n<=100):(Txt.mul x n).length<=100:=by
 unfold Txt.mul
 split
 ·decide
 ·split
  ·exact om21 b
  ·show ((Ef n.toNat x.cps).foldl (·++·) #[]).size<=100
   have:∀ (k:Nat) (a:zw Nat),((Ef k x.cps).foldl (·++·) a).size=a.size+k:=by
    intro k
    induction k with
    | zero=>intro a;simp
    | succ k c=>
     intro a;rw[List.replicate_succ,List.foldl_cons,c];have:x.cps.size=1:=b;simp;exact om22 this
   rw[this];simp;exact om23 h1
theorem uM(x:Str)(j:Int)(h:x.length<=big):∃ W:Str,W.length<=x.length/\slD (.str x) .none (.int j)=ac (.str W):=⟨_,Txt.slice_le _ _ _,y8 h⟩
theorem xu(x:Str)(j:Int)(h:x.length<=big):∃ W:Str,W.length<=x.length/\slD (.str x) (.int j) .none=ac (.str W):=⟨_,Txt.slice_le _ _ _,y8 h⟩
noncomputable def T60:Int:=10 ^ 60
theorem dD{l:yN D}(b:0<l.length)(c:Int){R:D->Prop}(h:∀ d∈l,R d):∃ d,R d/\aV (.list l) (.int (c % (l.length:Int)))=ac d:=by
 obtain⟨m,e,a⟩:=cq c b;rw[e];exact⟨l[m],h _ (AJ a),lK a (y4 a)⟩
theorem sW{P:yN (yS×Fn)}{X:CF}(B:BG P)(n:Nat)(c:Int):∃ d,vd d/\(ai P X (n+2)).call "_law_thing_by" [.int c]=ac (d,yM):=by
 obtain⟨x,C,Fo⟩:=vq (X:=X) B n (c / 9);obtain⟨E,f,G⟩:=vq (X:=X) B n (c / 9 / 81);obtain⟨y,⟨Fp,rfl,Fq⟩,N⟩:=dD (l:=[.str (yO "a"),.str (yO "b"),.str (yO "1"),.str (yO "0"),.str (yO "-1"),.str (yO "col"),.str (yO "is"),.str (yO "count")]) (by decide) (c / 9) (R:=λd=>∃ x:Str,d=.str x/\x.length<=200) (by
  intro d z;simp only[zc,zV,Bs] at z
  rcases z with rfl | rfl | rfl | rfl | rfl | rfl | rfl | rfl <;> exact⟨_,QQ,by decide +kernel⟩)
 have H:aV (.list [.str (yO "a"),.str (yO "b"),.str (yO "1"),.str (yO "0"),.str (yO "-1"),.str (yO "col"),.str (yO "is"),.str (yO "count")]) (.int (c / 9 % 8))=ac (.str Fp):=N;have w:0<=c / 9 / 94 % 100/\c / 9 / 94 % 100<=100:=by exact om24
 have Fs:=bin_sm (u:=x) (k:=c / 9 / 94 % 100) ⟨w.1,A9 w.2 (by decide),by rw[C];decide⟩
 have Ft:en .Pow (.int 10) (.int 60)=ac (.int T60):=wY (i:=10) (j:=60) (by decide +kernel)
 have I:0<T60:=by decide +kernel
 have O:0<=c / 9 % T60/\c / 9 % T60<T60:=⟨An _ (by decide +kernel),AS _ I⟩
 have Fu:en .Pow (.int (c / 9 % T60+3)) (.int 9)=ac (.int ((c / 9 % T60+3) ^ (9:Int).toNat)):=wY (by
  have J:T60+3<fG:=by decide +kernel
  generalize fG=pl at *;exact om25 O J)
 have Fv:en .Mult (.int 2) (.int T60)=ac (.int (2 * T60)):=nq (by decide)
 have T:0<2 * T60 - 1:=by exact om26 I
 obtain⟨W,Y,Fw⟩:=uM (yO "any word") (c / 9 % 9) (by decide +kernel)
 have a:W.length<=8:=yQ Y (by decide +kernel)
 have m:W.length<=big:=yQ a (by decide)
 have w2:=len_s m;have Fz:(0:Int)<(W.length:Int)+1:=by exact om27
 obtain⟨U,A,FA⟩:=uM W (c / 9 / 9 % ((W.length:Int)+1)) m;obtain⟨V,L,FE⟩:=xu W (c / 9 / 9 % ((W.length:Int)+1)) m;have q:(16:Nat)+1<=big:=by decide
 have FF:=np (u:=U) (v:=E) (om28 f a A q);have FG:=np (u:=U++E) (v:=V) (by rw[gt];exact om29 f a A L q)
 have g1:-(10:Int) ^ 61<c / 9 % 4 - 1/\c / 9 % 4 - 1<10 ^ 61:=by exact om30
 have FH:-(10:Int) ^ 61<c / 9 % 2000001 - 1000000/\c / 9 % 2000001 - 1000000<10 ^ 61:=by exact om31
 have FJ:-(10:Int) ^ 61<(c / 9 % T60+3) ^ (9:Int).toNat % (2 * T60 - 1) - T60+1/\(c / 9 % T60+3) ^ (9:Int).toNat % (2 * T60 - 1) - T60+1<10 ^ 61:=by
  have h1:=An ((c / 9 % T60+3) ^ (9:Int).toNat) (b:=2 * T60 - 1) (om32);have J:=AS ((c / 9 % T60+3) ^ (9:Int).toNat) T;generalize (c / 9 % T60+3) ^ (9:Int).toNat % (2 * T60 - 1)=v at *;have FK:(10:Int) ^ 61=10 * T60:=by decide +kernel
  rw[FK];generalize T60=FP at *;exact om33 h1 J
 have FM:(U++E++V).length<=200:=by rw[gt,gt];exact om34 f a A L
 have FN:=yQ (mul_len C w.1 w.2) (show 100<=200 by decide)
 have M:Rex (ai P X (n+1)) fJ.body [("_law_cell",(yM,.int c))] λd fr=>vd d/\fr=yM:=by
  clear w O Y a m A L q C f N;refine bi (aW (d:=.int (c % 9)) (fr:=yM) (aq (am (vr ae) vI (aP (by decide))) QQ QQ) QQ) (bi (aW (d:=.int (c / 9)) (fr:=yM) (aq (am (vr (ag QQ ae)) vI (br (by decide))) QQ QQ) QQ) ?_)
  have Z:Has (az (az [("_law_cell",(yM,.int c))] "_law_way" (yM,.int (c % 9))) "_law_rest" (yM,.int (c / 9))) "_law_way" (.int (c % 9)):=ag QQ ay;have t:Has (az (az [("_law_cell",(yM,.int c))] "_law_way" (yM,.int (c % 9))) "_law_rest" (yM,.int (c / 9))) "_law_rest" (.int (c / 9)):=ay;generalize az (az [("_law_cell",(yM,.int c))] "_law_way" (yM,.int (c % 9))) "_law_rest" (yM,.int (c / 9))=σ at *;have Fi:∀ {k:Int},0<k->evE (ai P X (n+1)) (vis σ) (.bin .Mod (.u "_law_rest") (.int k))=ac (.int (c / 9 % k)):=λh=>am (vr t) vI (aP h)
  have o:∀ k:Int,evE (ai P X (n+1)) (vis σ) (.cmp .Eq (.u "_law_way") (.int k))=ac (.bool (c % 9 == k)):=λEV=>ax (vr Z) vI QQ
  have s:evE (ai P X (n+1)) (vis σ) (.bin .Pow (.int 10) (.int 60))=ac (.int T60):=am vI vI Ft;refine dU (k:=decide (c % 9<4)) (ax (vr Z) vI QQ) QQ (λEV=>cI (aq (am (Fi (by decide)) vI u6) QQ QQ) QQ ⟨.inl ⟨_,QQ,g1⟩,QQ⟩) λEV=>?_
  refine dU (o 4) QQ (λEV=>cI (aq (am (Fi (by decide)) vI u6) QQ QQ) QQ ⟨.inl ⟨_,QQ,FH⟩,QQ⟩) λEV=>?_
  refine dU (o 5) QQ (λEV=>cI (aq (aw (x:=.list [.str (yO "a"),.str (yO "b"),.str (yO "1"),.str (yO "0"),.str (yO "-1"),.str (yO "col"),.str (yO "is"),.str (yO "count")]) QQ (Fi (by decide)) H) QQ QQ) QQ ⟨.inr ⟨_,QQ,Fq⟩,QQ⟩) λEV=>?_
  refine dU (o 6) QQ (λEV=>cI (aq (am (al (vv t vN) Fo) (am (am (vr t) vI (br (by decide))) vI (aP (by decide))) Fs) QQ QQ) QQ ⟨.inr ⟨_,QQ,FN⟩,QQ⟩) λEV=>?_
  refine dU (o 7) QQ (λEV=>cI (aq (am (am (am (am (am (am (vr t) s (aP I)) vI cZ) vI Fu) (am (am vI s Fv) vI u6) (aP T)) s u6) vI cZ) QQ QQ) QQ ⟨.inl ⟨_,QQ,FJ⟩,QQ⟩) λEV=>?_
  refine bi (aW (d:=.str W) (fr:=yM) (aq (qB vS (gz _ _) (Fi (by decide)) Fw) QQ QQ) QQ) (bi (aW (d:=.int (c / 9 / 9 % ((W.length:Int)+1))) (fr:=yM) (aq (am (am (vr (ag QQ t)) vI (br (by decide))) (am (bP (vv ay vN) w2) vI cZ) (aP Fz)) QQ QQ) QQ) ?_)
  exact cI (aq (am (am (qB (vr (ag QQ ay)) (gz _ _) (vr ay) FA) (al (ad (am (vr (ag QQ (ag QQ t))) vI (br (by decide))) vN) G) FF) (qB (vr (ag QQ ay)) (vr ay) (gz _ _) FE) FG) QQ QQ) QQ ⟨.inr ⟨_,QQ,FM⟩,QQ⟩
 obtain⟨d,fr,⟨z,rfl⟩,FO⟩:=dO (X:=X) (n:=n+1) (args:=[.int c]) B.thing QQ M;exact⟨d,z,FO⟩
theorem ofS_eq(a b:yS):(yO a=yO b)=(a=b):=propext ⟨dW,λh=>by rw[h]⟩
theorem vJ(a b:yS):(yO a == yO b)=(a == b):=by
 rw[Bg,Bh,Bh,ofS_eq]
theorem str_tri(x y:Str):(decide (y.cps.toList<x.cps.toList)||(x == y))=!decide (x.cps.toList<y.cps.toList):=by
 rw[Bg];simp only[D0,BU,Bh,DD,decide_eq_false_iff_not]
 constructor
 ·rintro (h | rfl)
  ·exact List.lt_asymm h
  ·exact List.lt_irrefl _
 ·intro h
  by_cases a:y.cps.toList<x.cps.toList
  ·exact .inl a
  ·refine .inr ?_
   have:x.cps.toList=y.cps.toList:=List.le_antisymm (Ei.mp a) (Ei.mp h);cases x;cases y
   congr 1
   exact Array.toList_inj.mp this
theorem tri{a b:D}(c:a.isCell=yP)(f:b.isCell=yP):(bh b a||eC a b)=!bh a b:=by
 cases a <;> first | (cases c;done) | (cases b <;> first | (cases f;done) | rfl | exact str_tri _ _ | skip)
 rename_i i j
 show (decide (j<i)||i == j)=!decide (i<j)
 rw[Bg];simp;exact om36
theorem qv{a b:D}(c:a.isCell=yP)(f:b.isCell=yP):eC a b=eC b a:=by
 cases a <;> first | (cases c;done) | (cases b <;> first | (cases f;done) | rfl | exact Bool.beq_comm)
theorem sg{k:yU}{A B:Prop}(a:k=yP)(h:A):if k=yP then A else B:=by rw[y8 a];exact h
theorem si{k:yU}{A B:Prop}(a:k=yM)(h:B):if k=yP then A else B:=by rw[za (by rw[a];exact y5)];exact h
theorem r_norm{cf:CF}{r:yN MS}{σ E2:St}{d:D}{fr:yU}(h:σ=E2)(k:Run cf r E2 d fr):Run cf r σ d fr:=h▸k
theorem sE{row:yN D}{p:Nat}(h:p<row.length):aV (.tup row) (.int p)=ac (row.getD p .none):=sub_t h (by rw[zb,y4 h];rfl)
set_option maxHeartbeats 400000
noncomputable def hY:Fn:=⟨["_law_cell","_law_many_here"],[
  .x0 "_law_word" (.sub (.lst [.str "same",.str "unlike",.str "before",.str "upto",.str "behind",.str "from",.str "unlike",.str "upto",.str "from"]) (.bin .Mod (.u "_law_cell") (.int 9))),
  .x0 "_law_place" (.bin .Mod (.bin .FloorDiv (.u "_law_cell") (.int 9)) (.u "_law_many_here")),
  .x0 "_law_rest" (.bin .FloorDiv (.bin .FloorDiv (.u "_law_cell") (.int 9)) (.u "_law_many_here")),
  .ite (.cmp .Eq (.bin .Mod (.u "_law_rest") (.int 2)) (.int 0)) [.ret (.tup [.u "_law_word",.u "_law_place",.str "col",.bin .Mod (.bin .FloorDiv (.u "_law_rest") (.int 2)) (.u "_law_many_here")])] [],
  .ret (.tup [.u "_law_word",.u "_law_place",.str "is",.call "_law_thing_by" [.bin .FloorDiv (.u "_law_rest") (.int 2)]])]⟩
noncomputable def dX:Fn:=⟨["_law_cell","_law_many_here"],[
  .ite (.bop .Or [.cmp .Eq (.u "_law_many_here") (.int 0),.cmp .Eq (.bin .Mod (.u "_law_cell") (.int 32)) (.int 15)]) [.ret (.tup [])] [],
  .ite (.cmp .Eq (.bin .Mod (.u "_law_cell") (.int 16)) (.int 14)) [.ret (.tup [.tup [.str "same",.bin .Sub (.u "_law_many_here") (.int 1),.str "col",.int 0]])] [],
  .ite (.cmp .Eq (.bin .Mod (.u "_law_cell") (.int 16)) (.int 13)) [.ret (.tup [.tup [.str "same",.int 0,.str "col",.bin .Sub (.u "_law_many_here") (.int 1)]])] [],
  .x0 "_law_count" (.bin .Add (.int 1) (.bin .Mod (.bin .FloorDiv (.u "_law_cell") (.int 16)) (.int 2))),
  .ite (.cmp .Eq (.bin .Mod (.bin .FloorDiv (.u "_law_cell") (.int 32)) (.int 11)) (.int 1)) [.x0 "_law_count" (.bin .Mod (.bin .FloorDiv (.u "_law_cell") (.int 352)) (.int 13))] [],
  .ret (.blt "tuple" [.comp (.call "_law_one_by" [.call "_law_mixed" [.u "_law_cell",.bin .Add (.int 40) (.u "_law_k")],.u "_law_many_here"]) "_law_k" (.blt "range" [.u "_law_count"]) []])]⟩
structure BD(P:yN (yS×Fn)):Prop extends BG P where
 one:P.lookup "_law_one_by"=ac hY
 clause:P.lookup "_law_clause_by"=ac dX
noncomputable def jo:yN yS:=["same","unlike","before","upto","behind","from"]
noncomputable def tst(w:yS)(p:Nat)(a:yS)(o:D):D:=.tup [.str (yO w),.int p,.str (yO a),o]
noncomputable def Tst(m:Nat)(d:D):Prop:=∃ w p,w∈jo/\p<m/\((∃ q:Nat,q<m/\d=tst w p "col" (.int q))\/∃ o,vd o/\d=tst w p "is" o)
theorem word_at(c:Int):∃ w,w∈jo/\aV (.list [.str (yO "same"),.str (yO "unlike"),.str (yO "before"),.str (yO "upto"),.str (yO "behind"),.str (yO "from"),.str (yO "unlike"),.str (yO "upto"),.str (yO "from")]) (.int (c % 9))=ac (.str (yO w)):=by
 obtain⟨d,⟨w,rfl,a⟩,h⟩:=dD (l:=["same","unlike","before","upto","behind","from","unlike","upto","from"].map λs=>D.str (yO s)) (by decide) c (R:=λd=>∃ w,d=.str (yO w)/\w∈jo) (by
  intro d b;obtain⟨w,a,rfl⟩:=zz.mp b;exact⟨w,QQ,(by decide:∀ w∈["same","unlike","before","upto","behind","from","unlike","upto","from"],w∈jo) w a⟩)
 exact⟨w,a,h⟩
section
variable {P:yN (yS×Fn)} {X:CF}
theorem one_by(B:BD P)(n:Nat)(c:Int)(m:Nat)(b:0<m)(h1:m<=1000):∃ d,Tst m d/\(ai P X (n+3)).call "_law_one_by" [.int c,.int m]=ac (d,yM):=by
 obtain⟨w,j,t⟩:=word_at c;have q2:(0:Int)<(m:Int)/\(m:Int)<lim:=by unfold lim;exact om37 b h1
 have o:=q2.1;obtain⟨p,s,a⟩:=cq (c / 9) b;obtain⟨q,hq,f⟩:=cq (c / 9 / m / 2) b;obtain⟨d,u,h⟩:=sW (X:=X) B.toBG n (c / 9 / m / 2);have i:Rex (ai P X (n+2)) hY.body [("_law_cell",(yM,.int c)),("_law_many_here",(yM,.int m))] λd fr=>Tst m d/\fr=yM:=by
  refine bi (aW (d:=.str (yO w)) (fr:=yM) (aq (aw (x:=.list [.str (yO "same"),.str (yO "unlike"),.str (yO "before"),.str (yO "upto"),.str (yO "behind"),.str (yO "from"),.str (yO "unlike"),.str (yO "upto"),.str (yO "from")]) QQ (am (vr ae) vI (aP (by decide))) t) QQ QQ) QQ) ?_
  refine bi (aW (d:=.int (c / 9 % m)) (fr:=yM) (aq (am (am (vr (ag QQ ae)) vI (br (by decide))) (vr (ag QQ (af QQ ae))) (aP o)) QQ QQ) QQ) ?_
  refine bi (aW (d:=.int (c / 9 / m)) (fr:=yM) (aq (am (am (vr (ag QQ (ag QQ ae))) vI (br (by decide))) (vr (ag QQ (ag QQ (af QQ ae)))) (br q2)) QQ QQ) QQ) ?_
  refine dU (k:=c / 9 / m % 2 == 0) (ax (am (vr ay) vI (aP (by decide))) vI QQ) QQ (λZ=>?_) λZ=>?_
  ·exact cI (aq (bD (vv (ag QQ (ag QQ ay)) (vv (ag QQ ay) (ad vS (ad (am (am (vr ay) vI (br (by decide))) (vr (ag QQ (ag QQ (ag QQ (af QQ ae))))) (aP o)) vN)))) (yZ QQ)) QQ QQ) QQ ⟨⟨w,p,j,a,.inl ⟨q,f,by rw[s,hq];rfl⟩⟩,QQ⟩
  ·exact cI (aq (bD (vv (ag QQ (ag QQ ay)) (vv (ag QQ ay) (ad vS (ad (al (ad (am (vr ay) vI (br (by decide))) vN) h) vN)))) (yZ QQ)) QQ QQ) QQ ⟨⟨w,p,j,a,.inr ⟨d,u,by rw[s];rfl⟩⟩,QQ⟩
 obtain⟨d,fr,⟨h,rfl⟩,y⟩:=dO (X:=X) (n:=n+2) (args:=[.int c,.int m]) B.one QQ i;exact⟨d,h,y⟩
noncomputable def Cls(m:Nat)(d:D):Prop:=∃ a,d=.tup a/\(∀ t∈a,Tst m t)/\a.length<=31
theorem clause_by(B:BD P)(n:Nat)(c:Int)(m:Nat)(h1:m<=1000):∃ d,Cls m d/\(ai P X (n+4)).call "_law_clause_by" [.int c,.int m]=ac (d,yM):=by
 have u:Rex (ai P X (n+3)) dX.body [("_law_cell",(yM,.int c)),("_law_many_here",(yM,.int m))] λd fr=>Cls m d/\fr=yM:=by
  have a:Cls m (.tup []):=⟨[],QQ,(λZ h=>nomatch h),zn _⟩
  by_cases f:m=0
  ·subst f
   exact dU (k:=yP) (fN (k:=yP) (l:=yP) (ax (x:=.int (0:Nat)) (vr (af QQ ae)) vI QQ) nofun) QQ (λZ=>cI (aq (bD vN (zn _)) QQ QQ) QQ ⟨a,QQ⟩) nofun
  have w:0<m:=by exact om38 f
  have H:(m:Int) - 1=((m - 1:Nat):Int):=by exact om39 f
  have o:∀ p q:Nat,p<m->q<m->Cls m (.tup [.tup [.str (yO "same"),.int p,.str (yO "col"),.int q]]):=λp q I hq=>⟨_,QQ,λt J=>zg.mp J▸⟨"same",p,by decide,I,.inl ⟨q,hq,QQ⟩⟩,yZ QQ⟩
  have s1:=o (m - 1) 0 (om40 f) w;have E:=o 0 (m - 1) w (om40 f);rw[<- H] at s1 E;have b:∀ k:Nat,k<=13->Rex (ai P X (n+3)) (dX.body.drop 5) [("_law_cell",(yM,.int c)),("_law_many_here",(yM,.int m)),("_law_count",(yM,.int k))] λd fr=>Cls m d/\fr=yM:=by
   intro k s;obtain⟨ds,L,q2,M⟩:=k8 (cf:=ai P X (n+3)) (ρ:=vis [("_law_cell",(yM,.int c)),("_law_many_here",(yM,.int m)),("_law_count",(yM,.int k))]) (elt:=.call "_law_one_by" [.call "_law_mixed" [.u "_law_cell",.bin .Add (.int 40) (.u "_law_k")],.u "_law_many_here"]) (z:="_law_k") (Fm:=.u "_law_count") (yQ s (by decide)) (Tst m) QQ (by
    intro i _;obtain⟨r,_,y⟩:=mixed (X:=X) B.toBG (n+2) c (40+i);obtain⟨d,N,A⟩:=one_by (X:=X) B n r m w h1;exact⟨d,N,(al (ad (al (ad (Eq.trans (yk (ai P X (n+3)) (("_law_k",D.int ↑i)::vis [("_law_cell",yM,D.int c),("_law_many_here",yM,D.int ↑m),("_law_count",yM,D.int ↑k)]) "_law_cell") QQ) (ad (am vI (Eq.trans (yk (ai P X (n+3)) (("_law_k",D.int ↑i)::vis [("_law_cell",yM,D.int c),("_law_many_here",yM,D.int ↑m),("_law_count",yM,D.int ↑k)]) "_law_k") QQ) cZ) vN)) y) (ad (Eq.trans (yk (ai P X (n+3)) (("_law_k",D.int ↑i)::vis [("_law_cell",yM,D.int c),("_law_many_here",yM,D.int ↑m),("_law_count",yM,D.int ↑k)]) "_law_many_here") QQ) vN)) A)⟩)
   exact cI (aq M QQ QQ) QQ ⟨⟨ds,QQ,q2,L▸yQ s (by decide)⟩,QQ⟩
  obtain⟨G,e1,O⟩:∃ k:Nat,1+c / 16 % 2=k/\k<=13:=⟨(1+c / 16 % 2).toNat,by exact om41,by exact om42⟩
  obtain⟨k2,C,T⟩:=cq (c / 352) (k:=13) (by decide)
  have C:c / 352 % 13=(k2:Int):=C;have cell:∀ {σ:St} (k:Int) (j:Int),0<k->Has σ "_law_cell" (.int c)->evE (ai P X (n+3)) (vis σ) (.cmp .Eq (.bin .Mod (.u "_law_cell") (.int k)) (.int j))=ac (.bool (c % k == j)):=λk j s i=>ax (am (vr i) vI (aP s)) vI QQ
  refine dU (k:=(m:Int) == 0||c % 32 == 15) (fN (ax (vr (af QQ ae)) vI QQ) λZ=>bk (cell 32 15 (by decide) ae)) QQ (λZ=>cI (aq (bD vN (zn _)) QQ QQ) QQ ⟨a,QQ⟩) λZ=>?_
  refine dU (cell 16 14 (by decide) ae) QQ (λZ=>cI (aq (bD (ad (bD (ad vS (ad (am (vr (af QQ ae)) vI u6) (ad vS (ad vI vN)))) (yZ QQ)) vN) (yZ QQ)) QQ QQ) QQ ⟨s1,QQ⟩) λZ=>?_
  refine dU (cell 16 13 (by decide) ae) QQ (λZ=>cI (aq (bD (ad (bD (ad vS (ad vI (ad vS (ad (am (vr (af QQ ae)) vI u6) vN)))) (yZ QQ)) vN) (yZ QQ)) QQ QQ) QQ ⟨E,QQ⟩) λZ=>?_
  refine bi (aW (d:=.int G) (fr:=yM) (by rw[<- e1];exact aq (am vI (am (am (vr ae) vI (br (by decide))) vI (aP (by decide))) cZ) QQ QQ) QQ) ?_
  refine dU (k:=c / 32 % 11 == 1) (ax (am (am (vr (ag QQ ae)) vI (br (by decide))) vI (aP (by decide))) vI QQ) QQ (λZ=>?_) λZ=>xG QQ (b G O)
  exact bi (aW (d:=.int k2) (fr:=yM) (by rw[<- C];exact aq (am (am (vr (ag QQ ae)) vI (br (by decide))) vI (aP (by decide))) QQ QQ) QQ) (xG QQ (b k2 (zU T)))
 obtain⟨d,fr,⟨A,rfl⟩,y⟩:=dO (X:=X) (n:=n+3) (args:=[.int c,.int m]) B.clause QQ u;exact⟨d,A,y⟩
end
theorem kM{cf:CF}{ρ:yN (yS×D)}{elt c:ME}{x:yS}{a y d:D}{k:yU}(b:evE cf ((x,a)::ρ) c=ac d)(f:bW d=ac k)(he:k=yP->evE cf ((x,a)::ρ) elt=ac y):k5 cf ρ elt x [c] a=ac (if k=yP then ac y else y7):=by
 have e:n0 cf ((x,a)::ρ) [c]=ac k:=by
  show (match evE cf ((x,a)::ρ) c with | some d=>(match bW d with | some t=>if t then ac yP else ac yM | none=>y7) | none=>y7)=_
  rw[b];show (match bW d with | some t=>_ | none=>_)=_;rw[f];cases k <;> rfl
 unfold k5;rw[e];cases k with
 | true=>show (match evE cf ((x,a)::ρ) elt with | some y=>_ | none=>_)=_;rw[he rfl];rfl
 | false=>rfl
theorem p8{α:Type}(f:D->yX (yX D))(h g:α->D):∀ (l:yN α),(∀ a∈l,f (h a)=ac (ac (g a)))->bS f (l.map h)=ac (l.map g)
 | [],_=>rfl
 | a::r,e=>by
  rw[zm,bS,e a (.head _)];show (match bS f (r.map h) with | none=>y7 | some ds=>_)=_
  rw[p8 f h g r λi b=>e i (.tail _ b)];rfl
set_option maxHeartbeats 400000
noncomputable def l7:Fn:=⟨["clause"],[
  .x0 "found" (.lst []),
  .for_ "test" (.u "clause") [.append "found" (.sub (.u "test") (.int 1)),.ite (.cmp .Eq (.sub (.u "test") (.int 2)) (.str "col")) [.append "found" (.sub (.u "test") (.int 3))] []],
  .ret (.sset (.u "found"))]⟩
noncomputable def fI:Fn:=⟨["places","many"],[
  .for_ "place" (.u "places") [.ite (.bop .Or [.cmp .Lt (.u "place") (.int 0),.cmp .GtE (.u "place") (.u "many")]) [.bad] []]]⟩
noncomputable def gZ:Fn:=⟨["query","within"],[
  .x0 "word" (.sub (.u "query") (.int 0)),
  .ite (.cmp .Eq (.u "word") (.str "sieve")) [.for_ "clause" (.sub (.u "query") (.int 1)) [.expr (.call "need_columns" [.call "places_of" [.u "clause"],.u "within"])]] [],
  .ite (.cmp .Eq (.u "word") (.str "pick")) [.expr (.call "need_columns" [.sub (.u "query") (.int 1),.u "within"]),.ret (.blt "len" [.sub (.u "query") (.int 1)])] [],
  .ite (.cmp .Eq (.u "word") (.str "group")) [.expr (.call "need_columns" [.sub (.u "query") (.int 1),.u "within"]),.expr (.call "need_columns" [.comp (.sub (.u "one") (.int 1)) "one" (.sub (.u "query") (.int 2)) [],.u "within"]),.ret (.bin .Add (.blt "len" [.sub (.u "query") (.int 1)]) (.blt "len" [.sub (.u "query") (.int 2)]))] [],
  .ite (.cmp .Eq (.u "word") (.str "order")) [.expr (.call "need_columns" [.comp (.sub (.u "one") (.int 0)) "one" (.sub (.u "query") (.int 1)) [],.u "within"])] [],
  .ite (.bop .And [.cmp .Eq (.u "word") (.str "first"),.cmp .Lt (.sub (.u "query") (.int 1)) (.int 0)]) [.bad] [],
  .ret (.u "within")]⟩
noncomputable def jt:Fn:=⟨["query","first","second"],[
  .ite (.cmp .Eq (.sub (.u "query") (.int 0)) (.str "join")) [.expr (.call "need_columns" [.comp (.sub (.u "pair") (.int 0)) "pair" (.sub (.u "query") (.int 3)) [],.u "first"]),.expr (.call "need_columns" [.comp (.sub (.u "pair") (.int 1)) "pair" (.sub (.u "query") (.int 3)) [],.u "second"]),.ret (.bin .Add (.u "first") (.u "second"))] [],
  .ite (.cmp .NotEq (.u "first") (.u "second")) [.bad] [],
  .ret (.u "first")]⟩
noncomputable def ue:Fn:=⟨["query","widths"],[
  .x0 "word" (.sub (.u "query") (.int 0)),
  .ite (.cmp .NotIn (.u "word") (.glob "STEPS")) [.bad] [],
  .ite (.cmp .Eq (.u "word") (.str "table")) [.ite (.cmp .NotIn (.sub (.u "query") (.int 1)) (.u "widths")) [.bad] [],.ret (.sub (.u "widths") (.sub (.u "query") (.int 1)))] [],
  .ite (.bop .Or [.cmp .Eq (.u "word") (.str "join"),.cmp .Eq (.u "word") (.str "both")]) [.x0 "first" (.call "width" [.sub (.u "query") (.int 1),.u "widths"]),.x0 "second" (.call "width" [.sub (.u "query") (.int 2),.u "widths"]),.ret (.call "width_of_two" [.u "query",.u "first",.u "second"])] [],
  .ret (.call "width_upon" [.u "query",.call "width" [.sub (.u "query") (.neg (.int 1)),.u "widths"]])]⟩
structure BW(P:yN (yS×Fn)):Prop where
 po:P.lookup "places_of"=ac l7
 nc:P.lookup "need_columns"=ac fI
 wu:P.lookup "width_upon"=ac gZ
 w2:P.lookup "width_of_two"=ac jt
 wd:P.lookup "width"=ac ue
noncomputable def fX(t:D):yN Int:=match t with
 | .tup [_,.int p,.str k,o]=>if k == yO "col" then (match o with | .int q=>[p,q] | _=>[p]) else [p]
 | _=>[]
theorem col_t:(yO "col" == yO "col")=yP:=by decide +kernel
theorem yn:(yO "is" == yO "col")=yM:=by decide +kernel
theorem gL(w:yS)(p q:Nat):fX (tst w p "col" (.int q))=[(p:Int),(q:Int)]:=rfl
theorem li(w:yS)(p:Nat)(o:D):fX (tst w p "is" o)=[(p:Int)]:=rfl
theorem yj:eT .Eq (.str (yO "col")) (.str (yO "col"))=ac (.bool yP):=by show ac (D.bool (_ == _))=_;rw[col_t]
theorem eq_is:eT .Eq (.str (yO "is")) (.str (yO "col"))=ac (.bool yM):=by show ac (D.bool (_ == _))=_;rw[yn]
theorem pW{m:Nat}:∀ a:yN D,(∀ t∈a,Tst m t)->(a.flatMap fX).length<=2 * a.length
 | [],_=>zn _
 | t::a,h=>by
  rw[DE,zd,Ar,Nat.mul_succ,Ai];refine zr (pW a λu b=>h u (.tail _ b)) ?_
  obtain⟨w,p,_,_,⟨q,_,rfl⟩ | ⟨o,_,rfl⟩⟩:=h t (.head _)
  ·exact ze 2
  ·exact AM 1
theorem rj:∀ ns:yN Int,pL (ns.map .int)=ac ns
 | []=>rfl
 | n::ns=>by
  show (pL (ns.map .int)).map (n::·)=_;rw[rj ns];rfl
inductive Q where
 | table (nm:Str)
 | sieve (cs:yN (yN D)) (q:Q)
 | pick (ps:yN Nat) (q:Q)
 | group (ps:yN Nat) (ss:yN (yS×Nat)) (q:Q)
 | order (ks:yN (Nat×yU)) (q:Q)
 | once (q:Q)
 | first (c:Nat) (q:Q)
 | join (a b:Q) (prs:yN (Nat×Nat))
 | both (a b:Q)
noncomputable def sD(s:yS):D:=.str (yO s)
noncomputable def aN(n:Nat):D:=.int n
noncomputable def clD(c:yN D):D:=.tup c
noncomputable def dN(x:yS×Nat):D:=.tup [sD x.1,aN x.2]
noncomputable def eL(k:Nat×yU):D:=.tup [aN k.1,.bool k.2]
noncomputable def prT(k:Nat×Nat):D:=.tup [aN k.1,aN k.2]
noncomputable def Q.d:Q->D
 | table h=>.tup [sD "table",.str h]
 | sieve i q=>.tup [sD "sieve",.tup (i.map clD),q.d]
 | pick ps q=>.tup [sD "pick",.tup (ps.map aN),q.d]
 | group ps j q=>.tup [sD "group",.tup (ps.map aN),.tup (j.map dN),q.d]
 | order ks q=>.tup [sD "order",.tup (ks.map eL),q.d]
 | once q=>.tup [sD "once",q.d]
 | first c q=>.tup [sD "first",aN c,q.d]
 | join a b f=>.tup [sD "join",a.d,b.d,.tup (f.map prT)]
 | both a b=>.tup [sD "both",a.d,b.d]
noncomputable abbrev Wd:=yN (Str×Nat)
noncomputable def Wd.d(W:Wd):D:=.dict (W.map λp=>.str p.1) (W.map λp=>aN p.2)
noncomputable def Q.wd(W:Wd):Q->Nat
 | table c=>(W.lookup c).getD 0
 | sieve _ q | order _ q | once q | first _ q=>q.wd W
 | pick ps _=>ps.length
 | group ps f _=>ps.length+f.length
 | join a b _=>a.wd W+b.wd W
 | both a _=>a.wd W
noncomputable def bV(m:Nat)(c:yN D):Prop:=(∀ t∈c,Tst m t)/\c.length<=31
noncomputable def Q.ok(W:Wd):Q->Prop
 | table j=>∃ n,W.lookup j=ac n
 | sieve h q=>q.ok W/\(∀ c∈h,bV (q.wd W) c)/\h.length<=1000
 | pick ps q=>q.ok W/\(∀ p∈ps,p<q.wd W)/\ps.length<=1000
 | group ps i q=>q.ok W/\(∀ p∈ps,p<q.wd W)/\(∀ x∈i,x.2<q.wd W)/\ps.length<=1000/\i.length<=1000
 | order ks q=>q.ok W/\(∀ k∈ks,k.1<q.wd W)/\ks.length<=1000
 | once q | first _ q=>q.ok W
 | join a b f=>a.ok W/\b.ok W/\(∀ k∈f,k.1<a.wd W/\k.2<b.wd W)/\f.length<=5000
 | both a b=>a.ok W/\b.ok W/\a.wd W=b.wd W
noncomputable def Q.dp:Q->Nat
 | table _=>0
 | sieve _ q | order _ q | once q | first _ q | pick _ q | group _ _ q=>q.dp+1
 | join a b _ | both a b=>max a.dp b.dp+1
theorem dpS{d:Nat}:{n:Nat}->d+1<=n->∃ m,n=m+1/\d<=m
 | _+1,h=>⟨_,QQ,zH h⟩
noncomputable def Q.cp:Q->Nat
 | table _=>0
 | sieve c q=>c.length+q.cp
 | pick _ q | group _ _ q | order _ q | once q | first _ q=>q.cp
 | join a b _ | both a b=>max a.cp b.cp
noncomputable def Q.pr:Q->Nat
 | table _=>0
 | sieve _ q | pick _ q | group _ _ q | order _ q | once q | first _ q=>q.pr
 | join a b c=>max c.length (max a.pr b.pr)
 | both a b=>max a.pr b.pr
noncomputable def qM:yN yS:=["count","sum","least","most"]
noncomputable def Q.nar(W:Wd)(k:Nat):Q->Prop
 | table _=>True
 | sieve _ q | pick _ q | order _ q | once q | first _ q=>q.nar W k
 | group _ c q=>q.nar W k/\∀ s∈c,s.1∈qM
 | join a b _=>a.nar W k/\b.nar W k/\a.wd W+b.wd W<=k
 | both a b=>a.nar W k/\b.nar W k
noncomputable abbrev st0(q C T:D)(w:yS):St:=[("query",(yM,q)),("clauses",(yM,C)),("widths",(yM,T)),("word",(yM,sD w))]
section
variable {P:yN (yS×Fn)} {X:CF} {m:Nat}
theorem mJ(B:BW P)(n:Nat){c:yN D}(C:∀ t∈c,Tst m t)(u:c.length<=31):(ai P X (n+1)).call "places_of" [.tup c]=ac (.list ((cP (c.flatMap fX)).map .int),yP):=by
 have f:2000<big:=by decide
 refine av B.po QQ ?_;refine aA (ak (d:=.list []) (fr:=yP) QQ) ?_;obtain⟨E2,A,G⟩:=fZ (cf:=ai P X n) (body:=[.append "found" (.sub (.u "test") (.int 1)),.ite (.cmp .Eq (.sub (.u "test") (.int 2)) (.str "col")) [.append "found" (.sub (.u "test") (.int 3))] []]) (z:="test")
  (λa σ=>bH σ "found" (.list ((a.flatMap fX).map .int))) c [] [("clause",(yM,.tup c)),("found",(yP,.list []))] QQ (by
   rintro a E b σ i A;rw[A0] at i;have hit:E∈c:=by rw[i];simp
   have j:a.length<c.length:=by rw[i];simp
   have s:=pW a λt h=>C t (by rw[i];exact AC _ h)
   obtain⟨w,p,I,J,⟨q,hq,rfl⟩ | ⟨o,L,rfl⟩⟩:=C E hit
   ·rw[Eb,DE,EP,gL,zq]
    refine aJ (bT (d:=.int p) (ds:=(a.flatMap fX).map .int) (aw (x:=tst w p "col" (.int q)) (y:=.int 1) (vr ay) vI QQ) (?_:bH _ _ _) (by rw[yV];exact om78 u f j s)) ?_
    ·exact bZ QQ (bC QQ A)
    refine cM (k:=yP) (ax (aw (x:=tst w p "col" (.int q)) (y:=.int 2) (vr (ag QQ (au ay))) vI QQ) vS yj) QQ (λZ=>?_) nofun
    refine aJ (bT (d:=.int q) (ds:=(a.flatMap fX).map .int++[.int p]) (aw (x:=tst w p "col" (.int q)) (y:=.int 3) (vr (ag QQ (au ay))) vI QQ) (?_:bH _ _ _) (by rw[zd,yV];simp only[Ar,ET];exact om79 u f j s)) (bB ⟨QQ,?_⟩)
    ·exact bZ QQ dF
    ·rw[Cd];exact dF
   ·rw[Eb,DE,EP,li,zq]
    refine aJ (bT (d:=.int p) (ds:=(a.flatMap fX).map .int) (aw (x:=tst w p "is" o) (y:=.int 1) (vr ay) vI QQ) (?_:bH _ _ _) (by rw[yV];exact om78 u f j s)) ?_
    ·exact bZ QQ (bC QQ A)
    exact cM (k:=yM) (ax (aw (x:=tst w p "is" o) (y:=.int 2) (vr (ag QQ (au ay))) vI QQ) vS eq_is) QQ nofun λZ=>bB ⟨QQ,dF⟩)
 have H:oX (.list ((c.flatMap fX).map .int))=ac (.list ((cP (c.flatMap fX)).map .int)):=by
  show (if _<63 then (pL _).map _ else _)=_
  have:=pW c C;rw[y8 (by rw[yV];exact om80 u this),rj];rfl
 refine ef (x:=.tup c) (E8:=c) QQ QQ G (aD (aq (v_sset (x:=.list ((c.flatMap fX).map .int)) (vr (iB A)) H) QQ QQ) QQ)
theorem fall_call{g:yS}{ps:yN yS}{bd:yN MS}{n:Nat}{args:yN D}{E2:St}(h:P.lookup g=ac ⟨ps,bd⟩)(a:args.length=ps.length)(k:bn (ai P X n) bd ((ps.zip args).map λp=>(p.1,(yM,p.2)))=ac (.next,E2)) :
  (ai P X (n+1)).call g args=ac (.none,yM):=by rw[wP n args h a];show fin (bn _ bd _)=_;rw[k];rfl
theorem dh(B:BW P)(n:Nat){ls:D}{E8:yN D}(hi:ls.items=ac E8){w:Nat}(h:∀ d∈E8,∃ p:Nat,p<w/\d=.int p):(ai P X (n+1)).call "need_columns" [ls,.int w]=ac (.none,yM):=by
 have f:∃ E2,cG (dB (ai P X n) [.ite (.bop .Or [.cmp .Lt (.u "place") (.int 0),.cmp .GtE (.u "place") (.u "many")]) [.bad] []] "place") E8 (freeze ["places"] [("places",(yM,ls)),("many",(yM,.int w))])=ac (.next,E2):=by
  obtain⟨E2,_,j⟩:=fZ (cf:=ai P X n) (body:=[.ite (.bop .Or [.cmp .Lt (.u "place") (.int 0),.cmp .GtE (.u "place") (.u "many")]) [.bad] []]) (z:="place") (λZ σ=>Has σ "many" (.int w)) E8 [] (freeze ["places"] [("places",(yM,ls)),("many",(yM,.int w))]) (cg (af QQ ae)) (by
   rintro a o b σ c i;rw[A0] at c;obtain⟨p,s,rfl⟩:=h o (by rw[c];simp)
   have h1:eT .Lt (.int p) (.int 0)=ac (.bool yM):=by
    show ac (D.bool (decide ((p:Int)<0)))=_;rw[Aq (uS)]
   have t:eT .GtE (.int p) (.int w)=ac (.bool yM):=by
    show ac (D.bool (decide ((p:Int) ≥ w)))=_;rw[Aq (om81 s)]
   exact cM (k:=yM) (x:=.bool (yM||false)) (fN (k:=yM) (l:=yM) (ax (vr ay) vI h1) λZ=>bk (ax (vr ay) (vr (ag QQ i)) t)) QQ nofun λZ=>bB ⟨QQ,ag QQ i⟩)
  exact⟨E2,j⟩
 obtain⟨E2,j⟩:=f;obtain⟨m,u,rfl,q⟩:Out (ai P X n) fI.body [("places",(yM,ls)),("many",(yM,.int w))] λm Z=>m=.next:=vL (d:=ls) QQ hi j (bB QQ)
 exact fall_call B.nc QQ q
theorem kF{α:Type}{l:yN α}{f:α->Nat}{w:Nat}(h:∀ x∈l,f x<w):∀ d∈l.map (λx=>D.int (f x)),∃ p:Nat,p<w/\d=.int p:=λd a=>by
 obtain⟨x,b,rfl⟩:=zz.mp a;exact⟨f x,h x b,QQ⟩
theorem cls_places{w:Nat}{c:yN D}(b:bV w c):∀ d∈(cP (c.flatMap fX)).map D.int,∃ p:Nat,p<w/\d=.int p:=λd f=>by
 obtain⟨z,hz,rfl⟩:=zz.mp f;obtain⟨t,h,hz⟩:=B0.mp ((im z _).mp hz);obtain⟨i,p,_,a,⟨q,hq,rfl⟩ | ⟨o,_,rfl⟩⟩:=b.1 t h
 ·rw[gL] at hz
  rcases zc.mp hz with rfl | hz
  ·exact⟨p,a,QQ⟩
  ·rw[zg.mp hz];exact⟨q,hq,QQ⟩
 ·rw[li] at hz
  rw[zg.mp hz];exact⟨p,a,QQ⟩
theorem om{cf:CF}{ρ:yN (yS×D)}{z:yS}{Fm:ME}{i:Int}{α:Type}{l:yN α}{g:α->D}{f:α->D}(c:evE cf ρ Fm=ac (.tup (l.map g)))(j:l.length<=big)(h:∀ x∈l,aV (g x) (.int i)=ac (f x)) :
  evE cf ρ (.comp (.sub (.u z) (.int i)) z Fm [])=ac (.list (l.map f)):=by
 refine gW c QQ (by rw[yV];exact j) ?_
 have:∀ a:yN α,(∀ x∈a,x∈l)->bS (k5 cf ρ (.sub (.u z) (.int i)) z []) (a.map g)=ac (a.map f):=λa=>by
  induction a with
  | nil=>intro _;rfl
  | cons x a m=>
   intro b;rw[zm,bS,fT (d:=f x) (aw (aF b0) vI (h x (b x (.head _))))];dsimp only;rw[m λy n=>b y (.tail _ n)]
   rfl
 exact this l λZ h=>h
end
set_option maxHeartbeats 400000
noncomputable def eF:yN D:=[.str (yO "table"),.str (yO "sieve"),.str (yO "pick"),.str (yO "join"),.str (yO "group"),.str (yO "order"),.str (yO "both"),.str (yO "once"),.str (yO "first")]
noncomputable def upon:yN yS:=["sieve","pick","group","order","once","first"]
theorem wd_mem{W:Wd}{nm:Str}{k:Nat}(h:W.lookup nm=ac k):mP (.str nm) W.d=ac yP/\aV W.d (.str nm)=ac (.int k):=by
 have j:dQ (.str nm) (W.map λp=>D.str p.1)=yP:=by
  have:(W.map λp=>D.str p.1).all D.isCell=yP:=by rw[BK];exact zx.mpr λZ Z=>QQ
  unfold dQ;rw[this];rfl
 have go:∀ W:Wd,W.lookup nm=ac k->((W.map λp=>D.str p.1).any λx=>aO x (.str nm))=yP/\n7 (W.map λp=>D.str p.1) (W.map λp=>aN p.2) (.str nm)=ac (.int k):=λW=>by
  induction W with
  | nil=>intro h;cases h
  | cons p W m=>
   intro h;obtain⟨a,b⟩:=p;rw[zl] at h;have e:aO (.str a) (.str nm)=(a == nm):=rfl
   by_cases c:nm=a
   ·subst c
    rw[zu] at h;cases h;refine⟨by rw[zm,AI,e,zu];rfl,?_⟩
    rw[zm,zm,n7,e,zu];rfl
   ·rw[show (nm == a)=yM from by simpa using c] at h
    obtain⟨h1,f⟩:=m h;have i:(a == nm)=yM:=by simpa using λe=>c e.symm
    refine⟨by rw[zm,AI,h1,EO],?_⟩
    rw[zm,zm,n7,e,i];exact f
 obtain⟨h1,f⟩:=go W h;exact⟨by show (if dQ _ _=yP then _ else _)=_;rw[y8 j,h1],by show (if dQ _ _=yP then _ else _)=_;rw[y8 j];exact f⟩
section
variable {P:yN (yS×Fn)} {X:CF} {W:Wd}
theorem width_table(B:BW P)(f:X.glob "STEPS"=ac (.tup eF))(n:Nat){nm:Str}{k:Nat}(h:W.lookup nm=ac k):(ai P X (n+1)).call "width" [(Q.table nm).d,W.d]=ac (.int k,yM):=by
 obtain⟨h1,i⟩:=wd_mem h;have j:(ai P X n).glob "STEPS"=ac (.tup eF):=(sB P X n "STEPS").trans f;have m:eT .NotIn (.str nm) W.d=ac (.bool yM):=by show (mP _ _).map _=_;rw[h1];rfl
 refine av B.wd QQ ?_;show Run _ _ [("query",(yM,.tup [sD "table",.str nm])),("widths",(yM,W.d))] _ _;generalize W.d=T at *;generalize ai P X n=cf at *;unfold sD;exact aA (ak (aq (vsi ae QQ) QQ QQ)) (bc (ax (vr ay) (Eq.trans (sK _ _ _) j) QQ) QQ (λa=>zA a (dtt QQ)) λa=>bc (ax (vr ay) vS QQ) QQ (λc=>bc (ax (vsi (ag QQ (au ae)) QQ) (vr (ag QQ (au (af QQ ae)))) m) QQ (λb=>pp b a) λa=>aD (aq (aw (vr (ag QQ (au (af QQ ae)))) (vsi (ag QQ (au ae)) QQ) i) QQ QQ) QQ) λa=>zA a (dtt QQ))
theorem e9(B:BW P)(j:X.glob "STEPS"=ac (.tup eF))(n:Nat){wd:yS}(h:wd∈upon){q I T:D}{a b:Nat}(i:aV q (.int 0)=ac (sD wd))(m:aV q (.int (-1))=ac I)
  (h1:(ai P X n).call "width" [I,T]=ac (.int a,yM)) (o:(ai P X n).call "width_upon" [q,.int a]=ac (.int b,yM)):(ai P X (n+1)).call "width" [q,T]=ac (.int b,yM):=by
 have s:(ai P X n).glob "STEPS"=ac (.tup eF):=(sB P X n "STEPS").trans j;refine av B.wd QQ ?_;show Run _ _ [("query",(yM,q)),("widths",(yM,T))] _ _;generalize ai P X n=cf at *;unfold sD at i;simp only[upon,zc,zV,Bs] at h
 rcases h with rfl | rfl | rfl | rfl | rfl | rfl
 all_goals exact aA (ak (aq (vsi ae i) QQ QQ)) (bc (ax (vr ay) (Eq.trans (sK _ _ _) s) QQ) QQ (λf=>zA f (dtt QQ)) λf=>bc (ax (vr ay) vS QQ) QQ (λc=>pp c f) λf=>bc (fN (ax (vr ay) vS QQ) λa=>bk (ax (vr ay) vS QQ)) QQ (λc=>pp c f) λf=>aD (aE (vv (ag QQ (au ae)) (ad (al (ad (aw (vr (ag QQ (au ae))) rP m) (vv (ag QQ (au (af QQ ae))) vN)) h1) vN)) o) QQ)
theorem qJ(B:BW P)(j:X.glob "STEPS"=ac (.tup eF))(n:Nat){wd:yS}(m:wd="join"\/wd="both"){q I J T:D}{a b c:Nat}(i:aV q (.int 0)=ac (sD wd))(h1:aV q (.int 1)=ac I)(o:aV q (.int 2)=ac J)
  (s:(ai P X n).call "width" [I,T]=ac (.int a,yM)) (k2:(ai P X n).call "width" [J,T]=ac (.int b,yM)) (t:(ai P X n).call "width_of_two" [q,.int a,.int b]=ac (.int c,yM)):(ai P X (n+1)).call "width" [q,T]=ac (.int c,yM):=by
 have u:(ai P X n).glob "STEPS"=ac (.tup eF):=(sB P X n "STEPS").trans j;refine av B.wd QQ ?_;show Run _ _ [("query",(yM,q)),("widths",(yM,T))] _ _;generalize ai P X n=cf at *;unfold sD at i
 rcases m with rfl | rfl
 all_goals exact aA (ak (aq (vsi ae i) QQ QQ)) (bc (ax (vr ay) (Eq.trans (sK _ _ _) u) QQ) QQ (λf=>zA f (dtt QQ)) λf=>bc (ax (vr ay) vS QQ) QQ (λh=>pp h f) λf=>bc (fN (ax (vr ay) vS QQ) λa=>bk (ax (vr ay) vS QQ)) QQ (λf=>aA (ak (aE (ad (vsi (ag QQ (au ae)) h1) (vv (ag QQ (au (af QQ ae))) vN)) s)) (aA (ak (aE (ad (vsi (ag QQ (au (ag QQ (au ae)))) o) (vv (ag QQ (au (ag QQ (au (af QQ ae))))) vN)) k2)) (aD (aE (vv (ag QQ (au (ag QQ (au (ag QQ (au ae)))))) (vv (ag QQ (au ay)) (vv ay vN))) t) QQ))) λf=>zA f (dtt QQ))
end
set_option maxHeartbeats 400000
theorem vE{ps:yN Nat}{p:Nat}(h:p<ps.length):aV (.tup (ps.map aN)) (.int p)=ac (aN (ps.getD p 0)):=by
 refine sub_t (by rw[yV];exact h) ?_
 rw[As,y4 h,zb,y4 h];rfl
theorem lk_ne{σ:St}{x y:yS}{v w:yU×D}(h:(x == y)=yM)(k:σ.lookup x=ac v):(az σ y w).lookup x=ac v:=by
 rw[aI,za (by rintro rfl;rw[zu] at h;cases h)];exact k
section
variable {P:yN (yS×Fn)} {X:CF}
section
variable {a:Nat}{I:D}
theorem mA{cf:CF}{σ:St}{w:yS}(b:w="sieve"\/w="order"\/w="once")(h1:Has σ "word" (sD w))(c:σ.lookup "within"=ac (yM,.int a)):Run cf (gZ.body.drop 5) σ (.int a) yM:=by
 refine bc (k:=yM) (x:=.bool (yM&&yM)) (cW (k:=yM) (l:=yM) (ax (vr h1) vS ?_) nofun) QQ nofun λZ=>dP c
 unfold sD;rcases b with rfl | rfl | rfl <;> rfl
theorem upon_sieve(B:BW P)(n:Nat){cs:yN (yN D)}(i:∀ c∈cs,bV a c):(ai P X (n+2)).call "width_upon" [.tup [sD "sieve",.tup (cs.map clD),I],.int a]=ac (.int a,yM):=by
 refine av B.wu QQ ?_;refine aA (ak (d:=sD "sieve") (fr:=yM) QQ) ?_;obtain⟨E2,⟨b,j,m⟩,q⟩:=fZ (cf:=ai P X (n+1)) (body:=[.expr (.call "need_columns" [.call "places_of" [.u "clause"],.u "within"])]) (z:="clause")
  (λZ σ=>Has σ "word" (sD "sieve")/\σ.lookup "within"=ac (yM,.int a)/\Has σ "query" (.tup [sD "sieve",.tup (cs.map clD),I])) (cs.map clD) [] (freeze ["query"] (az (settle (sD "sieve") ["query"] [("query",(yM,.tup [sD "sieve",.tup (cs.map clD),I])),("within",(yM,.int a))]) "word" (yM,sD "sieve")))
  ⟨cg ay,QQ,(cg (ag QQ (au ae)))⟩ (by
   rintro x s y σ h ⟨b,j,m⟩;rw[A0] at h;obtain⟨c,f,rfl⟩:=zz.mp (by rw[h];simp:s∈cs.map clD)
   have t:=mJ (X:=X) B n (i c f).1 (i c f).2;have k2:=dh (X:=X) B n (ls:=.list ((cP (c.flatMap fX)).map .int)) QQ (cls_places (i c f));have o:=lk_ne (y:="clause") (w:=(yM,clD c)) QQ j;refine aJ (jH (d:=.none) (al (ad (al (vv ay vN) t) (vv ⟨_,o⟩ vN)) k2) QQ) (bB ⟨QQ,ag QQ b,o,ag QQ m⟩))
 refine bc (k:=yP) (ax (vr ay) vS QQ) QQ (λZ=>?_) nofun
 refine ef (x:=.tup (cs.map clD)) (E8:=cs.map clD) QQ QQ q ?_;unfold sD at b;refine bc (k:=yM) (ax (vr b) vS QQ) QQ nofun λZ=>bc (k:=yM) (ax (vr b) vS QQ) QQ nofun λZ=>bc (k:=yM) (ax (vr b) vS QQ) QQ nofun λZ=>?_
 exact mA (.inl QQ) b j
theorem upon_pick(B:BW P)(n:Nat){ps:yN Nat}(b:∀ p∈ps,p<a):(ai P X (n+2)).call "width_upon" [.tup [sD "pick",.tup (ps.map aN),I],.int a]=ac (.int ps.length,yM):=by
 have k2:=dh (X:=X) B n (ls:=.tup (ps.map aN)) (E8:=ps.map aN) QQ (kF (f:=λx=>x) b)
 refine av B.wu QQ ?_;refine aA (ak (d:=sD "pick") (fr:=yM) QQ) ?_;generalize ai P X (n+1)=cf at *;refine bc (k:=yM) (ax (vr ay) vS QQ) QQ nofun λZ=>bc (k:=yP) (ax (vr ay) vS QQ) QQ (λZ=>?_) nofun
 refine aA (jH (d:=.none) (al (ad (d:=.tup (ps.map aN)) QQ (ad (d:=.int a) QQ vN)) k2) QQ) ?_;refine aD (aq (bP (ad (d:=.tup (ps.map aN)) QQ vN) ?_) QQ QQ) QQ;show ac (D.int ((ps.map aN).length:Nat))=_;rw[yV]
theorem upon_group(B:BW P)(n:Nat){ps:yN Nat}{b:yN (yS×Nat)}(h:∀ p∈ps,p<a)(i:∀ x∈b,x.2<a)(j:b.length<=1000):(ai P X (n+2)).call "width_upon" [.tup [sD "group",.tup (ps.map aN),.tup (b.map dN),I],.int a]=ac (.int (ps.length+b.length:Nat),yM):=by
 have m:=dh (X:=X) B n (ls:=.tup (ps.map aN)) (E8:=ps.map aN) QQ (kF (f:=λx=>x) h)
 have k2:=dh (X:=X) B n (ls:=.list (b.map λx=>.int x.2)) QQ (kF (f:=λx:yS×Nat=>x.2) i)
 have c:2000<big:=by decide
 refine av B.wu QQ ?_;refine aA (ak (d:=sD "group") (fr:=yM) QQ) ?_;generalize ai P X (n+1)=cf at *;refine bc (k:=yM) (ax (vr ay) vS QQ) QQ nofun λZ=>bc (k:=yM) (ax (vr ay) vS QQ) QQ nofun λZ=>bc (k:=yP) (ax (vr ay) vS QQ) QQ (λZ=>?_) nofun
 refine aA (jH (d:=.none) (al (ad (d:=.tup (ps.map aN)) QQ (ad (d:=.int a) QQ vN)) m) QQ) ?_;refine aA (jH (d:=.none) (al (ad (om (l:=b) (g:=dN) (f:=λx=>.int x.2) QQ (om82 j c) λx Z=>QQ) (ad (d:=.int a) QQ vN)) k2) QQ) ?_
 refine aD (aq (am (bP (ad (d:=.tup (ps.map aN)) QQ vN) QQ) (bP (ad (d:=.tup (b.map dN)) QQ vN) QQ) ?_) QQ QQ) QQ;show ac (D.int (((ps.map aN).length:Nat)+((b.map dN).length:Nat):Int))=_;rw[yV,yV,AA]
theorem upon_order(B:BW P)(n:Nat){ks:yN (Nat×yU)}(c:∀ x∈ks,x.1<a)(h:ks.length<=1000):(ai P X (n+2)).call "width_upon" [.tup [sD "order",.tup (ks.map eL),I],.int a]=ac (.int a,yM):=by
 have k2:=dh (X:=X) B n (ls:=.list (ks.map λx=>.int x.1)) QQ (kF (f:=λx:Nat×yU=>x.1) c)
 have b:2000<big:=by decide
 refine av B.wu QQ ?_;refine aA (ak (d:=sD "order") (fr:=yM) QQ) ?_;generalize ai P X (n+1)=cf at *;refine bc (k:=yM) (ax (vr ay) vS QQ) QQ nofun λZ=>bc (k:=yM) (ax (vr ay) vS QQ) QQ nofun λZ=>bc (k:=yM) (ax (vr ay) vS QQ) QQ nofun λZ=>bc (k:=yP) (ax (vr ay) vS QQ) QQ (λZ=>?_) nofun
 refine aA (jH (d:=.none) (al (ad (om (l:=ks) (g:=eL) (f:=λx=>.int x.1) QQ (om82 h b) λx Z=>QQ) (ad (d:=.int a) QQ vN)) k2) QQ) ?_
 exact mA (.inr (.inl QQ)) ay QQ
theorem upon_once(B:BW P)(n:Nat):(ai P X (n+2)).call "width_upon" [.tup [sD "once",I],.int a]=ac (.int a,yM):=by
 refine av B.wu QQ ?_;refine aA (ak (d:=sD "once") (fr:=yM) QQ) ?_;generalize ai P X (n+1)=cf at *;refine bc (k:=yM) (ax (vr ay) vS QQ) QQ nofun λZ=>bc (k:=yM) (ax (vr ay) vS QQ) QQ nofun λZ=>bc (k:=yM) (ax (vr ay) vS QQ) QQ nofun λZ=>bc (k:=yM) (ax (vr ay) vS QQ) QQ nofun λZ=>?_
 exact mA (.inr (.inr QQ)) ay QQ
theorem upon_first(B:BW P)(n:Nat){c:Nat}:(ai P X (n+2)).call "width_upon" [.tup [sD "first",aN c,I],.int a]=ac (.int a,yM):=by
 have b:eT .Lt (.int c) (.int 0)=ac (.bool yM):=by
  show ac (D.bool (decide ((c:Int)<0)))=_;rw[Aq (uS)]
 refine av B.wu QQ ?_;refine aA (ak (d:=sD "first") (fr:=yM) QQ) ?_;generalize ai P X (n+1)=cf at *;refine bc (k:=yM) (ax (vr ay) vS QQ) QQ nofun λZ=>bc (k:=yM) (ax (vr ay) vS QQ) QQ nofun λZ=>bc (k:=yM) (ax (vr ay) vS QQ) QQ nofun λZ=>bc (k:=yM) (ax (vr ay) vS QQ) QQ nofun λZ=>?_
 refine bc (k:=yM) (x:=.bool (yP&&yM)) (cW (k:=yP) (l:=yM) (ax (vr ay) vS QQ) λZ=>bk (ax (aw (x:=.tup [sD "first",aN c,I]) (y:=.int 1) QQ QQ QQ) vI b)) QQ nofun λZ=>dP QQ
theorem two_join(B:BW P)(n:Nat){prs:yN (Nat×Nat)}{J:D}{b:Nat}(h:∀ x∈prs,x.1<a/\x.2<b)(j:prs.length<=5000):(ai P X (n+2)).call "width_of_two" [.tup [sD "join",I,J,.tup (prs.map prT)],.int a,.int b]=ac (.int (a+b:Nat),yM):=by
 have m:=dh (X:=X) B n (ls:=.list (prs.map λx=>.int x.1)) QQ (kF (f:=λx=>x.1) λx i=>(h x i).1)
 have k2:=dh (X:=X) B n (ls:=.list (prs.map λx=>.int x.2)) QQ (kF (f:=λx=>x.2) λx i=>(h x i).2)
 have c:5000<=big:=by decide
 refine av B.w2 QQ ?_;generalize ai P X (n+1)=cf at *;refine bc (k:=yP) (ax (aw (x:=.tup [sD "join",I,J,.tup (prs.map prT)]) (y:=.int 0) QQ QQ QQ) vS QQ) QQ (λZ=>?_) nofun
 refine aA (jH (d:=.none) (al (ad (om (l:=prs) (g:=prT) (f:=λx=>.int x.1) QQ (om83 j c) λx Z=>QQ) (ad (d:=.int a) QQ vN)) m) QQ) ?_
 refine aA (jH (d:=.none) (al (ad (om (l:=prs) (g:=prT) (f:=λx=>.int x.2) QQ (om83 j c) λx Z=>QQ) (ad (d:=.int b) QQ vN)) k2) QQ) ?_
 exact aD (aq (am (x:=.int a) (y:=.int b) QQ QQ (by rw[AA];rfl)) QQ QQ) QQ
theorem two_both(B:BW P)(n:Nat){J:D}:(ai P X (n+1)).call "width_of_two" [.tup [sD "both",I,J],.int a,.int a]=ac (.int a,yM):=by
 have e:eT .NotEq (.int a) (.int a)=ac (.bool yM):=by show ac (D.bool (!((a:Int) == a)))=_;rw[zu];rfl
 refine av B.w2 QQ ?_;generalize ai P X n=cf at *;refine bc (k:=yM) (ax (aw (x:=.tup [sD "both",I,J]) (y:=.int 0) QQ QQ QQ) vS QQ) QQ nofun λZ=>?_
 exact bc (k:=yM) (ax (x:=.int a) (y:=.int a) QQ QQ e) QQ nofun λZ=>dP QQ
theorem oQ(B:BW P)(o:X.glob "STEPS"=ac (.tup eF)){W:Wd}:∀ (q:Q) (n:Nat),q.ok W->q.dp<=n->(ai P X (n+3)).call "width" [q.d,W.d]=ac (.int (q.wd W),yM):=by
 intro q
 induction q with
 | table z=>
  rintro n ⟨k,h⟩ _;have:=width_table B o (n+2) h;rw[this,Q.wd,h];rfl
 | sieve A q j=>rintro n ⟨h1,m,_⟩ i;obtain⟨n,rfl,f⟩:=dpS i;exact e9 B o _ (wd:="sieve") (by decide) QQ QQ (j n h1 f) (upon_sieve B (n+1) m)
 | pick ps q j=>rintro n ⟨h1,m,_⟩ i;obtain⟨n,rfl,f⟩:=dpS i;exact e9 B o _ (wd:="pick") (by decide) QQ QQ (j n h1 f) (upon_pick B (n+1) m)
 | group ps C q j=>rintro n ⟨h1,m,s,_,w⟩ i;obtain⟨n,rfl,f⟩:=dpS i;exact e9 B o _ (wd:="group") (by decide) QQ QQ (j n h1 f) (upon_group B (n+1) m s w)
 | order ks q j=>rintro n ⟨h1,m,s⟩ i;obtain⟨n,rfl,f⟩:=dpS i;exact e9 B o _ (wd:="order") (by decide) QQ QQ (j n h1 f) (upon_order B (n+1) m s)
 | once q j=>rintro n h1 i;obtain⟨n,rfl,f⟩:=dpS i;exact e9 B o _ (wd:="once") (by decide) QQ QQ (j n h1 f) (upon_once B (n+1))
 | first c q j=>rintro n h1 i;obtain⟨n,rfl,f⟩:=dpS i;exact e9 B o _ (wd:="first") (by decide) QQ QQ (j n h1 f) (upon_first B (n+1))
 | join a b y t u=>rintro n ⟨h1,m,s,w⟩ i;obtain⟨n,rfl,f⟩:=dpS i;exact qJ B o _ (.inl QQ) QQ QQ QQ (t n h1 (yQ (zL _ _) f)) (u n m (yQ (zB _ _) f)) (two_join B (n+1) s w)
 | both a b t u=>
  rintro n ⟨h1,m,s⟩ i;obtain⟨n,rfl,f⟩:=dpS i;have k2:=u n m (yQ (zB _ _) f);rw[<- s] at k2;exact qJ B o _ (.inr QQ) QQ QQ QQ (t n h1 (yQ (zL _ _) f)) k2 (two_both B (n+2))
end
end
set_option maxHeartbeats 400000
noncomputable def uf:Fn:=⟨["one","other"],[
  .ret (.bop .And [.cmp .Eq (.isi (.u "one") "str") (.isi (.u "other") "str"),.cmp .Eq (.u "one") (.u "other")])]⟩
noncomputable def sH:Fn:=⟨["test","row"],[
  .x0 "one" (.sub (.u "row") (.sub (.u "test") (.int 1))),
  .x0 "other" (.sub (.u "test") (.int 3)),
  .ite (.cmp .Eq (.sub (.u "test") (.int 2)) (.str "col")) [.x0 "other" (.sub (.u "row") (.sub (.u "test") (.int 3)))] [],
  .x0 "word" (.sub (.u "test") (.int 0)),
  .ite (.cmp .Eq (.u "word") (.str "same")) [.ret (.call "alike" [.u "one",.u "other"])] [],
  .ite (.cmp .Eq (.u "word") (.str "unlike")) [.ret (.not (.call "alike" [.u "one",.u "other"]))] [],
  .ite (.cmp .Eq (.u "word") (.str "before")) [.ret (.call "before" [.u "one",.u "other"])] [],
  .ite (.cmp .Eq (.u "word") (.str "upto")) [.ret (.bop .Or [.call "before" [.u "one",.u "other"],.call "alike" [.u "one",.u "other"]])] [],
  .ite (.cmp .Eq (.u "word") (.str "behind")) [.ret (.call "before" [.u "other",.u "one"])] [],
  .ret (.bop .Or [.call "before" [.u "other",.u "one"],.call "alike" [.u "one",.u "other"]])]⟩
noncomputable def pV:Fn:=⟨["clause","row"],[
  .for_ "test" (.u "clause") [.ite (.call "does" [.u "test",.u "row"]) [.ret (.bool yP)] []],
  .ret (.bool yM)]⟩
noncomputable def pU:Fn:=⟨["clauses","row"],[
  .for_ "clause" (.u "clauses") [.ite (.not (.call "holds" [.u "clause",.u "row"])) [.ret (.bool yM)] []],
  .ret (.bool yP)]⟩
noncomputable def nQ:Fn:=⟨["row","places"],[
  .ret (.blt "tuple" [.comp (.sub (.u "row") (.u "place")) "place" (.u "places") []])]⟩
noncomputable def pT:Fn:=⟨["one","other","pairs"],[
  .for_ "pair" (.u "pairs") [.ite (.not (.call "alike" [.sub (.u "one") (.sub (.u "pair") (.int 0)),.sub (.u "other") (.sub (.u "pair") (.int 1))])) [.ret (.bool yM)] []],
  .ret (.bool yP)]⟩
noncomputable def u3:Fn:=⟨["first","second","pairs"],[
  .x0 "found" (.lst []),
  .for_ "one" (.u "first") [.for_ "other" (.u "second") [.ite (.call "meets" [.u "one",.u "other",.u "pairs"]) [.append "found" (.bin .Add (.u "one") (.u "other"))] []]],
  .ret (.u "found")]⟩
noncomputable def lm:Fn:=⟨["one","rows"],[
  .x0 "word" (.sub (.u "one") (.int 0)),
  .x0 "place" (.sub (.u "one") (.int 1)),
  .ite (.cmp .Eq (.u "word") (.str "count")) [.ret (.blt "len" [.u "rows"])] [],
  .ite (.cmp .Eq (.u "word") (.str "sum")) [.ret (.blt "sum" [.comp (.sub (.u "row") (.u "place")) "row" (.u "rows") [.not (.isi (.sub (.u "row") (.u "place")) "str")]])] [],
  .x0 "found" (.sub (.sub (.u "rows") (.int 0)) (.u "place")),
  .for_ "row" (.u "rows") [.ite (.bop .And [.cmp .Eq (.u "word") (.str "least"),.call "before" [.sub (.u "row") (.u "place"),.u "found"]]) [.x0 "found" (.sub (.u "row") (.u "place"))] [],.ite (.bop .And [.cmp .Eq (.u "word") (.str "most"),.call "before" [.u "found",.sub (.u "row") (.u "place")]]) [.x0 "found" (.sub (.u "row") (.u "place"))] []],
  .ret (.u "found")]⟩
noncomputable def lx:Fn:=⟨["rows","places","sums"],[
  .x0 "groups" (.dct [] []),
  .grp,
  .x0 "found" (.lst []),
  .for_ "own" (.u "groups") [.x0 "told" (.comp (.call "told_of" [.u "one",.sub (.u "groups") (.u "own")]) "one" (.u "sums") []),.append "found" (.bin .Add (.u "own") (.blt "tuple" [.u "told"]))],
  .ret (.u "found")]⟩
noncomputable def wE:Fn:=⟨["cell"],[
  .ret (.tup [.isi (.u "cell") "str",.u "cell"])]⟩
noncomputable def lv:Fn:=⟨["rows","keys"],[
  .x0 "found" (.lcp (.u "rows")),
  .forr "one" (.u "keys") [.x0 "place" (.sub (.u "one") (.int 0)),.ite (.sub (.u "one") (.int 1)) [.x0 "found" (.srt (.u "found") "rank" "row" "place" yP)] [.x0 "found" (.srt (.u "found") "rank" "row" "place" yM)]],
  .ret (.u "found")]⟩
noncomputable def sG:Fn:=⟨["rows"],[
  .x0 "known" (.dct [] []),
  .x0 "found" (.lst []),
  .for_ "row" (.u "rows") [.ite (.cmp .NotIn (.u "row") (.u "known")) [.setk "known" (.u "row") (.bool yP),.append "found" (.u "row")] []],
  .ret (.u "found")]⟩
noncomputable def lu:Fn:=⟨["query","rows"],[
  .x0 "word" (.sub (.u "query") (.int 0)),
  .ite (.cmp .Eq (.u "word") (.str "sieve")) [.ret (.comp (.u "row") "row" (.u "rows") [.call "keeps" [.sub (.u "query") (.int 1),.u "row"]])] [],
  .ite (.cmp .Eq (.u "word") (.str "pick")) [.ret (.comp (.call "cells_at" [.u "row",.sub (.u "query") (.int 1)]) "row" (.u "rows") [])] [],
  .ite (.cmp .Eq (.u "word") (.str "group")) [.ret (.call "grouped" [.u "rows",.sub (.u "query") (.int 1),.sub (.u "query") (.int 2)])] [],
  .ite (.cmp .Eq (.u "word") (.str "order")) [.ret (.call "ordered" [.u "rows",.sub (.u "query") (.int 1)])] [],
  .ite (.cmp .Eq (.u "word") (.str "once")) [.ret (.call "once" [.u "rows"])] [],
  .ret (.sl (.u "rows") .none (.sub (.u "query") (.int 1)))]⟩
noncomputable def kL:Fn:=⟨["query","tables"],[
  .x0 "word" (.sub (.u "query") (.int 0)),
  .ite (.cmp .NotIn (.u "word") (.glob "STEPS")) [.bad] [],
  .ite (.cmp .Eq (.u "word") (.str "table")) [.ite (.cmp .NotIn (.sub (.u "query") (.int 1)) (.u "tables")) [.bad] [],.ret (.lcp (.sub (.u "tables") (.sub (.u "query") (.int 1))))] [],
  .ite (.cmp .Eq (.u "word") (.str "join")) [.x0 "first" (.call "answer" [.sub (.u "query") (.int 1),.u "tables"]),.ret (.call "met" [.u "first",.call "answer" [.sub (.u "query") (.int 2),.u "tables"],.sub (.u "query") (.int 3)])] [],
  .ite (.cmp .Eq (.u "word") (.str "both")) [.x0 "first" (.call "answer" [.sub (.u "query") (.int 1),.u "tables"]),.ret (.bin .Add (.u "first") (.call "answer" [.sub (.u "query") (.int 2),.u "tables"]))] [],
  .ret (.call "stepped" [.u "query",.call "answer" [.sub (.u "query") (.neg (.int 1)),.u "tables"]])]⟩
structure BA(P:yN (yS×Fn)):Prop where
 before:P.lookup "before"=ac nb
 alike:P.lookup "alike"=ac uf
 does:P.lookup "does"=ac sH
 holds:P.lookup "holds"=ac pV
 keeps:P.lookup "keeps"=ac pU
 cells_at:P.lookup "cells_at"=ac nQ
 meets:P.lookup "meets"=ac pT
 met:P.lookup "met"=ac u3
 told_of:P.lookup "told_of"=ac lm
 grouped:P.lookup "grouped"=ac lx
 rank:P.lookup "rank"=ac wE
 ordered:P.lookup "ordered"=ac lv
 once:P.lookup "once"=ac sG
 stepped:P.lookup "stepped"=ac lu
 answer:P.lookup "answer"=ac kL
noncomputable def jp(w:yS)(a b:D):yU:=
 if w="same" then eC a b else if w="unlike" then !eC a b else if w="before" then bh a b else if w="upto" then !bh b a
 else if w="behind" then bh b a else !bh a b
noncomputable def othV(row:yN D)(a:yS)(o:D):D:=if a="col" then (match o with | .int q=>row.getD q.toNat .none | _=>.none) else o
noncomputable def tV(row:yN D)(t:D):yU:=match t with
 | .tup [.str w,.int p,.str a,o]=>["same","unlike","before","upto","behind","from"].any λx=>yO x == w&&jp x (row.getD p.toNat .none) (othV row (if a == yO "col" then "col" else "is") o)
 | _=>yM
theorem iP(row:yN D){w:yS}(a:w∈jo)(p:Nat)(b:yS)(o:D):tV row (tst w p b o)=jp w (row.getD p .none) (othV row (if b == "col" then "col" else "is") o):=by
 unfold tV tst;simp only[vJ,Br];simp only[jo,zc,zV,Bs] at a
 rcases a with rfl | rfl | rfl | rfl | rfl | rfl <;> simp
section
variable {P:yN (yS×Fn)} {X:CF}
theorem sU{w:yS}(a:w∈jo):w="same"\/w="unlike"\/w="before"\/w="upto"\/w="behind"\/w="from":=by
 simpa only [jo,zc,zV,Bs] using a
theorem uz(B:BA P)(n:Nat)(a b:D)(c:a.isCell=yP)(f:b.isCell=yP):(ai P X (n+1)).call "alike" [a,b]=ac (.bool (eC a b),yM):=by
 refine av B.alike QQ ?_;cases a <;> first | (cases c;done) | (cases b <;> first | (cases f;done) | rfl)
theorem jj(B:BA P)(n:Nat)(a b:D)(c:a.isCell=yP)(f:b.isCell=yP):(ai P X (n+1)).call "before" [a,b]=ac (.bool (bh a b),yM):=by
 refine av B.before QQ ?_;cases a <;> first | (cases c;done) | (cases b <;> first | (cases f;done) | rfl)
theorem ni{row:yN D}(b:∀ d∈row,d.isCell=yP){p:Nat}(a:p<row.length):(row.getD p .none).isCell=yP:=by
 rw[zb,y4 a];exact b _ (AJ a)
variable {cf:CF} {σ:St} {t r:yN MS} {w w2:yS} {R:D} {fr:yU}
theorem skW(a:(yO w == yO w2)=yM)(h:Has σ "word" (sD w))(k:Run cf r σ R fr):Run cf (.ite (.cmp .Eq (.u "word") (.str w2)) t []::r) σ R fr:=
 bc (k:=yM) (x:=.bool yM) (ax (vr h) vS (by show ac (D.bool (yO w == yO w2))=_;rw[a])) QQ nofun λZ=>k
theorem kP(h:Has σ "word" (sD w))(k:Run cf (t++r) σ R fr):Run cf (.ite (.cmp .Eq (.u "word") (.str w)) t []::r) σ R fr:=
 bc (k:=yP) (x:=.bool yP) (ax (vr h) vS (by show ac (D.bool (yO w == yO w))=_;rw[zu])) QQ (λZ=>k) nofun
theorem rA(B:BA P)(n:Nat){w:yS}(y:w∈jo){a b:D}(f:a.isCell=yP)(h:b.isCell=yP){σ:St}(c:Has σ "word" (sD w))(m:Has σ "one" a)(o:Has σ "other" b):Run (ai P X (n+1)) (sH.body.drop 4) σ (.bool (jp w a b)) yM:=by
 have j:=uz (X:=X) B n a b f h;have q:=jj (X:=X) B n a b f h;have s:=jj (X:=X) B n b a h f;have z:=tri f h;have t:=tri h f;rw[qv h f] at t;generalize ai P X (n+1)=cf at *;have i:cu cf (vis σ) [.u "one",.u "other"]=ac [a,b]:=vv m (vv o vN);have u:cu cf (vis σ) [.u "other",.u "one"]=ac [b,a]:=vv o (vv m vN)
 rcases sU y with rfl | rfl | rfl | rfl | rfl | rfl
 ·exact kP c (aD (aE i j) QQ)
 ·exact skW (by decide +kernel) c (kP c (aD (aq (jD (al i j) QQ) QQ QQ) QQ))
 ·exact skW (by decide +kernel) c (skW (by decide +kernel) c (kP c (aD (aE i q) QQ)))
 ·show Run cf _ _ (.bool (!bh b a)) _
  rw[<- t];exact skW (by decide +kernel) c (skW (by decide +kernel) c (skW (by decide +kernel) c (kP c (aD (aq (fN (al i q) λZ=>bk (al i j)) QQ QQ) QQ))))
 ·exact skW (by decide +kernel) c (skW (by decide +kernel) c (skW (by decide +kernel) c (skW (by decide +kernel) c (kP c (aD (aE u s) QQ)))))
 ·show Run cf _ _ (.bool (!bh a b)) _
  rw[<- z];exact skW (by decide +kernel) c (skW (by decide +kernel) c (skW (by decide +kernel) c (skW (by decide +kernel) c (skW (by decide +kernel) c (aD (aq (fN (al u s) λZ=>bk (al i j)) QQ QQ) QQ)))))
theorem does_eq(B:BA P)(n:Nat){row:yN D}(h:∀ d∈row,d.isCell=yP){t:D}(j:Tst row.length t):(ai P X (n+2)).call "does" [t,.tup row]=ac (.bool (tV row t),yM):=by
 obtain⟨w,p,c,i,a⟩:=j;have f:=ni h i;have h1:=sE i;refine av B.does QQ ?_
 rcases a with⟨q,hq,rfl⟩ | ⟨o,m,rfl⟩
 ·rw[show tV row (tst w p "col" (.int q))=jp w (row.getD p .none) (row.getD q .none) from iP row c p "col" (.int q)]
  have b:=ni h hq;refine aA (aW (d:=row.getD p .none) (fr:=yM) (aq (aw (vr (af QQ ae)) (aw (x:=tst w p "col" (.int q)) (vr ae) vI QQ) h1) QQ QQ) f) (aA (aW (d:=.int q) (fr:=yM) (aq (aw (x:=tst w p "col" (.int q)) (vr (ag QQ ae)) vI QQ) QQ QQ) QQ) (bc (k:=yP) (x:=.bool yP) (ax (aw (x:=tst w p "col" (.int q)) (vr (ag QQ (ag QQ ae))) vI QQ) vS QQ) QQ (λZ=>?_) nofun))
  refine aA (aW (d:=row.getD q .none) (fr:=yM) (aq (aw (vr (ag QQ (ag QQ (af QQ ae)))) (aw (x:=tst w p "col" (.int q)) (vr (ag QQ (ag QQ ae))) vI QQ) (sE hq)) QQ QQ) b) (aA (aW (d:=sD w) (fr:=yM) (aq (aw (x:=tst w p "col" (.int q)) (vr (ag QQ (ag QQ (ag QQ ae)))) vI QQ) QQ QQ) QQ) ?_);exact rA B n c f b ay (ag QQ (ag QQ (ag QQ ay))) (ag QQ ay)
 ·rw[show tV row (tst w p "is" o)=jp w (row.getD p .none) o from iP row c p "is" o]
  have b:=m.cell;refine aA (aW (d:=row.getD p .none) (fr:=yM) (aq (aw (vr (af QQ ae)) (aw (x:=tst w p "is" o) (vr ae) vI QQ) h1) QQ QQ) f) (aA (aW (d:=o) (fr:=yM) (aq (aw (x:=tst w p "is" o) (vr (ag QQ ae)) vI QQ) QQ QQ) b) (bc (k:=yM) (x:=.bool yM) (ax (aw (x:=tst w p "is" o) (vr (ag QQ (ag QQ ae))) vI QQ) vS QQ) QQ nofun λZ=>?_))
  exact aA (aW (d:=sD w) (fr:=yM) (aq (aw (x:=tst w p "is" o) (vr (ag QQ (ag QQ ae))) vI QQ) QQ QQ) QQ) (rA B n c f b ay (ag QQ (ag QQ ay)) (ag QQ ay))
theorem holds_eq(B:BA P)(n:Nat){row:yN D}(h:∀ d∈row,d.isCell=yP){a:yN D}(i:∀ t∈a,Tst row.length t):(ai P X (n+3)).call "holds" [.tup a,.tup row]=ac (.bool (a.any (tV row)),yM):=by
 refine av B.holds QQ ?_;show Run _ pV.body [("clause",(yM,.tup a)),("row",(yM,.tup row))] _ _;obtain⟨E2,j,k2⟩:=mQ (cf:=ai P X (n+2)) (body:=[.ite (.call "does" [.u "test",.u "row"]) [.ret (.bool yP)] []]) (z:="test") (tV row) (λσ=>Has σ "row" (.tup row)) yM (.bool yP) a (λt c σ b=>cM (al (vv ay (vv (ag QQ b) vN)) (does_eq B n h (i t c))) QQ (λq=>tG (aq vB QQ QQ) QQ (sg q QQ)) λq=>bB (si q ⟨QQ,ag QQ b⟩)) _ (cg (ns:=["clause"]) (σ:=[("clause",(yM,.tup a)),("row",(yM,.tup row))]) (af QQ ae))
 cases f:a.any (tV row) with
 | true=>exact mI (vr ae) QQ (j f)
 | false=>exact ef (vr ae) QQ (k2 f).2 (aD (aq vB QQ QQ) QQ)
end
section
variable {α:Type} {cf:CF} {body:yN MS} {z:yS} {g:α->D}
theorem iy(I:yN α->St->Prop):∀ (l a:yN α) (σ:St),I a σ->(∀ (b:yN α) (x:α) (σ:St),x∈l->b.length<a.length+l.length->I b σ->Out cf body (az σ z (yM,g x)) λi E2=>i=.next/\I (b++[x]) E2)->∃ E2,I (a++l) E2/\cG (dB cf body z) (l.map g) σ=ac (.next,E2)
 | [],a,σ,h,_=>⟨σ,(zy a).symm▸h,QQ⟩
 | x::l,a,σ,h,j=>by
  obtain⟨i,c,⟨rfl,n⟩,e⟩:=j a x σ (.head _) (AL (Az _)) h;obtain⟨f,o,q⟩:=iy I l (a++[x]) c n λb y s t m h=>j b y s (.tail _ t) (by rw[zd] at m;exact zf m (zk (by rw[Au,Ai [x].length];rfl))) h
  exact⟨f,by rw[Cm];exact o,by rw[zm,cA,e];exact q⟩
theorem findT(p:α->yU)(I:St->Prop)(fr:yU)(d:D):∀ (l:yN α),(∀ x∈l,∀ σ,I σ->Out cf body (az σ z (yM,g x)) λc E2=>if p x=yP then c=.ret fr d else c=.next/\I E2) ->
  ∀ σ,I σ->∃ E2,(l.any p=yP->cG (dB cf body z) (l.map g) σ=ac (.ret fr d,E2))/\(l.any p=yM->I E2/\cG (dB cf body z) (l.map g) σ=ac (.next,E2))
 | [],_,σ,b=>⟨σ,nofun,λZ=>⟨b,QQ⟩⟩
 | x::r,h,σ,b=>by
  obtain⟨c,a,q,e⟩:=h x (.head _) σ b;rw[AI,zm,cA,e];cases f:p x with
  | true=>
   rw[y8 f] at q;subst q;exact⟨a,λZ=>QQ,nofun⟩
  | false=>
   rw[za (by rw[f];exact y5)] at q
   obtain⟨rfl,j⟩:=q;exact findT p I fr d r (λi m=>h i (.tail _ m)) a j
theorem tv(p:α->yU)(l:yN α){s:yS}{c:ME}{b:yU}{σ:St}(f:Has σ s (.tup (l.map g)))(I:St->Prop)(n:I (freeze [s] σ))(i:∀ x∈l,∀ σ,I σ->I (az σ z (yM,g x))/\evE cf (vis (az σ z (yM,g x))) c=ac (.bool (p x))) :
  Run cf [.for_ z (.u s) [.ite c [.ret (.bool b)] []],.ret (.bool (!b))] σ (.bool (if l.any p=yP then b else !b)) yM:=by
 obtain⟨E2,o,k2⟩:=findT (cf:=cf) (body:=[.ite c [.ret (.bool b)] []]) (z:=z) (g:=g) p I yM (.bool b) l (λx j σ a=>cM (i x j σ a).2 QQ (λh=>tG (aq vB QQ QQ) QQ (by rw[y8 h];rfl)) λh=>bB (by rw[h,za y5];exact⟨QQ,(i x j σ a).1⟩)) _ n
 cases m:l.any p with
 | true=>exact mI (vr f) QQ (o m)
 | false=>exact ef (vr f) QQ (k2 m).2 (aD (aq vB QQ QQ) QQ)
theorem gV{ρ:yN (yS×D)}{elt Fm:ME}{f:α->D}{l:yN α}{d:D}(a:evE cf ρ Fm=ac d)(hi:d.items=ac (l.map g))(b:l.length<=big)(h:∀ x∈l,evE cf ((z,g x)::ρ) elt=ac (f x)):evE cf ρ (.comp elt z Fm [])=ac (.list (l.map f)):=
 gW a hi (by rw[yV];exact b) (p8 _ _ _ _ λx c=>fT (h x c))
end
noncomputable abbrev Tab:=yN (yN D)
noncomputable def bF(m:Nat)(r:yN D):Prop:=r.length=m/\∀ d∈r,d.isCell=yP
noncomputable def aQ(m:Nat)(t:Tab):Prop:=∀ r∈t,bF m r
noncomputable def aC(t:Tab):D:=.list (t.map .tup)
noncomputable def aK(cs:yN (yN D))(row:yN D):yU:=cs.all λc=>c.any (tV row)
noncomputable def aR(ps:yN Nat)(row:yN D):yN D:=ps.map λp=>row.getD p .none
noncomputable def bv(prs:yN (Nat×Nat))(a b:yN D):yU:=prs.all λp=>eC (a.getD p.1 .none) (b.getD p.2 .none)
theorem v9{α:Type}(q:α->yU)(l:yN α):(if (l.any λx=>!q x)=yP then yM else !yM)=l.all q:=by
 rw[<- List.not_all_eq_any_not];cases l.all q <;> rfl
section
variable {P:yN (yS×Fn)} {X:CF}
theorem jk{m p:Nat}{r:yN D}(a:bF m r)(b:p<m):aV (.tup r) (.int p)=ac (r.getD p .none):=sE (a.1.symm▸b)
theorem dL{m p:Nat}{r:yN D}(a:bF m r)(b:p<m):(r.getD p .none).isCell=yP:=ni a.2 (a.1.symm▸b)
theorem keeps_eq(B:BA P)(n:Nat){m:Nat}{row:yN D}(h:bF m row){cs:yN (yN D)}(i:∀ c∈cs,bV m c):(ai P X (n+4)).call "keeps" [.tup (cs.map clD),.tup row]=ac (.bool (aK cs row),yM):=by
 refine av B.keeps QQ ?_;show Run _ pU.body [("clauses",(yM,.tup (cs.map clD))),("row",(yM,.tup row))] _ _;have q:=tv (cf:=ai P X (n+3)) (z:="clause") (g:=clD) (s:="clauses") (σ:=[("clauses",(yM,.tup (cs.map clD))),("row",(yM,.tup row))]) (c:=.not (.call "holds" [.u "clause",.u "row"])) (b:=yM) (λc=>!c.any (tV row)) cs ae (λσ=>Has σ "row" (.tup row)) (cg (af QQ ae)) λc f σ a=>⟨ag QQ a,jD (al (vv ay (vv (ag QQ a) vN)) (holds_eq B n h.2 λt j=>h.1.symm▸(i c f).1 t j)) QQ⟩
 rw[v9] at q;exact q
theorem ur(B:BA P)(n:Nat){m:Nat}{row:yN D}(b:bF m row){ps:yN Nat}(c:∀ p∈ps,p<m)(h:ps.length<=big):(ai P X (n+1)).call "cells_at" [.tup row,.tup (ps.map aN)]=ac (.tup (aR ps row),yM):=by
 refine av B.cells_at QQ (aD (aq (bP (ad (gV (g:=aN) (l:=ps) (f:=λp=>row.getD p .none) (vr (af QQ ae)) QQ h λp a=>aw (aF (bE QQ (aM ae))) (aF b0) (jk b (c p a))) vN) QQ) QQ QQ) QQ)
theorem meets_eq(B:BA P)(n:Nat){m k:Nat}{a b:yN D}(j:bF m a)(o:bF k b){prs:yN (Nat×Nat)}(i:∀ p∈prs,p.1<m/\p.2<k):(ai P X (n+2)).call "meets" [.tup a,.tup b,.tup (prs.map prT)]=ac (.bool (bv prs a b),yM):=by
 refine av B.meets QQ ?_;show Run _ pT.body [("one",(yM,.tup a)),("other",(yM,.tup b)),("pairs",(yM,.tup (prs.map prT)))] _ _;have q:=tv (cf:=ai P X (n+1)) (z:="pair") (g:=prT) (s:="pairs") (σ:=[("one",(yM,.tup a)),("other",(yM,.tup b)),("pairs",(yM,.tup (prs.map prT)))]) (c:=.not (.call "alike" [.sub (.u "one") (.sub (.u "pair") (.int 0)),.sub (.u "other") (.sub (.u "pair") (.int 1))])) (b:=yM) (λp=>!eC (a.getD p.1 .none) (b.getD p.2 .none)) prs (af QQ (af QQ ae)) (λσ=>Has σ "one" (.tup a)/\Has σ "other" (.tup b)) ⟨cg ae,cg (af QQ ae)⟩ λp f σ h=>⟨⟨ag QQ h.1,ag QQ h.2⟩,
  jD (al (ad (aw (vr (ag QQ h.1)) (aw (x:=prT p) (vr ay) vI QQ) (jk j (i p f).1)) (ad (aw (vr (ag QQ h.2)) (aw (x:=prT p) (vr ay) vI QQ) (jk o (i p f).2)) vN)) (uz B n _ _ (dL j (i p f).1) (dL o (i p f).2))) QQ⟩
 rw[v9] at q;exact q
end
noncomputable def iW(prs:yN (Nat×Nat))(b c:Tab):Tab:=b.flatMap λa=>(c.filter (bv prs a)).map (a++·)
theorem pq(prs:yN (Nat×Nat))(b c:Tab):(iW prs b c).length<=b.length * c.length:=by
 induction b with
 | nil=>exact zn _
 | cons a b f=>
  show (_++iW prs b c).length<=_;rw[zd,yV,Ar,Nat.succ_mul,Ai];exact zr f (z8 _ _)
theorem rf(prs:yN (Nat×Nat))(c b:Tab)(a:yN D):iW prs (c++[a]) b=iW prs c b++(b.filter (bv prs a)).map (a++·):=by
 unfold iW;rw[Eb,DE,EP,zy]
theorem eE(t:Tab)(r:yN D):aC (t++[r])=.list (t.map .tup++[.tup r]):=by unfold aC;rw[zq];rfl
section
variable {P:yN (yS×Fn)} {X:CF}
noncomputable abbrev xP:yN MS:=[.ite (.call "meets" [.u "one",.u "other",.u "pairs"]) [.append "found" (.bin .Add (.u "one") (.u "other"))] []]
structure MetI(t2:Tab)(prs:yN (Nat×Nat))(acc:Tab)(σ:St):Prop where
 s:Has σ "second" (aC t2)
 p:Has σ "pairs" (.tup (prs.map prT))
 f:bH σ "found" (aC acc)
theorem met_in(B:BA P)(n:Nat){m k:Nat}{a:yN D}{f acc:Tab}(o:bF m a)(q:aQ k f)(w:m+k<=big){prs:yN (Nat×Nat)}(y:∀ p∈prs,p.1<m/\p.2<k)(A:acc.length+f.length<=big){σ:St}(h1:Has σ "one" (.tup a))(I:MetI f prs acc σ) :
  ∃ E2,MetI f prs (acc++(f.filter (bv prs a)).map (a++·)) E2/\cG (dB (ai P X (n+2)) xP "other") (f.map .tup) σ=ac (.next,E2):=by
 obtain⟨E2,C,e⟩:=iy (cf:=ai P X (n+2)) (body:=xP) (z:="other") (g:=D.tup) (λc σ=>Has σ "one" (.tup a)/\MetI f prs (acc++(c.filter (bv prs a)).map (a++·)) σ) f [] σ ⟨h1,by rw[Bj,EQ,zy];exact I⟩ (by
  rintro c b σ s E ⟨i,t,j,u⟩;refine cM (al (vv (ag QQ i) (vv ay (vv (ag QQ j) vN))) (meets_eq B n o (q b s) y)) QQ (λh=>?_) λh=>?_
  ·refine aJ (bT (d:=.tup (a++b)) (ds:=((acc++(c.filter (bv prs a)).map (a++·)).map .tup)) (am (vr (ag QQ i)) (vr ay) (y8 (by rw[o.1,(q b s).1];exact w))) (bZ QQ (bC QQ u)) ?_) (bB ⟨QQ,ag QQ (au (ag QQ i)),ag QQ (au (ag QQ t)),ag QQ (au (ag QQ j)),?_⟩)
   ·rw[yV,zd,yV]
    exact zf (Nat.add_lt_add_left (y3 (z8 _ _) (Al f.length▸E)) _) A
   ·rw[show acc++((c++[b]).filter (bv prs a)).map (a++·)=acc++(c.filter (bv prs a)).map (a++·)++[a++b] from by rw[zZ,show[b].filter (bv prs a)=[b] from zp h,zq,Cd];rfl,eE]
    exact dF
  ·refine bB ⟨QQ,ag QQ i,ag QQ t,ag QQ j,?_⟩
   rw[zZ,show[b].filter (bv prs a)=[] from zI (by rw[h];nofun),zy]
   exact bC QQ u)
 exact⟨E2,C.2,e⟩
theorem met_eq(B:BA P)(n:Nat){m k:Nat}{h c:Tab}(h1:aQ m h)(o:aQ k c)(q:h.length<=60)(i:c.length<=60)(s:m+k<=big){prs:yN (Nat×Nat)}(t:∀ p∈prs,p.1<m/\p.2<k) :
  (ai P X (n+3)).call "met" [aC h,aC c,.tup (prs.map prT)]=ac (aC (iW prs h c),yP):=by
 refine av B.met QQ ?_;show Run _ u3.body [("first",(yM,aC h)),("second",(yM,aC c)),("pairs",(yM,.tup (prs.map prT)))] _ _;refine aA (ak (d:=.list []) (fr:=yP) QQ) ?_;obtain⟨E2,u,e⟩:=iy (cf:=ai P X (n+2)) (body:=[.for_ "other" (.u "second") xP]) (z:="one") (g:=D.tup) (λb σ=>MetI c prs (iW prs b c) σ) h [] (freeze ["first"] (az [("first",(yM,aC h)),("second",(yM,aC c)),("pairs",(yM,.tup (prs.map prT)))] "found" (yP,.list []))) ⟨cg (ag QQ (af QQ ae)),cg (ag QQ (af QQ (af QQ ae))),gG QQ dF⟩ (by
  rintro b a σ w y ⟨j,A,C⟩;obtain⟨E,J,e⟩:=met_in (X:=X) (σ:=freeze ["second"] (az σ "one" (yM,.tup a))) B n (h1 a w) o s t (acc:=iW prs b c) (yQ (zr (yQ (pq prs b c) (CO (yQ (zU (Al h.length▸y)) q) i)) i) (by decide)) (cg ay) ⟨cg (ag QQ j),cg (ag QQ A),gG QQ (bC QQ C)⟩
  refine vL (vr (ag QQ j)) QQ e (bB ⟨QQ,?_⟩);rw[rf];exact J)
 exact ef (vr (ag QQ ae)) QQ e (dP u.f)
end
noncomputable def gN(acc:Tab)(r:yN D):Tab:=if (acc.any λx=>aB x r)=yP then acc else acc++[r]
noncomputable def aZ(t:Tab):Tab:=t.foldl gN []
theorem fe(t:Tab)(r:yN D):aZ (t++[r])=gN (aZ t) r:=by unfold aZ;rw[Bt];rfl
theorem onceS_len(t:Tab)(r:yN D):(gN t r).length<=t.length+1:=by
 unfold gN;split
 ·exact AM _
 ·rw[zd];exact ze _
theorem mO{t:Tab}:(∀ r∈aZ t,r∈t)/\(aZ t).length<=t.length:=by
 have a:∀ (l acc:Tab),(∀ r∈l.foldl gN acc,r∈acc\/r∈l)/\(l.foldl gN acc).length<=acc.length+l.length:=by
  intro l
  induction l with
  | nil=>exact λacc=>⟨λr h=>.inl h,ze _⟩
  | cons x l b=>
   intro acc;have i:=b (gN acc x);refine⟨λr h=>(i.1 r h).elim (λh=>?_) λh=>.inr (.tail _ h),yQ i.2 (yQ (zK (onceS_len acc x) _) (zk (by rw[Au,Ai 1];rfl)))⟩
   unfold gN at h;split at h
   ·exact .inl h
   ·exact (zM.mp h).elim .inl λh=>.inr (zg.mp h▸.head _)
 exact⟨λr h=>((a t []).1 r h).elim (λh=>nomatch h) id,yQ (a t []).2 (zk (Al _))⟩
theorem sL{k d:D}:∀ {ks vs:yN D},ks.length=vs.length->(∀ x∈ks,aO x k=yM)->dK ks vs k d=(ks++[k],vs++[d])
 | [],[],_,_=>rfl
 | x::ks,v::vs,a,h=>by
  rw[oJ,h x (.head _),za y5,sL (Ax a) λy b=>h y (.tail _ b)];rfl
theorem ld{m:Nat}{r:yN D}(h:bF m r):(D.tup r).isTK=yP:=zx.mpr h.2
theorem rS{m:Nat}{t:Tab}(h:aQ m t):(t.map D.tup).all D.isTK=yP:=zx.mpr λd a=>(zz.mp a).elim λr q=>q.2▸ld (h r q.1)
section
variable {P:yN (yS×Fn)} {X:CF}
theorem kj(acc:Tab)(r:yN D):((acc.map D.tup).any λx=>aO x (.tup r))=acc.any λx=>aB x r:=by rw[List.any_map];rfl
theorem once_eq(B:BA P)(n:Nat){m:Nat}{t:Tab}(h:aQ m t)(y:t.length<big):(ai P X (n+1)).call "once" [aC t]=ac (aC (aZ t),yP):=by
 refine av B.once QQ ?_;show Run _ sG.body [("rows",(yM,aC t))] _ _;refine aA (ak (d:=.dict [] []) (fr:=yP) QQ) (aA (ak (d:=.list []) (fr:=yP) QQ) ?_);obtain⟨E2,A,e⟩:=iy (cf:=ai P X n) (body:=[.ite (.cmp .NotIn (.u "row") (.u "known")) [.setk "known" (.u "row") (.bool yP),.append "found" (.u "row")] []]) (z:="row") (g:=D.tup) (λb σ=>aQ m (aZ b)/\(aZ b).length<=b.length/\bH σ "known" (.dict ((aZ b).map .tup) ((aZ b).map λZ=>.bool yP))/\bH σ "found" (aC (aZ b))) t []
  (freeze ["rows"] (az (az [("rows",(yM,aC t))] "known" (yP,.dict [] [])) "found" (yP,.list []))) ⟨(λZ h=>nomatch h),ze _,gG QQ (bC QQ dF),gG QQ dF⟩ (by
  rintro b r σ i C ⟨f,j,o,w⟩;have E:mP (.tup r) (.dict ((aZ b).map .tup) ((aZ b).map λZ=>.bool yP))=ac ((aZ b).any λx=>aB x r):=by
   rw[<- kj];exact y8 (by unfold dQ;rw[ld (h r i),rS f];exact EO _)
  have G:evE (ai P X n) (vis (az σ "row" (yM,.tup r))) (.cmp .NotIn (.u "row") (.u "known"))=ac (.bool (!(aZ b).any λx=>aB x r)):=ax (vr ay) (vr (ag QQ (iB o))) (by show (mP _ _).map _=_;rw[E];rfl)
  have c:(aZ b).length<big:=y3 j (Aj (Al t.length▸C) y);refine cM G QQ (λa=>?_) λa=>?_
  ·have a:((aZ b).any λx=>aB x r)=yM:=by cases e:(aZ b).any λx=>aB x r with | false=>rfl | true=>rw[e] at a;cases a
   have e1:aZ (b++[r])=aZ b++[r]:=by rw[fe];unfold gN;rw[a,za y5]
   have s:∀ x∈(aZ b).map D.tup,aO x (.tup r)=yM:=λx u=>CL.mpr λq=>by
    have:=C4 (p:=λx=>aO x (.tup r)).mpr ⟨x,u,q⟩
    rw[kj,a] at this;cases this
   refine aJ (uR (d:=.bool yP) (dk:=.tup r) (ks:=(aZ b).map .tup) (vs:=(aZ b).map λZ=>.bool yP) vB (vr ay) (bZ QQ (bZ QQ (bC QQ o))) ?_) ?_
   ·unfold dQ;rw[ld (h r i),rS f,yV,Ak c];cases (D.tup r).isCell&&((aZ b).map D.tup).all D.isCell <;> rfl
   refine aJ (bT (d:=.tup r) (ds:=(aZ b).map .tup) (vr (ag QQ (au (au ay)))) (bZ QQ (bC QQ (bZ QQ (bZ QQ (bC QQ w))))) (by rw[yV];exact c)) (bB ⟨QQ,?_,?_,?_,?_⟩)
   ·rw[e1];exact λx u=>(zM.mp u).elim (f x) λq=>zg.mp q▸h r i
   ·rw[e1,zd,zd];exact zs j
   ·rw[e1,zq,zq,sL (by rw[yV,yV]) s]
    exact bC QQ (bZ QQ dF)
   ·rw[e1,eE];exact dF
  ·have a:((aZ b).any λx=>aB x r)=yP:=by cases e:(aZ b).any λx=>aB x r with | true=>rfl | false=>rw[e] at a;cases a
   have e1:aZ (b++[r])=aZ b:=by rw[fe];unfold gN;rw[a,y8 rfl]
   rw[e1];exact bB ⟨QQ,f,by rw[zd];exact zR j,bC QQ o,bC QQ w⟩)
 exact ef (vr (ag QQ (au (ag QQ (au ae))))) QQ e (dP A.2.2.2)
end
theorem kc{α:Type}{f:D->yX (yX D)}{h g:α->D}{p:α->yU}:∀ l:yN α,(∀ a∈l,f (h a)=ac (if p a=yP then ac (g a) else y7))->bS f (l.map h)=ac ((l.filter p).map g)
 | [],_=>rfl
 | a::l,H=>by
  rw[zm,bS,H a (.head _),kc l λb i=>H b (.tail _ i)]
  cases c:p a with
  | true=>rw[zp c];rfl
  | false=>rw[zI (by rw[c];nofun)];rfl
noncomputable def col(p:Nat)(t:Tab):yN D:=t.map (·.getD p .none)
noncomputable def eqW(w x:yS):yU:=yO w == yO x
noncomputable def uL(cs:yN D):Int:=(nW (cs.filter λc=>!dR c)).getD 0
noncomputable def gJ(w:yS)(f c:D):D:=
 if (eqW w "most"&&bh (if (eqW w "least"&&bh c f)=yP then c else f) c)=yP then c else if (eqW w "least"&&bh c f)=yP then c else f
noncomputable def oU(w:yS)(cs:yN D):D:=if eqW w "count"=yP then .int cs.length else if eqW w "sum"=yP then .int (uL cs) else cs.foldl (gJ w) (cs.headD .none)
theorem mE:∀ {cs:yN D},(∀ c∈cs,c.isCell=yP)->nW (cs.filter λc=>!dR c)=ac (uL cs)
 | [],_=>rfl
 | c::cs,h=>by
  have a:=mE λd b=>h d (.tail _ b)
  unfold uL;refine aU (C:=λc=>nW ((c::cs).filter λc=>!dR c)=ac ((nW ((c::cs).filter λc=>!dR c)).getD 0)) (h c (.head _)) (λi=>?_) λx=>?_
  ·rw[zp rfl,nW,a];rfl
  ·rw[zI (by nofun),a];rfl
theorem tR{b:yU}{x y:D}(a:x.isCell=yP)(c:y.isCell=yP):(if b=yP then x else y).isCell=yP:=by
 cases b with
 | true=>exact a
 | false=>exact c
theorem stepT_cell{w:yS}{f c:D}(b:f.isCell=yP)(a:c.isCell=yP):(gJ w f c).isCell=yP:=tR a (tR a b)
theorem m9{w:yS}:∀ {cs:yN D} {f:D},f.isCell=yP->(∀ c∈cs,c.isCell=yP)->(cs.foldl (gJ w) f).isCell=yP
 | [],_,a,_=>a
 | c::cs,_,a,h=>m9 (cs:=cs) (stepT_cell a (h c (.head _))) λd b=>h d (.tail _ b)
theorem told_cell{w:yS}{c:D}{cs:yN D}(h:∀ d∈c::cs,d.isCell=yP):(oU w (c::cs)).isCell=yP:=by
 unfold oU;split
 ·rfl
 ·split
  ·rfl
  ·exact m9 (h c (.head _)) h
theorem kf{m p:Nat}{t:Tab}(h:aQ m t)(a:p<m):∀ c∈col p t,c.isCell=yP:=λc b=>(zz.mp b).elim λr q=>q.2▸dL (h r q.1) a
theorem sr{c:D}(h:c.isCell=yP):pH c "str"=ac (dR c):=aU (C:=λc=>pH c "str"=ac (dR c)) h (λZ=>QQ) λZ=>QQ
section
variable {P:yN (yS×Fn)} {X:CF}
noncomputable abbrev xt:yN MS:=[.ite (.bop .And [.cmp .Eq (.u "word") (.str "least"),.call "before" [.sub (.u "row") (.u "place"),.u "found"]]) [.x0 "found" (.sub (.u "row") (.u "place"))] [],.ite (.bop .And [.cmp .Eq (.u "word") (.str "most"),.call "before" [.u "found",.sub (.u "row") (.u "place")]]) [.x0 "found" (.sub (.u "row") (.u "place"))] []]
structure iN(w:yS)(p:Nat)(f:D)(σ:St):Prop where
 w:Has σ "word" (sD w)
 p:Has σ "place" (aN p)
 f:σ.lookup "found"=ac (yM,f)
theorem iN.set{w:yS}{p:Nat}{f a:D}{σ:St}(I:iN w p f σ):iN w p a (az σ "found" (yM,a)):=⟨ag QQ I.w,ag QQ I.p,by rw[aI,y8 rfl]⟩
theorem iN.row{w:yS}{p:Nat}{f d:D}{σ:St}(I:iN w p f σ):iN w p f (az σ "row" (yM,d)):=⟨ag QQ I.w,ag QQ I.p,by rw[aI,za (by decide)];exact I.f⟩
theorem told_turn(B:BA P)(n:Nat){w:yS}{p m:Nat}{f:D}{r:yN D}(b:f.isCell=yP)(j:bF m r)(o:p<m){σ:St}(I:iN w p f σ)(h1:Has σ "row" (.tup r)):Out (ai P X (n+1)) xt σ λi E2=>i=.next/\iN w p (gJ w f (r.getD p .none)) E2:=by
 have a:=dL j o;have c:∀ {σ f},iN w p f σ->Has σ "row" (.tup r)->evE (ai P X (n+1)) (vis σ) (.sub (.u "row") (.u "place"))=ac (r.getD p .none):=λI h=>aw (vr h) (vr I.p) (jk j o)
 have two:∀ {σ f},f.isCell=yP->iN w p f σ->Has σ "row" (.tup r)->(∀ G,iN w p (if (eqW w "most"&&bh f (r.getD p .none))=yP then r.getD p .none else f) G->True)->Out (ai P X (n+1)) (xt.drop 1) σ λi E2=>i=.next/\iN w p (if (eqW w "most"&&bh f (r.getD p .none))=yP then r.getD p .none else f) E2:=λ{σ f} b I h _=>
  cM (cW (k:=eqW w "most") (l:=bh f (r.getD p .none)) (ax (vr I.w) vS QQ) λZ=>bk (al (vv ⟨_,I.f⟩ (ad (c I h) vN)) (jj B n _ _ b a))) QQ
   (λq=>aJ (aW (aq (c I h) QQ QQ) a) (bB ⟨QQ,by rw[y8 q];exact I.set⟩)) λq=>bB ⟨QQ,by rw[q,za y5];exact I⟩
 unfold gJ;refine cM (cW (k:=eqW w "least") (l:=bh (r.getD p .none) f) (ax (vr I.w) vS QQ) λZ=>bk (al (ad (c I h1) (vv ⟨_,I.f⟩ vN)) (jj B n _ _ a b))) QQ (λq=>?_) λq=>?_
 ·rw[y8 q]
  exact aJ (aW (aq (c I h1) QQ QQ) a) (two a I.set (ag QQ h1) λZ Z=>trivial)
 ·rw[q,za y5]
  exact two b I h1 λZ Z=>trivial
theorem told_eq(B:BA P)(n:Nat){m:Nat}{a:yN D}{o:Tab}(h:aQ m (a::o))(N:(a::o).length<=big)(w:yS){p:Nat}(s:p<m):(ai P X (n+2)).call "told_of" [dN (w,p),aC (a::o)]=ac (oU w (col p (a::o)),yM):=by
 refine av B.told_of QQ ?_;show Run _ lm.body [("one",(yM,dN (w,p))),("rows",(yM,aC (a::o)))] _ _;have A:=kf h s;refine aA (aW (d:=sD w) (fr:=yM) (aq (aw (x:=dN (w,p)) (vr ae) vI QQ) QQ QQ) QQ) (aA (aW (d:=aN p) (fr:=yM) (aq (aw (x:=dN (w,p)) (vr (ag QQ ae)) vI QQ) QQ QQ) QQ) ?_);unfold oU;have C:gI "len" [aC (a::o)]=ac (.int (col p (a::o)).length):=by
  show ac (D.int (((a::o).map D.tup).length:Nat))=_;unfold col;rw[yV,yV]
 have L:∀ {σ:St} {x:yS},Has σ "word" (sD w)->evE (ai P X (n+1)) (vis σ) (.cmp .Eq (.u "word") (.str x))=ac (.bool (eqW w x)):=λi=>ax (vr i) vS QQ
 have H:Has (az (az [("one",(yM,dN (w,p))),("rows",(yM,aC (a::o)))] "word" (yM,sD w)) "place" (yM,aN p)) "word" (sD w):=ag QQ ay;have E:Has (az (az [("one",(yM,dN (w,p))),("rows",(yM,aC (a::o)))] "word" (yM,sD w)) "place" (yM,aN p)) "rows" (aC (a::o)):=ag QQ (ag QQ (af QQ ae));have G:Has (az (az [("one",(yM,dN (w,p))),("rows",(yM,aC (a::o)))] "word" (yM,sD w)) "place" (yM,aN p)) "place" (aN p):=ay;generalize az (az [("one",(yM,dN (w,p))),("rows",(yM,aC (a::o)))] "word" (yM,sD w)) "place" (yM,aN p)=σ at *;refine bc (L H) QQ (λq=>?_) λq=>?_
 ·rw[y8 q]
  exact aD (aq (bP (vv E vN) C) QQ QQ) QQ
 rw[q,za y5];refine bc (L H) QQ (λq=>?_) λq=>?_
 ·rw[y8 q]
  have I:=mE A;unfold col at I;rw[BO] at I;refine aD (aq (bP (ad (gW (z:="row") (E8:=(a::o).map .tup) (vr E) QQ (by rw[yV];exact N) (kc (g:=λr:yN D=>r.getD p .none) (p:=λr=>!dR (r.getD p .none)) (a::o) λr u=>kM (jD (lH (aw (aF b0) (aF (bE QQ (aM G))) (jk (h r u) s)) (sr (dL (h r u) s))) QQ) QQ λEV=>aw (aF b0) (aF (bE QQ (aM G))) (jk (h r u) s))) vN) (d:=.int (uL (col p (a::o)))) ?_) QQ QQ) QQ
  show (nW _).map D.int=_;rw[show nW (((a::o).filter λr=>!dR (r.getD p .none)).map λr=>r.getD p .none)=ac (uL (col p (a::o))) from I];rfl
 rw[q,za y5];have t:=h a (.head _);refine aA (aW (d:=a.getD p .none) (fr:=yM) (aq (aw (aw (x:=aC (a::o)) (y:=.int 0) (d:=.tup a) (vr E) vI (lK (k:=0) (Az _) QQ)) (vr G) (jk t s)) QQ QQ) (dL t s)) ?_;obtain⟨E2,O,e⟩:=iy (cf:=ai P X (n+1)) (body:=xt) (z:="row") (g:=D.tup) (λb σ=>(b.all λr=>(r.getD p .none).isCell)=yP/\iN w p ((col p b).foldl (gJ w) (a.getD p .none)) σ) (a::o) [] (freeze ["rows"] (az σ "found" (yM,a.getD p .none))) ⟨QQ,cg (ag QQ H),cg (ag QQ G),by rw[bx,aI,y8 rfl];rfl⟩ (by
  rintro b r σ u Z ⟨M,j⟩;have e1:(col p (b++[r])).foldl (gJ w) (a.getD p .none)=gJ w ((col p b).foldl (gJ w) (a.getD p .none)) (r.getD p .none):=by unfold col;rw[zq,Bt];rfl
  have T:((col p b).foldl (gJ w) (a.getD p .none)).isCell=yP:=m9 (dL t s) λc U=>(zz.mp U).elim λr q=>q.2▸zx.mp M r q.1
  obtain⟨V,J,⟨Y,q2⟩,e⟩:=told_turn (X:=X) B n T (h r u) s (j.row (d:=.tup r)) ay;exact⟨V,J,⟨Y,by rw[EU,M];show ((r.getD p .none).isCell&&yP)=yP;rw[dL (h r u) s];rfl,e1▸q2⟩,e⟩)
 exact ef (vr (ag QQ E)) QQ e (dP O.2.f)
end
noncomputable abbrev Grp:=yN (yN D×Tab)
noncomputable def cT(k r:yN D):Grp->Grp
 | []=>[(k,[r])]
 | q::G=>if aB q.1 k=yP then (q.1,q.2++[r])::G else q::cT k r G
noncomputable def grV(q:yN D×Tab):D×yN D:=(.tup q.1,q.2.map .tup)
noncomputable def cx(ps:yN Nat)(t:Tab):Grp:=t.foldl (λG r=>cT (aR ps r) r G) []
theorem ye(k r:yN D):∀ G:Grp,xg (.tup k) (.tup r) (G.map grV)=(cT k r G).map grV
 | []=>rfl
 | q::G=>by
  show (if aB q.1 k=yP then _ else _)=(if aB q.1 k=yP then _ else _:Grp).map grV
  cases aB q.1 k with
  | true=>
   show _::_=_::_;unfold grV;rw[zq];rfl
  | false=>exact zj (grV q::·) (ye k r G)
structure xk(m k n:Nat)(G:Grp):Prop where
 ke:∀ q∈G,bF k q.1
 ro:∀ q∈G,q.2≠[]/\aQ m q.2/\q.2.length<=n
 le:G.length<=n
 pw:(G.map (·.1)).Pairwise λa b=>aB a b=yM
theorem m7{k r:yN D}{x:yN D×Tab}:∀ {G:Grp},x∈cT k r G->x∈G\/x=(k,[r])\/∃ q∈G,x=(q.1,q.2++[r])
 | [],h=>.inr (.inl (zg.mp h))
 | q::G,h=>by
  unfold cT at h;split at h
  ·exact (zc.mp h).elim (λe=>.inr (.inr ⟨q,.head _,e⟩)) λh=>.inl (.tail _ h)
  ·exact (zc.mp h).elim (λe=>.inl (e▸.head _)) λh=>(m7 h).imp (.tail _) λh=>h.imp id λ⟨p,a,e⟩=>⟨p,.tail _ a,e⟩
theorem ll(k r:yN D):∀ G:Grp,(cT k r G).map (·.1)=G.map (·.1)\/(cT k r G).map (·.1)=G.map (·.1)++[k]/\∀ q∈G,aB q.1 k=yM
 | []=>.inr ⟨QQ,λZ h=>nomatch h⟩
 | q::G=>by
  unfold cT;cases h:aB q.1 k with
  | true=>exact .inl QQ
  | false=>exact (ll k r G).imp (λe=>zj (q.1::·) e) λe=>⟨zj (q.1::·) e.1,λx a=>(zc.mp a).elim (λz=>z▸h) (e.2 x)⟩
theorem xk.put{m k n:Nat}{G:Grp}{c r:yN D}(g:xk m k n G)(o:bF k c)(j:bF m r):xk m k (n+1) (cT c r G) where
 ke:=λq hq=>(m7 hq).elim (g.ke q) λh=>h.elim (λe=>e▸o) λ⟨p,f,e⟩=>e▸g.ke p f
 ro:=λq hq=>(m7 hq).elim (λh=>⟨(g.ro q h).1,(g.ro q h).2.1,zR (g.ro q h).2.2⟩) λh=>h.elim (λe=>e▸⟨(λh=>nomatch h),λx i=>zg.mp i▸j,zs (zn _)⟩)
  λ⟨p,f,e⟩=>e▸⟨List.append_ne_nil_of_right_ne_nil _ (λh=>nomatch h),λx i=>(zM.mp i).elim ((g.ro p f).2.1 x) λh=>zg.mp h▸j,by rw[zd];exact zs (g.ro p f).2.2⟩
 le:=(ll c r G).elim (λe=>zR (by have q:=zj Dc e;rw[yV,yV] at q;exact q▸g.le)) λe=>by
  have q:=zj Dc e.1;rw[yV,zd,yV] at q;exact q▸zs g.le
 pw:=(ll c r G).elim (λe=>e▸g.pw) λe=>by
  rw[e.1,C2];exact⟨g.pw,List.pairwise_singleton _ _,λa s b t=>zg.mp t▸(zz.mp s).elim λq z=>z.2▸e.2 q z.1⟩
noncomputable def mB(a:yN (yS×Nat))(t:Tab):yN D:=a.map λs=>oU s.1 (col s.2 t)
noncomputable def rY(a:yN (yS×Nat))(q:yN D×Tab):yN D:=q.1++mB a q.2
noncomputable def eS(ps:yN Nat)(a:yN (yS×Nat))(t:Tab):Tab:=(cx ps t).map (rY a)
theorem gD{m:Nat}{row:yN D}(a:bF m row){ps:yN Nat}(b:∀ p∈ps,p<m):bF ps.length (aR ps row):=⟨yV ..,λd c=>(zz.mp c).elim λp q=>q.2▸dL a (b p q.1)⟩
theorem iC{m:Nat}{ps:yN Nat}(c:∀ p∈ps,p<m){t:Tab}(h:aQ m t):xk m ps.length t.length (cx ps t):=by
 have a:∀ (l:Tab) (G:Grp) (n:Nat),aQ m l->xk m ps.length n G->xk m ps.length (n+l.length) (l.foldl (λG r=>cT (aR ps r) r G) G):=by
  intro l
  induction l with
  | nil=>exact λG n Z g=>g
  | cons r l f=>exact λG n b g=>(by rw[Ar,Ai l.length,<- Au];exact f _ (n+1) (λx i=>b x (.tail _ i)) (g.put (gD (b r (.head _)) c) (b r (.head _))))
 exact Al t.length▸a t [] 0 h ⟨(λZ h=>nomatch h),(λZ h=>nomatch h),ze _,.nil⟩
section
variable {P:yN (yS×Fn)} {X:CF} {cf:CF}
theorem wD{m:Nat}{ps:yN Nat}{pl:D}(a:∀ p∈ps,p<m)(b:∀ r,bF m r->cf.call "cells_at" [.tup r,pl]=ac (.tup (aR ps r),yM)):∀ (t:Tab) (G:Grp),aQ m t->nZ cf pl (t.map .tup) (G.map grV)=ac ((t.foldl (λG r=>cT (aR ps r) r G) G).map grV)
 | [],_,_=>rfl
 | r::t,G,h=>by
  have c:=h r (.head _);rw[zm,nZ,b r c];show (if ((D.tup (aR ps r)).isTK&&!yM)=yP then _ else _)=_
  rw[ld (gD c a),y8 (show (yP&&!yM)=yP from rfl),ye];exact wD a b t _ λx f=>h x (.tail _ f)
theorem dY{r:yN D}(h:∀ d∈r,d.isCell=yP):aB r r=yP:=by
 induction r with
 | nil=>rfl
 | cons d r a=>
  show (bw d d&&aB r r)=yP;rw[a λx b=>h x (.tail _ b)]
  exact aU (C:=λd=>(bw d d&&yP)=yP) (h d (.head _)) (λi=>by show ((i == i)&&yP)=yP;rw[zu];rfl) λx=>by show ((x == x)&&yP)=yP;rw[zu];rfl
theorem wM{k:Nat}:∀ {G:Grp} {q:yN D×Tab},(∀ q∈G,bF k q.1)->(G.map (·.1)).Pairwise (λa b=>aB a b=yM)->q∈G->n7 (G.map λq=>.tup q.1) (G.map λq=>aC q.2) (.tup q.1)=ac (aC q.2)
 | p::G,q,f,c,hq=>by
  have c:=AG.mp c;rw[zm,zm,oK];show (if aB p.1 q.1=yP then _ else _)=_
  rcases zc.mp hq with e | hq
  ·subst e
   rw[dY (f q (.head _)).2,y8 rfl]
  ·rw[c.1 q.1 (zz.mpr ⟨q,hq,rfl⟩),za y5]
   exact wM (λx h=>f x (.tail _ h)) c.2 hq
noncomputable abbrev grBody:yN MS:=[.x0 "told" (.comp (.call "told_of" [.u "one",.sub (.u "groups") (.u "own")]) "one" (.u "sums") []),.append "found" (.bin .Add (.u "own") (.blt "tuple" [.u "told"]))]
theorem grouped_eq(B:BA P)(n:Nat){m:Nat}{t:Tab}(h:aQ m t)(w:t.length<=60){ps:yN Nat}(o:∀ p∈ps,p<m)(i:ps.length<=1000){a:yN (yS×Nat)}(H:∀ s∈a,s.2<m)(j:a.length<=1000) :
  (ai P X (n+3)).call "grouped" [aC t,.tup (ps.map aN),.tup (a.map dN)]=ac (aC (eS ps a t),yP):=by
 have g:=iC o h;have A:∀ {k:Nat},k<=1000->k<=big:=λh=>yQ h (by decide)
 have I:nZ (ai P X (n+2)) (.tup (ps.map aN)) (t.map .tup) []=ac ((cx ps t).map grV):=wD o (λr J=>ur B (n+1) J o (A i)) t [] h
 have e1:((cx ps t).map grV).map (·.1)=(cx ps t).map λq=>D.tup q.1:=by rw[Ad];rfl
 have L:((cx ps t).map grV).map (λq=>D.list q.2)=(cx ps t).map λq=>aC q.2:=by rw[Ad];rfl
 unfold eS;generalize cx ps t=G at *;refine av B.grouped QQ ?_;show Run _ lx.body [("rows",(yM,aC t)),("places",(yM,.tup (ps.map aN))),("sums",(yM,.tup (a.map dN)))] _ _;refine aA (ak (d:=.dict [] []) (fr:=yP) QQ) (aA (p_grp (E2:=[("rows",(yM,aC t)),("places",(yM,.tup (ps.map aN))),("sums",(yM,.tup (a.map dN))),("groups",(yM,.dict (G.map λq=>.tup q.1) (G.map λq=>aC q.2)))]) ?_) (aA (ak (d:=.list []) (fr:=yP) QQ) ?_))
 ·show (nZ (ai P X (n+2)) (.tup (ps.map aN)) (t.map .tup) []).map _=_
  rw[I,D4];unfold yd;rw[e1,L];rfl
 obtain⟨E2,M,e⟩:=iy (cf:=ai P X (n+2)) (body:=grBody) (z:="own") (g:=λq:yN D×Tab=>D.tup q.1) (λb σ=>Has σ "groups" (.dict (G.map λq=>.tup q.1) (G.map λq=>aC q.2))/\Has σ "sums" (.tup (a.map dN))/\bH σ "found" (aC (b.map (rY a)))) G []
  (freeze ["groups"] (az [("rows",(yM,aC t)),("places",(yM,.tup (ps.map aN))),("sums",(yM,.tup (a.map dN))),("groups",(yM,.dict (G.map λq=>.tup q.1) (G.map λq=>aC q.2)))] "found" (yP,.list []))) ⟨cg (ag QQ (af QQ (af QQ (af QQ ae)))),cg (ag QQ (af QQ (af QQ ae))),gG QQ dF⟩ (by
  rintro b q σ hq N ⟨C,E,O⟩;have u:aV (.dict (G.map λq=>.tup q.1) (G.map λq=>aC q.2)) (.tup q.1)=ac (aC q.2):=(y8 (by
   unfold dQ;rw[ld (g.ke q hq),show (G.map λq=>D.tup q.1).all D.isTK=yP from zx.mpr λd u=>(zz.mp u).elim λp z=>z.2▸ld (g.ke p z.1)]
   exact EO _)).trans (wM g.ke g.pw hq)
  have c:=g.ro q hq;have T:∀ s∈a,(ai P X (n+2)).call "told_of" [dN s,aC q.2]=ac (oU s.1 (col s.2 q.2),yM):=λs f=>by
   obtain⟨V,U⟩:=q;cases U with
   | nil=>exact zA QQ c.1
   | cons Y Z=>exact told_eq B n c.2.1 (yQ c.2.2 (yQ w (by decide))) s.1 (H s f)
  refine aJ (ak (d:=.list (mB a q.2)) (fr:=yP) (aq (gV (g:=dN) (l:=a) (vr (ag QQ E)) QQ (A j) λs f=>al (ad (aF b0) (ad (aw (aF (bE QQ (aM (ag QQ C)))) (aF (bE QQ (aM ay))) u) vN)) (T s f)) QQ QQ)) ?_
  refine aJ (bT (d:=.tup (rY a q)) (ds:=(b.map (rY a)).map .tup) (am (x:=.tup q.1) (y:=.tup (mB a q.2)) (vr (ag QQ (au ay))) (bP (vv ay vN) QQ) (y8 (by unfold mB;rw[(g.ke q hq).1,yV];exact yQ (zr i j) (by decide)))) (bZ QQ (bC QQ (bZ QQ (bC QQ O)))) ?_) (bB ⟨QQ,ag QQ (au (ag QQ (au (ag QQ C)))),ag QQ (au (ag QQ (au (ag QQ E)))),?_⟩)
  ·rw[yV,yV]
   exact zf (zf (Al (Dc G)▸N) g.le) (yQ w (by decide))
  ·rw[zq]
   show bH _ _ (aC (_++[_]));rw[eE];exact dF)
 exact ef (vr (ag QQ (af QQ (af QQ (af QQ ae))))) QQ (show cG _ ((G.map λq=>D.tup q.1)) _=_ from e) (dP M.2.2)
end
open PySem PySem.W
noncomputable def iR(k:Nat×yU)(l:Tab):Tab:=ir [] k.2 (col k.1 l) l
noncomputable def eO(ks:yN (Nat×yU))(t:Tab):Tab:=ks.reverse.foldl (λl k=>iR k l) t
theorem v5{α a:Type}(f:α->a)(b:yU)(l:yN α):AT b (l.map f)=(AT b l).map f:=by
 cases b with
 | false=>rfl
 | true=>exact ER.symm
theorem vZ{α:Type}{b:yU}{l:yN α}{x:α}:x∈AT b l↔x∈l:=by
 cases b with
 | false=>exact Iff.rfl
 | true=>exact DQ
theorem uW{ks:yN D}{i:Nat}(h:i∈kix ks):i<ks.length:=AY.mp ((lZ ks).mem_iff.mp h)
theorem srtL_map{ks:yN D}{l:Tab}(c:ks.length=l.length)(b:yU):ir D.none b ks (l.map .tup)=(ir [] b ks l).map .tup:=by
 unfold ir;rw[<- v5 D.tup b ((kix (AT b ks)).map _),Ad,v5 D.tup b l];refine zj (AT b) (AP λi f=>?_)
 have a:i<(AT b l).length:=by have:=uW f;rw[BS] at this ⊢;rw[<- c];exact this
 show ((AT b l).map D.tup).getD i .none=.tup ((AT b l).getD i []);rw[zb,zb,As,y4 a];rfl
theorem oy(k:Nat×yU)(l:Tab):(iR k l).length=l.length/\∀ r∈iR k l,r∈l:=by
 have b:(col k.1 l).length=l.length:=yV ..;refine⟨oY.trans b,λr c=>?_⟩
 unfold iR ir at c;obtain⟨i,f,e⟩:=zz.mp (vZ.mp c);have a:i<(AT k.2 l).length:=by have:=uW f;rw[BS] at this ⊢;rw[<- b];exact this
 rw[zb,y4 a] at e;exact vZ.mp (show r∈AT k.2 l from e▸AJ a)
section
variable {P:yN (yS×Fn)} {X:CF} {cf:CF}
theorem rank_eq(B:BA P)(n:Nat){c:D}(a:c.isCell=yP):(ai P X (n+1)).call "rank" [c]=ac (.tup [.bool (dR c),c],yM):=
 av B.rank QQ (aD (aq (bD (ad (lH (vr ae) (sr a)) (vv ae vN)) (yZ QQ)) QQ QQ) QQ)
theorem rh(B:BA P)(n:Nat){m p:Nat}(a:p<m):∀ {l:Tab},aQ m l->js (gX (ai P X (n+1)) "rank" (.int p)) (l.map .tup)=ac (col p l)
 | [],_=>rfl
 | r::l,h=>by
  have b:=h r (.head _);have f:=dL b a;have e:gX (ai P X (n+1)) "rank" (.int p) (.tup r)=ac (.tup [.bool (dR (r.getD p .none)),r.getD p .none]):=by
   unfold gX;rw[jk b a];show ((ai P X (n+1)).call "rank" [_]).map _=_;rw[rank_eq B n f];rfl
  rw[zm,js,e];show (match tO _ with | some c=>_ | none=>_)=_
  rw[show tO (.tup [.bool (dR (r.getD p .none)),r.getD p .none])=ac (r.getD p .none) from y8 (by rw[f,zu];rfl),rh B n a λx i=>h x (.tail _ i)]
  rfl
theorem v_srt{ρ:yN (yS×D)}{a:ME}{f x p:yS}{rev:yU}{ds ks:yN D}{i:D}(b:evE cf ρ a=ac (.list ds))(c:nu ρ p i)(hz:ds.length<64)(h:js (gX cf f i) ds=ac ks):evE cf ρ (.srt a f x p rev)=ac (.list (ir .none rev ks ds)):=by
 rw[ev_srt,b];dsimp only;rw[show ρ.lookup p=ac i from c];show (if ds.length<64 then (js _ ds).map _ else _)=_
 rw[y8 hz,h];rfl
noncomputable abbrev ordB:yN MS:=[.x0 "place" (.sub (.u "one") (.int 0)),.ite (.sub (.u "one") (.int 1)) [.x0 "found" (.srt (.u "found") "rank" "row" "place" yP)] [.x0 "found" (.srt (.u "found") "rank" "row" "place" yM)]]
theorem ordered_eq(B:BA P)(n:Nat){m:Nat}{t:Tab}(h:aQ m t)(s:t.length<64){ks:yN (Nat×yU)}(u:∀ k∈ks,k.1<m) :
  (ai P X (n+2)).call "ordered" [aC t,.tup (ks.map eL)]=ac (aC (eO ks t),yP):=by
 refine av B.ordered QQ ?_;show Run _ lv.body [("rows",(yM,aC t)),("keys",(yM,.tup (ks.map eL)))] _ _;refine aA (ak (d:=aC t) (fr:=yP) QQ) ?_;obtain⟨E2,w,e⟩:=iy (cf:=ai P X (n+1)) (body:=ordB) (z:="one") (g:=eL) (λb σ=>aQ m (b.foldl (λl k=>iR k l) t)/\(b.foldl (λl k=>iR k l) t).length=t.length/\bH σ "found" (aC (b.foldl (λl k=>iR k l) t))) ks.reverse [] (freeze ["keys"] (az (settle (aC t) ["rows"] [("rows",(yM,aC t)),("keys",(yM,.tup (ks.map eL)))]) "found" (yP,aC t))) ⟨h,QQ,gG QQ dF⟩ (by
  rintro b k σ A _ ⟨a,c,j⟩;rw[Bt];show Out _ _ _ λC E2=>C=.next/\aQ m (iR k _)/\(iR k _).length=t.length/\bH E2 "found" (aC (iR k _))
  generalize b.foldl (λl k=>iR k l) t=l at *
  have E:=u k (DQ.mp A);have ok:=oy k l;have o:∀ {σ:St} {rev:yU},rev=k.2->Has σ "found" (aC l)->Has σ "place" (aN k.1)->evF (ai P X (n+1)) (vis σ) (.srt (.u "found") "rank" "row" "place" rev)=ac (aC (iR k l),yP):=λ{σ rev} e G H=>by
   subst e;have q:=v_srt (cf:=ai P X (n+1)) (x:="row") (f:="rank") (rev:=k.2) (vr G) (aM H) (by rw[yV,c];exact s) (rh B n E a)
   rw[srtL_map (ks:=col k.1 l) (l:=l) (yV ..)] at q;exact aq q QQ QQ
  refine aJ (aW (d:=aN k.1) (fr:=yM) (aq (aw (x:=eL k) (vr ay) vI QQ) QQ QQ) QQ) (cM (k:=k.2) (aw (x:=eL k) (y:=.int 1) (d:=.bool k.2) (vr (ag QQ ay)) vI QQ) QQ (λq=>?_) λq=>?_)
  ·exact aJ (ak (o q.symm (ag QQ (ag QQ (iB j))) ay)) (bB ⟨QQ,λr i=>a r (ok.2 r i),ok.1.trans c,dF⟩)
  ·exact aJ (ak (o q.symm (ag QQ (ag QQ (iB j))) ay)) (bB ⟨QQ,λr i=>a r (ok.2 r i),ok.1.trans c,dF⟩))
 exact r_forr (vr (ag QQ (au (af QQ ae)))) (by rw[<- ER];exact e) (dP w.2.2)
end
section
variable {α:Type} {G:α->Prop} {lt E3 EW:α->α->yU} {l r r':yN α}
noncomputable def eqv(lt:α->α->yU)(x y:α):yU:=!lt x y&&!lt y x
structure Stb(G:α->Prop)(lt:α->α->yU)(l r:yN α):Prop where
 pw:r.Pairwise λa b=>lt b a=yM
 fl:∀ x,G x->r.filter (eqv lt x)=l.filter (eqv lt x)
structure WkG(G:α->Prop)(lt:α->α->yU):Prop where
 irr:∀ {a},G a->lt a a=yM
 tr:∀ {a b c},G a->G b->G c->lt a b=yP->lt b c=yP->lt a c=yP
 neg:∀ {a b c},G a->G b->G c->lt a b=yM->lt b c=yM->lt a c=yM
theorem iF{a:α}(h:lt a a=yM):eqv lt a a=yP:=by unfold eqv;rw[h];rfl
theorem yi{a b:α}(h1:lt a b=yM)(c:lt b a=yM):eqv lt a b=yP:=by unfold eqv;rw[h1,c];rfl
theorem sI{a b:α}(h:eqv lt a b=yP):lt a b=yM/\lt b a=yM:=by
 unfold eqv at h;have h:=zE.mp h;exact⟨DD _ |>.mp h.1,DD _ |>.mp h.2⟩
theorem s7(hi:∀ a,G a->lt a a=yM):∀ {r r':yN α},(∀ a∈r,G a)->(∀ a∈r',G a)->r.Pairwise (λa b=>lt b a=yM)->r'.Pairwise (λa b=>lt b a=yM)->(∀ x,G x->r.filter (eqv lt x)=r'.filter (eqv lt x))->r=r'
 | [],[],_,_,_,_,_=>rfl
 | [],b::r',_,h,_,_,c=>by
  have q:=c b (h b (.head _));rw[zp (iF (hi b (h b (.head _))))] at q;cases q
 | a::r,[],h1,_,_,_,c=>by
  have q:=c a (h1 a (.head _));rw[zp (iF (hi a (h1 a (.head _))))] at q;cases q
 | a::r,b::r',h1,h,j,m,c=>by
  have i:=h1 a (.head _);have n:=h b (.head _);have j:=AG.mp j;have m:=AG.mp m;have o:a∈b::r':=(zC.mp (c a i▸zC.mpr ⟨.head _,iF (hi a i)⟩)).1;have mb:b∈a::r:=(zC.mp ((c b n).symm▸zC.mpr ⟨.head _,iF (hi b n)⟩)).1;have e1:lt b a=yM:=(zc.mp mb).elim (λe=>e▸hi b n) (j.1 b)
  have s:lt a b=yM:=(zc.mp o).elim (λe=>e▸hi a i) (m.1 a)
  have q:=c a i;rw[zp (iF (hi a i)),zp (yi s e1)] at q;have e:a=b:=(C5 q).1;subst e;refine zj (a::·) (s7 hi (λx f=>h1 x (.tail _ f)) (λx f=>h x (.tail _ f)) j.2 m.2 λx t=>?_)
  have q:=c x t;cases f:eqv lt x a with
  | true=>rw[zp f,zp f] at q;exact (C5 q).2
  | false=>rw[zI (by rw[f];exact y5),zI (by rw[f];exact y5)] at q;exact q
theorem Stb.uniq(hi:∀ a,G a->lt a a=yM)(h:Stb G lt l r)(h':Stb G lt l r')(g:∀ a∈r,G a)(c:∀ a∈r',G a):r=r':=s7 hi g c h.pw h'.pw λx b=>(h.fl x b).trans (h'.fl x b).symm
noncomputable def nY(E3 EW:α->α->yU)(a b:α):yU:=E3 a b||(!E3 b a&&EW a b)
theorem eqv_lex(x y:α):eqv (nY E3 EW) x y=(eqv E3 x y&&eqv EW x y):=by
 unfold eqv nY;cases E3 x y <;> cases E3 y x <;> cases EW x y <;> cases EW y x <;> rfl
theorem Stb.lex{f:yN α}(hi:∀ a,G a->E3 a a=yM)(g:∀ a∈r,G a)(h1:Stb G E3 f r)(h:Stb G EW l f):Stb G (nY E3 EW) l r where
 fl:=λx i=>by
  rw[show eqv (nY E3 EW) x=λy=>eqv E3 x y&&eqv EW x y from funext (eqv_lex x)]
  show List.filter (λa=>eqv E3 x a&&eqv EW x a) r=List.filter (λa=>eqv E3 x a&&eqv EW x a) l
  rw[<- Aw,<- Aw,h.fl x i |>.symm,Aw,Aw]
  have:∀ t:yN α,List.filter (λa=>eqv E3 x a&&eqv EW x a) t=(t.filter (eqv E3 x)).filter (eqv EW x):=λt=>by
   rw[Aw];exact Bu λy Z=>Cs _ _
  rw[this,this,h1.fl x i]
 pw:=By.mpr λ{a b} c=>by
  have j:=By.mp h1.pw c;have m:=g a (c.subset (.head _));unfold nY;rw[j];cases e:E3 a b with
  | true=>rfl
  | false=>
   have q:=c.filter (eqv E3 a);rw[h1.fl a m,zp (iF (hi a m)),zp (yi e j)] at q;have:=By.mp h.pw (q.trans List.filter_sublist);rw[this];rfl
theorem WkG.le_lt(W:WkG G lt){a b c:α}(i:G a)(j:G b)(m:G c)(h:lt b a=yM)(f:lt b c=yP):lt a c=yP:=by
 cases e:lt a c with
 | true=>rfl
 | false=>rw[W.neg j i m h e] at f;cases f
theorem WkG.lt_le(W:WkG G lt){a b c:α}(f:G a)(i:G b)(j:G c)(h:lt a b=yP)(m:lt c b=yM):lt a c=yP:=by
 cases e:lt a c with
 | true=>rfl
 | false=>rw[W.neg f j i e m] at h;cases h
theorem WkG.asym(W:WkG G lt){a b:α}(c:G a)(f:G b)(h:lt a b=yP):lt b a=yM:=by
 cases e:lt b a with
 | false=>rfl
 | true=>have:=W.tr c f c h e;rw[W.irr c] at this;cases this
theorem WkG.lex(j:WkG G E3)(s:WkG G EW):WkG G (nY E3 EW) where
 irr:=λf=>by unfold nY;rw[j.irr f,s.irr f];rfl
 tr:=λ{a b c} f h i h1 m=>by
  unfold nY at *;cases x:E3 a b with
  | true=>
   have:E3 a c=yP:=j.lt_le f h i x (by cases y:E3 c b with | false=>rfl | true=>rw[y,j.asym i h y] at m;cases m)
   rw[this];rfl
  | false=>
   rw[x] at h1;cases q:E3 b a with
   | true=>rw[q] at h1;cases h1
   | false=>
    rw[q] at h1;cases y:E3 b c with
    | true=>rw[j.le_lt f h i q y];rfl
    | false=>
     rw[y] at m;cases t:E3 c b with
     | true=>rw[t] at m;cases m
     | false=>
      rw[t] at m;rw[j.neg f h i x y,j.neg i h f t q,s.tr f h i h1 m];rfl
 neg:=λ{a b c} f h i h1 m=>by
  unfold nY at *;have n:=BQ.mp h1;have o:=BQ.mp m;rw[j.neg f h i n.1 o.1];cases x:E3 c a with
  | true=>rfl
  | false=>
   have z:E3 b a=yM:=j.neg h i f o.1 x;have A:E3 c b=yM:=j.neg i f h x n.1;have u:=n.2;have w:=o.2;rw[z] at u;rw[A] at w;exact s.neg f h i u w
end
section
variable {α:Type} {G:α->Prop} {lt:α->α->yU} {left:yN α} {z:α}
theorem stb_cons(W:WkG G lt){p q r:yN α}{a:α}(g:∀ y∈p++a::q,G y)(h1:∀ y∈p++q,lt y a=yM)(j:∀ y∈p,lt a y=yP)(m:∀ y∈r,y∈p++q)(h:Stb G lt (p++q) r):Stb G lt (p++a::q) (a::r) where
 pw:=AG.mpr ⟨λy b=>h1 y (m y b),h.pw⟩
 fl:=λx i=>by
  have n:=g a (z7 _ (.head _));have c:=h.fl x i;rw[zZ] at c ⊢;cases e:eqv lt x a with
  | true=>
   have o:p.filter (eqv lt x)=[]:=CD.mpr λy b f=>by
    have:=W.le_lt i n (g y (AC _ b)) (sI e).2 (j y b);rw[(sI f).1] at this;cases this
   rw[zp e,zp e,c,o];rfl
  | false=>
   have e:¬ eqv lt x a=yP:=by rw[e];exact y5
   rw[zI e,zI e,c]
noncomputable def iI(lt:α->α->yU)(z:α)(left:yN α)(b i:Nat):Nat:=if lt (left.getD (i+1) z) (left.getD b z)=yP then i+1 else b
noncomputable def gT(lt:α->α->yU)(z:α)(left:yN α):Nat:=(zt (left.length - 1)).foldl (iI lt z left) 0
structure yL(lt:α->α->yU)(z:α)(left:yN α)(k b:Nat):Prop where
 le:b<=k
 mn:∀ j,j<=k->lt (left.getD j z) (left.getD b z)=yM
 fs:∀ j,j<b->lt (left.getD b z) (left.getD j z)=yP
theorem qo(W:WkG G lt)(g:∀ j,j<left.length->G (left.getD j z)):∀ k,k<left.length->yL lt z left k ((zt k).foldl (iI lt z left) 0)
 | 0,h=>⟨ze _,λj a=>by rw[Eg.mp a];exact W.irr (g 0 h),λj a=>zA a (AZ j)⟩
 | k+1,h=>by
  have i:=qo W g k (Aa h);rw[List.range_succ,Bt];show yL lt z left (k+1) (iI lt z left _ k);generalize (zt k).foldl (iI lt z left) 0=b at *;have f:=g _ h;have m:∀ j,j<=k->G (left.getD j z):=λj a=>g j (y3 a (Aa h))
  have n:=m b i.le;unfold iI;cases e:lt (left.getD (k+1) z) (left.getD b z) with
  | true=>
   rw[y8 rfl];have c:∀ j,j<=k->lt (left.getD (k+1) z) (left.getD j z)=yP:=λj a=>W.lt_le f n (m j a) e (i.mn j a)
   exact⟨ze _,λj a=>(zY a).elim (λh=>W.asym f (m j (zJ h)) (c j (zJ h))) λh=>by rw[h];exact W.irr f,λj a=>c j (zJ a)⟩
  | false=>
   rw[za y5];exact⟨zR i.le,λj a=>(zY a).elim (λh=>i.mn j (zJ h)) λh=>h▸e,i.fs⟩
noncomputable def jF(left:yN α)(b:Nat):yN α:=left.take b++left.drop (b+1)
noncomputable def tq(lt:α->α->yU)(z:α):Nat->yN α->yN α
 | 0,_=>[]
 | n+1,left=>left.getD (gT lt z left) z::tq lt z n (jF left (gT lt z left))
theorem ej{left:yN α}{z:α}{j:Nat}(h:j<left.length):left.getD j z∈left:=by
 rw[zb,y4 h];exact AJ h
theorem iD{α:Type}{l r:yN α}{z:α}{k:Nat}(h:k<l.length):(l++r).getD k z=l.getD k z:=by
 rw[zb,zb,Cg h]
theorem oZ{b:Nat}(h:b<left.length):left=left.take b++left.getD b z::left.drop (b+1):=by
 rw[zb,y4 h];exact (CM b left).symm.trans (zj _ (List.drop_eq_getElem_cons h))
theorem tw{b:Nat}(h:b<left.length):(jF left b).length+1=left.length:=by
 conv=>rhs;rw[oZ (z:=left[b]) h]
 unfold jF;rw[zd,zd,Ar];rfl
theorem lQ{b:Nat}(_:b<left.length){y:α}(a:y∈jF left b):y∈left:=(zM.mp a).elim D5 List.mem_of_mem_drop
theorem wX(W:WkG G lt)(g:∀ j,j<left.length->G (left.getD j z))(h:0<left.length):gT lt z left<left.length:=y3 (qo W g _ (AW h AQ)).le (AW h AQ)
theorem vy(W:WkG G lt):∀ (n:Nat) (left:yN α),left.length=n->(∀ a∈left,G a)->Stb G lt left (tq lt z n left)/\∀ y∈tq lt z n left,y∈left
 | 0,left,h,_=>by
  have:left=[]:=AR.mp h;subst this;exact⟨⟨.nil,λZ Z=>QQ⟩,λZ h=>h⟩
 | n+1,left,h,g=>by
  have w:∀ j,j<left.length->G (left.getD j z):=λj f=>g _ (ej f)
  have A:0<left.length:=h▸Az n;have i:=qo W w _ (AW A AQ);have m:=wX W w A;show Stb G lt left (left.getD (gT lt z left) z::tq lt z n (jF left (gT lt z left)))/\∀ y∈left.getD (gT lt z left) z::tq lt z n (jF left (gT lt z left)),y∈left;replace i:yL lt z left (left.length - 1) (gT lt z left):=i;generalize gT lt z left=b at *;have s:=vy W n (jF left b) (Ax ((tw m).trans h)) λa B=>g a (lQ m B)
  have t:∀ y∈left,∃ j,j<left.length/\left.getD j z=y:=λy c=>by
   obtain⟨j,f,e⟩:=BY c;exact⟨j,f,by rw[zb,y4 f];exact e⟩
  refine⟨?_,λy c=>(zc.mp c).elim (λe=>e▸ej m) λc=>lQ m (s.2 y c)⟩
  have q:=stb_cons (p:=left.take b) (q:=left.drop (b+1)) (a:=left.getD b z) W (oZ m▸g) (λy c=>by
   obtain⟨j,f,rfl⟩:=t y (lQ m c);exact i.mn j (CJ f)) (λy c=>by
   obtain⟨j,f,e⟩:=BY c;have u:=C1▸f
   have o:=(Nat.lt_min.mp u).1;have:=i.fs j o;rw[show left.getD j z=y from by rw[zb,y4 (Aj o m)];exact List.getElem_take.symm.trans e] at this
   exact this) s.2 s.1
  rw[<- oZ m] at q;exact q
end
open PySem PyProof.Rows PySem.W
section
variable {kl:Nat->Nat->yU} {n k m q i j:Nat} {p:zw Nat}
theorem iu{α a:Type}(f:α->KasT a):∀ t:KasT α,cC kl (t.bind f)=cC kl (f (cC kl t))
 | .ret _=>rfl
 | .ask i j k=>iu f (k (kl i j))
theorem pd(a:j<=p.size)(k:Nat):(De p i j).getD k 0=if i<=k/\k<j then p.getD (i+j - 1 - k) 0 else p.getD k 0:=by
 rw[Array.getD_eq_getD_getElem?,Array.getD_eq_getD_getElem?,Array.getD_eq_getD_getElem?];unfold De;rw[getElem?_mirror_all a,apply_ite (Option.getD · 0)]
theorem bub_at{l:Nat}(a:k<p.size)(b:l<=k)(i:Nat):(bubble p k (k - l)).getD i 0=if i=l then p.getD k 0 else if l<i/\i<=k then p.getD (i - 1) 0 else p.getD i 0:=by
 rw[Array.getD_eq_getD_getElem?,Array.getD_eq_getD_getElem?,Array.getD_eq_getD_getElem?,Array.getD_eq_getD_getElem?,getElem?_bubble a _ (Dt _ _),Nat.sub_sub_self b,apply_ite (Option.getD · 0),apply_ite (Option.getD · 0)]
theorem vK{i m:Nat}(h:i<m):m - 1 - i<m:=y3 (Dt _ _) (AW (y3 (zn _) h) AQ)
theorem o_nx{i m:Nat}(h:i+1<m):m - 1 - i=m - 1 - (i+1)+1:=(Nat.succ_pred_eq_of_pos (Nat.sub_pos_of_lt (Nat.lt_pred_of_succ_lt h))).symm
theorem o_dn{i b m:Nat}(h1:b<=i)(h:i<m):b<=b+m - 1 - i:=by exact om73 h
theorem o_dm{i b m:Nat}(h1:b<=i)(h:i<m):b+m - 1 - i<m:=by exact om74 h1 h
theorem o_dl{i b m:Nat}(h:i+1<m):b+m - 1 - (i+1)<b+m - 1 - i:=by exact om75 h
theorem o_sp{b k:Nat}(h1:¬b<=k)(a:b<=k+1):b=k+1:=BM a (Nat.not_le.mp h1)
structure Pre(kl:Nat->Nat->yU)(n k:Nat)(p:zw Nat):Prop where
 sz:p.size=n
 kn:k<=n
 so:∀ i j,i<j->j<k->Rk kl (p.getD i 0) (p.getD j 0)
 lo:∀ i,i<k->p.getD i 0<k
 hi:∀ i,k<=i->i<n->p.getD i 0=i
theorem sQ(W:Wk kl)(h:∀ i,i+1<k->Rk kl (p.getD i 0) (p.getD (i+1) 0)):∀ i j,i<j->j<k->Rk kl (p.getD i 0) (p.getD j 0)
 | i,j+1,h1,a=>(zY (zJ h1)).elim (λe=>(sQ W h i j e (Aa a)).tr W (h j a)) λe=>e▸h j a
theorem Pre.add(P:Pre kl n k p)(a:k<n)(h:∀ i,i<k->Rk kl (p.getD i 0) (p.getD k 0)):Pre kl n (k+1) p where
 sz:=P.sz
 kn:=a
 so:=λi j h1 b=>(zY (zJ b)).elim (P.so i j h1) λe=>e▸h i (e▸h1)
 lo:=λi h=>(zY (zJ h)).elim (λh=>Ab (P.lo i h)) λe=>e▸(P.hi i (zk e.symm) (e▸a)).symm▸Ap i
 hi:=λi h=>P.hi i (BR h)
theorem Pre.add'(W:Wk kl)(P:Pre kl n k p)(h1:1<=k)(a:k<n)(h:kl (p.getD k 0) (p.getD (k - 1) 0)=yM):Pre kl n (k+1) p:=P.add a λi b=>by
 have e:Rk kl (p.getD (k - 1) 0) (p.getD k 0):=.inr ⟨h,by rw[P.hi k (ze _) a];exact P.lo _ (AW h1 AQ)⟩
 exact (zY (CJ b)).elim (λh=>(P.so i _ h (AW h1 AQ)).tr W e) λh=>h▸e
structure Asc(kl:Nat->Nat->yU)(n k:Nat)(p:zw Nat)(m:Nat):Prop where
 pre:Pre kl n m p
 le:k<=m
 st:m<n->kl (p.getD m 0) (p.getD (m - 1) 0)=yP
theorem rX(W:Wk kl):∀ f k,Pre kl n k p->1<=k->k+f=n->Asc kl n k p (cC kl (kas_asc p f k))
 | 0,k,P,_,h=>⟨P,ze _,λq=>zA h (zO q)⟩
 | f+1,k,P,h1,h=>by
  have a:k<n:=h▸AL (Az f);show Asc kl n k p (cC kl (if kl (p.getD k 0) (p.getD (k - 1) 0)=yP then .ret k else kas_asc p f (k+1)))
  cases e:kl (p.getD k 0) (p.getD (k - 1) 0) with
  | true=>exact⟨P,ze _,λZ=>e⟩
  | false=>
   have r:=rX W f (k+1) (P.add' W h1 a e) (zR h1) ((Nat.succ_add k f).trans h);exact⟨r.pre,BR r.le,r.st⟩
structure Ds(kl:Nat->Nat->yU)(n m:Nat)(p:zw Nat):Prop where
 sz:p.size=n
 mn:m<=n
 de:∀ i,i+1<m->Rk kl (p.getD (i+1) 0) (p.getD i 0)
 lo:∀ i,i<m->p.getD i 0<m
 hi:∀ i,m<=i->i<n->p.getD i 0=i
theorem Ds.pre(W:Wk kl)(D:Ds kl n m p):Pre kl n m (De p 0 m):=by
 have a:=pd (p:=p) (i:=0) (D.sz.symm▸D.mn:m<=p.size);have a1:∀ i,i<m->(De p 0 m).getD i 0=p.getD (m - 1 - i) 0:=λi h=>by rw[a,y8 ⟨zn _,h⟩,Al]
 refine⟨(mirror_size _ _ _ _).trans D.sz,D.mn,sQ W λi h=>?_,λi h=>?_,λi h b=>?_⟩
 ·rw[a1 i (Aa h),a1 _ h]
  have q:=vK (Aa h);rw[o_nx h] at q ⊢;exact D.de _ q
 ·rw[a1 i h];exact D.lo _ (vK h)
 ·rw[a,za λq=>zA q.2 (Ac.mpr h)];exact D.hi i h b
theorem Pre.ds(P:Pre kl n k p):Ds kl n k (De p 0 k):=by
 have a:=pd (p:=p) (i:=0) (P.sz.symm▸P.kn:k<=p.size);have a1:∀ i,i<k->(De p 0 k).getD i 0=p.getD (k - 1 - i) 0:=λi h=>by rw[a,y8 ⟨zn _,h⟩,Al]
 refine⟨(mirror_size _ _ _ _).trans P.sz,P.kn,λi h=>?_,λi h=>?_,λi h b=>?_⟩
 ·rw[a1 i (Aa h),a1 _ h];exact P.so _ _ (o_nx h▸Ap _) (vK (Aa h))
 ·rw[a1 i h];exact P.lo _ (vK h)
 ·rw[a,za λq=>zA q.2 (Ac.mpr h)];exact P.hi i h b
structure Dn(kl:Nat->Nat->yU)(n m b:Nat)(p:zw Nat):Prop where
 sz:p.size=n
 mn:m<=n
 bm:b<m
 de:∀ i,i+1<b->Rk kl (p.getD (i+1) 0) (p.getD i 0)
 bd:0<b->∀ i,b<=i->i<m->kl (p.getD i 0) (p.getD (b - 1) 0)=yP
 eq:∀ i j,b<=i->i<j->j<m->kl (p.getD i 0) (p.getD j 0)=yM/\kl (p.getD j 0) (p.getD i 0)=yM/\p.getD i 0<p.getD j 0
 lo:∀ i,i<m->p.getD i 0<m
 hi:∀ i,m<=i->i<n->p.getD i 0=i
theorem Dn.ds{b:Nat}(D:Dn kl n m b p):Ds kl n m (De p b m):=by
 have a:=pd (p:=p) (i:=b) (D.sz.symm▸D.mn:m<=p.size);have j:=D.bm;refine⟨(mirror_size _ _ _ _).trans D.sz,D.mn,λi h=>?_,λi h=>?_,λi h f=>?_⟩
 ·rw[a,a]
  by_cases h1:b<=i
  ·rw[y8 ⟨zR h1,h⟩,y8 ⟨h1,Aa h⟩]
   have:=D.eq (b+m - 1 - (i+1)) (b+m - 1 - i) (o_dn (zR h1) h) (o_dl h) (o_dm h1 (Aa h));exact .inr ⟨this.2.1,this.2.2⟩
  ·rw[za (c:=b<=i/\i<m) λq=>h1 q.1]
   by_cases f:b<=i+1
   ·rw[y8 ⟨f,h⟩]
    have e:=o_sp h1 f;subst e;exact .inl (D.bd (Az i) _ (o_dn (ze _) h) (o_dm (ze _) h))
   ·rw[za λq=>f q.1];exact D.de i (Nat.not_le.mp f)
 ·rw[a];split
  ·next q=>exact D.lo _ (o_dm q.1 h)
  ·exact D.lo i h
 ·rw[a,za λq=>zA q.2 (Ac.mpr h)];exact D.hi i h f
theorem Dn.ds0(D:Dn kl n (m+1) m p):Ds kl n (m+1) p:=⟨D.sz,D.mn,λi h=>(zY (zJ h)).elim (D.de i) λe=>by subst e;exact .inl (D.bd (Az i) _ (ze _) (Ap _)),D.lo,D.hi⟩
theorem Ds.dn(D:Ds kl n m p)(h:m<n)(b:kl (p.getD m 0) (p.getD (m - 1) 0)=yP):Dn kl n (m+1) m p where
 sz:=D.sz
 mn:=h
 bm:=Ap m
 de:=D.de
 bd:=λZ i h1 a=>(BM h1 (zJ a))▸b
 eq:=λi j h1 a c=>zA (y3 h1 a) (Ac.mpr (zJ c))
 lo:=λi hi=>(zY (zJ hi)).elim (λh=>Ab (D.lo i h)) λe=>by rw[D.hi i (zk e.symm) (e▸h)];exact hi
 hi:=λi h=>D.hi i (BR h)
theorem Dn.more(W:Wk kl){b:Nat}(D:Dn kl n m b p)(h:m<n)(h1:kl (p.getD m 0) (p.getD (m - 1) 0)=yM)(f:kl (p.getD (m - 1) 0) (p.getD m 0)=yM):Dn kl n (m+1) b p where
 sz:=D.sz
 mn:=h
 bm:=Ab D.bm
 de:=D.de
 bd:=λo i c a=>(zY (zJ a)).elim (D.bd o i c) λe=>e▸W.le_lt f (D.bd o (m - 1) (CJ D.bm) (AW (y3 (zn _) D.bm) AQ))
 eq:=λi j c a t=>(zY (zJ t)).elim (D.eq i j c a) λe=>by
  subst e;have s:p.getD i 0<p.getD j 0:=by rw[D.hi j (ze _) h];exact D.lo i a
  rcases zY (CJ a) with q | q
  ·have z:=D.eq i (j - 1) c q (AW (y3 (zn _) a) AQ)
   exact⟨W.neg z.1 f,W.neg h1 z.2.1,s⟩
  ·subst q;exact⟨f,h1,s⟩
 lo:=λi hi=>(zY (zJ hi)).elim (λh=>Ab (D.lo i h)) λe=>by rw[D.hi i (zk e.symm) (e▸h)];exact hi
 hi:=λi h=>D.hi i (BR h)
noncomputable def DnR(kl:Nat->Nat->yU)(n:Nat)(r:zw Nat×Nat×Nat):Prop:=r.2.2+1<=r.2.1/\Dn kl n r.2.1 (r.2.1 - (r.2.2+1)) r.1
theorem lP(W:Wk kl):∀ f (p:zw Nat) m q,DnR kl n (p,m,q)->m+f=n->DnR kl n (cC kl (Ee f p m q))
 | 0,_,_,_,D,_=>D
 | f+1,p,m,q,D,h=>by
  have j:m<n:=h▸AL (Az f);have h':m+1+f=n:=(Nat.succ_add m f).trans h;obtain⟨hq,D⟩:=D;dsimp only at hq D;show DnR kl n (cC kl (if kl (p.getD m 0) (p.getD (m - 1) 0)=yP then (if q > 0 then Ee f (De p (m - (q+1)) m) (m+1) 0 else Ee f p (m+1) 0) else .ask (p.getD (m - 1) 0) (p.getD m 0) λd=>if d=yP then .ret (p,m,q) else Ee f p (m+1) (q+1)))
  have nx:∀ {p':zw Nat},Ds kl n m p'->kl (p'.getD m 0) (p'.getD (m - 1) 0)=yP->DnR kl n (p',m+1,0):=λo e=>⟨zs (zn _),o.dn j e⟩
  cases e:kl (p.getD m 0) (p.getD (m - 1) 0) with
  | true=>
   rw[y8 rfl]
   by_cases a:q > 0
   ·rw[y8 a]
    refine lP W f _ _ _ (nx D.ds ?_) h';have b:=pd (p:=p) (i:=m - (q+1)) (D.sz.symm▸D.mn:m<=p.size);have c:=zf (Az q) hq;rw[b,b,za λz=>zA z.2 (Af m),y8 ⟨Nat.sub_le_sub_left (zs (zn q)) m,AW c AQ⟩,Nat.add_sub_assoc c,Nat.add_sub_cancel]
    exact W.lt_le e (D.eq _ _ (ze _) (D7 (zf (CY a) hq) (CY a)) (AW c AQ)).1
   ·rw[za a]
    have s:q=0:=Eg.mp (Ac.mp a);subst s;obtain⟨m,rfl⟩:∃ k,m=k+1:=⟨m - 1,(Dl hq).symm⟩;exact lP W f _ _ _ (nx D.ds0 e) h'
  | false=>
   rw[za y5];show DnR kl n (cC kl (if kl (p.getD (m - 1) 0) (p.getD m 0)=yP then .ret (p,m,q) else Ee f p (m+1) (q+1)))
   cases t:kl (p.getD (m - 1) 0) (p.getD m 0) with
   | true=>exact⟨hq,D⟩
   | false=>
    refine lP W f _ _ _ ⟨zs hq,?_⟩ h';show Dn kl n (m+1) (m+1 - (q+1+1)) p;rw[Nat.add_sub_add_right];exact D.more W j e t
noncomputable def PreR(kl:Nat->Nat->yU)(n:Nat)(r:Nat×zw Nat):Prop:=1<=r.1/\Pre kl n r.1 r.2
theorem qS(W:Wk kl)(D:Ds kl n m p)(h1:1<=m):PreR kl n (cC kl (kas_tail3 m n p)):=by
 unfold kas_tail3;rw[iu];have r:=rX W (n - m) m (D.pre W) h1 (Dh D.mn);exact⟨yQ h1 r.le,r.pre⟩
theorem lO(W:Wk kl)(D:Ds kl n m p)(h:m<n)(h1:1<=m)(c:kl (p.getD m 0) (p.getD (m - 1) 0)=yP):PreR kl n (cC kl (EL m n p)):=by
 unfold EL;rw[iu];have r:=lP (n:=n) W (n - (m+1)) p (m+1) 0 ⟨zs (zn _),D.dn h c⟩ (Dh h);generalize cC kl (Ee (n - (m+1)) p (m+1) 0)=t at *;obtain⟨i,m',q⟩:=t;obtain⟨hq,r⟩:=r;dsimp only at hq r ⊢;have a:1<=m':=yQ (zs (zn _)) hq
 by_cases b:q > 0
 ·rw[y8 b];exact qS W r.ds a
 ·rw[za b]
  have f:q=0:=Eg.mp (Ac.mp b);subst f;obtain⟨m',rfl⟩:∃ k,m'=k+1:=⟨m' - 1,(Dl hq).symm⟩;exact qS W r.ds0 a
theorem run_count(W:Wk kl)(P:Pre kl n 1 p)(h1:1<=n):PreR kl n (cC kl (kas_count n p)):=by
 unfold kas_count;rw[iu];have r:=rX W (n - 1) 1 P (ze _) (Dh h1);generalize cC kl (kas_asc p (n - 1) 1)=k at *
 by_cases b:(k == n)=yP
 ·rw[y8 b];exact⟨r.le,r.pre⟩
 ·rw[za b]
  have c:k<n:=Cw r.pre.kn λe=>b (Bh.mpr e)
  have st:=r.st c
  by_cases f:k > 1
  ·rw[y8 f]
   show PreR kl n (cC kl (if kl (p.getD 0 0) (p.getD (k - 1) 0)=yP then .ret (k,p) else EL k n (De p 0 k)))
   cases e:kl (p.getD 0 0) (p.getD (k - 1) 0) with
   | true=>exact⟨r.le,r.pre⟩
   | false=>
    refine lO W r.pre.ds c r.le ?_;have a:=pd (p:=p) (i:=0) (r.pre.sz.symm▸r.pre.kn:k<=p.size);rw[a,a,za λz=>zA z.2 (Af k),y8 ⟨zn _,AW r.le AQ⟩,Al,CQ]
    exact W.lt_le st e
  ·rw[za f]
   have j:k=1:=BM (Ac.mp f) r.le;subst j;exact lO W ⟨r.pre.sz,r.pre.kn,λi h=>zA (AN h) (AZ _),r.pre.lo,r.pre.hi⟩ c (ze _) st
structure Plc(kl:Nat->Nat->yU)(k:Nat)(p:zw Nat)(l:Nat):Prop where
 le:l<=k
 lo:∀ i,i<l->kl (p.getD k 0) (p.getD i 0)=yM
 hi:∀ i,l<=i->i<k->kl (p.getD k 0) (p.getD i 0)=yP
theorem mG(W:Wk kl)(P:Pre kl n k p):∀ f l r,r - l<=f->l<=r->r<=k->(∀ i,i<l->kl (p.getD k 0) (p.getD i 0)=yM)->(∀ i,r<=i->i<k->kl (p.getD k 0) (p.getD i 0)=yP)->Plc kl k p (cC kl (kas_place p k f l r))
 | 0,l,r,h,h1,m,q,s=>⟨yQ h1 m,q,λi b=>s i (yQ (DS (Eg.mp h)) b)⟩
 | f+1,l,r,h,h1,m,q,s=>by
  unfold kas_place
  by_cases a:l ≥ r
  ·rw[y8 a];exact⟨yQ h1 m,q,λi b=>s i (yQ a b)⟩
  ·rw[za a]
   have j:=xO (Nat.not_le.mp a);show Plc kl k p (cC kl (if kl (p.getD k 0) (p.getD ((l+r) / 2) 0)=yP then kas_place p k f l ((l+r) / 2) else kas_place p k f ((l+r) / 2+1) r))
   generalize (l+r) / 2=c at *;have o:c<k:=zf j.2 m;cases e:kl (p.getD k 0) (p.getD c 0) with
   | true=>exact mG W P f l c (zJ (zf (Nat.sub_lt_sub_right j.1 j.2) h)) j.1 (zU o) q λi b t=>(zY b).elim (λh=>W.lt_le e ((P.so c i h t).le W)) λh=>h▸e
   | false=>exact mG W P f (c+1) r (zJ (zf (D7 (Nat.not_le.mp a) (Nat.lt_succ_of_le j.1)) h)) j.2 m (λi b=>(zY (zJ b)).elim (λh=>W.neg e ((P.so i c h o).le W)) λh=>h▸e) s
theorem Pre.ins(W:Wk kl)(P:Pre kl n k p)(f:k<n){l:Nat}(L:Plc kl k p l):Pre kl n (k+1) (bubble p k (k - l)):=by
 have a:=bub_at (P.sz.symm▸f) L.le;have b:=P.hi k (ze _) f;have le:=L.le;refine⟨(bubble_size _ _ _).trans P.sz,f,sQ W λi h=>?_,λi h=>?_,λi h j=>?_⟩
 ·rw[a,a]
  rcases Nat.lt_trichotomy i l with c | c | c
  ·rw[za (zO c),za λz=>zA z.1 (Nat.lt_asymm c)]
   by_cases d:i+1=l
   ·rw[y8 d];exact .inr ⟨L.lo i c,by rw[b];exact P.lo i (zf c le)⟩
   ·rw[za d,za λz=>zA c (Ac.mpr (zJ z.1))];exact P.so _ _ (Ap i) (zf (Cw c d) le)
  ·subst c
   rw[y8 rfl,za (Nat.succ_ne_self i),y8 ⟨Ap i,zJ h⟩];exact .inl (L.hi i (ze _) (AN h))
  ·rw[za (Dq c),y8 (c:=l<i/\i<=k) ⟨c,zU (AN h)⟩,za (c:=i+1=l) (Dq (Ab c)),y8 ⟨Ab c,zJ h⟩]
   exact P.so _ _ (AW (y3 (zn _) c) AQ) (AN h)
 ·rw[a];split
  ·rw[b];exact Ap k
  ·next q=>
   split
   ·next z=>exact Ab (P.lo _ (zf (AW (y3 (zn _) z.1) AQ) z.2))
   ·next z=>exact Ab (P.lo _ (Nat.lt_of_not_le λy=>z ⟨Cw (yQ le y) λe=>q e.symm,zJ h⟩))
 ·rw[a,za (c:=i=l) λe=>zA (e▸h:k+1<=l) (Ac.mpr le),za λe=>zA h (Ac.mpr e.2)];exact P.hi i (BR h) j
theorem vA(W:Wk kl):∀ f (p:zw Nat) k,Pre kl n k p->k+f=n->Pre kl n n (cC kl (kas_bin f p k))
 | 0,_,k,P,h=>(show k=n from h)▸P
 | f+1,p,k,P,h=>by
  unfold kas_bin;rw[iu];have a:k<n:=h▸AL (Az f);have L:=mG W P k 0 k (ze _) (zn _) (ze _) (λi h=>zA h (AZ i)) λi h1 b=>zA b (Ac.mpr h1)
  exact vA W f _ _ (P.ins W a L) ((Nat.succ_add k f).trans h)
theorem run_sort(W:Wk kl)(h1:1<=n):Pre kl n n (cC kl (kas_sort n)):=by
 unfold kas_sort;rw[iu];have a:Pre kl n 1 (EM (zt n)):=by
  have e:∀ i,i<n->(EM (zt n)).getD i 0=i:=λi h=>by
   rw[Array.getD_eq_getD_getElem?,DU,D9 h];rfl
  exact⟨by rw[CI,zX],h1,λi j b c=>zA (zf b (zJ c)) (AZ _),λi h=>by rw[e i (zf h h1)];exact h,λi Z h=>e i h⟩
 have r:=run_count W a h1;generalize cC kl (kas_count n (EM (zt n)))=t at *
 by_cases h:t.1<n
 ·rw[y8 h,Nat.max_eq_left r.1]
  exact vA W _ _ _ r.2 (Dh (zU h))
 ·rw[za h]
  have e:t.1=n:=BM r.2.kn (Ac.mp h);exact e▸r.2
theorem Pre.pw(P:Pre kl n n p):p.toList.Pairwise (Rk kl):=BF.mpr λi j b a h=>by
 have q:=P.so i j h (P.sz▸a);rw[Array.getD_eq_getD_getElem?,Array.getD_eq_getD_getElem?,<- zW,<- zW,y4 b,y4 a] at q;exact q
end
open PySem PySem.W
theorem cps_neg{a b c:yN Nat}(h1:¬ a<b)(f:¬ b<c):¬ a<c:=Ei.mpr (List.le_trans (Ei.mp f) (Ei.mp h1))
theorem wkD:WkG (λd:D=>d.isCell=yP) aL where
 irr:=λm=>aU (C:=λa=>aL a a=yM) m (λi=>Aq (Er i)) λx=>Aq (List.lt_irrefl _)
 tr:=λ{a b c} m n h=>aU (C:=λa=>aL a b=yP->aL b c=yP->aL a c=yP) m
  (λi=>aU (C:=λb=>aL (.int i) b=yP->aL b c=yP->aL (.int i) c=yP) n
   (λj=>aU (C:=λc=>aL (.int i) (.int j)=yP->aL (.int j) c=yP->aL (.int i) c=yP) h (λk h1 f=>Ak (Ba (zS h1) (zS f))) λZ Z Z=>QQ)
   λy=>aU (C:=λc=>aL (.int i) (.str y)=yP->aL (.str y) c=yP->aL (.int i) c=yP) h (λk Z f=>nomatch f) λZ Z Z=>QQ)
  λx=>aU (C:=λb=>aL (.str x) b=yP->aL b c=yP->aL (.str x) c=yP) n (λj h1=>nomatch h1)
   λy=>aU (C:=λc=>aL (.str x) (.str y)=yP->aL (.str y) c=yP->aL (.str x) c=yP) h (λk Z f=>nomatch f) λz h1 f=>Ak (List.lt_trans (zS h1) (zS f))
 neg:=λ{a b c} m n h=>aU (C:=λa=>aL a b=yM->aL b c=yM->aL a c=yM) m
  (λi=>aU (C:=λb=>aL (.int i) b=yM->aL b c=yM->aL (.int i) c=yM) n
   (λj=>aU (C:=λc=>aL (.int i) (.int j)=yM->aL (.int j) c=yM->aL (.int i) c=yM) h (λk h1 f=>Aq (Ce.mpr (A9 (Ce.mp (A7 f)) (Ce.mp (A7 h1))))) λZ Z f=>nomatch f)
   λy h1=>nomatch h1)
  λx=>aU (C:=λb=>aL (.str x) b=yM->aL b c=yM->aL (.str x) c=yM) n
   (λj=>aU (C:=λc=>aL (.str x) (.int j)=yM->aL (.int j) c=yM->aL (.str x) c=yM) h (λZ Z Z=>QQ) λZ Z f=>nomatch f)
   λy=>aU (C:=λc=>aL (.str x) (.str y)=yM->aL (.str y) c=yM->aL (.str x) c=yM) h (λZ Z Z=>QQ) λz h1 f=>Aq (cps_neg (A7 h1) (A7 f))
theorem eA{ds:yN D}(h:∀ d∈ds,d.isCell=yP)(p:Nat):(eH ds p).isCell=yP:=by
 unfold eH;rw[zb];cases e:ds[p]? with
 | none=>rfl
 | some d=>exact h d (List.mem_of_getElem? e)
theorem kix_pw{ks:yN D}(h:∀ d∈ks,d.isCell=yP):Wk (λi j=>aL (eH ks i) (eH ks j))/\(kix ks).Pairwise (Rk λi j=>aL (eH ks i) (eH ks j)):=by
 have W:Wk (λi j=>aL (eH ks i) (eH ks j)):=⟨λZ=>wkD.irr (eA h _),wkD.tr (eA h _) (eA h _) (eA h _),wkD.neg (eA h _) (eA h _) (eA h _)⟩
 refine⟨W,?_⟩;unfold kix
 split
 ·next hl=>exact BF.mpr λi j Z b a=>by rw[zX] at b;exact zA (y3 (Nat.succ_le_of_lt a) b) (Ac.mpr (yQ (zJ hl) (zs (zn _))))
 ·next hl=>exact (run_sort W (zU (Ac.mp hl))).pw
theorem xW{p i:Nat}{l:Tab}(h:i<l.length):eH (col p l) i=(l.getD i []).getD p .none:=by
 unfold eH col;rw[zb,As,zb (l:=l),y4 h];rfl
noncomputable def ltC(p:Nat)(a b:yN D):yU:=aL (a.getD p .none) (b.getD p .none)
theorem wkC{m p:Nat}(a:p<m):WkG (bF m) (ltC p):=⟨λb=>wkD.irr (dL b a),λb c f=>wkD.tr (dL b a) (dL c a) (dL f a),λb c f=>wkD.neg (dL b a) (dL c a) (dL f a)⟩
theorem vo{m p:Nat}(n:p<m){l:Tab}(h:aQ m l):Stb (bF m) (ltC p) l ((kix (col p l)).map λi=>l.getD i []):=by
 have o:(col p l).length=l.length:=yV ..;obtain⟨W,pw⟩:=kix_pw (kf h n);have s:=lZ (col p l);have lt:∀ {i},i∈kix (col p l)->i<l.length:=λc=>o▸uW c
 have kl:∀ {i j},i∈kix (col p l)->j∈kix (col p l)->aL (eH (col p l) i) (eH (col p l) j)=ltC p (l.getD i []) (l.getD j []):=λc f=>by rw[xW (lt c),xW (lt f)];rfl
 rw[o] at s;refine⟨AX.mpr (pw.imp_of_mem λc f q=>(kl f c).symm.trans (q.le W)),λx t=>?_⟩
 conv=>rhs;rw[<- tJ (z:=([]:yN D)) l]
 rw[BO,BO];refine zj (List.map _) (Ci.eq_of_pairwise (le:=λa b:Nat=>a<b) (λa b Z Z h1 u=>zA h1 (Nat.lt_asymm u)) ?_ (DI.filter _) (s.filter _))
 have ok:∀ {i},i∈kix (col p l)->bF m (l.getD i []):=λc=>h _ (ej (lt c))
 refine List.pairwise_filter.mpr (pw.imp_of_mem λ{i j} c f q e1 w=>q.elim (λq=>?_) (·.2))
 have q:aL (eH (col p l) i) (eH (col p l) j)=yP:=q;rw[kl c f,(wkC n).neg (ok c) t (ok f) (sI e1).2 (sI w).1] at q;cases q
theorem Stb.rev{α:Type}{G:α->Prop}{lt:α->α->yU}{l r:yN α}(h:Stb G lt l.reverse r):Stb G (λa b=>lt b a) l r.reverse where
 pw:=List.pairwise_reverse.mpr h.pw
 fl:=λx c=>by
  have e:eqv (λa b=>lt b a) x=eqv lt x:=funext λy=>Cs _ _
  rw[e,List.filter_reverse,h.fl x c,List.filter_reverse,D3]
noncomputable def ltK(k:Nat×yU)(a b:yN D):yU:=match k.2 with | true=>ltC k.1 b a | false=>ltC k.1 a b
theorem wkK{m:Nat}{k:Nat×yU}(i:k.1<m):WkG (bF m) (ltK k):=by
 have W:=wkC i;obtain⟨p,b⟩:=k;cases b with
 | false=>exact W
 | true=>exact⟨W.irr,λa c f h1 h=>W.tr f c a h h1,λa c f h1 h=>W.neg f c a h h1⟩
theorem ordS_stb{m:Nat}{k:Nat×yU}(a:k.1<m){l:Tab}(h:aQ m l):Stb (bF m) (ltK k) l (iR k l):=by
 obtain⟨p,b⟩:=k;cases b with
 | false=>exact vo a h
 | true=>
  have q:=(vo (l:=l.reverse) a λr c=>h r (DQ.mp c)).rev
  have e:col p l.reverse=(col p l).reverse:=ER;rw[e] at q;exact q
noncomputable def gY:yN (Nat×yU)->yN D->yN D->yU
 | []=>λZ Z=>yM
 | k::ks=>nY (ltK k) (gY ks)
theorem wkL{m:Nat}:∀ {ks:yN (Nat×yU)},(∀ k∈ks,k.1<m)->WkG (bF m) (gY ks)
 | [],_=>⟨λZ=>QQ,(λZ Z Z h=>nomatch h),λZ Z Z Z Z=>QQ⟩
 | k::ks,h=>(wkK (h k (.head _))).lex (wkL λx a=>h x (.tail _ a))
theorem orderV_cons(k:Nat×yU)(ks:yN (Nat×yU))(t:Tab):eO (k::ks) t=iR k (eO ks t):=by
 unfold eO;rw[Ez,Bt];rfl
theorem kC{m:Nat}{t:Tab}(h:aQ m t):∀ {ks:yN (Nat×yU)},(∀ k∈ks,k.1<m)->Stb (bF m) (gY ks) t (eO ks t)/\aQ m (eO ks t)
 | [],_=>⟨⟨By.mpr λZ=>QQ,λZ Z=>QQ⟩,h⟩
 | k::ks,b=>by
  have i:=kC h λx c=>b x (.tail _ c)
  have b:=b k (.head _);have ok:aQ m (iR k (eO ks t)):=λr f=>i.2 r ((oy k _).2 r f)
  rw[orderV_cons];exact⟨(ordS_stb b i.2).lex (λa j=>(wkK b).irr j) ok i.1,ok⟩
theorem order_sel{m:Nat}{t:Tab}(h:aQ m t){ks:yN (Nat×yU)}(c:∀ k∈ks,k.1<m):tq (gY ks) [] t.length t=eO ks t:=by
 have W:=wkL (m:=m) c;have o:=kC h c;have s:=vy (z:=([]:yN D)) W t.length t QQ h;exact s.1.uniq (λa b=>W.irr b) o.1 (λa b=>h a (s.2 a b)) o.2
section
variable {α:Type} {G:α->Prop} {lt:α->α->yU}
structure Mn(lt:α->α->yU)(l p q:yN α)(m:α):Prop where
 e:l=p++m::q
 mn:∀ y∈l,lt y m=yM
 fs:∀ y∈p,lt m y=yP
theorem sd(W:WkG G lt){step:α->α->α}(b:∀ f x,step f x=if lt x f=yP then x else f):∀ (cs l p q:yN α) (m:α),(∀ y∈l++cs,G y)->Mn lt l p q m->∃ i j,Mn lt (l++cs) i j (cs.foldl step m)
 | [],l,p,q,m,_,h=>⟨p,q,(zy l).symm▸h⟩
 | c::cs,l,p,q,m,g,h=>by
  have n:∀ y∈l,G y:=λy a=>g y (AC _ a)
  have o:=g c (z7 _ (.head _));have s:G m:=n m (h.e▸z7 _ (.head _));rw[Cm];rw[Cm] at g;show ∃ i j,Mn lt (l++[c]++cs) i j (cs.foldl step (step m c));rw[b];cases e:lt c m with
  | true=>
   have up:∀ y∈l,lt c y=yP:=λy a=>W.lt_le o s (n y a) e (h.mn y a)
   exact sd W b cs (l++[c]) l [] c g ⟨QQ,λy a=>(zM.mp a).elim (λa=>W.asym o (n y a) (up y a)) λa=>by rw[zg.mp a];exact W.irr o,up⟩
  | false=>exact sd W b cs (l++[c]) p (q++[c]) m g ⟨by rw[h.e,Cd];rfl,λy a=>(zM.mp a).elim (h.mn y) λa=>zg.mp a▸e,h.fs⟩
theorem ug(W:WkG G lt){step:α->α->α}(b:∀ f x,step f x=if lt x f=yP then x else f){c:α}{cs:yN α}(g:∀ y∈c::cs,G y):(c::cs).find? (λx=>!(c::cs).any λo=>lt o x)=ac ((c::cs).foldl step c):=by
 have i:=g c (.head _);obtain⟨p,q,h⟩:=sd W b cs [c] [] [] c g ⟨QQ,λy a=>by rw[zg.mp a];exact W.irr i,λZ a=>nomatch a⟩
 have e:(c::cs).foldl step c=cs.foldl step c:=by
  show cs.foldl step (step c c)=_;rw[b,W.irr i,za y5]
 rw[e];replace h:Mn lt (c::cs) p q (cs.foldl step c):=h;generalize cs.foldl step c=m at *;generalize c::cs=l at *;have j:m∈l:=h.e▸z7 _ (.head _);have h1:p.find? (λx=>!l.any λo=>lt o x)=y7:=List.find?_eq_none.mpr λy a=>by
  rw[C4.mpr ⟨m,j,h.fs y a⟩];exact y5
 have n:(!l.any λo=>lt o m)=yP:=by
  rw[show (l.any λo=>lt o m)=yM from EA.mpr λy a=>by rw[h.mn y a];exact y5];rfl
 conv=>lhs;rw[h.e]
 rw[List.find?_append,<- h.e,h1,Dj,n];rfl
end
theorem cU{a b:D}(f:a.isCell=yP)(c:b.isCell=yP):bh a b=aL a b:=
 aU (C:=λa=>bh a b=aL a b) f (λi=>aU (C:=λb=>bh (.int i) b=aL (.int i) b) c (λZ=>QQ) λZ=>QQ) λx=>aU (C:=λb=>bh (.str x) b=aL (.str x) b) c (λZ=>QQ) λZ=>QQ
theorem wkB:WkG (λd:D=>d.isCell=yP) bh where
 irr:=λa=>(cU a a).trans (wkD.irr a)
 tr:=λa b c=>by rw[cU a b,cU b c,cU a c];exact wkD.tr a b c
 neg:=λa b c=>by rw[cU a b,cU b c,cU a c];exact wkD.neg a b c
theorem WkG.flip{α:Type}{G:α->Prop}{lt:α->α->yU}(W:WkG G lt):WkG G λa b=>lt b a:=⟨W.irr,λc f h h1 i=>W.tr h f c i h1,λc f h h1 i=>W.neg h f c i h1⟩
noncomputable def nA(w:yS)(cs:yN D)(c:D):yU:=(eqW w "least"&&!cs.any λo=>bh o c)||(eqW w "most"&&!cs.any λo=>bh c o)
noncomputable def iZ(w:yS)(cs:yN D):D:=if eqW w "count"=yP then .int cs.length else if eqW w "sum"=yP then .int (uL cs) else (cs.find? (nA w cs)).getD .none
theorem told_law{w:yS}(hw:w∈qM){c:D}{cs:yN D}(h:∀ d∈c::cs,d.isCell=yP):iZ w (c::cs)=oU w (c::cs):=by
 rcases zc.mp hw with rfl | hw
 ·rfl
 rcases zc.mp hw with rfl | hw
 ·rfl
 rcases zc.mp hw with rfl | hw
 ·show ((c::cs).find? (nA "least" (c::cs))).getD .none=(c::cs).foldl (gJ "least") c
  rw[show nA "least" (c::cs)=λx=>!(c::cs).any λo=>bh o x from funext λx=>Bool.or_false _,ug wkB (step:=gJ "least") (λf x=>rfl) h];rfl
 rcases zg.mp hw with rfl
 show ((c::cs).find? (nA "most" (c::cs))).getD .none=(c::cs).foldl (gJ "most") c;rw[show nA "most" (c::cs)=λx=>!(c::cs).any λo=>bh x o from rfl,ug wkB.flip (step:=gJ "most") (λf x=>rfl) h];rfl
noncomputable def gg(ps:yN Nat)(a b:yN D):yU:=aB (aR ps a) (aR ps b)
noncomputable def jz(ps:yN Nat)(t:Tab)(k:Nat):yU:=!(t.take k).any λa=>gg ps a (t.getD k [])
noncomputable def cn(ps:yN Nat)(t:Tab)(k:Nat):yN D×Tab:=(aR ps (t.getD k []),t.filter λa=>gg ps a (t.getD k []))
noncomputable def rg(ps:yN Nat)(t:Tab):Grp:=((zt t.length).filter (jz ps t)).map (cn ps t)
theorem rD{a b:D}(c:a.isCell=yP)(h:bw a b=yP):a=b:=by
 revert h;refine aU (C:=λa=>bw a b=yP->a=b) c (λi=>?_) λx=>?_
 ·cases b <;> intro h <;> first | exact zj D.int (eq_of_beq h) | cases h
 ·cases b <;> intro h <;> first | exact zj D.str (eq_of_beq h) | cases h
theorem jE:∀ {a b:yN D},(∀ d∈a,d.isCell=yP)->aB a b=yP->a=b
 | [],[],_,_=>rfl
 | x::a,y::b,h,e=>by
  have e:=zE.mp (show (bw x y&&aB a b)=yP from e);rw[rD (h x (.head _)) e.1,jE (λd c=>h d (.tail _ c)) e.2]
theorem pc{a b:yN D}(f:∀ d∈a,d.isCell=yP)(h:∀ d∈b,d.isCell=yP):aB a b=aB b a:=by
 cases e:aB a b with
 | true=>have:=jE f e;subst this;exact e.symm
 | false=>cases c:aB b a with
  | false=>rfl
  | true=>have:=jE h c;subst this;rw[c] at e;cases e
noncomputable def sF(k r:yN D)(q:yN D×Tab):yN D×Tab:=if aB q.1 k=yP then (q.1,q.2++[r]) else q
theorem mZ{k r:yN D}:∀ {G:Grp},(∀ q∈G,aB q.1 k=yM)->cT k r G=G++[(k,[r])]/\G.map (sF k r)=G
 | [],_=>⟨QQ,QQ⟩
 | q::G,h=>by
  have i:=mZ (r:=r) λx a=>h x (.tail _ a)
  have e:=h q (.head _);unfold cT;rw[zm,i.2,i.1];unfold sF;rw[e,za y5];exact⟨QQ,QQ⟩
theorem rn{k r:yN D}(i:∀ d∈k,d.isCell=yP):∀ {G:Grp},(∀ q∈G,∀ d∈q.1,d.isCell=yP)->(G.map (·.1)).Pairwise (λa b=>aB a b=yM)->(∃ q∈G,aB q.1 k=yP)->cT k r G=G.map (sF k r)
 | [],_,_,h=>h.elim λZ h=>nomatch h.1
 | q::G,f,pw,h=>by
  have pw:=AG.mp pw;rw[zm];unfold cT;cases e:aB q.1 k with
  | true=>
   rw[y8 rfl,(mZ (k:=k) (r:=r) (G:=G) λx c=>by have:aB q.1 x.1=yM:=pw.1 x.1 (zz.mpr ⟨x,c,rfl⟩);rw[jE (f q (.head _)) e,pc i (f x (.tail _ c))] at this;exact this).2]
   unfold sF;rw[y8 e]
  | false=>
   rw[za y5,rn i (λx c=>f x (.tail _ c)) pw.2 (h.elim λx c=>⟨x,(zc.mp c.1).elim (λz=>by rw[z,e] at c;cases c.2) id,c.2⟩)]
   unfold sF;rw[e];rfl
theorem xV{ps:yN Nat}:∀ (l:Tab) (G:Grp),(∀ q∈G,∃ f∈l.foldl (λG r=>cT (aR ps r) r G) G,f.1=q.1)/\∀ a∈l,(∀ d∈aR ps a,d.isCell=yP)->∃ q∈l.foldl (λG r=>cT (aR ps r) r G) G,aB q.1 (aR ps a)=yP
 | [],G=>⟨λq hq=>⟨q,hq,QQ⟩,λZ h=>nomatch h⟩
 | r::l,G=>by
  have i:=xV (ps:=ps) l (cT (aR ps r) r G);have st:∀ {G:Grp} {k:yN D},(∀ q∈G,∃ f∈cT k r G,f.1=q.1)/\((∀ d∈k,d.isCell=yP)->∃ q∈cT k r G,aB q.1 k=yP):=by
   intro G k
   induction G with
   | nil=>exact⟨(λZ h=>nomatch h),λj=>⟨_,.head _,dY j⟩⟩
   | cons p G n=>
    unfold cT;cases e:aB p.1 k with
    | true=>exact⟨λq hq=>(zc.mp hq).elim (λz=>⟨_,.head _,z▸rfl⟩) λhq=>⟨q,.tail _ hq,QQ⟩,λZ=>⟨_,.head _,e⟩⟩
    | false=>exact⟨λq hq=>(zc.mp hq).elim (λz=>⟨p,.head _,z▸rfl⟩) λhq=>(n.1 q hq).elim λx b=>⟨x,.tail _ b.1,b.2⟩,λj=>(n.2 j).elim λx b=>⟨x,.tail _ b.1,b.2⟩⟩
  refine⟨λq hq=>(st.1 q hq).elim λx b=>(i.1 x b.1).elim λy c=>⟨y,c.1,c.2.trans b.2⟩,λa m o=>(zc.mp m).elim (λz=>?_) λm=>i.2 a m o⟩
  subst z;exact (st.2 o).elim λx b=>(i.1 x b.1).elim λy c=>⟨y,c.1,by rw[c.2];exact b.2⟩
theorem pP{m:Nat}{ps:yN Nat}(A:∀ p∈ps,p<m):∀ (n:Nat) (t:Tab),t.length=n->aQ m t->cx ps t=rg ps t
 | 0,t,u,_=>by rw[AR.mp u];rfl
 | n+1,t,u,h=>by
  obtain⟨l,r,rfl⟩:∃ l r,t=l++[r]:=⟨t.dropLast,t.getLast (Cp u),(CS _).symm⟩;have j:l.length=n:=by rw[zd] at u;exact Ax u
  have f:aQ m l:=λx B=>h x (AC _ B)
  have o:bF m r:=h r (z7 _ (.head _));have y:∀ {x},bF m x->∀ d∈aR ps x,d.isCell=yP:=λB=>(gD B A).2
  have C:=pP A n l j f;have g:=iC A f;have e1:cx ps (l++[r])=cT (aR ps r) r (cx ps l):=by unfold cx;rw[Bt];rfl
  have E:∀ k,k<n->(l++[r]).getD k []=l.getD k []:=λk b=>iD (j▸b)
  have G:(l++[r]).getD n []=r:=by rw[zb,Av (zk j),j,CQ];rfl
  have ok:∀ k,k<n->bF m (l.getD k []):=λk b=>f _ (ej (j▸b))
  have I:(zt n).filter (jz ps (l++[r]))=(zt n).filter (jz ps l):=Bu λk b=>by
   have b:=AY.mp b;unfold jz;rw[E k b,List.take_append_of_le_length (zU (j▸b))]
  have J:((zt n).filter (jz ps l)).map (cn ps (l++[r]))=(rg ps l).map (sF (aR ps r) r):=by
   unfold rg;rw[Ad,j];refine AP λk b=>?_
   have b:=AY.mp (zC.mp b).1;show cn ps (l++[r]) k=sF (aR ps r) r (cn ps l k);unfold sF cn;rw[E k b,zZ];have e:gg ps r (l.getD k [])=aB (aR ps (l.getD k [])) (aR ps r):=pc (y o) (y (ok k b));cases c:aB (aR ps (l.getD k [])) (aR ps r) with
   | true=>rw[zp (p:=λa=>gg ps a (l.getD k [])) (e.trans c)];rfl
   | false=>rw[zI (p:=λa=>gg ps a (l.getD k [])) (by rw[e,c];exact y5),Bj,zy];rfl
  have nx:jz ps (l++[r]) n=!l.any λa=>gg ps a r:=by
   unfold jz;rw[G,<- j,List.take_left]
  have L:rg ps (l++[r])=(cx ps l).map (sF (aR ps r) r)++if jz ps (l++[r]) n=yP then [cn ps (l++[r]) n] else []:=by
   rw[C,<- J,<- I];unfold rg;rw[u,List.range_succ,zZ,zq];refine zj (_++·) ?_;cases c:jz ps (l++[r]) n with
   | true=>rw[zp c];rfl
   | false=>rw[zI (by rw[c];exact y5)];rfl
  rw[e1,L,nx];cases c:l.any λa=>gg ps a r with
  | true=>
   obtain⟨a,w,M⟩:=C4.mp c;obtain⟨q,hq,e⟩:=(xV l []).2 a w (y (f a w));have N:=jE (g.ke q hq).2 e;rw[rn (y o) (λq hq=>(g.ke q hq).2) g.pw ⟨q,hq,by rw[N];exact M⟩]
   exact (zy _).symm
  | false=>
   have H:∀ a∈l,gg ps a r=yM:=λa w=>CL.mpr λz=>by have:=EA.mp c a w;exact this z
   have s:∀ q∈cx ps l,aB q.1 (aR ps r)=yM:=λq hq=>by
    rw[C] at hq;obtain⟨k,b,rfl⟩:=zz.mp hq;exact H _ (ej (AY.mp (zC.mp b).1))
   have i:=mZ (r:=r) s;rw[i.1,i.2];refine zj (_++·) ?_;show[(aR ps r,[r])]=[cn ps (l++[r]) n];unfold cn;rw[G,zZ,show l.filter (λa=>gg ps a r)=[] from CD.mpr λa w=>by rw[H a w];exact y5,zp (p:=λa=>gg ps a r) (show gg ps r r=yP from dY (y o))];rfl
set_option maxHeartbeats 400000
noncomputable def jU:Fn:=⟨["_law_cell"],[
  .ite (.cmp .Eq (.bin .Mod (.bin .FloorDiv (.u "_law_cell") (.int 4)) (.int 9)) (.int 1)) [.ret (.bin .Mod (.bin .FloorDiv (.u "_law_cell") (.int 36)) (.int 13))] [],
  .ret (.bin .Mod (.u "_law_cell") (.int 4))]⟩
noncomputable def iE:Fn:=⟨["_law_cell","_law_wide"],[
  .ite (.cmp .Eq (.u "_law_wide") (.int 0)) [.ret (.tup [])] [],
  .ret (.blt "tuple" [.comp (.bin .Mod (.call "_law_mixed" [.u "_law_cell",.bin .Add (.int 60) (.u "_law_k")]) (.u "_law_wide")) "_law_k" (.blt "range" [.call "_law_many" [.u "_law_cell"]]) []])]⟩
noncomputable def jO:Fn:=⟨["_law_cell","_law_wide"],[
  .x0 "_law_words" (.lst [.str "count",.str "sum",.str "least",.str "most"]),
  .x0 "_law_places" (.call "_law_places_by" [.bin .FloorDiv (.u "_law_cell") (.int 5),.u "_law_wide"]),
  .ret (.blt "tuple" [.comp (.tup [.sub (.u "_law_words") (.bin .Mod (.call "_law_mixed" [.u "_law_cell",.bin .Add (.int 80) (.u "_law_k")]) (.int 4)),.sub (.u "_law_places") (.u "_law_k")]) "_law_k" (.blt "range" [.blt "len" [.u "_law_places"]]) []])]⟩
noncomputable def jW:Fn:=⟨["_law_cell","_law_wide"],[
  .x0 "_law_places" (.call "_law_places_by" [.u "_law_cell",.u "_law_wide"]),
  .ret (.blt "tuple" [.comp (.tup [.sub (.u "_law_places") (.u "_law_k"),.cmp .Eq (.bin .Mod (.call "_law_mixed" [.u "_law_cell",.bin .Add (.int 90) (.u "_law_k")]) (.int 2)) (.int 1)]) "_law_k" (.blt "range" [.blt "len" [.u "_law_places"]]) []])]⟩
noncomputable def dI:Fn:=⟨["_law_cell","_law_many_here"],[
  .x0 "_law_count" (.sub (.lst [.int 0,.int 1,.int 1,.int 2]) (.bin .Mod (.u "_law_cell") (.int 4))),
  .ite (.cmp .Eq (.bin .Mod (.bin .FloorDiv (.u "_law_cell") (.int 4)) (.int 9)) (.int 1)) [.x0 "_law_count" (.bin .Mod (.bin .FloorDiv (.u "_law_cell") (.int 36)) (.int 13))] [],
  .ret (.blt "tuple" [.comp (.call "_law_clause_by" [.call "_law_mixed" [.u "_law_cell",.bin .Add (.int 20) (.u "_law_k")],.u "_law_many_here"]) "_law_k" (.blt "range" [.u "_law_count"]) []])]⟩
noncomputable def jv:Fn:=⟨["_law_cell","_law_one","_law_other"],[
  .ite (.bop .Or [.cmp .Eq (.u "_law_one") (.int 0),.cmp .Eq (.u "_law_other") (.int 0)]) [.ret (.tup [])] [],
  .x0 "_law_many_here" (.sub (.lst [.int 0,.int 0,.int 0,.int 0,.int 1,.bin .Mod (.bin .FloorDiv (.u "_law_cell") (.int 6)) (.int 13)]) (.bin .Mod (.u "_law_cell") (.int 6))),
  .ret (.blt "tuple" [.comp (.tup [.bin .Mod (.call "_law_mixed" [.u "_law_cell",.bin .Add (.int 70) (.u "_law_k")]) (.u "_law_one"),.bin .Mod (.call "_law_mixed" [.u "_law_cell",.bin .Add (.int 75) (.u "_law_k")]) (.u "_law_other")]) "_law_k" (.blt "range" [.u "_law_many_here"]) []])]⟩
noncomputable def fw:Fn:=⟨["_law_word","_law_cell","_law_top"],[
  .ite (.cmp .Lt (.u "_law_word") (.int 3)) [.ret (.tup [.tup [.str "sieve",.call "_law_clauses_by" [.u "_law_cell",.sub (.u "_law_top") (.int 1)],.sub (.u "_law_top") (.int 0)],.sub (.u "_law_top") (.int 1),.sub (.u "_law_top") (.int 2),.sub (.u "_law_top") (.int 3)])] [],
  .ite (.cmp .Eq (.u "_law_word") (.int 4)) [.x0 "_law_places" (.call "_law_places_by" [.u "_law_cell",.sub (.u "_law_top") (.int 1)]),.ret (.tup [.tup [.str "pick",.u "_law_places",.sub (.u "_law_top") (.int 0)],.blt "len" [.u "_law_places"],.sub (.u "_law_top") (.int 2),.sub (.u "_law_top") (.int 3)])] [],
  .ite (.bop .Or [.cmp .Eq (.u "_law_word") (.int 3),.cmp .Eq (.u "_law_word") (.int 5)]) [.x0 "_law_places" (.call "_law_places_by" [.u "_law_cell",.sub (.u "_law_top") (.int 1)]),.x0 "_law_sums" (.call "_law_sums_by" [.u "_law_cell",.sub (.u "_law_top") (.int 1)]),.ret (.tup [.tup [.str "group",.u "_law_places",.u "_law_sums",.sub (.u "_law_top") (.int 0)],.bin .Add (.blt "len" [.u "_law_places"]) (.blt "len" [.u "_law_sums"]),.sub (.u "_law_top") (.int 2),.sub (.u "_law_top") (.int 3)])] [],
  .ite (.cmp .Eq (.u "_law_word") (.int 6)) [.ret (.tup [.tup [.str "order",.call "_law_keys_by" [.u "_law_cell",.sub (.u "_law_top") (.int 1)],.sub (.u "_law_top") (.int 0)],.sub (.u "_law_top") (.int 1),.sub (.u "_law_top") (.int 2),.sub (.u "_law_top") (.int 3)])] [],
  .ite (.cmp .Eq (.u "_law_word") (.int 7)) [.ret (.tup [.tup [.str "once",.sub (.u "_law_top") (.int 0)],.sub (.u "_law_top") (.int 1),.sub (.u "_law_top") (.int 2),.sub (.u "_law_top") (.int 3)])] [],
  .x0 "_law_count" (.bin .Add (.int 1) (.bin .Mod (.u "_law_cell") (.int 6))),
  .ite (.cmp .Eq (.bin .Mod (.bin .FloorDiv (.u "_law_cell") (.int 6)) (.int 4)) (.int 1)) [.x0 "_law_count" (.bin .Mod (.bin .FloorDiv (.u "_law_cell") (.int 24)) (.int 70))] [],
  .ite (.cmp .Eq (.bin .Mod (.bin .FloorDiv (.u "_law_cell") (.int 6)) (.int 9)) (.int 2)) [.x0 "_law_count" (.bin .Mod (.bin .FloorDiv (.u "_law_cell") (.int 54)) (.bin .Pow (.int 10) (.int 40)))] [],
  .ret (.tup [.tup [.str "first",.u "_law_count",.sub (.u "_law_top") (.int 0)],.sub (.u "_law_top") (.int 1),.blt "min" [.sub (.u "_law_top") (.int 2),.u "_law_count"],.sub (.u "_law_top") (.int 3)])]⟩
noncomputable def fu:Fn:=⟨["_law_word","_law_cell","_law_one","_law_two"],[
  .ite (.bop .Or [.cmp .Gt (.bin .Add (.sub (.u "_law_one") (.int 3)) (.sub (.u "_law_two") (.int 3))) (.int 24),.bop .And [.cmp .Eq (.u "_law_word") (.str "join"),.cmp .Gt (.bin .Add (.sub (.u "_law_one") (.int 1)) (.sub (.u "_law_two") (.int 1))) (.int 14)]]) [.ret (.lst [])] [],
  .ite (.cmp .Eq (.u "_law_word") (.str "join")) [.ite (.cmp .Gt (.bin .Mult (.sub (.u "_law_one") (.int 2)) (.sub (.u "_law_two") (.int 2))) (.int 36)) [.x0 "_law_one" (.call "_law_around" [.int 8,.int 5,.u "_law_one"]),.x0 "_law_two" (.call "_law_around" [.int 8,.int 5,.u "_law_two"])] [],.x0 "_law_query" (.tup [.str "join",.sub (.u "_law_one") (.int 0),.sub (.u "_law_two") (.int 0),.call "_law_pairs_by" [.u "_law_cell",.sub (.u "_law_one") (.int 1),.sub (.u "_law_two") (.int 1)]]),.ret (.lst [.tup [.u "_law_query",.bin .Add (.sub (.u "_law_one") (.int 1)) (.sub (.u "_law_two") (.int 1)),.bin .Mult (.sub (.u "_law_one") (.int 2)) (.sub (.u "_law_two") (.int 2)),.bin .Add (.sub (.u "_law_one") (.int 3)) (.sub (.u "_law_two") (.int 3))]])] [],
  .ite (.bop .And [.cmp .Eq (.u "_law_word") (.str "both"),.cmp .Eq (.sub (.u "_law_one") (.int 1)) (.sub (.u "_law_two") (.int 1)),.cmp .LtE (.bin .Add (.sub (.u "_law_one") (.int 2)) (.sub (.u "_law_two") (.int 2))) (.int 36)]) [.ret (.lst [.tup [.tup [.str "both",.sub (.u "_law_one") (.int 0),.sub (.u "_law_two") (.int 0)],.sub (.u "_law_one") (.int 1),.bin .Add (.sub (.u "_law_one") (.int 2)) (.sub (.u "_law_two") (.int 2)),.bin .Add (.sub (.u "_law_one") (.int 3)) (.sub (.u "_law_two") (.int 3))]])] [],
  .ret (.lst [])]⟩
noncomputable def fK:Fn:=⟨["_law_top","_law_cell"],[
  .ite (.bop .And [.cmp .Eq (.bin .Mod (.bin .FloorDiv (.u "_law_cell") (.int 4)) (.int 2)) (.int 1),.cmp .Gt (.sub (.u "_law_top") (.int 1)) (.int 0)]) [.x0 "_law_word" (.sub (.lst [.str "from",.str "upto",.str "unlike"]) (.bin .Mod (.bin .FloorDiv (.u "_law_cell") (.int 12)) (.int 3))),.x0 "_law_test" (.tup [.u "_law_word",.bin .Mod (.call "_law_mixed" [.u "_law_cell",.int 8]) (.sub (.u "_law_top") (.int 1)),.str "is",.bin .Mod (.bin .FloorDiv (.u "_law_cell") (.int 36)) (.int 3)]),.ret (.tup [.tup [.str "sieve",.tup [.tup [.u "_law_test"]],.sub (.u "_law_top") (.int 0)],.sub (.u "_law_top") (.int 1),.sub (.u "_law_top") (.int 2),.sub (.u "_law_top") (.int 3)])] [],
  .ret (.call "_law_around" [.int 0,.bin .Add (.bin .Mult (.bin .FloorDiv (.call "_law_mixed" [.u "_law_cell",.int 6]) (.int 4)) (.int 4)) (.int 1),.u "_law_top"])]⟩
structure BN(P:yN (yS×Fn)):Prop extends BD P where
 mn:P.lookup "_law_many"=ac jU
 pb:P.lookup "_law_places_by"=ac iE
 sb:P.lookup "_law_sums_by"=ac jO
 kb:P.lookup "_law_keys_by"=ac jW
 cb:P.lookup "_law_clauses_by"=ac dI
 rb:P.lookup "_law_pairs_by"=ac jv
 ar:P.lookup "_law_around"=ac fw
 o2:P.lookup "_law_of_two"=ac fu
 so:P.lookup "_law_sieve_on"=ac fK
theorem mS{α:Type}{g:α->D}{R:α->Prop}:∀ {ds:yN D},(∀ d∈ds,∃ x,R x/\d=g x)->∃ xs:yN α,ds=xs.map g/\∀ x∈xs,R x
 | [],_=>⟨[],QQ,λZ h=>nomatch h⟩
 | d::ds,h=>by
  obtain⟨x,h1,rfl⟩:=h d (.head _);obtain⟨xs,rfl,a⟩:=mS λd b=>h d (.tail _ b)
  exact⟨x::xs,QQ,λy c=>(zc.mp c).elim (λe=>e▸h1) (a y)⟩
section
variable {P:yN (yS×Fn)} {X:CF}
theorem many_eq(B:BN P)(n:Nat)(c:Int):∃ m:Nat,m<=12/\(ai P X (n+1)).call "_law_many" [.int c]=ac (.int m,yM):=by
 obtain⟨f,e1,h1⟩:=cq (c / 36) (k:=13) (by decide)
 obtain⟨h,a,o⟩:=cq c (k:=4) (by decide)
 have e1:c / 36 % 13=(f:Int):=e1;have a:c % 4=(h:Int):=a;have b:Rex (ai P X n) jU.body [("_law_cell",(yM,.int c))] λd fr=>(∃ m:Nat,m<=12/\d=.int m)/\fr=yM:=by
  refine dU (k:=c / 4 % 9 == 1) (ax (am (am (vr ae) vI (br (by decide))) vI (aP (by decide))) vI QQ) QQ (λZ=>?_) λZ=>?_
  ·exact cI (aq (am (am (vr ae) vI (br (by decide))) vI (aP (by decide))) QQ QQ) QQ ⟨⟨f,by omega,by rw[<- e1]⟩,QQ⟩
  ·exact cI (aq (am (vr ae) vI (aP (by decide))) QQ QQ) QQ ⟨⟨h,by omega,by rw[<- a]⟩,QQ⟩
 obtain⟨d,fr,⟨⟨m,i,rfl⟩,rfl⟩,j⟩:=dO (X:=X) (args:=[.int c]) B.mn QQ b;exact⟨m,i,j⟩
theorem mK(B:BN P)(n:Nat)(c:Int)(w:Nat):∃ ps:yN Nat,(∀ p∈ps,p<w)/\ps.length<=12/\(ai P X (n+2)).call "_law_places_by" [.int c,.int w]=ac (.tup (ps.map aN),yM):=by
 by_cases b:w=0
 ·subst b
  exact⟨[],(λZ h=>nomatch h),zn _,av B.pb QQ (bc (k:=yP) (x:=.bool yP) QQ QQ (λZ=>aD QQ QQ) nofun)⟩
 ·obtain⟨m,j,q⟩:=many_eq (X:=X) B n c
  have s:0<w:=by exact om38 b
  have a:(0:Int)<(w:Int):=by exact om135 b
  obtain⟨ds,o,q2,t⟩:=k8 (cf:=ai P X (n+1)) (ρ:=vis [("_law_cell",(yM,.int c)),("_law_wide",(yM,.int w))]) (elt:=.bin .Mod (.call "_law_mixed" [.u "_law_cell",.bin .Add (.int 60) (.u "_law_k")]) (.u "_law_wide")) (z:="_law_k") (Fm:=.call "_law_many" [.u "_law_cell"]) (k:=m) (kW j) (λd=>∃ p:Nat,p<w/\d=aN p) (al (vv ae vN) q) (by
   intro i _;obtain⟨r,_,u⟩:=mixed (X:=X) B.toBG n c (60+i);obtain⟨p,ep,A⟩:=cq r s;exact⟨aN p,⟨p,A,QQ⟩,by show _=ac (D.int p);rw[<- ep];exact am (al (ad (aF (bE QQ (aM ae))) (ad (am vI (aF b0) cZ) vN)) u) (aF (bE QQ (aM (af QQ ae)))) (aP a)⟩)
  obtain⟨ps,rfl,f⟩:=mS q2;have e:eT .Eq (.int w) (.int 0)=ac (.bool yM):=by
   show ac (D.bool ((w:Int) == 0))=_;rw[show ((w:Int) == 0)=yM from by rw[Ay];exact om137 b]
  refine⟨ps,f,by rw[yV] at o;exact tD j o,av B.pb QQ ?_⟩
  exact bc (k:=yM) (ax (x:=.int w) (y:=.int 0) QQ QQ e) QQ nofun λZ=>aD (aq t QQ QQ) QQ
theorem sums_by(B:BN P)(n:Nat)(c:Int)(w:Nat):∃ b:yN (yS×Nat),(∀ x∈b,x.2<w/\x.1∈qM)/\b.length<=12/\(ai P X (n+3)).call "_law_sums_by" [.int c,.int w]=ac (.tup (b.map dN),yM):=by
 obtain⟨ps,j,f,u⟩:=mK (X:=X) B n (c / 5) w;have q:2000<big:=by decide
 have h:gI "len" [.tup (ps.map aN)]=ac (.int ps.length):=by show ac (D.int ((ps.map aN).length:Nat))=_;rw[yV]
 obtain⟨ds,t,q2,y⟩:=k8 (cf:=ai P X (n+2)) (ρ:=vis [("_law_cell",(yM,.int c)),("_law_wide",(yM,.int w)),("_law_words",(yP,.list [sD "count",sD "sum",sD "least",sD "most"])),("_law_places",(yM,.tup (ps.map aN)))])
  (elt:=.tup [.sub (.u "_law_words") (.bin .Mod (.call "_law_mixed" [.u "_law_cell",.bin .Add (.int 80) (.u "_law_k")]) (.int 4)),.sub (.u "_law_places") (.u "_law_k")]) (z:="_law_k") (Fm:=.blt "len" [.u "_law_places"]) (k:=ps.length) (kW f) (λd=>∃ x:yS×Nat,(x.2<w/\x.1∈qM)/\d=dN x) (bP (vv (af QQ (af QQ (af QQ ae))) vN) h) (by
   intro i m;obtain⟨r,_,A⟩:=mixed (X:=X) B.toBG (n+1) c (80+i);obtain⟨d,⟨s,rfl,C⟩,a⟩:=dD (l:=[sD "count",sD "sum",sD "least",sD "most"]) (by decide) r (R:=λd=>∃ s,d=sD s/\s∈qM) (by
    intro d a;simp only[zc,zV,Bs] at a
    rcases a with rfl | rfl | rfl | rfl <;> exact⟨_,QQ,by decide⟩)
   have a:aV (.list [sD "count",sD "sum",sD "least",sD "most"]) (.int (r % 4))=ac (sD s):=a;have E:=vE m;exact⟨dN (s,ps.getD i 0),⟨(s,ps.getD i 0),⟨by show ps.getD i 0<w;rw[zb,y4 m];exact j _ (AJ m),C⟩,QQ⟩,bD (ad (aw (aF (bE QQ (aM (af QQ (af QQ ae))))) (am (al (ad (aF (bE QQ (aM ae))) (ad (am vI (aF b0) cZ) vN)) A) vI (aP (dtt QQ))) a) (ad (aw (aF (bE QQ (aM (af QQ (af QQ (af QQ ae)))))) (aF b0) E) vN)) (yZ QQ)⟩)
 obtain⟨b,rfl,o⟩:=mS q2;refine⟨b,o,by rw[yV] at t;exact tD f t,av B.sb QQ ?_⟩
 refine aA (ak (d:=.list [sD "count",sD "sum",sD "least",sD "most"]) (fr:=yP) QQ) ?_;refine aA (ak (aE (ad (d:=.int (c / 5)) QQ (ad (d:=.int w) QQ vN)) u)) ?_;exact aD (aq y QQ QQ) QQ
theorem keys_by(B:BN P)(n:Nat)(c:Int)(w:Nat):∃ ks:yN (Nat×yU),(∀ x∈ks,x.1<w)/\ks.length<=12/\(ai P X (n+3)).call "_law_keys_by" [.int c,.int w]=ac (.tup (ks.map eL),yM):=by
 obtain⟨ps,f,a,o⟩:=mK (X:=X) B n c w;have b:gI "len" [.tup (ps.map aN)]=ac (.int ps.length):=by show ac (D.int ((ps.map aN).length:Nat))=_;rw[yV]
 obtain⟨ds,m,q2,q⟩:=k8 (cf:=ai P X (n+2)) (ρ:=vis [("_law_cell",(yM,.int c)),("_law_wide",(yM,.int w)),("_law_places",(yM,.tup (ps.map aN)))])
  (elt:=.tup [.sub (.u "_law_places") (.u "_law_k"),.cmp .Eq (.bin .Mod (.call "_law_mixed" [.u "_law_cell",.bin .Add (.int 90) (.u "_law_k")]) (.int 2)) (.int 1)]) (z:="_law_k") (Fm:=.blt "len" [.u "_law_places"]) (k:=ps.length) (kW a) (λd=>∃ x:Nat×yU,x.1<w/\d=eL x) (bP (vv (af QQ (af QQ ae)) vN) b) (by
   intro i h;obtain⟨r,_,s⟩:=mixed (X:=X) B.toBG (n+1) c (90+i);have t:=vE h;exact⟨eL (ps.getD i 0,r % 2 == 1),⟨(ps.getD i 0,r % 2 == 1),by show ps.getD i 0<w;rw[zb,y4 h];exact f _ (AJ h),QQ⟩,bD (ad (aw (aF (bE QQ (aM (af QQ (af QQ ae))))) (aF b0) t) (ad (ax (am (al (ad (aF (bE QQ (aM ae))) (ad (am vI (aF b0) cZ) vN)) s) vI (aP (dtt QQ))) vI QQ) vN)) (yZ QQ)⟩)
 obtain⟨u,rfl,j⟩:=mS q2;refine⟨u,j,by rw[yV] at m;exact tD a m,av B.kb QQ ?_⟩
 refine aA (ak (aE (ad (d:=.int c) QQ (ad (d:=.int w) QQ vN)) o)) ?_;exact aD (aq q QQ QQ) QQ
theorem clauses_by(B:BN P)(n:Nat)(c:Int)(m:Nat)(A:m<=1000):∃ cs:yN (yN D),(∀ x∈cs,bV m x)/\cs.length<=12/\(ai P X (n+5)).call "_law_clauses_by" [.int c,.int m]=ac (.tup (cs.map clD),yM):=by
 have a:∀ k:Nat,k<=12->Rex (ai P X (n+4)) (dI.body.drop 2) [("_law_cell",(yM,.int c)),("_law_many_here",(yM,.int m)),("_law_count",(yM,.int k))] λd fr=>(∃ cs:yN (yN D),(∀ x∈cs,bV m x)/\cs.length<=12/\d=.tup (cs.map clD))/\fr=yM:=by
  intro k t;obtain⟨ds,u,q2,C⟩:=k8 (cf:=ai P X (n+4)) (ρ:=vis [("_law_cell",(yM,.int c)),("_law_many_here",(yM,.int m)),("_law_count",(yM,.int k))]) (elt:=.call "_law_clause_by" [.call "_law_mixed" [.u "_law_cell",.bin .Add (.int 20) (.u "_law_k")],.u "_law_many_here"]) (z:="_law_k") (Fm:=.u "_law_count") (k:=k) (kW t) (λd=>∃ x:yN D,bV m x/\d=clD x) QQ (by
   intro i _;obtain⟨r,_,f⟩:=mixed (X:=X) B.toBG (n+3) c (20+i);obtain⟨d,⟨w,rfl,h1,y⟩,b⟩:=clause_by (X:=X) B.toBD n r m A;exact⟨.tup w,⟨w,⟨h1,y⟩,QQ⟩,(al (ad (al (ad (aF (bE QQ (aM ae))) (ad (am vI (aF b0) cZ) vN)) f) (ad (aF (bE QQ (aM (af QQ ae)))) vN)) b)⟩)
  obtain⟨cs,rfl,h⟩:=mS q2;exact cI (aq C QQ QQ) QQ ⟨⟨cs,h,by rw[yV] at u;exact tD t u,QQ⟩,QQ⟩
 obtain⟨G,⟨j,rfl,h1⟩,o⟩:=dD (l:=[.int 0,.int 1,.int 1,.int 2]) (by decide) c (R:=λd=>∃ k:Nat,d=.int k/\k<=12) (by
  intro d b;simp only[zc,zV,Bs] at b
  rcases b with rfl | rfl | rfl | rfl <;> first | exact⟨0,QQ,by decide⟩ | exact⟨1,QQ,by decide⟩ | exact⟨2,QQ,by decide⟩)
 have o:aV (.list [.int 0,.int 1,.int 1,.int 2]) (.int (c % 4))=ac (.int j):=o;obtain⟨k2,q,y⟩:=cq (c / 36) (k:=13) (by decide)
 have q:c / 36 % 13=(k2:Int):=q;have s:Rex (ai P X (n+4)) dI.body [("_law_cell",(yM,.int c)),("_law_many_here",(yM,.int m))] λd fr=>(∃ cs:yN (yN D),(∀ x∈cs,bV m x)/\cs.length<=12/\d=.tup (cs.map clD))/\fr=yM:=by
  refine bi (ak (d:=.int j) (fr:=yM) (aq (aw (cO (ad vI (ad vI (ad vI (ad vI vN)))) (dtt QQ)) (am (vr ae) vI (aP (dtt QQ))) o) QQ QQ)) ?_;refine dU (k:=c / 4 % 9 == 1) (ax (am (am (vr (ag QQ (au ae))) vI (br (dtt QQ))) vI (aP (dtt QQ))) vI QQ) QQ (λZ=>?_) λZ=>a j h1
  refine bi (ak (d:=.int k2) (fr:=yM) (by rw[<- q];exact aq (am (am (vr (ag QQ (au ae))) vI (br (dtt QQ))) vI (aP (dtt QQ))) QQ QQ)) (a k2 (by omega))
 obtain⟨d,fr,⟨⟨cs,g1,E,rfl⟩,rfl⟩,f⟩:=dO (X:=X) (args:=[.int c,.int m]) B.cb QQ s;exact⟨cs,g1,E,f⟩
theorem pairs_by(B:BN P)(n:Nat)(c:Int)(a b:Nat):∃ f:yN (Nat×Nat),(∀ k∈f,k.1<a/\k.2<b)/\f.length<=12/\(ai P X (n+2)).call "_law_pairs_by" [.int c,.int a,.int b]=ac (.tup (f.map prT),yM):=by
 by_cases j:a=0\/b=0
 ·refine⟨[],(λZ h=>nomatch h),zn _,av B.rb QQ ?_⟩
  have s:evE (ai P X (n+1)) (vis [("_law_cell",(yM,.int c)),("_law_one",(yM,.int a)),("_law_other",(yM,.int b))]) (.bop .Or [.cmp .Eq (.u "_law_one") (.int 0),.cmp .Eq (.u "_law_other") (.int 0)])=ac (.bool ((a:Int) == 0||(b:Int) == 0)):=fN (k:=(a:Int) == 0) (l:=(b:Int) == 0) (ax (x:=.int a) (y:=.int 0) QQ QQ QQ) λZ=>bk (ax (x:=.int b) (y:=.int 0) QQ QQ QQ)
  have t:((a:Int) == 0||(b:Int) == 0)=yP:=by rcases j with rfl | rfl <;> simp
  exact bc (k:=yP) (s.trans (by rw[t])) QQ (λZ=>aD QQ QQ) nofun
 ·have I:0<a:=by exact om139 j
  have J:0<b:=by exact om140 j
  have u:(0:Int)<a:=by exact om141 j
  have w:(0:Int)<b:=by exact om142 j
  obtain⟨k2,A,L⟩:=cq (c / 6) (k:=13) (by decide)
  have A:c / 6 % 13=(k2:Int):=A;obtain⟨U,⟨o,rfl,h1⟩,C⟩:=dD (l:=[.int 0,.int 0,.int 0,.int 0,.int 1,.int (c / 6 % 13)]) (by simp) c (R:=λd=>∃ k:Nat,d=.int k/\k<=12) (by
   intro d G;simp only[zc,zV,Bs] at G
   rcases G with rfl | rfl | rfl | rfl | rfl | rfl <;> first | exact⟨0,QQ,by decide⟩ | exact⟨1,QQ,by decide⟩ | exact⟨k2,by rw[A],by omega⟩)
  have C:aV (.list [.int 0,.int 0,.int 0,.int 0,.int 1,.int (c / 6 % 13)]) (.int (c % 6))=ac (.int o):=C;obtain⟨ds,H,q2,M⟩:=k8 (cf:=ai P X (n+1)) (ρ:=vis [("_law_cell",(yM,.int c)),("_law_one",(yM,.int a)),("_law_other",(yM,.int b)),("_law_many_here",(yM,.int o))])
   (elt:=.tup [.bin .Mod (.call "_law_mixed" [.u "_law_cell",.bin .Add (.int 70) (.u "_law_k")]) (.u "_law_one"),.bin .Mod (.call "_law_mixed" [.u "_law_cell",.bin .Add (.int 75) (.u "_law_k")]) (.u "_law_other")]) (z:="_law_k") (Fm:=.u "_law_many_here") (k:=o) (kW h1) (λd=>∃ x:Nat×Nat,(x.1<a/\x.2<b)/\d=prT x) QQ (by
    intro i _;obtain⟨r,_,N⟩:=mixed (X:=X) B.toBG n c (70+i);obtain⟨r',_,E⟩:=mixed (X:=X) B.toBG n c (75+i);obtain⟨p,ep,O⟩:=cq r I;obtain⟨q,T,hq⟩:=cq r' J;refine⟨prT (p,q),⟨(p,q),⟨O,hq⟩,QQ⟩,?_⟩;show _=ac (D.tup [.int p,.int q]);rw[<- ep,<- T];exact bD (ad (am (al (ad (aF (bE QQ (aM ae))) (ad (am vI (aF b0) cZ) vN)) N) (aF (bE QQ (aM (af QQ ae)))) (aP u)) (ad (am (al (ad (aF (bE QQ (aM ae))) (ad (am vI (aF b0) cZ) vN)) E) (aF (bE QQ (aM (af QQ (af QQ ae))))) (aP w)) vN)) (yZ QQ))
  obtain⟨f,rfl,m⟩:=mS q2;refine⟨f,m,by rw[yV] at H;exact tD h1 H,av B.rb QQ ?_⟩
  have s:evE (ai P X (n+1)) (vis [("_law_cell",(yM,.int c)),("_law_one",(yM,.int a)),("_law_other",(yM,.int b))]) (.bop .Or [.cmp .Eq (.u "_law_one") (.int 0),.cmp .Eq (.u "_law_other") (.int 0)])=ac (.bool ((a:Int) == 0||(b:Int) == 0)):=fN (k:=(a:Int) == 0) (l:=(b:Int) == 0) (ax (x:=.int a) (y:=.int 0) QQ QQ QQ) λZ=>bk (ax (x:=.int b) (y:=.int 0) QQ QQ QQ)
  have t:((a:Int) == 0||(b:Int) == 0)=yM:=by rw[BQ,Ay,Ay];exact om143 j
  refine bc (k:=yM) (s.trans (by rw[t])) QQ nofun λZ=>?_
  refine aA (ak (d:=.int o) (fr:=yM) (aq (aw (cO (ad vI (ad vI (ad vI (ad vI (ad vI (ad (am (am (aF QQ) vI (br (dtt QQ))) vI (aP (dtt QQ))) vN)))))) (yZ QQ)) (am (aF QQ) vI (aP (dtt QQ))) C) QQ QQ)) ?_;exact aD (aq M QQ QQ) QQ
end
set_option maxHeartbeats 800000
noncomputable def Q.rb(R:Wd):Q->Nat->Prop
 | .table f,r=>∃ k,R.lookup f=ac k/\k<=r
 | .sieve _ q,r | .pick _ q,r | .group _ _ q,r | .order _ q,r | .once q,r=>q.rb R r
 | .first a q,r=>∃ r',q.rb R r'/\r'<=60/\min a r'<=r
 | .join a b _,r=>∃ c r2,a.rb R c/\b.rb R r2/\c<=60/\r2<=60/\c * r2<=r
 | .both a b,r=>∃ c r2,a.rb R c/\b.rb R r2/\c<=60/\r2<=60/\c+r2<=r
structure TpA(W R:Wd)(c dp:Nat)(q:Q)(rr k:Nat):Prop where
 ok:q.ok W
 wd:q.wd W<=24 * k
 k1:1<=k
 k2:k<=24
 r:rr<=60
 cp:q.cp<=c
 pr:q.pr<=12
 nar:q.nar W 5000
 dp:q.dp<=dp
 rb:q.rb R rr
theorem TpA.up{W R:Wd}{c dp c' a:Nat}{q:Q}{r k:Nat}(h:TpA W R c dp q r k)(h1:c<=c')(b:dp<=a):TpA W R c' a q r k:=⟨h.ok,h.wd,h.k1,h.k2,h.r,yQ h.cp h1,h.pr,h.nar,yQ h.dp b,h.rb⟩
noncomputable def aG(W:Wd)(q:Q)(r k:Nat):D:=.tup [q.d,.int (q.wd W),.int r,.int k]
section
variable {P:yN (yS×Fn)} {X:CF} {W R:Wd} {c dp:Nat} {q:Q} {r k:Nat}
theorem fk(B:BN P)(n:Nat)(w z:Int)(h:TpA W R c dp q r k):∃ f r',TpA W R (c+12) (dp+1) f r' k/\(ai P X (n+6)).call "_law_around" [.int w,.int z,aG W q r k]=ac (aG W f r' k,yM):=by
 have U:q.wd W<=1000:=by exact om144 h.wd h.k2
 obtain⟨A,c1,c2,c3⟩:=clauses_by (X:=X) B n z (q.wd W) U;obtain⟨ps,I,C,J⟩:=mK (X:=X) B (n+3) z (q.wd W);obtain⟨b,s1,L,V⟩:=sums_by (X:=X) B (n+2) z (q.wd W);obtain⟨ks,Y,k2,Z⟩:=keys_by (X:=X) B (n+2) z (q.wd W);obtain⟨a0,Fo⟩:∃ a:Nat,1+z % 6=a:=⟨(1+z % 6).toNat,by exact om145⟩
 obtain⟨a1,e1⟩:∃ a:Nat,z / 24 % 70=a:=⟨(z / 24 % 70).toNat,by exact om146⟩
 have Fp:(0:Int)<10 ^ 40:=by decide
 obtain⟨a2,Fq⟩:∃ a:Nat,z / 54 % 10 ^ 40=a:=⟨(z / 54 % 10 ^ 40).toNat,(Bv (An _ (by decide))).symm⟩
 have j:en .Pow (.int 10) (.int 40)=ac (.int (10 ^ 40)):=wY ⟨by decide +kernel,by decide +kernel,by decide,by decide⟩
 have m:en .Mod (.int (z / 54)) (.int (10 ^ 40))=ac (.int a2):=by rw[<- Fq];exact aP Fp
 have u:∀ a:Nat,gI "min" [.int r,.int a]=ac (.int (min a r:Nat)):=λa=>by
  show ac (D.int (if (a:Int)<r then (a:Int) else r))=_
  congr 2
  split
  ·rw[Cv (om147 (by assumption))];try rfl
  ·rw[DM (om148 (by assumption))]
 have M:gI "len" [.tup (ps.map aN)]=ac (.int ps.length):=by show ac (D.int ((ps.map aN).length:Nat))=_;rw[yV]
 have Fs:gI "len" [.tup (b.map dN)]=ac (.int b.length):=by show ac (D.int ((b.map dN).length:Nat))=_;rw[yV]
 have N:=h.k1;have Ft:TpA W R (c+12) (dp+1) (.sieve A q) r k:=⟨⟨h.ok,c1,by exact kW c2⟩,h.wd,h.k1,h.k2,h.r,by show A.length+q.cp<=_;have:=h.cp;exact om149 c2 this,h.pr,h.nar,zs h.dp,h.rb⟩
 have Fu:TpA W R (c+12) (dp+1) (.pick ps q) r k:=⟨⟨h.ok,I,by exact kW C⟩,by show ps.length<=_;exact om150 C N,h.k1,h.k2,h.r,yQ h.cp (tC),h.pr,h.nar,zs h.dp,h.rb⟩
 have Fv:TpA W R (c+12) (dp+1) (.group ps b q) r k:=⟨⟨h.ok,I,λx G=>(s1 x G).1,by exact kW C,by exact kW L⟩,by show ps.length+b.length<=_;exact om152 C L N,h.k1,h.k2,h.r,yQ h.cp (tC),h.pr,⟨h.nar,λx G=>(s1 x G).2⟩,zs h.dp,h.rb⟩
 have Fw:TpA W R (c+12) (dp+1) (.order ks q) r k:=⟨⟨h.ok,Y,by exact kW k2⟩,h.wd,h.k1,h.k2,h.r,yQ h.cp (tC),h.pr,h.nar,zs h.dp,h.rb⟩
 have Fz:TpA W R (c+12) (dp+1) (.once q) r k:=⟨h.ok,h.wd,h.k1,h.k2,h.r,yQ h.cp (tC),h.pr,h.nar,zs h.dp,h.rb⟩;have FA:∀ a:Nat,TpA W R (c+12) (dp+1) (.first a q) (min a r) k:=λa=>⟨h.ok,h.wd,h.k1,h.k2,yQ (DN _ _) h.r,yQ h.cp (tC),h.pr,h.nar,zs h.dp,r,h.rb,h.r,ze _⟩
 have H:Rex (ai P X (n+5)) fw.body [("_law_word",(yM,.int w)),("_law_cell",(yM,.int z)),("_law_top",(yM,aG W q r k))] λd fr=>(∃ f r',TpA W R (c+12) (dp+1) f r' k/\d=aG W f r' k)/\fr=yM:=by
  generalize ai P X (n+5)=cf at *;have o:aV (aG W q r k) (.int 0)=ac q.d:=rfl;have i:aV (aG W q r k) (.int 1)=ac (.int (q.wd W)):=rfl;have s:aV (aG W q r k) (.int 2)=ac (.int r):=rfl;have t:aV (aG W q r k) (.int 3)=ac (.int k):=rfl;generalize aG W q r k=T at *;have fin:∀ (a:Nat) (σ:St),Has σ "_law_top" T->Has σ "_law_count" (.int a)->Rex cf [.ret (.tup [.tup [.str "first",.u "_law_count",.sub (.u "_law_top") (.int 0)],.sub (.u "_law_top") (.int 1),.blt "min" [.sub (.u "_law_top") (.int 2),.u "_law_count"],.sub (.u "_law_top") (.int 3)])] σ λd fr=>(∃ f r',TpA W R (c+12) (dp+1) f r' k/\d=aG W f r' k)/\fr=yM:=by
   intro a σ E O;have:=u a;refine cI (d:=aG W (.first a q) (min a r) k) (fr:=yM) (by unfold aG;show _=ac (D.tup [.tup [.str (yO "first"),.int a,q.d],.int (q.wd W),.int (min a r:Nat),.int k],_);exact aq (bD (ad (bD (ad vS (vv O (ad (vsi E o) vN))) (yZ QQ)) (ad (vsi E i) (ad (bP (ad (vsi E s) (vv O vN)) this) (ad (vsi E t) vN)))) (yZ QQ)) QQ QQ) QQ ⟨⟨_,_,FA a,QQ⟩,QQ⟩
  refine dU (k:=decide (w<3)) (ax (vr ae) vI QQ) QQ (λEV=>?_) λEV=>?_
  ·exact cI (d:=aG W (.sieve A q) r k) (fr:=yM) (by unfold aG;show _=ac (D.tup [.tup [.str (yO "sieve"),.tup (A.map clD),q.d],.int (q.wd W),.int r,.int k],_);exact aq (bD (ad (bD (ad vS (ad (al (vv (af QQ ae) (ad (vsi (af QQ (af QQ ae)) i) vN)) c3) (ad (vsi (af QQ (af QQ ae)) o) vN))) (yZ QQ)) (ad (vsi (af QQ (af QQ ae)) i) (ad (vsi (af QQ (af QQ ae)) s) (ad (vsi (af QQ (af QQ ae)) t) vN)))) (yZ QQ)) QQ QQ) QQ ⟨⟨_,_,Ft,QQ⟩,QQ⟩
  refine dU (k:=w == 4) (ax (vr ae) vI QQ) QQ (λEV=>?_) λEV=>?_
  ·refine bi (ak (d:=.tup (ps.map aN)) (fr:=yM) (aE (vv (af QQ ae) (ad (vsi (af QQ (af QQ ae)) i) vN)) J)) ?_
   exact cI (d:=aG W (.pick ps q) r k) (fr:=yM) (by unfold aG;show _=ac (D.tup [.tup [.str (yO "pick"),.tup (ps.map aN),q.d],.int ps.length,.int r,.int k],_);exact aq (bD (ad (bD (ad vS (vv ay (ad (vsi (ag QQ (au (af QQ (af QQ ae)))) o) vN))) (yZ QQ)) (ad (bP (vv ay vN) M) (ad (vsi (ag QQ (au (af QQ (af QQ ae)))) s) (ad (vsi (ag QQ (au (af QQ (af QQ ae)))) t) vN)))) (yZ QQ)) QQ QQ) QQ ⟨⟨_,_,Fu,QQ⟩,QQ⟩
  refine dU (k:=w == 3||w == 5) (fN (ax (vr ae) vI QQ) λa=>bk (ax (vr ae) vI QQ)) QQ (λEV=>?_) λEV=>?_
  ·refine bi (ak (d:=.tup (ps.map aN)) (fr:=yM) (aE (vv (af QQ ae) (ad (vsi (af QQ (af QQ ae)) i) vN)) J)) (bi (ak (d:=.tup (b.map dN)) (fr:=yM) (aE (vv (ag QQ (au (af QQ ae))) (ad (vsi (ag QQ (au (af QQ (af QQ ae)))) i) vN)) V)) ?_)
   have y:((ps.length+b.length:Nat):Int)=(ps.length:Int)+b.length:=AA _ _;exact cI (d:=aG W (.group ps b q) r k) (fr:=yM) (by unfold aG;show _=ac (D.tup [.tup [.str (yO "group"),.tup (ps.map aN),.tup (b.map dN),q.d],.int (ps.length+b.length:Nat),.int r,.int k],_);rw[y];exact aq (bD (ad (bD (ad vS (vv (ag QQ (au ay)) (vv ay (ad (vsi (ag QQ (au (ag QQ (au (af QQ (af QQ ae)))))) o) vN)))) (yZ QQ)) (ad (am (bP (vv (ag QQ (au ay)) vN) M) (bP (vv ay vN) Fs) cZ) (ad (vsi (ag QQ (au (ag QQ (au (af QQ (af QQ ae)))))) s) (ad (vsi (ag QQ (au (ag QQ (au (af QQ (af QQ ae)))))) t) vN)))) (yZ QQ)) QQ QQ) QQ ⟨⟨_,_,Fv,QQ⟩,QQ⟩
  refine dU (k:=w == 6) (ax (vr ae) vI QQ) QQ (λEV=>?_) λEV=>?_
  ·exact cI (d:=aG W (.order ks q) r k) (fr:=yM) (by unfold aG;show _=ac (D.tup [.tup [.str (yO "order"),.tup (ks.map eL),q.d],.int (q.wd W),.int r,.int k],_);exact aq (bD (ad (bD (ad vS (ad (al (vv (af QQ ae) (ad (vsi (af QQ (af QQ ae)) i) vN)) Z) (ad (vsi (af QQ (af QQ ae)) o) vN))) (yZ QQ)) (ad (vsi (af QQ (af QQ ae)) i) (ad (vsi (af QQ (af QQ ae)) s) (ad (vsi (af QQ (af QQ ae)) t) vN)))) (yZ QQ)) QQ QQ) QQ ⟨⟨_,_,Fw,QQ⟩,QQ⟩
  refine dU (k:=w == 7) (ax (vr ae) vI QQ) QQ (λEV=>?_) λEV=>?_
  ·exact cI (d:=aG W (.once q) r k) (fr:=yM) (by unfold aG;show _=ac (D.tup [.tup [.str (yO "once"),q.d],.int (q.wd W),.int r,.int k],_);exact aq (bD (ad (bD (ad vS (ad (vsi (af QQ (af QQ ae)) o) vN)) (yZ QQ)) (ad (vsi (af QQ (af QQ ae)) i) (ad (vsi (af QQ (af QQ ae)) s) (ad (vsi (af QQ (af QQ ae)) t) vN)))) (yZ QQ)) QQ QQ) QQ ⟨⟨_,_,Fz,QQ⟩,QQ⟩
  refine bi (ak (d:=.int a0) (fr:=yM) (by rw[<- Fo];exact aq (am vI (am (vr (af QQ ae)) vI (aP (dtt QQ))) cZ) QQ QQ)) ?_
  refine dU (k:=z / 6 % 4 == 1) (ax (am (am (vr (ag QQ (au (af QQ ae)))) vI (br (dtt QQ))) vI (aP (dtt QQ))) vI QQ) QQ (λEV=>?_) λEV=>?_
  ·refine bi (ak (d:=.int a1) (fr:=yM) (by rw[<- e1];exact aq (am (am (vr (ag QQ (au (af QQ ae)))) vI (br (dtt QQ))) vI (aP (dtt QQ))) QQ QQ)) ?_
   refine dU (k:=z / 6 % 9 == 2) (ax (am (am (vr (ag QQ (au (ag QQ (au (af QQ ae)))))) vI (br (dtt QQ))) vI (aP (dtt QQ))) vI QQ) QQ (λEV=>?_) λEV=>fin a1 _ (ag QQ (au (ag QQ (au (af QQ (af QQ ae)))))) ay
   exact bi (ak (d:=.int a2) (fr:=yM) (aq (am (am (vr (ag QQ (au (ag QQ (au (af QQ ae)))))) vI (br (dtt QQ))) (am vI vI j) m) QQ QQ)) (fin a2 _ (ag QQ (au (ag QQ (au (ag QQ (au (af QQ (af QQ ae)))))))) ay)
  ·refine dU (k:=z / 6 % 9 == 2) (ax (am (am (vr (ag QQ (au (af QQ ae)))) vI (br (dtt QQ))) vI (aP (dtt QQ))) vI QQ) QQ (λEV=>?_) λEV=>fin a0 _ (ag QQ (au (af QQ (af QQ ae)))) ay
   exact bi (ak (d:=.int a2) (fr:=yM) (aq (am (am (vr (ag QQ (au (af QQ ae)))) vI (br (dtt QQ))) (am vI vI j) m) QQ QQ)) (fin a2 _ (ag QQ (au (ag QQ (au (af QQ (af QQ ae)))))) ay)
 obtain⟨d,fr,⟨⟨f,r',g1,rfl⟩,rfl⟩,FE⟩:=dO (X:=X) (args:=[.int w,.int z,aG W q r k]) B.ar QQ H;exact⟨f,r',g1,FE⟩
theorem qq(B:BN P)(n:Nat):(ai P X (n+1)).call "_law_around" [.int 8,.int 5,aG W q r k]=ac (aG W (.first 6 q) (min 6 r) k,yM):=by
 have a:gI "min" [.int r,.int 6]=ac (.int (min 6 r:Nat)):=by
  show ac (D.int (if (6:Int)<r then (6:Int) else r))=_
  congr 2
  split
  ·rw[Cv (om153 (by assumption))];try rfl
  ·rw[DM (om154 (by assumption))]
 refine av B.ar QQ ?_;show Run _ fw.body [("_law_word",(yM,.int 8)),("_law_cell",(yM,.int 5)),("_law_top",(yM,aG W q r k))] _ _;generalize ai P X n=cf at *;refine bc (k:=yM) (x:=.bool yM) QQ QQ nofun λZ=>bc (k:=yM) (x:=.bool yM) QQ QQ nofun λZ=>bc (k:=yM) (x:=.bool yM) QQ QQ nofun λZ=>bc (k:=yM) (x:=.bool yM) QQ QQ nofun λZ=>bc (k:=yM) (x:=.bool yM) QQ QQ nofun λZ=>?_
 refine aA (ak (d:=.int 6) (fr:=yM) QQ) ?_;refine bc (k:=yM) (x:=.bool yM) QQ QQ nofun λZ=>bc (k:=yM) (x:=.bool yM) QQ QQ nofun λZ=>?_
 exact aD (aq (bD (ad (d:=.tup [.str (yO "first"),.int 6,q.d]) QQ (ad (d:=.int (q.wd W)) QQ (ad (bP (ad (d:=.int r) QQ (ad (d:=.int 6) QQ vN)) a) (ad (d:=.int k) QQ vN)))) (yZ QQ)) QQ QQ) QQ
theorem tm(B:BN P)(n:Nat)(z:Int)(h:TpA W R c dp q r k):∃ a r',TpA W R (c+12) (dp+1) a r' k/\(ai P X (n+7)).call "_law_sieve_on" [aG W q r k,.int z]=ac (aG W a r' k,yM):=by
 obtain⟨I,_,J⟩:=mixed (X:=X) B.toBG (n+5) z 6;obtain⟨C,E,g1,L⟩:=fk (X:=X) B n 0 (I / 4 * 4+1) h;obtain⟨G,_,M⟩:=mixed (X:=X) B.toBG (n+5) z 8;have o:Rex (ai P X (n+6)) fK.body [("_law_top",(yM,aG W q r k)),("_law_cell",(yM,.int z))] λd fr=>(∃ a r',TpA W R (c+12) (dp+1) a r' k/\d=aG W a r' k)/\fr=yM:=by
  generalize ai P X (n+6)=cf at *;have N:aV (aG W q r k) (.int 0)=ac q.d:=rfl;have u:aV (aG W q r k) (.int 1)=ac (.int (q.wd W)):=rfl;have O:aV (aG W q r k) (.int 2)=ac (.int r):=rfl;have T:aV (aG W q r k) (.int 3)=ac (.int k):=rfl;have b:∀ σ:St,Has σ "_law_top" (aG W q r k)->Has σ "_law_cell" (.int z)->Rex cf [.ret (.call "_law_around" [.int 0,.bin .Add (.bin .Mult (.bin .FloorDiv (.call "_law_mixed" [.u "_law_cell",.int 6]) (.int 4)) (.int 4)) (.int 1),.u "_law_top"])] σ λd fr=>(∃ a r',TpA W R (c+12) (dp+1) a r' k/\d=aG W a r' k)/\fr=yM:=λσ U V=>
   cI (d:=aG W C E k) (fr:=yM) (aE (ad vI (ad (am (am (am (al (vv V (ad vI vN)) J) vI (br (dtt QQ))) vI (uw (dtt QQ))) vI cZ) (vv U vN))) L) QQ ⟨⟨C,E,g1,QQ⟩,QQ⟩
  refine dU (k:=z / 4 % 2 == 1&&decide ((q.wd W:Int) > 0)) (cW (k:=z / 4 % 2 == 1) (l:=decide ((q.wd W:Int) > 0)) (by clear b;exact ax (am (am (vr (af QQ ae)) vI (br (dtt QQ))) vI (aP (dtt QQ))) vI QQ) λEV=>bk (ax (aw (x:=aG W q r k) (y:=.int 1) QQ QQ u) vI QQ)) QQ (λH=>?_) λEV=>b _ ⟨_,QQ⟩ ⟨_,QQ⟩
  rw[Bo,BU] at H;have j:0<q.wd W:=by omega
  have f:(0:Int)<q.wd W:=H.2;obtain⟨dw,⟨s,Y,rfl⟩,i⟩:=dD (l:=[sD "from",sD "upto",sD "unlike"]) (by decide) (z / 12) (R:=λd=>∃ s,s∈jo/\d=sD s) (by
   intro d i;simp only[zc,zV,Bs] at i
   rcases i with rfl | rfl | rfl <;> exact⟨_,by decide,QQ⟩)
  have i:aV (.list [.str (yO "from"),.str (yO "upto"),.str (yO "unlike")]) (.int (z / 12 % 3))=ac (.str (yO s)):=i;obtain⟨p,ep,Z⟩:=cq G j;have Fo:vd (.int (z / 36 % 3)):=.inl ⟨_,QQ,by exact om155,by exact om156⟩
  have A:TpA W R (c+12) (dp+1) (.sieve [[tst s p "is" (.int (z / 36 % 3))]] q) r k:=by
   refine⟨⟨h.ok,λx w=>?_,yZ QQ⟩,h.wd,h.k1,h.k2,h.r,by show 1+q.cp<=_;have:=h.cp;exact om157 this,h.pr,h.nar,zs h.dp,h.rb⟩
   rw[zg.mp w];exact⟨λt Fp=>by rw[zg.mp Fp];exact⟨s,p,Y,Z,.inr ⟨_,Fo,QQ⟩⟩,yZ QQ⟩
  refine bi (ak (d:=.str (yO s)) (fr:=yM) (aq (aw (cO (ad vS (ad vS (ad vS vN))) (dtt QQ)) (am (am (vr (af QQ ae)) vI (br (dtt QQ))) vI (aP (dtt QQ))) i) QQ QQ)) ?_;have w:en .Mod (.int G) (.int (q.wd W))=ac (.int p):=by rw[<- ep];exact aP f
  refine bi (ak (d:=tst s p "is" (.int (z / 36 % 3))) (fr:=yM) (aq (bD (vv ay (ad (am (al (vv (ag QQ (au (af QQ ae))) (ad vI vN)) M) (vsi (ag QQ (au ae)) u) w) (ad vS (ad (am (am (vr (ag QQ (au (af QQ ae)))) vI (br (dtt QQ))) vI (aP (dtt QQ))) vN)))) (yZ QQ)) QQ QQ)) ?_;have m:Has (az (settle (tst s p "is" (.int (z / 36 % 3))) (ME.names (.tup [.u "_law_word",.bin .Mod (.call "_law_mixed" [.u "_law_cell",.int 8]) (.sub (.u "_law_top") (.int 1)),.str "is",.bin .Mod (.bin .FloorDiv (.u "_law_cell") (.int 36)) (.int 3)])) (az (settle (.str (yO s)) (ME.names (.sub (.lst [.str "from",.str "upto",.str "unlike"]) (.bin .Mod (.bin .FloorDiv (.u "_law_cell") (.int 12)) (.int 3)))) [("_law_top",(yM,aG W q r k)),("_law_cell",(yM,.int z))]) "_law_word" (yM,.str (yO s)))) "_law_test" (yM,tst s p "is" (.int (z / 36 % 3)))) "_law_top" (aG W q r k):=(ag QQ (au (ag QQ (au ae))));refine cI (d:=aG W (.sieve [[tst s p "is" (.int (z / 36 % 3))]] q) r k) (fr:=yM) (aq (bD (ad (bD (ad vS (ad (bD (ad (bD (vv ay vN) (yZ QQ)) vN) (yZ QQ)) (ad (vsi m N) vN))) (yZ QQ)) (ad (vsi m u) (ad (vsi m O) (ad (vsi m T) vN)))) (yZ QQ)) QQ QQ) QQ ⟨⟨_,_,A,QQ⟩,QQ⟩
 obtain⟨d,fr,⟨⟨a,r',h1,rfl⟩,rfl⟩,Fq⟩:=dO (X:=X) (args:=[aG W q r k,.int z]) B.so QQ o;exact⟨a,r',h1,Fq⟩
end
noncomputable abbrev Tbs:=yN (Str×Tab)
noncomputable def Tbs.d(T:Tbs):D:=.dict (T.map λp=>.str p.1) (T.map λp=>aC p.2)
noncomputable def Q.ans(T:Tbs):Q->Tab
 | .table h=>(T.lookup h).getD []
 | .sieve i q=>(q.ans T).filter (aK i)
 | .pick ps q=>(q.ans T).map (aR ps)
 | .group ps j q=>eS ps j (q.ans T)
 | .order ks q=>eO ks (q.ans T)
 | .once q=>aZ (q.ans T)
 | .first c q=>(q.ans T).take c
 | .join a b f=>iW f (a.ans T) (b.ans T)
 | .both a b=>a.ans T++b.ans T
noncomputable def mw(W R:Wd)(T:Tbs):Prop:=∀ nm k,W.lookup nm=ac k->∃ t,T.lookup nm=ac t/\aQ k t/\∀ r,R.lookup nm=ac r->t.length<=r
theorem pe:∀ (ks:yN (Nat×yU)) (t:Tab),(ks.foldl (λl k=>iR k l) t).length=t.length/\∀ r∈ks.foldl (λl k=>iR k l) t,r∈t
 | [],_=>⟨QQ,λZ h=>h⟩
 | k::ks,t=>⟨(pe ks (iR k t)).1.trans (oy k t).1,λr h=>(oy k t).2 r ((pe ks (iR k t)).2 r h)⟩
theorem group_rows{m:Nat}{ps:yN Nat}{a:yN (yS×Nat)}{t:Tab}(h:aQ m t)(i:∀ p∈ps,p<m)(j:∀ s∈a,s.2<m):aQ (ps.length+a.length) (eS ps a t)/\(eS ps a t).length<=t.length:=by
 have g:=iC i h;refine⟨λr n=>?_,by unfold eS;rw[yV];exact g.le⟩
 obtain⟨q,hq,e⟩:=zz.mp n;subst e;have c:=g.ke q hq;have f:=g.ro q hq;refine⟨by unfold rY mB;rw[zd,yV,c.1],λd b=>(zM.mp b).elim (c.2 d) λb=>(zz.mp b).elim λs z=>z.2▸?_⟩
 obtain⟨u,o⟩:=q;cases o with
 | nil=>exact zA QQ f.1
 | cons w y=>exact told_cell (kf f.2.1 (j s z.1))
theorem met_rows{m k:Nat}{prs:yN (Nat×Nat)}{a b:Tab}(h:aQ m a)(i:aQ k b):aQ (m+k) (iW prs a b):=λr c=>by
 obtain⟨x,j,c⟩:=B0.mp c;obtain⟨y,n,e⟩:=zz.mp c;have h1:=h x j;have f:=i y ((zC.mp n).1);exact e▸⟨by rw[zd,h1.1,f.1],λd o=>(zM.mp o).elim (h1.2 d) (f.2 d)⟩
theorem cr{W R:Wd}{T:Tbs}(L:mw W R T):∀ (q:Q) (r:Nat),q.ok W->q.rb R r->aQ (q.wd W) (q.ans T)/\(q.ans T).length<=r:=by
 intro q
 induction q with
 | table B=>
  rintro r ⟨k,J⟩ ⟨U,h1,s⟩;obtain⟨t,e,A,M⟩:=L B k J;show aQ ((W.lookup B).getD 0) ((T.lookup B).getD [])/\((T.lookup B).getD []).length<=r;rw[J,e];exact⟨A,yQ (M _ h1) s⟩
 | sieve V q m=>rintro r ⟨h,_⟩ n;exact have i:=m r h n;⟨λx f=>i.1 x ((zC.mp f).1),yQ (z8 _ _) i.2⟩
 | pick ps q m=>rintro r ⟨h,C,_⟩ n;exact have i:=m r h n;⟨λx f=>(zz.mp f).elim λy z=>z.2▸gD (i.1 y z.1) C,yQ (zk (yV ..)) i.2⟩
 | group ps X q m=>rintro r ⟨h,C,N,_⟩ n;exact have i:=m r h n;have g:=group_rows i.1 C N;⟨g.1,yQ g.2 i.2⟩
 | order ks q m=>rintro r ⟨h,_⟩ n;exact have i:=m r h n;have o:=pe ks.reverse (q.ans T);⟨λx f=>i.1 x (o.2 x f),yQ (zk o.1) i.2⟩
 | once q m=>rintro r h n;exact have i:=m r h n;⟨λx f=>i.1 x (mO.1 x f),yQ mO.2 i.2⟩
 | first c q m=>rintro r h ⟨r',n,_,s⟩;exact have i:=m r' h n;⟨λx f=>i.1 x (D5 f),yQ (zk C1) (yQ (Nat.le_min.mpr ⟨DX _ _,yQ (DN _ _) i.2⟩) s)⟩
 | join a b E u w=>rintro r ⟨G,H,_⟩ ⟨I,r2,h1,s,_,_,A⟩;exact have i:=u I G h1;have j:=w r2 H s;⟨met_rows i.1 j.1,yQ (pq E _ _) (yQ (CO i.2 j.2) A)⟩
 | both a b u w=>rintro r ⟨G,H,O⟩ ⟨I,r2,h1,s,_,_,A⟩;exact have i:=u I G h1;have j:=w r2 H s;⟨λx f=>(zM.mp f).elim (i.1 x) λf=>O▸j.1 x f,yQ (zk zd) (yQ (zr i.2 j.2) A)⟩
section
variable {P:yN (yS×Fn)} {X:CF} {cf:CF} {σ:St} {t r:yN MS} {w w2:yS} {R:D} {fr:yU}
noncomputable def lI:yN yS:=["sieve","pick","group","order","once","first"]
theorem rQ:∀ w∈lI,(yO w == yO "table")=yM/\(yO w == yO "join")=yM/\(yO w == yO "both")=yM:=by decide +kernel
theorem steps_in:∀ w∈"table"::"join"::"both"::lI,eT .NotIn (sD w) (.tup eF)=ac (.bool yM):=by
 intro w a;simp only[lI,zc,zV,Bs] at a
 rcases a with rfl | rfl | rfl | rfl | rfl | rfl | rfl | rfl | rfl <;> rfl
theorem oN(B:BA P)(a:X.glob "STEPS"=ac (.tup eF))(n:Nat){q T:D}(b:w∈"table"::"join"::"both"::lI)(c:aV q (.int 0)=ac (sD w))(k:Run (ai P X n) (kL.body.drop 2) [("query",(yM,q)),("tables",(yM,T)),("word",(yM,sD w))] R fr):(ai P X (n+1)).call "answer" [q,T]=ac (R,fr):=by
 refine av B.answer QQ ?_;show Run _ kL.body [("query",(yM,q)),("tables",(yM,T))] _ _;refine aA (aW (d:=sD w) (fr:=yM) (aq (vsi ae c) QQ QQ) QQ) (bc (k:=yM) (x:=.bool yM) (ax (vr ay) (Eq.trans (sK _ _ _) ((sB P X n "STEPS").trans a)) (steps_in w b)) QQ nofun λZ=>k)
theorem iK(B:BA P)(h:X.glob "STEPS"=ac (.tup eF))(n:Nat){q I T A:D}{b:yU}(f:w∈lI)(i:aV q (.int 0)=ac (sD w))(j:aV q (.int (-1))=ac I)
  (m:(ai P X n).call "answer" [I,T]=ac (A,b)) (k2:(ai P X n).call "stepped" [q,A]=ac (R,fr)):(ai P X (n+1)).call "answer" [q,T]=ac (R,fr):=by
 have a:=rQ w f;have c:Has [("query",(yM,q)),("tables",(yM,T)),("word",(yM,sD w))] "word" (sD w):=af QQ (af QQ ae);exact oN B h n (.tail _ (.tail _ (.tail _ f))) i (skW a.1 c (skW a.2.1 c (skW a.2.2 c (aD (aE (vv ae (ad (al (ad (aw (vr ae) rP j) (vv (af QQ ae) vN)) m) vN)) k2) QQ))))
theorem ans_join(B:BA P)(b:X.glob "STEPS"=ac (.tup eF))(n:Nat){I J S T A C:D}{c f:yU}(h:(ai P X n).call "answer" [I,T]=ac (A,c))(k2:(ai P X n).call "answer" [J,T]=ac (C,f))(i:(ai P X n).call "met" [A,C,S]=ac (R,fr)) :
  (ai P X (n+1)).call "answer" [.tup [sD "join",I,J,S],T]=ac (R,fr):=by
 have a:Has [("query",(yM,.tup [sD "join",I,J,S])),("tables",(yM,T)),("word",(yM,sD "join"))] "word" (sD "join"):=af QQ (af QQ ae);exact oN B b n (by decide) QQ (skW (by decide +kernel) a (kP a (aA (ak (aE (ad (aw (x:=.tup [sD "join",I,J,S]) (y:=.int 1) (vr ae) vI QQ) (vv (af QQ ae) vN)) h)) (aD (aE (vv ay (ad (al (ad (aw (x:=.tup [sD "join",I,J,S]) (y:=.int 2) (vr (ag QQ (au ae))) vI QQ) (vv (ag QQ (au (af QQ ae))) vN)) k2) (ad (aw (x:=.tup [sD "join",I,J,S]) (y:=.int 3) (vr (ag QQ (au ae))) vI QQ) vN))) i) QQ))))
theorem ans_both(B:BA P)(f:X.glob "STEPS"=ac (.tup eF))(n:Nat){I J T:D}{a b:Tab}{h i:yU}(j:a.length+b.length<=big)(m:(ai P X n).call "answer" [I,T]=ac (aC a,h))(k2:(ai P X n).call "answer" [J,T]=ac (aC b,i)) :
  (ai P X (n+1)).call "answer" [.tup [sD "both",I,J],T]=ac (aC (a++b),yP):=by
 have c:Has [("query",(yM,.tup [sD "both",I,J])),("tables",(yM,T)),("word",(yM,sD "both"))] "word" (sD "both"):=af QQ (af QQ ae);refine oN B f n (by decide) QQ (skW (by decide +kernel) c (skW (by decide +kernel) c (kP c (aA (ak (aE (ad (aw (x:=.tup [sD "both",I,J]) (y:=.int 1) (vr ae) vI QQ) (vv (af QQ ae) vN)) m)) (aD (aq (am (x:=aC a) (y:=aC b) (vr ay) (al (ad (aw (x:=.tup [sD "both",I,J]) (y:=.int 2) (vr (ag QQ (au ae))) vI QQ) (vv (ag QQ (au (af QQ ae))) vN)) k2) ?_) QQ QQ) QQ)))))
 unfold aC;rw[zq];exact y8 (by rw[yV,yV];exact j)
end
section
variable {P:yN (yS×Fn)} {X:CF}
section
variable {A I R q:D}{t:Tab}
theorem mF(B:BA P)(n:Nat){fr:yU}{w:yS}(a:aV q (.int 0)=ac (sD w))(k:Run (ai P X n) (lu.body.drop 1) [("query",(yM,q)),("rows",(yM,A)),("word",(yM,sD w))] R fr):(ai P X (n+1)).call "stepped" [q,A]=ac (R,fr):=
 av B.stepped QQ (aA (aW (d:=sD w) (fr:=yM) (aq (vsi ae a) QQ QQ) QQ) k)
theorem iA{w:yS}:Has [("query",(yM,q)),("rows",(yM,A)),("word",(yM,sD w))] "word" (sD w):=af QQ (af QQ ae)
theorem xf{w:yS}:Has [("query",(yM,q)),("rows",(yM,A)),("word",(yM,sD w))] "rows" A:=af QQ ae
theorem st_sieve(B:BA P)(n:Nat){m:Nat}(h:aQ m t)(a:t.length<=big){cs:yN (yN D)}(b:∀ c∈cs,bV m c):(ai P X (n+5)).call "stepped" [.tup [sD "sieve",.tup (cs.map clD),I],aC t]=ac (aC (t.filter (aK cs)),yP):=by
 refine mF B (n+4) QQ (kP iA (aD (aq (gW (z:="row") (E8:=t.map .tup) (vr xf) QQ (by rw[yV];exact a) (kc (g:=D.tup) (p:=aK cs) t λr f=>kM (al (ad (aw (x:=.tup [sD "sieve",.tup (cs.map clD),I]) (y:=.int 1) (aF (bE QQ (aM ae))) vI QQ) (ad (aF b0) vN)) (keeps_eq B n (h r f) b)) QQ λZ=>aF b0)) QQ QQ) QQ))
theorem st_pick(B:BA P)(n:Nat){m:Nat}(h:aQ m t)(b:t.length<=big){ps:yN Nat}(c:∀ p∈ps,p<m)(a:ps.length<=big):(ai P X (n+2)).call "stepped" [.tup [sD "pick",.tup (ps.map aN),I],aC t]=ac (aC (t.map (aR ps)),yP):=by
 unfold aC;rw[Ad];exact mF B (n+1) QQ (skW (by decide +kernel) iA (kP iA (aD (aq (gV (g:=D.tup) (l:=t) (f:=D.tup ∘ aR ps) (vr xf) QQ b λr i=>al (ad (aF b0) (ad (aw (x:=.tup [sD "pick",.tup (ps.map aN),I]) (y:=.int 1) (aF (bE QQ (aM ae))) vI QQ) vN)) (ur B n (h r i) c a)) QQ QQ) QQ)))
theorem st_group(B:BA P)(n:Nat){S U:D}{fr:yU}(k:(ai P X n).call "grouped" [A,S,U]=ac (R,fr)):(ai P X (n+1)).call "stepped" [.tup [sD "group",S,U,I],A]=ac (R,fr):=
 mF B n QQ (skW (by decide +kernel) iA (skW (by decide +kernel) iA (kP iA (aD (aE (vv xf (ad (aw (x:=.tup [sD "group",S,U,I]) (y:=.int 1) (vr ae) vI QQ) (ad (aw (x:=.tup [sD "group",S,U,I]) (y:=.int 2) (vr ae) vI QQ) vN))) k) QQ))))
theorem st_order(B:BA P)(n:Nat){S:D}{fr:yU}(k:(ai P X n).call "ordered" [A,S]=ac (R,fr)):(ai P X (n+1)).call "stepped" [.tup [sD "order",S,I],A]=ac (R,fr):=
 mF B n QQ (skW (by decide +kernel) iA (skW (by decide +kernel) iA (skW (by decide +kernel) iA (kP iA (aD (aE (vv xf (ad (aw (x:=.tup [sD "order",S,I]) (y:=.int 1) (vr ae) vI QQ) vN)) k) QQ)))))
theorem st_once(B:BA P)(n:Nat){fr:yU}(k:(ai P X n).call "once" [A]=ac (R,fr)):(ai P X (n+1)).call "stepped" [.tup [sD "once",I],A]=ac (R,fr):=
 mF B n QQ (skW (by decide +kernel) iA (skW (by decide +kernel) iA (skW (by decide +kernel) iA (skW (by decide +kernel) iA (kP iA (aD (aE (vv xf vN) k) QQ))))))
theorem st_first(B:BA P)(n:Nat){c:Nat}:(ai P X (n+1)).call "stepped" [.tup [sD "first",aN c,I],aC t]=ac (aC (t.take c),yP):=by
 refine mF B n QQ (skW (by decide +kernel) iA (skW (by decide +kernel) iA (skW (by decide +kernel) iA (skW (by decide +kernel) iA (skW (by decide +kernel) iA (aD (aq (qB (x:=aC t) (u:=.none) (v:=aN c) (vr xf) (gz _ _) (aw (x:=.tup [sD "first",aN c,I]) (y:=.int 1) (vr ae) vI QQ) ?_) QQ QQ) QQ))))))
 have e:bnd (aN c) (t.map D.tup).length=ac c:=by
  show (if (0:Int)<=(c:Int) then ac (c:Int).toNat else y7)=_
  rw[y8 (At c)];rfl
 show ((bnd D.none 0).bind λa=>(bnd (aN c) (t.map D.tup).length).map λb=>D.list (((t.map D.tup).take b).drop a))=_
 rw[e];show ac (D.list (((t.map D.tup).take c).drop 0))=_;rw[List.drop_zero,<- Et];rfl
theorem uK:∀ {T:Tbs} {nm:Str} {t:Tab},T.lookup nm=ac t->n7 (T.map λp=>D.str p.1) (T.map λp=>aC p.2) (.str nm)=ac (aC t)/\((T.map λp=>D.str p.1).any λx=>aO x (.str nm))=yP
 | [],_,_,h=>nomatch h
 | p::T,nm,t,h=>by
  rw[zl] at h;rw[zm,zm,oK,AI];show (if (p.1 == nm)=yP then _ else _)=_/\((p.1 == nm)||_)=yP
  cases e:nm == p.1 with
  | true=>
   rw[e] at h;have a:=eq_of_beq e;rw[a,zu,y8 rfl];exact⟨zj ac (zj aC (yW h)),QQ⟩
  | false=>
   rw[e] at h;have a:(p.1 == nm)=yM:=beq_false_of_ne λq=>by rw[q,zu] at e;cases e
   rw[a,za y5];exact uK h
theorem uJ(T:Tbs)(nm:Str):dQ (.str nm) (T.map λp=>D.str p.1)=yP:=by
 unfold dQ;rw[show (T.map λp=>D.str p.1).all D.isCell=yP from zx.mpr λd a=>(zz.mp a).elim λp z=>z.2▸rfl];rfl
theorem ans_table(B:BA P)(a:X.glob "STEPS"=ac (.tup eF))(n:Nat){T:Tbs}{nm:Str}(h:T.lookup nm=ac t):(ai P X (n+1)).call "answer" [.tup [sD "table",.str nm],T.d]=ac (aC t,yP):=by
 have g:=uK h;have b:aV T.d (.str nm)=ac (aC t):=(y8 (uJ T nm)).trans g.1;have c:eT .NotIn (.str nm) T.d=ac (.bool yM):=by
  show (mP (.str nm) T.d).map _=_;rw[show mP (.str nm) T.d=ac yP from (y8 (uJ T nm)).trans (zj ac g.2)];rfl
 have f:Has [("query",(yM,.tup [sD "table",.str nm])),("tables",(yM,T.d)),("word",(yM,sD "table"))] "word" (sD "table"):=af QQ (af QQ ae);exact oN B a n (by decide) QQ (kP f (bc (k:=yM) (x:=.bool yM) (ax (x:=.str nm) (aw (x:=.tup [sD "table",.str nm]) (y:=.int 1) (vr ae) vI QQ) (vr (af QQ ae)) c) QQ nofun λZ=>aD (aq (xq (aw (vr (af QQ ae)) (aw (x:=.tup [sD "table",.str nm]) (y:=.int 1) (vr ae) vI QQ) b) QQ) QQ QQ) QQ))
theorem rH(B:BA P)(A:X.glob "STEPS"=ac (.tup eF)){W R:Wd}{T:Tbs}(z:mw W R T):∀ (q:Q) (r n:Nat),q.ok W->q.rb R r->r<=60->q.nar W 5000->q.dp<=n->(ai P X (n+5)).call "answer" [q.d,T.d]=ac (aC (q.ans T),yP):=by
 intro q
 induction q with
 | table M=>
  rintro r n ⟨k,N⟩ _ _ _ _;obtain⟨t,e,_⟩:=z M k N;have:=ans_table B A (n+4) (P:=P) (X:=X) e;show _=ac (aC ((T.lookup M).getD []),yP);rw[e];exact this
 | sieve U q y=>rintro r n h s m f u;obtain⟨n,rfl,o⟩:=dpS u;exact have a:=cr z q r h.1 s;iK B A _ (w:="sieve") (by decide) QQ QQ (y r n h.1 s m f o) (st_sieve B n a.1 (yQ a.2 (yQ m (by decide))) h.2.1)
 | pick ps q y=>rintro r n h s m f u;obtain⟨n,rfl,o⟩:=dpS u;exact have a:=cr z q r h.1 s;iK B A _ (w:="pick") (by decide) QQ QQ (y r n h.1 s m f o) (st_pick B (n+3) a.1 (yQ a.2 (yQ m (by decide))) h.2.1 (yQ h.2.2 (by decide)))
 | group ps V q y=>rintro r n h s m f u;obtain⟨n,rfl,o⟩:=dpS u;exact have a:=cr z q r h.1 s;iK B A _ (w:="group") (by decide) QQ QQ (y r n h.1 s m f.1 o) (st_group B (n+4) (grouped_eq B (n+1) a.1 (yQ a.2 m) h.2.1 h.2.2.2.1 h.2.2.1 h.2.2.2.2))
 | order ks q y=>rintro r n h s m f u;obtain⟨n,rfl,o⟩:=dpS u;exact have a:=cr z q r h.1 s;iK B A _ (w:="order") (by decide) QQ QQ (y r n h.1 s m f o) (st_order B (n+4) (ordered_eq B (n+2) a.1 (y3 a.2 (y3 m (by decide))) h.2.1))
 | once q y=>rintro r n h s m f u;obtain⟨n,rfl,o⟩:=dpS u;exact have a:=cr z q r h s;iK B A _ (w:="once") (by decide) QQ QQ (y r n h s m f o) (st_once B (n+4) (once_eq B (n+3) a.1 (y3 a.2 (y3 m (by decide)))))
 | first c q y=>rintro r n h ⟨r',s,L,_⟩ m f u;obtain⟨n,rfl,o⟩:=dpS u;exact iK B A _ (w:="first") (by decide) QQ QQ (y r' n h s L f o) (st_first B (n+4))
 | join a b O C E=>rintro r n h ⟨G,r2,h1,H,I,J,_⟩ m f u;obtain⟨n,rfl,o⟩:=dpS u;exact have i:=cr z a G h.1 h1;have j:=cr z b r2 h.2.1 H;ans_join B A _ (C G n h.1 h1 I f.1 (yQ (zL _ _) o)) (E r2 n h.2.1 H J f.2.1 (yQ (zB _ _) o)) (met_eq B (n+2) i.1 j.1 (yQ i.2 I) (yQ j.2 J) (yQ f.2.2 (by decide)) h.2.2.1)
 | both a b C E=>rintro r n h ⟨G,r2,h1,H,I,J,_⟩ m f u;obtain⟨n,rfl,o⟩:=dpS u;exact have i:=cr z a G h.1 h1;have j:=cr z b r2 h.2.1 H;ans_both B A _ (yQ (zr (yQ i.2 I) (yQ j.2 J)) (by decide)) (C G n h.1 h1 I f.1 (yQ (zL _ _) o)) (E r2 n h.2.1 H J f.2 (yQ (zB _ _) o))
end
end
noncomputable def hM:Fn:=⟨["_law_word","_law_one","_law_other"],[
  .ite (.bop .Or [.cmp .Eq (.u "_law_word") (.str "same"),.cmp .Eq (.u "_law_word") (.str "unlike")]) [.ret (.cmp .Eq (.call "_law_alike" [.u "_law_one",.u "_law_other"]) (.cmp .Eq (.u "_law_word") (.str "same")))] [],
  .ite (.bop .Or [.cmp .Eq (.u "_law_word") (.str "before"),.cmp .Eq (.u "_law_word") (.str "from")]) [.ret (.cmp .Eq (.call "_law_before" [.u "_law_one",.u "_law_other"]) (.cmp .Eq (.u "_law_word") (.str "before")))] [],
  .ret (.cmp .Eq (.call "_law_before" [.u "_law_other",.u "_law_one"]) (.cmp .Eq (.u "_law_word") (.str "behind")))]⟩
noncomputable def jd:Fn:=⟨["_law_clause","_law_row"],[
  .for_ "_law_test" (.u "_law_clause") [.x0 "_law_other" (.sub (.u "_law_test") (.int 3)),.ite (.cmp .Eq (.sub (.u "_law_test") (.int 2)) (.str "col")) [.x0 "_law_other" (.sub (.u "_law_row") (.sub (.u "_law_test") (.int 3)))] [],.ite (.call "_law_stands" [.sub (.u "_law_test") (.int 0),.sub (.u "_law_row") (.sub (.u "_law_test") (.int 1)),.u "_law_other"]) [.ret (.bool yP)] []],
  .ret (.bool yM)]⟩
noncomputable def hZ:Fn:=⟨["_law_first","_law_second","_law_pairs"],[
  .x0 "_law_found" (.lst []),
  .for_ "_law_one" (.u "_law_first") [.for_ "_law_other" (.u "_law_second") [.ite (.not (.comp (.u "_law_pair") "_law_pair" (.u "_law_pairs") [.not (.call "_law_alike" [.sub (.u "_law_one") (.sub (.u "_law_pair") (.int 0)),.sub (.u "_law_other") (.sub (.u "_law_pair") (.int 1))])])) [.append "_law_found" (.bin .Add (.u "_law_one") (.u "_law_other"))] []]],
  .ret (.u "_law_found")]⟩
noncomputable def ju:Fn:=⟨["_law_one","_law_other","_law_places"],[
  .ret (.cmp .Eq (.comp (.sub (.u "_law_one") (.u "_law_place")) "_law_place" (.u "_law_places") []) (.comp (.sub (.u "_law_other") (.u "_law_place")) "_law_place" (.u "_law_places") []))]⟩
noncomputable def jN:Fn:=⟨["_law_word","_law_cells"],[
  .ite (.cmp .Eq (.u "_law_word") (.str "count")) [.ret (.blt "len" [.u "_law_cells"])] [],
  .ite (.cmp .Eq (.u "_law_word") (.str "sum")) [.ret (.blt "sum" [.comp (.u "_law_cell") "_law_cell" (.u "_law_cells") [.not (.isi (.u "_law_cell") "str")]])] [],
  .for_ "_law_cell" (.u "_law_cells") [.ite (.bop .And [.cmp .Eq (.u "_law_word") (.str "least"),.not (.comp (.u "_law_other") "_law_other" (.u "_law_cells") [.call "_law_before" [.u "_law_other",.u "_law_cell"]])]) [.ret (.u "_law_cell")] [],.ite (.bop .And [.cmp .Eq (.u "_law_word") (.str "most"),.not (.comp (.u "_law_other") "_law_other" (.u "_law_cells") [.call "_law_before" [.u "_law_cell",.u "_law_other"]])]) [.ret (.u "_law_cell")] []],
  .ret (.none)]⟩
noncomputable def gv:Fn:=⟨["_law_rows","_law_places","_law_sums"],[
  .x0 "_law_found" (.lst []),
  .for_ "_law_k" (.blt "range" [.blt "len" [.u "_law_rows"]]) [.ite (.not (.comp (.u "_law_one") "_law_one" (.sl (.u "_law_rows") .none (.u "_law_k")) [.call "_law_row_like" [.u "_law_one",.sub (.u "_law_rows") (.u "_law_k"),.u "_law_places"]])) [.x0 "_law_group" (.comp (.u "_law_one") "_law_one" (.u "_law_rows") [.call "_law_row_like" [.u "_law_one",.sub (.u "_law_rows") (.u "_law_k"),.u "_law_places"]]),.x0 "_law_head" (.comp (.sub (.sub (.u "_law_rows") (.u "_law_k")) (.u "_law_place")) "_law_place" (.u "_law_places") []),.x0 "_law_more" (.comp (.call "_law_told" [.sub (.u "_law_pair") (.int 0),.comp (.sub (.u "_law_one") (.sub (.u "_law_pair") (.int 1))) "_law_one" (.u "_law_group") []]) "_law_pair" (.u "_law_sums") []),.append "_law_found" (.blt "tuple" [.bin .Add (.u "_law_head") (.u "_law_more")])] []],
  .ret (.u "_law_found")]⟩
noncomputable def jf:Fn:=⟨["_law_one","_law_other","_law_keys"],[
  .for_ "_law_key" (.u "_law_keys") [.ite (.not (.call "_law_alike" [.sub (.u "_law_one") (.sub (.u "_law_key") (.int 0)),.sub (.u "_law_other") (.sub (.u "_law_key") (.int 0))])) [.ite (.sub (.u "_law_key") (.int 1)) [.ret (.call "_law_before" [.sub (.u "_law_other") (.sub (.u "_law_key") (.int 0)),.sub (.u "_law_one") (.sub (.u "_law_key") (.int 0))])] [],.ret (.call "_law_before" [.sub (.u "_law_one") (.sub (.u "_law_key") (.int 0)),.sub (.u "_law_other") (.sub (.u "_law_key") (.int 0))])] []],
  .ret (.bool yM)]⟩
noncomputable def gu:Fn:=⟨["_law_rows","_law_keys"],[
  .x0 "_law_left" (.lcp (.u "_law_rows")),
  .x0 "_law_found" (.lst []),
  .while_ (.u "_law_left") [.x0 "_law_best" (.int 0),.for_ "_law_k" (.blt "range" [.int 1,.blt "len" [.u "_law_left"]]) [.ite (.call "_law_ahead" [.sub (.u "_law_left") (.u "_law_k"),.sub (.u "_law_left") (.u "_law_best"),.u "_law_keys"]) [.x0 "_law_best" (.u "_law_k")] []],.append "_law_found" (.sub (.u "_law_left") (.u "_law_best")),.x0 "_law_left" (.bin .Add (.sl (.u "_law_left") .none (.u "_law_best")) (.sl (.u "_law_left") (.bin .Add (.u "_law_best") (.int 1)) .none))],
  .ret (.u "_law_found")]⟩
noncomputable def md:Fn:=⟨["_law_query"],[
  .ret (.sub (.u "_law_query") (.inn (.sub (.u "_law_query") (.int 0))))]⟩
noncomputable def jX:Fn:=⟨["_law_query","_law_rows"],[
  .ite (.cmp .Eq (.sub (.u "_law_query") (.int 0)) (.str "sieve")) [.ret (.comp (.u "_law_row") "_law_row" (.u "_law_rows") [.not (.comp (.u "_law_one") "_law_one" (.sub (.u "_law_query") (.int 1)) [.not (.call "_law_holds" [.u "_law_one",.u "_law_row"])])])] [],
  .ite (.cmp .Eq (.sub (.u "_law_query") (.int 0)) (.str "pick")) [.ret (.comp (.blt "tuple" [.comp (.sub (.u "_law_row") (.u "_law_place")) "_law_place" (.sub (.u "_law_query") (.int 1)) []]) "_law_row" (.u "_law_rows") [])] [],
  .ite (.cmp .Eq (.sub (.u "_law_query") (.int 0)) (.str "group")) [.ret (.call "_law_grouped" [.u "_law_rows",.sub (.u "_law_query") (.int 1),.sub (.u "_law_query") (.int 2)])] [],
  .ite (.cmp .Eq (.sub (.u "_law_query") (.int 0)) (.str "order")) [.ret (.call "_law_ordered" [.u "_law_rows",.sub (.u "_law_query") (.int 1)])] [],
  .ite (.cmp .Eq (.sub (.u "_law_query") (.int 0)) (.str "first")) [.ret (.sl (.u "_law_rows") .none (.sub (.u "_law_query") (.int 1)))] [],
  .x0 "_law_found" (.lst []),
  .for_ "_law_row" (.u "_law_rows") [.ite (.cmp .NotIn (.u "_law_row") (.u "_law_found")) [.append "_law_found" (.u "_law_row")] []],
  .ret (.u "_law_found")]⟩
noncomputable def dE:Fn:=⟨["_law_query","_law_tables_here"],[
  .ite (.cmp .Eq (.sub (.u "_law_query") (.int 0)) (.str "table")) [.ret (.sub (.u "_law_tables_here") (.sub (.u "_law_query") (.int 1)))] [],
  .ite (.cmp .Eq (.sub (.u "_law_query") (.int 0)) (.str "join")) [.ret (.call "_law_joined" [.call "_law_answer" [.sub (.u "_law_query") (.int 1),.u "_law_tables_here"],.call "_law_answer" [.sub (.u "_law_query") (.int 2),.u "_law_tables_here"],.sub (.u "_law_query") (.int 3)])] [],
  .ite (.cmp .Eq (.sub (.u "_law_query") (.int 0)) (.str "both")) [.ret (.bin .Add (.call "_law_answer" [.sub (.u "_law_query") (.int 1),.u "_law_tables_here"]) (.call "_law_answer" [.sub (.u "_law_query") (.int 2),.u "_law_tables_here"]))] [],
  .ret (.call "_law_done" [.u "_law_query",.call "_law_answer" [.call "_law_inner" [.u "_law_query"],.u "_law_tables_here"]])]⟩
noncomputable def gy:Fn:=⟨["_law_found","_law_due"],[
  .ite (.bop .Or [.isi (.u "_law_due") "str",.isi (.u "_law_found") "bool"]) [.ret (.bop .And [.isi (.u "_law_found") "str",.isi (.u "_law_due") "str",.cmp .Eq (.u "_law_found") (.u "_law_due")])] [],
  .ret (.bop .And [.isi (.u "_law_found") "int",.cmp .Eq (.u "_law_found") (.u "_law_due")])]⟩
structure BL(P:yN (yS×Fn)):Prop where
 alike:P.lookup "_law_alike"=ac je
 before:P.lookup "_law_before"=ac ie
 stands:P.lookup "_law_stands"=ac hM
 holds:P.lookup "_law_holds"=ac jd
 joined:P.lookup "_law_joined"=ac hZ
 rowLike:P.lookup "_law_row_like"=ac ju
 told:P.lookup "_law_told"=ac jN
 grouped:P.lookup "_law_grouped"=ac gv
 ahead:P.lookup "_law_ahead"=ac jf
 ordered:P.lookup "_law_ordered"=ac gu
 inner:P.lookup "_law_inner"=ac md
 done:P.lookup "_law_done"=ac jX
 answer:P.lookup "_law_answer"=ac dE
 cellIs:P.lookup "_law_cell_is"=ac gy
theorem not_any_filter{α a:Type}(p:α->yU)(g:α->a)(l:yN α):(!(!((l.filter p).map g).isEmpty))=!l.any p:=by
 induction l with
 | nil=>rfl
 | cons x l b=>
  rw[AI];cases h:p x with
  | true=>rw[zp h];rfl
  | false=>rw[zI (by rw[h];exact y5),Eo];exact b
section
variable {α:Type} {cf:CF} {body:yN MS} {z:yS} {g:α->D} {ρ:yN (yS×D)}
theorem ol{p:α->yU}{l:yN α}{Fm c:ME}{d:D}(a:evE cf ρ Fm=ac d)(hi:d.items=ac (l.map g))(b:l.length<=big)(f:∀ x∈l,evE cf ((z,g x)::ρ) c=ac (.bool (p x))):evE cf ρ (.not (.comp (.u z) z Fm [c]))=ac (.bool (!l.any p)):=by
 rw[<- not_any_filter p g l];exact jD (gW a hi (by rw[yV];exact b) (kc l λx h=>kM (f x h) QQ λZ=>aF b0)) QQ
theorem uG{p:α->yU}{l:yN α}{Fm c:ME}{d:D}(a:evE cf ρ Fm=ac d)(hi:d.items=ac (l.map g))(b:l.length<=big)(f:∀ x∈l,evE cf ((z,g x)::ρ) c=ac (.bool (p x))):evE cf ρ (.comp (.u z) z Fm [c])=ac (.list ((l.filter p).map g)):=
 gW a hi (by rw[yV];exact b) (kc l λx h=>kM (f x h) QQ λZ=>aF b0)
theorem yg(p:α->yU)(f:α->D)(I:St->Prop):∀ (l:yN α),(∀ x∈l,∀ σ,I σ->Out cf body (az σ z (yM,g x)) λc E2=>if p x=yP then c=.ret yM (f x) else c=.next/\I E2) ->
  ∀ σ,I σ->∃ E2,(∀ x,l.find? p=ac x->cG (dB cf body z) (l.map g) σ=ac (.ret yM (f x),E2))/\(l.find? p=y7->I E2/\cG (dB cf body z) (l.map g) σ=ac (.next,E2))
 | [],_,σ,b=>⟨σ,nofun,λZ=>⟨b,QQ⟩⟩
 | x::r,h,σ,b=>by
  obtain⟨c,a,q,e⟩:=h x (.head _) σ b;rw[Dj,zm,cA,e];cases j:p x with
  | true=>
   rw[y8 j] at q;subst q;exact⟨a,λy m=>yW m▸rfl,nofun⟩
  | false=>
   rw[za (by rw[j];exact y5)] at q
   obtain⟨rfl,n⟩:=q;exact yg p f I r (λi o=>h i (.tail _ o)) a n
end
section
variable {P:yN (yS×Fn)} {X:CF}
theorem sq(B:BL P)(n:Nat){a b:D}(c:a.isCell=yP)(f:b.isCell=yP):(ai P X (n+1)).call "_law_alike" [a,b]=ac (.bool (eC a b),yM):=by
 refine av B.alike QQ ?_;cases a <;> first | (cases c;done) | (cases b <;> first | (cases f;done) | rfl)
theorem iY(B:BL P)(n:Nat){a b:D}(c:a.isCell=yP)(f:b.isCell=yP):(ai P X (n+1)).call "_law_before" [a,b]=ac (.bool (bh a b),yM):=by
 refine av B.before QQ ?_;cases a <;> first | (cases c;done) | (cases b <;> first | (cases f;done) | rfl)
noncomputable def vn(w:yS)(a b:D):yU:=if (eqW w "same"||eqW w "unlike")=yP then eC a b == eqW w "same" else if (eqW w "before"||eqW w "from")=yP then bh a b == eqW w "before" else bh b a == eqW w "behind"
theorem bq_t(x:yU):(x == yP)=x:=by cases x <;> rfl
theorem bq_f(x:yU):(x == yM)=!x:=by cases x <;> rfl
theorem stands_word{w:yS}(c:w∈jo)(a b:D):vn w a b=jp w a b:=by
 rcases sU c with rfl | rfl | rfl | rfl | rfl | rfl
 ·exact bq_t _
 ·exact bq_f _
 ·exact bq_t _
 ·exact bq_f _
 ·exact bq_t _
 ·exact bq_f _
theorem lstands(B:BL P)(n:Nat){w:yS}(c:w∈jo){a b:D}(f:a.isCell=yP)(h:b.isCell=yP):(ai P X (n+2)).call "_law_stands" [sD w,a,b]=ac (.bool (jp w a b),yM):=by
 rw[<- stands_word c];refine av B.stands QQ ?_;show Run _ hM.body [("_law_word",(yM,sD w)),("_law_one",(yM,a)),("_law_other",(yM,b))] _ _;have c:∀ x:yS,evE (ai P X (n+1)) (vis [("_law_word",(yM,sD w)),("_law_one",(yM,a)),("_law_other",(yM,b))]) (.cmp .Eq (.u "_law_word") (.str x))=ac (.bool (eqW w x)):=λx=>ax (vr ae) vS QQ
 unfold vn;refine bc (fN (c _) λZ=>bk (c _)) QQ (λq=>?_) λq=>?_
 ·rw[y8 q]
  exact aD (aq (ax (al (vv (af QQ ae) (vv (af QQ (af QQ ae)) vN)) (sq B n f h)) (c _) QQ) QQ QQ) QQ
 rw[q,za y5];refine bc (fN (c _) λZ=>bk (c _)) QQ (λq=>?_) λq=>?_
 ·rw[y8 q]
  exact aD (aq (ax (al (vv (af QQ ae) (vv (af QQ (af QQ ae)) vN)) (iY B n f h)) (c _) QQ) QQ QQ) QQ
 ·rw[q,za y5]
  exact aD (aq (ax (al (vv (af QQ (af QQ ae)) (vv (af QQ ae) vN)) (iY B n h f)) (c _) QQ) QQ QQ) QQ
noncomputable abbrev sf:yN MS:=[.x0 "_law_other" (.sub (.u "_law_test") (.int 3)),.ite (.cmp .Eq (.sub (.u "_law_test") (.int 2)) (.str "col")) [.x0 "_law_other" (.sub (.u "_law_row") (.sub (.u "_law_test") (.int 3)))] [],.ite (.call "_law_stands" [.sub (.u "_law_test") (.int 0),.sub (.u "_law_row") (.sub (.u "_law_test") (.int 1)),.u "_law_other"]) [.ret (.bool yP)] []]
theorem lholds_turn(B:BL P)(n:Nat){m:Nat}{row:yN D}(f:bF m row){t:D}(C:Tst m t){σ:St}(i:Has σ "_law_row" (.tup row))(a:Has σ "_law_test" t):Out (ai P X (n+2)) sf σ λh E2=>if tV row t=yP then h=.ret yM (.bool yP) else h=.next/\Has E2 "_law_row" (.tup row):=by
 obtain⟨w,p,j,s,E⟩:=C;have fin:∀ {c:yS} {o b:D} {σ:St},b.isCell=yP->tV row (tst w p c o)=jp w (row.getD p .none) b->Has σ "_law_row" (.tup row)->Has σ "_law_test" (tst w p c o)->Has σ "_law_other" b->Out (ai P X (n+2)) (sf.drop 2) σ λh E2=>if tV row (tst w p c o)=yP then h=.ret yM (.bool yP) else h=.next/\Has E2 "_law_row" (.tup row):=λ{c o b σ} G e u z H=>by
  rw[e];exact cM (al (ad (aw (x:=tst w p c o) (d:=sD w) (vr z) vI QQ) (ad (aw (vr u) (aw (x:=tst w p c o) (y:=.int 1) (vr z) vI QQ) (jk f s)) (vv H vN))) (lstands B n j (dL f s) G)) QQ (λq=>tG (aq vB QQ QQ) QQ (sg q QQ)) λq=>bB (si q ⟨QQ,u⟩)
 rcases E with⟨q,hq,rfl⟩ | ⟨o,A,rfl⟩
 ·refine aJ (aW (d:=.int q) (fr:=yM) (aq (aw (x:=tst w p "col" (.int q)) (vr a) vI QQ) QQ QQ) QQ) (cM (k:=yP) (x:=.bool yP) (ax (aw (x:=tst w p "col" (.int q)) (vr (ag QQ a)) vI QQ) vS QQ) QQ (λZ=>?_) nofun)
  exact aJ (aW (d:=row.getD q .none) (fr:=yM) (aq (aw (vr (ag QQ i)) (aw (x:=tst w p "col" (.int q)) (vr (ag QQ a)) vI QQ) (jk f hq)) QQ QQ) (dL f hq)) (fin (dL f hq) (iP row j p "col" (.int q)) (ag QQ (ag QQ i)) (ag QQ (ag QQ a)) ay)
 ·refine aJ (aW (d:=o) (fr:=yM) (aq (aw (x:=tst w p "is" o) (vr a) vI QQ) QQ QQ) A.cell) (cM (k:=yM) (x:=.bool yM) (ax (aw (x:=tst w p "is" o) (vr (ag QQ a)) vI QQ) vS QQ) QQ nofun λZ=>?_)
  exact fin A.cell (iP row j p "is" o) (ag QQ i) (ag QQ a) ay
theorem lholds(B:BL P)(n:Nat){m:Nat}{row:yN D}(h:bF m row){a:yN D}(i:∀ t∈a,Tst m t):(ai P X (n+3)).call "_law_holds" [.tup a,.tup row]=ac (.bool (a.any (tV row)),yM):=by
 refine av B.holds QQ ?_;show Run _ jd.body [("_law_clause",(yM,.tup a)),("_law_row",(yM,.tup row))] _ _;obtain⟨E2,j,k2⟩:=mQ (cf:=ai P X (n+2)) (body:=sf) (z:="_law_test") (tV row) (λσ=>Has σ "_law_row" (.tup row)) yM (.bool yP) a (λt b σ c=>lholds_turn B n h (i t b) (ag QQ c) ay) _ (cg (ns:=["_law_clause"]) (σ:=[("_law_clause",(yM,.tup a)),("_law_row",(yM,.tup row))]) (af QQ ae))
 cases f:a.any (tV row) with
 | true=>exact mI (vr ae) QQ (j f)
 | false=>exact ef (vr ae) QQ (k2 f).2 (aD (aq vB QQ QQ) QQ)
end
section
variable {P:yN (yS×Fn)} {X:CF}
theorem nG{α:Type}(q:α->yU)(l:yN α):(!l.any λx=>!q x)=l.all q:=by
 rw[<- List.not_all_eq_any_not,Bool.not_not]
noncomputable abbrev uX:yN MS:=[.ite (.not (.comp (.u "_law_pair") "_law_pair" (.u "_law_pairs") [.not (.call "_law_alike" [.sub (.u "_law_one") (.sub (.u "_law_pair") (.int 0)),.sub (.u "_law_other") (.sub (.u "_law_pair") (.int 1))])])) [.append "_law_found" (.bin .Add (.u "_law_one") (.u "_law_other"))] []]
structure xa(t2:Tab)(prs:yN (Nat×Nat))(acc:Tab)(σ:St):Prop where
 s:Has σ "_law_second" (aC t2)
 p:Has σ "_law_pairs" (.tup (prs.map prT))
 f:bH σ "_law_found" (aC acc)
theorem join_in(B:BL P)(n:Nat){m k:Nat}{a:yN D}{f acc:Tab}(q:bF m a)(s:aQ k f)(C:m+k<=big){prs:yN (Nat×Nat)}(t:prs.length<=big)(j:∀ p∈prs,p.1<m/\p.2<k)(E:acc.length+f.length<=big){σ:St}(h1:Has σ "_law_one" (.tup a))(I:xa f prs acc σ) :
  ∃ E2,xa f prs (acc++(f.filter (bv prs a)).map (a++·)) E2/\cG (dB (ai P X (n+1)) uX "_law_other") (f.map .tup) σ=ac (.next,E2):=by
 obtain⟨E2,G,e⟩:=iy (cf:=ai P X (n+1)) (body:=uX) (z:="_law_other") (g:=D.tup) (λc σ=>Has σ "_law_one" (.tup a)/\xa f prs (acc++(c.filter (bv prs a)).map (a++·)) σ) f [] σ ⟨h1,by rw[Bj,EQ,zy];exact I⟩ (by
  rintro c b σ u H ⟨o,y,w,A⟩;refine cM (k:=bv prs a b) (x:=.bool (bv prs a b)) ?_ QQ (λh=>?_) λh=>?_
  ·unfold bv
   rw[<- nG];exact ol (g:=prT) (l:=prs) (vr (ag QQ w)) QQ t λp i=>jD (al (ad (aw (aF (bE QQ (aM (ag QQ o)))) (aw (x:=prT p) (aF b0) vI QQ) (jk q (j p i).1)) (ad (aw (aF (bE QQ (aM ay))) (aw (x:=prT p) (aF b0) vI QQ) (jk (s b u) (j p i).2)) vN)) (sq B n (dL q (j p i).1) (dL (s b u) (j p i).2))) QQ
  ·refine aJ (bT (d:=.tup (a++b)) (ds:=((acc++(c.filter (bv prs a)).map (a++·)).map .tup)) (am (vr (ag QQ o)) (vr ay) (y8 (by rw[q.1,(s b u).1];exact C))) (bZ QQ (bC QQ A)) ?_) (bB ⟨QQ,ag QQ (au (ag QQ o)),ag QQ (au (ag QQ y)),ag QQ (au (ag QQ w)),?_⟩)
   ·rw[yV,zd,yV]
    exact zf (Nat.add_lt_add_left (y3 (z8 _ _) (Al f.length▸H)) _) E
   ·rw[show acc++((c++[b]).filter (bv prs a)).map (a++·)=acc++(c.filter (bv prs a)).map (a++·)++[a++b] from by rw[zZ,show[b].filter (bv prs a)=[b] from zp h,zq,Cd];rfl,eE]
    exact dF
  ·refine bB ⟨QQ,ag QQ o,ag QQ y,ag QQ w,?_⟩
   rw[zZ,show[b].filter (bv prs a)=[] from zI (by rw[h];nofun),zy]
   exact bC QQ A)
 exact⟨E2,G.2,e⟩
theorem ljoined(B:BL P)(n:Nat){m k:Nat}{h c:Tab}(h1:aQ m h)(q:aQ k c)(s:h.length<=60)(j:c.length<=60)(t:m+k<=big){prs:yN (Nat×Nat)}(i:prs.length<=big)(u:∀ p∈prs,p.1<m/\p.2<k) :
  (ai P X (n+2)).call "_law_joined" [aC h,aC c,.tup (prs.map prT)]=ac (aC (iW prs h c),yP):=by
 refine av B.joined QQ ?_;show Run _ hZ.body [("_law_first",(yM,aC h)),("_law_second",(yM,aC c)),("_law_pairs",(yM,.tup (prs.map prT)))] _ _;refine aA (ak (d:=.list []) (fr:=yP) QQ) ?_;obtain⟨E2,w,e⟩:=iy (cf:=ai P X (n+1)) (body:=[.for_ "_law_other" (.u "_law_second") uX]) (z:="_law_one") (g:=D.tup) (λb σ=>xa c prs (iW prs b c) σ) h [] (freeze ["_law_first"] (az [("_law_first",(yM,aC h)),("_law_second",(yM,aC c)),("_law_pairs",(yM,.tup (prs.map prT)))] "_law_found" (yP,.list []))) ⟨cg (ag QQ (af QQ ae)),cg (ag QQ (af QQ (af QQ ae))),gG QQ dF⟩ (by
  rintro b a σ y A ⟨o,C,E⟩;obtain⟨G,J,e⟩:=join_in (X:=X) (σ:=freeze ["_law_second"] (az σ "_law_one" (yM,.tup a))) B n (h1 a y) q t i u (acc:=iW prs b c) (yQ (zr (yQ (pq prs b c) (CO (yQ (zU (Al h.length▸A)) s) j)) j) (by decide)) (cg ay) ⟨cg (ag QQ o),cg (ag QQ C),gG QQ (bC QQ E)⟩
  refine vL (vr (ag QQ o)) QQ e (bB ⟨QQ,?_⟩);rw[rf];exact J)
 exact ef (vr (ag QQ ae)) QQ e (dP w.f)
theorem eqS_cell{a b:D}(f:a.isCell=yP)(c:b.isCell=yP):eqS a b=ac (bw a b):=
 aU (C:=λa=>eqS a b=ac (bw a b)) f (λi=>aU (C:=λb=>eqS (.int i) b=ac (bw (.int i) b)) c (λZ=>QQ) λZ=>QQ) λx=>aU (C:=λb=>eqS (.str x) b=ac (bw (.str x) b)) c (λZ=>QQ) λZ=>QQ
theorem nS:∀ {a b:yN D},a.length=b.length->(∀ d∈a,d.isCell=yP)->(∀ d∈b,d.isCell=yP)->jZ a b=ac (aB a b)
 | [],[],_,_,_=>rfl
 | x::a,y::b,i,f,h=>by
  show (eqS x y).bind _=_;rw[eqS_cell (f x (.head _)) (h y (.head _))];show (jZ a b).map _=_;rw[nS (Ax i) (λd c=>f d (.tail _ c)) λd c=>h d (.tail _ c)];rfl
theorem llike(B:BL P)(n:Nat){m:Nat}{a b:yN D}(i:bF m a)(j:bF m b){ps:yN Nat}(h:∀ p∈ps,p<m)(o:ps.length<=big):(ai P X (n+1)).call "_law_row_like" [.tup a,.tup b,.tup (ps.map aN)]=ac (.bool (gg ps a b),yM):=by
 refine av B.rowLike QQ (aD (aq (ax (x:=.list (aR ps a)) (y:=.list (aR ps b)) (d:=.bool (gg ps a b)) (gV (g:=aN) (l:=ps) (f:=λp=>a.getD p .none) (vr (af QQ (af QQ ae))) QQ o λp c=>aw (aF (bE QQ (aM ae))) (aF b0) (jk i (h p c))) (gV (g:=aN) (l:=ps) (f:=λp=>b.getD p .none) (vr (af QQ (af QQ ae))) QQ o λp c=>aw (aF (bE QQ (aM (af QQ ae)))) (aF b0) (jk j (h p c))) ?_) QQ QQ) QQ)
 show (if (aR ps a).length=(aR ps b).length then jZ (aR ps a) (aR ps b) else ac yM).map D.bool=_
 have e:(aR ps a).length=(aR ps b).length:=(yV ..).trans (yV ..).symm;rw[y8 e,nS e (gD i h).2 (gD j h).2];rfl
theorem ltold(B:BL P)(n:Nat)(w:yS){cs:yN D}(h:∀ c∈cs,c.isCell=yP)(s:cs.length<=big):(ai P X (n+2)).call "_law_told" [sD w,.list cs]=ac (iZ w cs,yM):=by
 refine av B.told QQ ?_;show Run _ jN.body [("_law_word",(yM,sD w)),("_law_cells",(yM,.list cs))] _ _;have a:∀ {σ:St} (x:yS),Has σ "_law_word" (sD w)->evE (ai P X (n+1)) (vis σ) (.cmp .Eq (.u "_law_word") (.str x))=ac (.bool (eqW w x)):=λx i=>ax (vr i) vS QQ
 unfold iZ;refine bc (a _ ae) QQ (λq=>?_) λq=>?_
 ·rw[y8 q]
  exact aD (aq (bP (vv (af QQ ae) vN) QQ) QQ QQ) QQ
 rw[q,za y5];refine bc (a _ ae) QQ (λq=>?_) λq=>?_
 ·rw[y8 q]
  have e:∀ l:yN D,l=l.map id:=λl=>(List.map_id l).symm
  refine aD (aq (bP (ad (uG (g:=λd:D=>d) (l:=cs) (p:=λc=>!dR c) (vr (af QQ ae)) (by show ac cs=_;rw[D6]) s λc b=>jD (lH (aF b0) (sr (h c b))) QQ) vN) (d:=.int (uL cs)) ?_) QQ QQ) QQ
  rw[D6];show (nW _).map D.int=_;rw[mE h];rfl
 rw[q,za y5];obtain⟨E2,t,k2⟩:=yg (cf:=ai P X (n+1)) (body:=[.ite (.bop .And [.cmp .Eq (.u "_law_word") (.str "least"),.not (.comp (.u "_law_other") "_law_other" (.u "_law_cells") [.call "_law_before" [.u "_law_other",.u "_law_cell"]])]) [.ret (.u "_law_cell")] [],.ite (.bop .And [.cmp .Eq (.u "_law_word") (.str "most"),.not (.comp (.u "_law_other") "_law_other" (.u "_law_cells") [.call "_law_before" [.u "_law_cell",.u "_law_other"]])]) [.ret (.u "_law_cell")] []]) (z:="_law_cell") (g:=λd:D=>d) (nA w cs) (λd=>d) (λσ=>Has σ "_law_word" (sD w)/\Has σ "_law_cells" (.list cs)) cs (by
  rintro c b σ ⟨E,G⟩;have j:=ag (y:="_law_cell") (v:=(yM,c)) QQ E;have u:=ag (y:="_law_cell") (v:=(yM,c)) QQ G;have f:(az σ "_law_cell" (yM,c)).lookup "_law_cell"=ac (yM,c):=by rw[aI,y8 rfl]
  generalize az σ "_law_cell" (yM,c)=σ at *;have A:∀ {p:D->yU} {e:ME},(∀ o∈cs,evE (ai P X (n+1)) (("_law_other",o)::vis σ) e=ac (.bool (p o)))->evE (ai P X (n+1)) (vis σ) (.not (.comp (.u "_law_other") "_law_other" (.u "_law_cells") [e]))=ac (.bool (!cs.any p)):=λH=>ol (g:=λd:D=>d) (vr u) (by show ac cs=_;rw[D6]) s H
  have n1:=A (p:=λo=>bh o c) (e:=.call "_law_before" [.u "_law_other",.u "_law_cell"]) λo m=>al (ad (aF b0) (ad (aF (bE QQ (aM ⟨_,f⟩))) vN)) (iY B n (h o m) (h c b))
  have n2:=A (p:=λo=>bh c o) (e:=.call "_law_before" [.u "_law_cell",.u "_law_other"]) λo m=>al (ad (aF (bE QQ (aM ⟨_,f⟩))) (ad (aF b0) vN)) (iY B n (h c b) (h o m))
  unfold nA;refine cM (cW (a _ j) λZ=>bk n1) QQ (λq=>?_) λq=>?_
  ·rw[q];exact⟨_,_,QQ,qI (x_rx f)⟩
  rw[q,Eo];exact cM (cW (a _ j) λZ=>bk n2) QQ (λq=>by rw[q];exact⟨_,_,QQ,qI (x_rx f)⟩) λq=>bB (si q ⟨QQ,j,u⟩)) (freeze ["_law_cells"] [("_law_word",(yM,sD w)),("_law_cells",(yM,.list cs))]) ⟨cg ae,cg (af QQ ae)⟩
 rw[D6] at t k2;cases C:cs.find? (nA w cs) with
 | some x=>exact mI (vr (af QQ ae)) QQ (t x C)
 | none=>exact ef (vr (af QQ ae)) QQ (k2 C).2 (aD (aq (gz _ _) QQ QQ) QQ)
end
noncomputable def pA(a:yN (yS×Nat))(q:yN D×Tab):yN D:=q.1++a.map λs=>iZ s.1 (col s.2 q.2)
theorem tL{α:Type}{g:α->D}{l:yN α}{z:α}{k:Nat}(h:k<l.length):aV (.list (l.map g)) (.int k)=ac (g (l.getD k z)):=lK (by rw[yV];exact h) (by rw[As,zb,y4 h];rfl)
theorem wS(k n:Nat):bnd (.int (k:Int)) n=ac k:=by
 show (if (0:Int)<=(k:Int) then ac (k:Int).toNat else y7)=_
 rw[y8 (At k)];rfl
theorem mR{l:yN D}(k:Nat):slD (.list l) .none (.int k)=ac (.list (l.take k)):=by
 show ((bnd D.none 0).bind λa=>(bnd (.int k) l.length).map λb=>D.list ((l.take b).drop a))=_
 have e:=wS k l.length;rw[e];rfl
section
variable {P:yN (yS×Fn)} {X:CF}
structure GrI(t:Tab)(ps:yN Nat)(ss:yN (yS×Nat))(acc:Tab)(σ:St):Prop where
 r:Has σ "_law_rows" (aC t)
 p:Has σ "_law_places" (.tup (ps.map aN))
 s:Has σ "_law_sums" (.tup (ss.map dN))
 f:bH σ "_law_found" (aC acc)
theorem GrI.set{t:Tab}{ps:yN Nat}{a:yN (yS×Nat)}{acc:Tab}{σ:St}(I:GrI t ps a acc σ){x:yS}{v:yU×D}(h1:("_law_rows" == x)=yM)(b:("_law_places" == x)=yM)(c:("_law_sums" == x)=yM)(h:("_law_found" == x)=yM):GrI t ps a acc (az σ x v):=⟨ag h1 I.r,ag b I.p,ag c I.s,bC h I.f⟩
theorem GrI.st{t:Tab}{ps:yN Nat}{a:yN (yS×Nat)}{acc:Tab}{σ:St}(I:GrI t ps a acc σ){d:D}{ns:yN yS}(h:ns.contains "_law_found"=yM):GrI t ps a acc (settle d ns σ):=⟨au I.r,au I.p,au I.s,bZ h I.f⟩
noncomputable abbrev lgrB:yN MS:=[.ite (.not (.comp (.u "_law_one") "_law_one" (.sl (.u "_law_rows") .none (.u "_law_k")) [.call "_law_row_like" [.u "_law_one",.sub (.u "_law_rows") (.u "_law_k"),.u "_law_places"]])) [.x0 "_law_group" (.comp (.u "_law_one") "_law_one" (.u "_law_rows") [.call "_law_row_like" [.u "_law_one",.sub (.u "_law_rows") (.u "_law_k"),.u "_law_places"]]),.x0 "_law_head" (.comp (.sub (.sub (.u "_law_rows") (.u "_law_k")) (.u "_law_place")) "_law_place" (.u "_law_places") []),.x0 "_law_more" (.comp (.call "_law_told" [.sub (.u "_law_pair") (.int 0),.comp (.sub (.u "_law_one") (.sub (.u "_law_pair") (.int 1))) "_law_one" (.u "_law_group") []]) "_law_pair" (.u "_law_sums") []),.append "_law_found" (.blt "tuple" [.bin .Add (.u "_law_head") (.u "_law_more")])] []]
theorem lgr_turn(B:BL P)(n:Nat){m:Nat}{t acc:Tab}(h:aQ m t)(M:t.length<=60)(E:acc.length<60){ps:yN Nat}(Y:∀ p∈ps,p<m)(w:ps.length<=1000){c:yN (yS×Nat)}(Z:∀ s∈c,s.2<m)(G:c.length<=1000){k:Nat}(N:k<t.length){σ:St}(I:GrI t ps c acc σ)(b:Has σ "_law_k" (.int k)) :
  Out (ai P X (n+2)) lgrB σ λFp E2=>Fp=.next/\GrI t ps c (acc++if jz ps t k=yP then [pA c (cn ps t k)] else []) E2:=by
 have O:∀ {k:Nat},k<=1000->k<=big:=λh=>yQ h (by decide)
 have A:∀ {k:Nat},k<=60->k<=big:=λh=>yQ h (by decide)
 have H:bF m (t.getD k []):=h _ (ej N);have Fo:∀ {ρ:yN (yS×D)},nu ρ "_law_rows" (aC t)->nu ρ "_law_k" (.int k)->evE (ai P X (n+2)) ρ (.sub (.u "_law_rows") (.u "_law_k"))=ac (.tup (t.getD k [])):=λi j=>aw (aF i) (aF j) (tL (g:=D.tup) (z:=([]:yN D)) N)
 have o:∀ {σ:St} {a:yN D},bF m a->Has σ "_law_rows" (aC t)->Has σ "_law_k" (.int k)->Has σ "_law_places" (.tup (ps.map aN))->evE (ai P X (n+2)) (("_law_one",.tup a)::vis σ) (.call "_law_row_like" [.u "_law_one",.sub (.u "_law_rows") (.u "_law_k"),.u "_law_places"])=ac (.bool (gg ps a (t.getD k []))):=λT Fq Fs Ft=>al (ad (aF b0) (ad (Fo (bE QQ (aM Fq)) (bE QQ (aM Fs))) (ad (aF (bE QQ (aM Ft))) vN))) (llike B (n+1) T H Y (O w))
 refine cM (k:=jz ps t k) (x:=.bool (jz ps t k)) ?_ QQ (λq=>?_) λq=>?_
 ·exact ol (g:=D.tup) (l:=t.take k) (d:=.list ((t.map D.tup).take k)) (qB (vr I.r) (gz _ _) (vr b) (mR k)) (by rw[<- Et];rfl) (A (yQ (List.length_take_le _ _) (yQ (zU N) M))) λa E=>o (h a (D5 E)) I.r b I.p
 ·rw[y8 q]
  have u:(t.filter λa=>gg ps a (t.getD k [])).length<=big:=A (yQ (z8 _ _) M)
  refine aJ (ak (d:=aC (cn ps t k).2) (fr:=yP) (aq (uG (g:=D.tup) (l:=t) (vr I.r) QQ (A M) λa E=>o (h a E) I.r b I.p) QQ QQ)) ?_
  have C:=(I.st (d:=aC (cn ps t k).2) (ns:=ME.names (.comp (.u "_law_one") "_law_one" (.u "_law_rows") [.call "_law_row_like" [.u "_law_one",.sub (.u "_law_rows") (.u "_law_k"),.u "_law_places"]])) QQ).set (x:="_law_group") (v:=(yP,aC (cn ps t k).2)) QQ QQ QQ QQ;have Fu:=ag (x:="_law_k") (y:="_law_group") (v:=(yP,aC (cn ps t k).2)) QQ (au (e:=aC (cn ps t k).2) (ns:=ME.names (.comp (.u "_law_one") "_law_one" (.u "_law_rows") [.call "_law_row_like" [.u "_law_one",.sub (.u "_law_rows") (.u "_law_k"),.u "_law_places"]])) b);have g1:Has (az (settle (aC (cn ps t k).2) (ME.names (.comp (.u "_law_one") "_law_one" (.u "_law_rows") [.call "_law_row_like" [.u "_law_one",.sub (.u "_law_rows") (.u "_law_k"),.u "_law_places"]])) σ) "_law_group" (yP,aC (cn ps t k).2)) "_law_group" (aC (cn ps t k).2):=ay;generalize az (settle (aC (cn ps t k).2) (ME.names (.comp (.u "_law_one") "_law_one" (.u "_law_rows") [.call "_law_row_like" [.u "_law_one",.sub (.u "_law_rows") (.u "_law_k"),.u "_law_places"]])) σ) "_law_group" (yP,aC (cn ps t k).2)=Fv at *;refine aJ (ak (d:=.list (cn ps t k).1) (fr:=yP) (aq (gV (g:=aN) (l:=ps) (f:=λp=>(t.getD k []).getD p .none) (vr C.p) QQ (O w) λp U=>aw (Fo (bE QQ (aM C.r)) (bE QQ (aM Fu))) (aF b0) (jk H (Y p U))) QQ QQ)) ?_
  refine aJ (ak (d:=.list (c.map λs=>iZ s.1 (col s.2 (cn ps t k).2))) (fr:=yP) (aq (gV (g:=dN) (l:=c) (vr (ag QQ (au C.s))) QQ (O G) λs J=>al (ad (aw (x:=dN s) (d:=sD s.1) (aF b0) vI QQ) (ad (gV (g:=D.tup) (l:=(cn ps t k).2) (f:=λr=>r.getD s.2 .none) (aF (bE QQ (aM (ag QQ (au g1))))) QQ u λr V=>aw (aF b0) (aw (x:=dN s) (y:=.int 1) (aF (bE QQ b0)) vI QQ) (jk (h r (zC.mp V).1) (Z s J))) vN)) (ltold B n s.1 (kf (λr V=>h r (zC.mp V).1) (Z s J)) (by unfold col;rw[yV];exact u))) QQ QQ)) ?_
  have L:(cn ps t k).1.length+(c.map λs=>iZ s.1 (col s.2 (cn ps t k).2)).length<=big:=by rw[show (cn ps t k).1.length=ps.length from yV ..,yV];exact yQ (zr w G) (by decide)
  refine aJ (bT (d:=.tup (pA c (cn ps t k))) (ds:=acc.map .tup) (bP (ad (am (x:=.list (cn ps t k).1) (y:=.list (c.map λs=>iZ s.1 (col s.2 (cn ps t k).2))) (d:=.list (pA c (cn ps t k))) (vr (ag QQ (au ay))) (vr ay) (yy L)) vN) QQ) (bZ QQ (bC QQ (bZ QQ (bC QQ (bZ QQ C.f))))) (by rw[yV];exact zf E (by decide))) (bB ⟨QQ,?_⟩)
  exact⟨ag QQ (au (ag QQ (au (ag QQ (au C.r))))),ag QQ (au (ag QQ (au (ag QQ (au C.p))))),ag QQ (au (ag QQ (au (ag QQ (au C.s))))),by rw[eE];exact dF⟩
 ·rw[q,za y5]
  exact bB ⟨QQ,(zy acc).symm▸I⟩
theorem snoc_if{ps:yN Nat}{t:Tab}{f:Nat->yN D}(b:yN Nat)(k:Nat):((b++[k]).filter (jz ps t)).map f=(b.filter (jz ps t)).map f++if jz ps t k=yP then [f k] else []:=by
 rw[zZ,zq];cases e:jz ps t k with
 | true=>rw[zp e];rfl
 | false=>rw[zI (by rw[e];exact y5)];rfl
theorem lgrouped(B:BL P)(n:Nat){m:Nat}{t:Tab}(h:aQ m t)(o:t.length<=60){ps:yN Nat}(q:∀ p∈ps,p<m)(u:ps.length<=1000){a:yN (yS×Nat)}(C:∀ s∈a,s.2<m)(w:a.length<=1000)(H:∀ s∈a,s.1∈qM) :
  (ai P X (n+3)).call "_law_grouped" [aC t,.tup (ps.map aN),.tup (a.map dN)]=ac (aC (eS ps a t),yP):=by
 have e1:eS ps a t=((zt t.length).filter (jz ps t)).map λk=>pA a (cn ps t k):=by
  unfold eS;rw[pP q t.length t rfl h];unfold rg;rw[Ad];refine AP λk c=>zj ((cn ps t k).1++·) (AP λs j=>?_)
  have c:=AY.mp (zC.mp c).1;have y:bF m (t.getD k []):=h _ (ej c);have A:t.getD k []∈(cn ps t k).2:=zC.mpr ⟨ej c,dY (gD y q).2⟩;have ok:aQ m (cn ps t k).2:=λr J=>h r (zC.mp J).1
  generalize (cn ps t k).2=G at *;cases G with
  | nil=>cases A
  | cons M N=>exact (told_law (H s j) (kf ok (C s j))).symm
 rw[e1];refine av B.grouped QQ ?_;show Run _ gv.body [("_law_rows",(yM,aC t)),("_law_places",(yM,.tup (ps.map aN))),("_law_sums",(yM,.tup (a.map dN)))] _ _;refine aA (ak (d:=.list []) (fr:=yP) QQ) ?_;obtain⟨E2,L,e⟩:=iy (cf:=ai P X (n+2)) (body:=lgrB) (z:="_law_k") (g:=λi:Nat=>D.int (i:Int)) (λb σ=>GrI t ps a ((b.filter (jz ps t)).map λk=>pA a (cn ps t k)) σ) (zt t.length) [] (freeze ["_law_rows"] (az [("_law_rows",(yM,aC t)),("_law_places",(yM,.tup (ps.map aN))),("_law_sums",(yM,.tup (a.map dN)))] "_law_found" (yP,.list []))) ⟨cg (ag QQ ae),cg (ag QQ (af QQ ae)),cg (ag QQ (af QQ (af QQ ae))),gG QQ dF⟩ (by
  intro b k σ c E I;rw[snoc_if];exact lgr_turn B n h o (by rw[yV];rw[zX] at E;exact y3 (z8 _ _) (zf (Al t.length▸E) o)) q u C w (AY.mp c) (I.set QQ QQ QQ QQ) ay)
 exact ef (x:=.rng 0 t.length) (bP (ad (d:=.int t.length) (bP (vv (ag QQ ae) vN) (by show ac (D.int ((t.map D.tup).length:Nat))=_;rw[yV])) vN) (kN (yQ o (by decide)))) (eI t.length) e (dP L.f)
end
theorem alike_lt{a b:D}(f:a.isCell=yP)(h:b.isCell=yP):eC a b=(!aL a b&&!aL b a):=by
 have c:=tri f h;rw[cU f h,cU h f] at c;cases h1:aL a b with
 | true=>rw[h1] at c;exact (BQ.mp c).2
 | false=>
  rw[h1] at c;cases i:aL b a with
  | false=>rw[i] at c;exact c
  | true=>
   cases e:eC a b with
   | false=>rfl
   | true=>rw[rD f e,wkD.irr h] at i;cases i
noncomputable def nAl(a b:yN D)(k:Nat×yU):yU:=!eC (a.getD k.1 .none) (b.getD k.1 .none)
theorem tM{m:Nat}{a b:yN D}(c:bF m a)(f:bF m b):∀ {ks:yN (Nat×yU)},(∀ k∈ks,k.1<m)->gY ks a b=match ks.find? (nAl a b) with | some k=>ltK k a b | none=>yM
 | [],_=>rfl
 | k::ks,h=>by
  have j:=tM c f λx n=>h x (.tail _ n)
  have i:=h k (.head _);have e:nAl a b k=!(!ltK k a b&&!ltK k b a):=by
   unfold nAl ltK ltC;rw[alike_lt (dL c i) (dL f i)];cases k.2 with
   | true=>exact zj (!·) (Cs _ _)
   | false=>rfl
  rw[Dj];show nY (ltK k) (gY ks) a b=_;unfold nY;rw[e];cases h1:ltK k a b with
  | true=>exact h1.symm
  | false=>cases o:ltK k b a with
   | true=>exact h1.symm
   | false=>exact j
section
variable {P:yN (yS×Fn)} {X:CF}
theorem lahead(B:BL P)(n:Nat){m:Nat}{a b:yN D}(f:bF m a)(i:bF m b){ks:yN (Nat×yU)}(c:∀ k∈ks,k.1<m):(ai P X (n+2)).call "_law_ahead" [.tup a,.tup b,.tup (ks.map eL)]=ac (.bool (gY ks a b),yM):=by
 refine av B.ahead QQ ?_;show Run _ jf.body [("_law_one",(yM,.tup a)),("_law_other",(yM,.tup b)),("_law_keys",(yM,.tup (ks.map eL)))] _ _;obtain⟨E2,A,k2⟩:=yg (cf:=ai P X (n+1)) (body:=[.ite (.not (.call "_law_alike" [.sub (.u "_law_one") (.sub (.u "_law_key") (.int 0)),.sub (.u "_law_other") (.sub (.u "_law_key") (.int 0))])) [.ite (.sub (.u "_law_key") (.int 1)) [.ret (.call "_law_before" [.sub (.u "_law_other") (.sub (.u "_law_key") (.int 0)),.sub (.u "_law_one") (.sub (.u "_law_key") (.int 0))])] [],.ret (.call "_law_before" [.sub (.u "_law_one") (.sub (.u "_law_key") (.int 0)),.sub (.u "_law_other") (.sub (.u "_law_key") (.int 0))])] []]) (z:="_law_key") (g:=eL) (nAl a b) (λk=>.bool (ltK k a b)) (λσ=>Has σ "_law_one" (.tup a)/\Has σ "_law_other" (.tup b)) ks (by
  rintro k j σ ⟨C,E⟩;have c:=c k j;have u:=ag (y:="_law_key") (v:=(yM,eL k)) QQ C;have w:=ag (y:="_law_key") (v:=(yM,eL k)) QQ E;have o:Has (az σ "_law_key" (yM,eL k)) "_law_key" (eL k):=ay;generalize az σ "_law_key" (yM,eL k)=σ at *;have s:evE (ai P X (n+1)) (vis σ) (.sub (.u "_law_one") (.sub (.u "_law_key") (.int 0)))=ac (a.getD k.1 .none):=aw (vr u) (aw (x:=eL k) (vr o) vI QQ) (jk f c);have t:evE (ai P X (n+1)) (vis σ) (.sub (.u "_law_other") (.sub (.u "_law_key") (.int 0)))=ac (b.getD k.1 .none):=aw (vr w) (aw (x:=eL k) (vr o) vI QQ) (jk i c);refine cM (jD (al (ad s (ad t vN)) (sq B n (dL f c) (dL i c))) QQ) QQ (λq=>?_) λq=>bB (si q ⟨QQ,u,w⟩)
  refine cM (k:=k.2) (aw (x:=eL k) (y:=.int 1) (d:=.bool k.2) (vr o) vI QQ) QQ (λr=>?_) λr=>?_
  ·exact tG (aE (ad t (ad s vN)) (iY B n (dL i c) (dL f c))) QQ (sg q (by unfold ltK ltC;rw[r,cU (dL i c) (dL f c)]))
  ·exact tG (aE (ad s (ad t vN)) (iY B n (dL f c) (dL i c))) QQ (sg q (by unfold ltK ltC;rw[r,cU (dL f c) (dL i c)]))) (freeze ["_law_keys"] [("_law_one",(yM,.tup a)),("_law_other",(yM,.tup b)),("_law_keys",(yM,.tup (ks.map eL)))]) ⟨cg ae,cg (af QQ ae)⟩
 rw[tM f i c];cases h:ks.find? (nAl a b) with
 | some k=>exact mI (vr (af QQ (af QQ ae))) QQ (A k h)
 | none=>exact ef (vr (af QQ (af QQ ae))) QQ (k2 h).2 (aD (aq vB QQ QQ) QQ)
structure yz(ks:yN (Nat×yU))(left acc:Tab)(σ:St):Prop where
 k:Has σ "_law_keys" (.tup (ks.map eL))
 l:Has σ "_law_left" (aC left)
 f:bH σ "_law_found" (aC acc)
noncomputable abbrev bestB:yN MS:=[.ite (.call "_law_ahead" [.sub (.u "_law_left") (.u "_law_k"),.sub (.u "_law_left") (.u "_law_best"),.u "_law_keys"]) [.x0 "_law_best" (.u "_law_k")] []]
noncomputable abbrev selB:yN MS:=[.x0 "_law_best" (.int 0),.for_ "_law_k" (.blt "range" [.int 1,.blt "len" [.u "_law_left"]]) bestB,.append "_law_found" (.sub (.u "_law_left") (.u "_law_best")),.x0 "_law_left" (.bin .Add (.sl (.u "_law_left") .none (.u "_law_best")) (.sl (.u "_law_left") (.bin .Add (.u "_law_best") (.int 1)) .none))]
theorem items_rng1(m:Nat):(D.rng 1 m).items=ac ((zt (m - 1)).map λi:Nat=>D.int (1+(i:Int))):=by
 show ac ((zt ((m:Int) - 1).toNat).map λ(i:Nat)=>D.int (1+(i:Int)))=_
 rw[show ((m:Int) - 1).toNat=m - 1 from by exact om1]
theorem rng1{m:Nat}(h:m<=60):gI "range" [.int 1,.int m]=ac (.rng 1 m):=by
 show (if _ then _ else _)=_
 have:60<=big:=by decide
 exact y8 (om2 h this)
theorem list_drop{l:yN D}(k:Nat):slD (.list l) (.int k) .none=ac (.list (l.drop k)):=by
 show ((bnd (.int k) 0).bind λa=>(bnd D.none l.length).map λb=>D.list ((l.take b).drop a))=_
 have e:=wS k 0;rw[e];show ac (D.list ((l.take l.length).drop k))=_;rw[DP]
theorem sel_turn(B:BL P)(n:Nat){m:Nat}{left acc:Tab}(h:aQ m left)(t:left.length<=60)(H:0<left.length)(L:acc.length<1000){ks:yN (Nat×yU)}(A:∀ k∈ks,k.1<m){σ:St}(I:yz ks left acc σ) :
  Out (ai P X (n+2)) selB σ λu E2=>u=.next/\yz ks (jF left (gT (gY ks) [] left)) (acc++[left.getD (gT (gY ks) [] left) []]) E2:=by
 have W:=wkL (m:=m) A;have C:∀ j,j<left.length->bF m (left.getD j []):=λj w=>h _ (ej w)
 have sub:∀ {ρ:yN (yS×D)} {x:yS} {j:Nat},j<left.length->nu ρ "_law_left" (aC left)->nu ρ x (.int j)->evE (ai P X (n+2)) ρ (.sub (.u "_law_left") (.u x))=ac (.tup (left.getD j [])):=λw M N=>aw (aF M) (aF N) (tL (g:=D.tup) (z:=([]:yN D)) w)
 refine aJ (aW (d:=.int (0:Nat)) (fr:=yM) QQ QQ) ?_;obtain⟨E2,⟨J,a,o⟩,e⟩:=iy (cf:=ai P X (n+2)) (body:=bestB) (z:="_law_k") (g:=λi:Nat=>D.int (1+(i:Int))) (λb σ=>yz ks left acc σ/\b.foldl (iI (gY ks) [] left) 0<left.length/\Has σ "_law_best" (.int (b.foldl (iI (gY ks) [] left) 0:Nat))) (zt (left.length - 1)) [] (freeze ["_law_left"] (az σ "_law_best" (yM,.int (0:Nat)))) ⟨⟨cg (ag QQ I.k),cg (ag QQ I.l),gG QQ (bC QQ I.f)⟩,H,cg ay⟩ (by
  rintro b i σ O V ⟨J,a,o⟩;rw[Bt];show Out _ _ _ λu E2=>u=.next/\yz ks left acc E2/\iI (gY ks) [] left (b.foldl (iI (gY ks) [] left) 0) i<left.length/\Has E2 "_law_best" (.int (iI (gY ks) [] left (b.foldl (iI (gY ks) [] left) 0) i:Nat))
  generalize b.foldl (iI (gY ks) [] left) 0=c at *;have s:i+1<left.length:=Nat.add_lt_of_lt_sub (AY.mp O);have T:(1+(i:Int))=((i+1:Nat):Int):=by rw[AA,Int.add_comm];rfl
  rw[T];unfold iI;refine cM (al (ad (sub s (aM (ag QQ J.l)) (aM ay)) (ad (sub a (aM (ag QQ J.l)) (aM (ag QQ o))) (vv (ag QQ J.k) vN))) (lahead B n (C _ s) (C _ a) A)) QQ (λq=>?_) λq=>?_
  ·rw[y8 q]
   exact aJ (aW (d:=.int (i+1:Nat)) (fr:=yM) (aq (vr ay) QQ QQ) QQ) (bB ⟨QQ,⟨ag QQ (ag QQ J.k),ag QQ (ag QQ J.l),bC QQ (bC QQ J.f)⟩,s,ay⟩)
  ·rw[q,za y5]
   exact bB ⟨QQ,⟨ag QQ J.k,ag QQ J.l,bC QQ J.f⟩,a,ag QQ o⟩)
 refine vL (d:=.rng 1 left.length) (bP (ad vI (ad (d:=.int left.length) (bP (vv (ag QQ I.l) vN) (by show ac (D.int ((left.map D.tup).length:Nat))=_;rw[yV])) vN)) (rng1 t)) (items_rng1 left.length) e ?_
 replace a:gT (gY ks) [] left<left.length:=a;replace o:Has E2 "_law_best" (.int (gT (gY ks) [] left:Nat)):=o;generalize gT (gY ks) [] left=c at *;refine aJ (bT (d:=.tup (left.getD c [])) (ds:=acc.map .tup) (sub a (aM J.l) (aM o)) (bZ QQ J.f) (by rw[yV];exact zf L (by decide))) ?_
 have E:=ag (x:="_law_left") (y:="_law_found") (v:=(yP,.list (acc.map .tup++[.tup (left.getD c [])]))) QQ (au (e:=.tup (left.getD c [])) (ns:=["_law_left","_law_best"]) J.l);have G:=ag (x:="_law_best") (y:="_law_found") (v:=(yP,.list (acc.map .tup++[.tup (left.getD c [])]))) QQ (au (e:=.tup (left.getD c [])) (ns:=["_law_left","_law_best"]) o);have k2:=ag (x:="_law_keys") (y:="_law_found") (v:=(yP,.list (acc.map .tup++[.tup (left.getD c [])]))) QQ (au (e:=.tup (left.getD c [])) (ns:=["_law_left","_law_best"]) J.k);have U:D.list ((left.map D.tup).take c++(left.map D.tup).drop (c+1))=aC (jF left c):=by unfold aC jF;rw[zq,Et,List.map_drop]
 refine aJ (ak (d:=aC (jF left c)) (fr:=yP) (aq (am (x:=.list ((left.map D.tup).take c)) (y:=.list ((left.map D.tup).drop (c+1))) (qB (vr E) (gz _ _) (vr G) (mR c)) (qB (vr E) (am (d:=.int (c+1:Nat)) (vr G) vI (by rw[AA];rfl)) (gz _ _) (list_drop (c+1))) ?_) QQ QQ)) (bB ⟨QQ,ag QQ (au k2),ay,?_⟩)
 ·rw[<- U]
  exact y8 (yQ (zr (List.length_take_le' _ _) (yQ (zk Co) (Dt _ _))) (by rw[yV];exact yQ (zr t t) (by decide)))
 ·rw[eE];exact bC QQ (bZ QQ dF)
theorem qR(B:BL P)(n:Nat){m:Nat}{ks:yN (Nat×yU)}(a:∀ k∈ks,k.1<m):∀ (k:Nat) (left acc:Tab) (f:Nat) (σ:St),left.length=k->k<=60->k<f->acc.length+k<1000->aQ m left->yz ks left acc σ->∃ E2,bH E2 "_law_found" (aC (acc++tq (gY ks) [] k left))/\fb (gQ (ai P X (n+2)) (.u "_law_left")) (λσ=>bn (ai P X (n+2)) selB σ) f σ=ac (.next,E2)
 | k,left,acc,0,σ,_,_,h,_,_,_=>zA h (AZ _)
 | 0,left,acc,f+1,σ,e,_,_,_,_,I=>by
  have:left=[]:=AR.mp e;subst this;refine⟨σ,by rw[show tq (gY ks) [] 0 ([]:Tab)=[] from rfl,zy];exact I.f,?_⟩
  rw[fb,show gQ (ai P X (n+2)) (.u "_law_left") σ=ac yM from by unfold gQ;rw[aF (aM I.l)];rfl]
 | k+1,left,acc,f+1,σ,e,q,u,s,h,I=>by
  have b:0<left.length:=e▸Az k;obtain⟨E,c,⟨rfl,J⟩,w⟩:=sel_turn (X:=X) B n h (e▸q) b (y3 (zo _ _) s) a I;have t:=wX (z:=([]:yN D)) (wkL (m:=m) a) (λj y=>h _ (ej y)) b
  obtain⟨i,o,A⟩:=qR B n a k _ _ f c (Ax ((tw t).trans e)) (BR q) (AN u) (by rw[zd];show acc.length+1+k<1000;rw[Au,Ai 1];exact s) (λr C=>h r (lQ t C)) J
  refine⟨i,by rw[Cd] at o;exact o,?_⟩
  rw[fb,show gQ (ai P X (n+2)) (.u "_law_left") σ=ac yP from by
   unfold gQ;rw[aF (aM I.l)];cases left with
   | nil=>cases b
   | cons=>rfl]
  dsimp only;rw[w];exact A
theorem lordered(B:BL P)(n:Nat){m:Nat}{t:Tab}(h:aQ m t)(a:t.length<=60){ks:yN (Nat×yU)}(b:∀ k∈ks,k.1<m):(ai P X (n+3)).call "_law_ordered" [aC t,.tup (ks.map eL)]=ac (aC (eO ks t),yP):=by
 refine av B.ordered QQ ?_;show Run _ gu.body [("_law_rows",(yM,aC t)),("_law_keys",(yM,.tup (ks.map eL)))] _ _;refine aA (ak (d:=aC t) (fr:=yP) (aq (xq (vr ae) QQ) QQ QQ)) (aA (ak (d:=.list []) (fr:=yP) QQ) ?_);obtain⟨E2,o,e⟩:=qR (X:=X) B n b t.length t [] xc (az (settle (.list []) [] (az (settle (aC t) ["_law_rows"] [("_law_rows",(yM,aC t)),("_law_keys",(yM,.tup (ks.map eL)))]) "_law_left" (yP,aC t))) "_law_found" (yP,.list [])) QQ a (y3 a (by decide)) (by rw[ET,Al];exact y3 a (by decide)) h ⟨ag QQ (au (ag QQ (au (af QQ ae)))),ag QQ (au ay),dF⟩
 rw[A0,order_sel h b] at o;exact r_while e (dP o)
end
section
variable {P:yN (yS×Fn)} {X:CF} {cf:CF} {σ:St} {t r:yN MS} {w w2:yS} {R q:D} {fr:yU}
section
variable {I A:D}{m:Nat}
theorem skQ(a:(yO w == yO w2)=yM)(h:Has σ "_law_query" q)(b:aV q (.int 0)=ac (sD w))(k:Run cf r σ R fr):Run cf (.ite (.cmp .Eq (.sub (.u "_law_query") (.int 0)) (.str w2)) t []::r) σ R fr:=
 bc (k:=yM) (x:=.bool yM) (ax (vsi h b) vS (by show ac (D.bool (yO w == yO w2))=_;rw[a])) QQ nofun λZ=>k
theorem qD(h:Has σ "_law_query" q)(a:aV q (.int 0)=ac (sD w))(k:Run cf (t++r) σ R fr):Run cf (.ite (.cmp .Eq (.sub (.u "_law_query") (.int 0)) (.str w)) t []::r) σ R fr:=
 bc (k:=yP) (x:=.bool yP) (ax (vsi h a) vS (by show ac (D.bool (yO w == yO w))=_;rw[zu])) QQ (λZ=>k) nofun
theorem mT(B:BL P)(n:Nat){q R:D}{fr:yU}(k:Run (ai P X n) jX.body [("_law_query",(yM,q)),("_law_rows",(yM,A))] R fr):(ai P X (n+1)).call "_law_done" [q,A]=ac (R,fr):=av B.done QQ k
theorem hq{q:D}:Has [("_law_query",(yM,q)),("_law_rows",(yM,A))] "_law_query" q:=ae
theorem hrw{q:D}:Has [("_law_query",(yM,q)),("_law_rows",(yM,A))] "_law_rows" A:=af QQ ae
theorem ld_sieve(B:BL P)(n:Nat){t:Tab}(h:aQ m t)(f:t.length<=big){cs:yN (yN D)}(a:cs.length<=big)(i:∀ c∈cs,bV m c):(ai P X (n+4)).call "_law_done" [.tup [sD "sieve",.tup (cs.map clD),I],aC t]=ac (aC (t.filter (aK cs)),yP):=by
 refine mT B (n+3) (qD hq QQ (aD (aq (uG (g:=D.tup) (l:=t) (p:=aK cs) (vr hrw) QQ f λr j=>?_) QQ QQ) QQ))
 unfold aK;rw[<- nG];exact ol (g:=clD) (l:=cs) (d:=.tup (cs.map clD)) (aw (x:=.tup [sD "sieve",.tup (cs.map clD),I]) (y:=.int 1) (aF (bE QQ (aM hq))) vI QQ) QQ a λc b=>jD (al (ad (aF b0) (ad (aF (bE QQ b0)) vN)) (lholds B n (h r j) (i c b).1)) QQ
theorem ld_pick(B:BL P)(n:Nat){t:Tab}(h:aQ m t)(c:t.length<=big){ps:yN Nat}(i:∀ p∈ps,p<m)(a:ps.length<=big):(ai P X (n+1)).call "_law_done" [.tup [sD "pick",.tup (ps.map aN),I],aC t]=ac (aC (t.map (aR ps)),yP):=by
 unfold aC;rw[Ad];exact mT B n (skQ (by decide +kernel) hq QQ (qD hq QQ (aD (aq (gV (g:=D.tup) (l:=t) (f:=D.tup ∘ aR ps) (vr hrw) QQ c λr j=>bP (ad (gV (g:=aN) (l:=ps) (f:=λp=>r.getD p .none) (aw (x:=.tup [sD "pick",.tup (ps.map aN),I]) (y:=.int 1) (aF (bE QQ (aM hq))) vI QQ) QQ a λp b=>aw (aF (bE QQ b0)) (aF b0) (jk (h r j) (i p b))) vN) QQ) QQ QQ) QQ)))
theorem ld_group(B:BL P)(n:Nat){R S U:D}{fr:yU}(k:(ai P X n).call "_law_grouped" [A,S,U]=ac (R,fr)):(ai P X (n+1)).call "_law_done" [.tup [sD "group",S,U,I],A]=ac (R,fr):=
 mT B n (skQ (by decide +kernel) hq QQ (skQ (by decide +kernel) hq QQ (qD hq QQ (aD (aE (vv hrw (ad (aw (x:=.tup [sD "group",S,U,I]) (y:=.int 1) (vr hq) vI QQ) (ad (aw (x:=.tup [sD "group",S,U,I]) (y:=.int 2) (vr hq) vI QQ) vN))) k) QQ))))
theorem ld_order(B:BL P)(n:Nat){R S:D}{fr:yU}(k:(ai P X n).call "_law_ordered" [A,S]=ac (R,fr)):(ai P X (n+1)).call "_law_done" [.tup [sD "order",S,I],A]=ac (R,fr):=
 mT B n (skQ (by decide +kernel) hq QQ (skQ (by decide +kernel) hq QQ (skQ (by decide +kernel) hq QQ (qD hq QQ (aD (aE (vv hrw (ad (aw (x:=.tup [sD "order",S,I]) (y:=.int 1) (vr hq) vI QQ) vN)) k) QQ)))))
theorem ld_first(B:BL P)(n:Nat){t:Tab}{c:Nat}:(ai P X (n+1)).call "_law_done" [.tup [sD "first",aN c,I],aC t]=ac (aC (t.take c),yP):=by
 refine mT B n (skQ (by decide +kernel) hq QQ (skQ (by decide +kernel) hq QQ (skQ (by decide +kernel) hq QQ (skQ (by decide +kernel) hq QQ (qD hq QQ (aD (aq (qB (x:=aC t) (u:=.none) (v:=aN c) (d:=aC (t.take c)) (vr hrw) (gz _ _) (aw (x:=.tup [sD "first",aN c,I]) (y:=.int 1) (vr hq) vI QQ) ((mR c).trans ?_)) QQ QQ) QQ))))))
 unfold aC;rw[Et]
theorem ld_once(B:BL P)(n:Nat){t:Tab}(h:aQ m t)(s:t.length<big):(ai P X (n+1)).call "_law_done" [.tup [sD "once",I],aC t]=ac (aC (aZ t),yP):=by
 refine mT B n (skQ (by decide +kernel) hq QQ (skQ (by decide +kernel) hq QQ (skQ (by decide +kernel) hq QQ (skQ (by decide +kernel) hq QQ (skQ (by decide +kernel) hq QQ (aA (ak (d:=.list []) (fr:=yP) QQ) ?_))))))
 obtain⟨E2,u,e⟩:=iy (cf:=ai P X n) (body:=[.ite (.cmp .NotIn (.u "_law_row") (.u "_law_found")) [.append "_law_found" (.u "_law_row")] []]) (z:="_law_row") (g:=D.tup) (λb σ=>aQ m (aZ b)/\(aZ b).length<=b.length/\bH σ "_law_found" (aC (aZ b))) t []
  (freeze ["_law_rows"] (az [("_law_query",(yM,.tup [sD "once",I])),("_law_rows",(yM,aC t))] "_law_found" (yP,.list []))) ⟨(λZ h=>nomatch h),ze _,gG QQ dF⟩ (by
  rintro b r σ o w ⟨f,i,j⟩;have y:mP (.tup r) (aC (aZ b))=ac ((aZ b).any λx=>aB x r):=by
   rw[<- kj];exact y8 (by rw[ld (h r o),rS f];rfl)
  have A:evE (ai P X n) (vis (az σ "_law_row" (yM,.tup r))) (.cmp .NotIn (.u "_law_row") (.u "_law_found"))=ac (.bool (!(aZ b).any λx=>aB x r)):=ax (vr ay) (vr (ag QQ (iB j))) (by show (mP _ _).map _=_;rw[y];rfl)
  have c:(aZ b).length<big:=y3 i (Aj (Al t.length▸w) s);refine cM A QQ (λa=>?_) λa=>?_
  ·have a:((aZ b).any λx=>aB x r)=yM:=by cases e:(aZ b).any λx=>aB x r with | false=>rfl | true=>rw[e] at a;cases a
   have e1:aZ (b++[r])=aZ b++[r]:=by rw[fe];unfold gN;rw[a,za y5]
   refine aJ (bT (d:=.tup r) (ds:=(aZ b).map .tup) (vr ay) (bZ QQ (bC QQ j)) (by rw[yV];exact c)) (bB ⟨QQ,?_,?_,?_⟩)
   ·rw[e1];exact λx C=>(zM.mp C).elim (f x) λq=>zg.mp q▸h r o
   ·rw[e1,zd,zd];exact zs i
   ·rw[e1,eE];exact dF
  ·have a:((aZ b).any λx=>aB x r)=yP:=by cases e:(aZ b).any λx=>aB x r with | true=>rfl | false=>rw[e] at a;cases a
   have e1:aZ (b++[r])=aZ b:=by rw[fe];unfold gN;rw[a,y8 rfl]
   rw[e1];exact bB ⟨QQ,f,by rw[zd];exact zR i,bC QQ j⟩)
 exact ef (vr (ag QQ hrw)) QQ e (dP u.2.2)
theorem xT(B:BL P)(n:Nat){w:yS}{q:D}(a:aV q (.int 0)=ac (sD w))(h1:aV q (.int (qC (yO w)))=ac I):(ai P X (n+1)).call "_law_inner" [q]=ac (I,yM):=
 av B.inner QQ (aD (aq (aw (vr ae) (v_inn (vsi ae a)) h1) QQ QQ) QQ)
end
noncomputable abbrev laS(q T:D):St:=[("_law_query",(yM,q)),("_law_tables_here",(yM,T))]
theorem kH(B:BL P)(n:Nat){q I T A R:D}{c fr:yU}(f:w∈lI)(b:aV q (.int 0)=ac (sD w))(h:aV q (.int (qC (yO w)))=ac I)
  (i:(ai P X (n+1)).call "_law_answer" [I,T]=ac (A,c)) (k2:(ai P X (n+1)).call "_law_done" [q,A]=ac (R,fr)):(ai P X (n+2)).call "_law_answer" [q,T]=ac (R,fr):=by
 have a:=rQ w f;refine av B.answer QQ ?_;show Run _ dE.body (laS q T) _ _;exact skQ a.1 ae b (skQ a.2.1 ae b (skQ a.2.2 ae b (aD (aE (vv ae (ad (al (ad (al (vv ae vN) (xT B n b h)) (vv (af QQ ae) vN)) i) vN)) k2) QQ)))
theorem la_join(B:BL P)(n:Nat){I J S T A C R:D}{a b fr:yU}(c:(ai P X n).call "_law_answer" [I,T]=ac (A,a))(k2:(ai P X n).call "_law_answer" [J,T]=ac (C,b))(f:(ai P X n).call "_law_joined" [A,C,S]=ac (R,fr)) :
  (ai P X (n+1)).call "_law_answer" [.tup [sD "join",I,J,S],T]=ac (R,fr):=by
 refine av B.answer QQ ?_;show Run _ dE.body (laS (.tup [sD "join",I,J,S]) T) _ _;exact skQ (by decide +kernel) ae QQ (qD ae QQ (aD (aE (ad (al (ad (aw (x:=.tup [sD "join",I,J,S]) (y:=.int 1) (vr ae) vI QQ) (vv (af QQ ae) vN)) c) (ad (al (ad (aw (x:=.tup [sD "join",I,J,S]) (y:=.int 2) (vr ae) vI QQ) (vv (af QQ ae) vN)) k2) (ad (aw (x:=.tup [sD "join",I,J,S]) (y:=.int 3) (vr ae) vI QQ) vN))) f) QQ))
theorem la_both(B:BL P)(n:Nat){I J T:D}{a b:Tab}{c f:yU}(h:a.length+b.length<=big)(i:(ai P X n).call "_law_answer" [I,T]=ac (aC a,c))(k2:(ai P X n).call "_law_answer" [J,T]=ac (aC b,f)) :
  (ai P X (n+1)).call "_law_answer" [.tup [sD "both",I,J],T]=ac (aC (a++b),yP):=by
 refine av B.answer QQ ?_;show Run _ dE.body (laS (.tup [sD "both",I,J]) T) _ _;refine skQ (by decide +kernel) ae QQ (skQ (by decide +kernel) ae QQ (qD ae QQ (aD (aq (am (x:=aC a) (y:=aC b) (al (ad (aw (x:=.tup [sD "both",I,J]) (y:=.int 1) (vr ae) vI QQ) (vv (af QQ ae) vN)) i) (al (ad (aw (x:=.tup [sD "both",I,J]) (y:=.int 2) (vr ae) vI QQ) (vv (af QQ ae) vN)) k2) ?_) QQ QQ) QQ)))
 unfold aC;rw[zq];exact y8 (by rw[yV,yV];exact h)
theorem la_table(B:BL P)(n:Nat){T:Tbs}{nm:Str}{t:Tab}(h:T.lookup nm=ac t):(ai P X (n+1)).call "_law_answer" [.tup [sD "table",.str nm],T.d]=ac (aC t,yM):=by
 have a:aV T.d (.str nm)=ac (aC t):=(y8 (uJ T nm)).trans (uK h).1;refine av B.answer QQ ?_;show Run _ dE.body (laS (.tup [sD "table",.str nm]) T.d) _ _;exact qD ae QQ (aD (aq (aw (vr (af QQ ae)) (aw (x:=.tup [sD "table",.str nm]) (y:=.int 1) (vr ae) vI QQ) a) QQ QQ) QQ)
theorem sj(B:BL P){W R:Wd}{T:Tbs}(z:mw W R T):∀ (q:Q) (r n:Nat),q.ok W->q.rb R r->r<=60->q.nar W 5000->q.dp<=n->∃ fr,(ai P X (n+5)).call "_law_answer" [q.d,T.d]=ac (aC (q.ans T),fr):=by
 intro q
 induction q with
 | table M=>
  rintro r n ⟨k,N⟩ _ _ _ _;obtain⟨t,e,_⟩:=z M k N;have:=la_table B (n+4) (P:=P) (X:=X) e;show ∃ fr,_=ac (aC ((T.lookup M).getD []),fr);rw[e];exact⟨_,this⟩
 | sieve U q y=>rintro r n h s m f u;obtain⟨n,rfl,o⟩:=dpS u;exact have a:=cr z q r h.1 s;let ⟨_,e⟩:=y r n h.1 s m f o;⟨_,kH B _ (w:="sieve") (by decide) QQ QQ e (ld_sieve B (n+1) a.1 (yQ a.2 (yQ m (by decide))) (yQ h.2.2 (by decide)) h.2.1)⟩
 | pick ps q y=>rintro r n h s m f u;obtain⟨n,rfl,o⟩:=dpS u;exact have a:=cr z q r h.1 s;let ⟨_,e⟩:=y r n h.1 s m f o;⟨_,kH B _ (w:="pick") (by decide) QQ QQ e (ld_pick B (n+4) a.1 (yQ a.2 (yQ m (by decide))) h.2.1 (yQ h.2.2 (by decide)))⟩
 | group ps V q y=>rintro r n h s m f u;obtain⟨n,rfl,o⟩:=dpS u;exact have a:=cr z q r h.1 s;let ⟨_,e⟩:=y r n h.1 s m f.1 o;⟨_,kH B _ (w:="group") (by decide) QQ QQ e (ld_group B (n+4) (lgrouped B (n+1) a.1 (yQ a.2 m) h.2.1 h.2.2.2.1 h.2.2.1 h.2.2.2.2 f.2))⟩
 | order ks q y=>rintro r n h s m f u;obtain⟨n,rfl,o⟩:=dpS u;exact have a:=cr z q r h.1 s;let ⟨_,e⟩:=y r n h.1 s m f o;⟨_,kH B _ (w:="order") (by decide) QQ QQ e (ld_order B (n+4) (lordered B (n+1) a.1 (yQ a.2 m) h.2.1))⟩
 | once q y=>rintro r n h s m f u;obtain⟨n,rfl,o⟩:=dpS u;exact have a:=cr z q r h s;let ⟨_,e⟩:=y r n h s m f o;⟨_,kH B _ (w:="once") (by decide) QQ QQ e (ld_once B (n+4) a.1 (y3 a.2 (y3 m (by decide))))⟩
 | first c q y=>rintro r n h ⟨r',s,J,_⟩ m f u;obtain⟨n,rfl,o⟩:=dpS u;exact let ⟨_,e⟩:=y r' n h s J f o;⟨_,kH B _ (w:="first") (by decide) QQ QQ e (ld_first B (n+4))⟩
 | join a b O A C=>rintro r n h ⟨E,r2,h1,G,H,I,_⟩ m f u;obtain⟨n,rfl,o⟩:=dpS u;exact have i:=cr z a E h.1 h1;have j:=cr z b r2 h.2.1 G;let ⟨_,e1⟩:=A E n h.1 h1 H f.1 (yQ (zL _ _) o);let ⟨_,L⟩:=C r2 n h.2.1 G I f.2.1 (yQ (zB _ _) o);⟨_,la_join B _ e1 L (ljoined B (n+3) i.1 j.1 (yQ i.2 H) (yQ j.2 I) (yQ f.2.2 (by decide)) (yQ h.2.2.2 (by decide)) h.2.2.1)⟩
 | both a b A C=>rintro r n h ⟨E,r2,h1,G,H,I,_⟩ m f u;obtain⟨n,rfl,o⟩:=dpS u;exact have i:=cr z a E h.1 h1;have j:=cr z b r2 h.2.1 G;let ⟨_,e1⟩:=A E n h.1 h1 H f.1 (yQ (zL _ _) o);let ⟨_,L⟩:=C r2 n h.2.1 G I f.2 (yQ (zB _ _) o);⟨_,la_both B _ (yQ (zr (yQ i.2 H) (yQ j.2 I)) (by decide)) e1 L⟩
end
section
variable {P:yN (yS×Fn)} {X:CF}
theorem lcell_is(B:BL P)(n:Nat){c:D}(a:c.isCell=yP):(ai P X (n+1)).call "_law_cell_is" [c,c]=ac (.bool yP,yM):=by
 refine av B.cellIs QQ ?_;refine aU (C:=λc=>Run (ai P X n) gy.body [("_law_found",(yM,c)),("_law_due",(yM,c))] (.bool yP) yM) a (λi=>?_) λx=>?_
 ·have e:eT .Eq (.int i) (.int i)=ac (.bool yP):=by show ac (D.bool (i == i))=_;rw[zu]
  refine bc (k:=yM) (fN (k:=yM) (l:=yM) (lH (vr (af QQ ae)) QQ) λZ=>bk (lH (vr ae) QQ)) QQ nofun λZ=>?_
  exact aD (aq (cW (k:=yP) (l:=yP) (lH (vr ae) QQ) λZ=>bk (ax (vr ae) (vr (af QQ ae)) e)) QQ QQ) QQ
 ·have e:eT .Eq (.str x) (.str x)=ac (.bool yP):=by show ac (D.bool (x == x))=_;rw[zu]
  refine bc (k:=yP) (fN (k:=yP) (l:=yP) (lH (vr (af QQ ae)) QQ) nofun) QQ (λZ=>?_) nofun
  exact aD (aq (cW (k:=yP) (l:=yP&&yP) (lH (vr ae) QQ) λZ=>cW (k:=yP) (l:=yP) (lH (vr (af QQ ae)) QQ) λZ=>bk (ax (vr ae) (vr (af QQ ae)) e)) QQ QQ) QQ
end
set_option maxHeartbeats 800000
noncomputable def nr(W R:Wd)(c dp:Nat)(d:D):Prop:=d=.list []\/∃ q r k,TpA W R c dp q r k/\d=.list [aG W q r k]
section
variable {P:yN (yS×Fn)} {X:CF} {W R:Wd} {c dp:Nat} {q q2:Q} {r k r2 k2:Nat}
theorem ny(B:BN P)(n:Nat)(z:Int)(h:TpA W R c dp q r k)(f:TpA W R c dp q2 r2 k2):∃ d fr,nr W R (c+12) (dp+2) d/\(ai P X (n+3)).call "_law_of_two" [sD "join",.int z,aG W q r k,aG W q2 r2 k2]=ac (d,fr):=by
 have E:=h.r;have Y:=f.r;have T:∀ (a b:Q) (i rb:Nat),TpA W R c (dp+1) a i k->TpA W R c (dp+1) b rb k2->a.wd W=q.wd W->b.wd W=q2.wd W->i * rb<=60->k+k2<=24->∀ σ:St,Has σ "_law_cell" (.int z)->Has σ "_law_one" (aG W a i k)->Has σ "_law_two" (aG W b rb k2) ->
   ∀ Fi:yN MS,Rex (ai P X (n+2)) (.x0 "_law_query" (.tup [.str "join",.sub (.u "_law_one") (.int 0),.sub (.u "_law_two") (.int 0),.call "_law_pairs_by" [.u "_law_cell",.sub (.u "_law_one") (.int 1),.sub (.u "_law_two") (.int 1)]])::.ret (.lst [.tup [.u "_law_query",.bin .Add (.sub (.u "_law_one") (.int 1)) (.sub (.u "_law_two") (.int 1)),.bin .Mult (.sub (.u "_law_one") (.int 2)) (.sub (.u "_law_two") (.int 2)),.bin .Add (.sub (.u "_law_one") (.int 3)) (.sub (.u "_law_two") (.int 3))]])::Fi) σ λd EV=>nr W R (c+12) (dp+2) d:=by
  intro a b i rb o s FM FN G t σ Z H I Fi;obtain⟨j,g1,U,Fo⟩:=pairs_by (X:=X) B n z (a.wd W) (b.wd W);have A:TpA W R (c+12) (dp+2) (.join a b j) (i * rb) (k+k2):=by
   have h1:=o.wd;have f:=s.wd;have Fp:=o.k1;have Fq:=o.cp;have Fs:=s.cp;have Ft:=o.pr;have Fu:=s.pr;have Fv:=o.dp;have Fw:=s.dp;exact⟨⟨o.ok,s.ok,g1,by exact om158 U⟩,by show a.wd W+b.wd W<=_;exact om159 h1 f,by exact om160 Fp,t,G,by show max _ _<=_;exact om161 Fq Fs,by show max _ (max _ _)<=_;exact om162 U Ft Fu,⟨o.nar,s.nar,by exact om163 t h1 f⟩,by show max _ _+1<=_;exact om164 Fv Fw,i,rb,o.rb,s.rb,o.r,s.r,ze _⟩
  have Fz:aV (aG W a i k) (.int 0)=ac a.d:=rfl;have s1:aV (aG W a i k) (.int 1)=ac (.int (a.wd W)):=rfl;have FA:aV (aG W a i k) (.int 2)=ac (.int i):=rfl;have FE:aV (aG W a i k) (.int 3)=ac (.int k):=rfl;have FF:aV (aG W b rb k2) (.int 0)=ac b.d:=rfl;have V:aV (aG W b rb k2) (.int 1)=ac (.int (b.wd W)):=rfl;have FG:aV (aG W b rb k2) (.int 2)=ac (.int rb):=rfl;have FH:aV (aG W b rb k2) (.int 3)=ac (.int k2):=rfl;have J:=o.r;have m:en .Mult (.int i) (.int rb)=ac (.int (i * rb:Nat)):=by
   rw[DY];exact nq (by unfold lim;exact om165 J)
  have w:en .Add (.int (a.wd W)) (.int (b.wd W))=ac (.int (a.wd W+b.wd W:Nat)):=by rw[AA];rfl
  have u:en .Add (.int k) (.int k2)=ac (.int (k+k2:Nat)):=by rw[AA];rfl
  refine bi (ak (d:=.tup [sD "join",a.d,b.d,.tup (j.map prT)]) (fr:=yM) (aq (bD (ad vS (ad (vsi H Fz) (ad (vsi I FF) (ad (al (vv Z (ad (vsi H s1) (ad (vsi I V) vN))) Fo) vN)))) (yZ QQ)) QQ QQ)) ?_;have L:∀ v,Has (az (settle (.tup [sD "join",a.d,b.d,.tup (j.map prT)]) (ME.names (.tup [.str "join",.sub (.u "_law_one") (.int 0),.sub (.u "_law_two") (.int 0),.call "_law_pairs_by" [.u "_law_cell",.sub (.u "_law_one") (.int 1),.sub (.u "_law_two") (.int 1)]])) σ) "_law_query" v) "_law_one" (aG W a i k):=λEV=>ag QQ (au H)
  have M:∀ v,Has (az (settle (.tup [sD "join",a.d,b.d,.tup (j.map prT)]) (ME.names (.tup [.str "join",.sub (.u "_law_one") (.int 0),.sub (.u "_law_two") (.int 0),.call "_law_pairs_by" [.u "_law_cell",.sub (.u "_law_one") (.int 1),.sub (.u "_law_two") (.int 1)]])) σ) "_law_query" v) "_law_two" (aG W b rb k2):=λEV=>ag QQ (au I)
  exact cI (d:=.list [aG W (.join a b j) (i * rb) (k+k2)]) (fr:=yP) (aq (cO (ad (bD (vv ay (ad (am (vsi (L _) s1) (vsi (M _) V) w) (ad (am (vsi (L _) FA) (vsi (M _) FG) m) (ad (am (vsi (L _) FE) (vsi (M _) FH) u) vN)))) (yZ QQ)) vN) (yZ QQ)) QQ QQ) QQ (.inr ⟨_,_,_,A,QQ⟩)
 have c1:=qq (X:=X) (W:=W) (q:=q) (r:=r) (k:=k) B (n+1);have c2:=qq (X:=X) (W:=W) (q:=q2) (r:=r2) (k:=k2) B (n+1);have FJ:TpA W R c (dp+1) (.first 6 q) (min 6 r) k:=⟨h.ok,h.wd,h.k1,h.k2,by exact om166,h.cp,h.pr,h.nar,zs h.dp,r,h.rb,h.r,ze _⟩
 have FK:TpA W R c (dp+1) (.first 6 q2) (min 6 r2) k2:=⟨f.ok,f.wd,f.k1,f.k2,by exact om166,f.cp,f.pr,f.nar,zs f.dp,r2,f.rb,f.r,ze _⟩
 have N:Rex (ai P X (n+2)) fu.body [("_law_word",(yM,sD "join")),("_law_cell",(yM,.int z)),("_law_one",(yM,aG W q r k)),("_law_two",(yM,aG W q2 r2 k2))] λd EV=>nr W R (c+12) (dp+2) d:=by
  refine dU (k:=decide ((k:Int)+k2 > 24)||(yP&&decide ((q.wd W:Int)+q2.wd W > 14))) (fN (k:=decide ((k:Int)+k2 > 24)) (l:=yP&&decide ((q.wd W:Int)+q2.wd W > 14)) QQ λEV=>bk (cW (k:=yP) (l:=decide ((q.wd W:Int)+q2.wd W > 14)) QQ λEV=>bk QQ)) QQ (λEV=>cI (d:=.list []) (fr:=yP) QQ QQ (.inl QQ)) λt=>?_
  have t:=A7 (BQ.mp t).1;refine dU (k:=yP) (x:=.bool yP) QQ QQ (λEV=>?_) nofun
  have m:en .Mult (.int r) (.int r2)=ac (.int (r * r2:Nat)):=by
   rw[DY];exact nq (by unfold lim;exact om165 E)
  refine dU (k:=decide (((r * r2:Nat):Int) > 36)) (ax (am (x:=.int r) (y:=.int r2) QQ QQ m) vI QQ) QQ (λEV=>?_) λC=>?_
  ·refine bi (ak (aE (ad (d:=.int 8) QQ (ad (d:=.int 5) QQ (ad (d:=aG W q r k) QQ vN))) c1)) ?_
   refine bi (ak (aE (ad (d:=.int 8) QQ (ad (d:=.int 5) QQ (ad (d:=aG W q2 r2 k2) QQ vN))) c2)) ?_;have O:min 6 r * min 6 r2<=60:=yQ (CO (DX 6 r) (DX 6 r2)) (by decide)
   refine T (.first 6 q) (.first 6 q2) (min 6 r) (min 6 r2) FJ FK QQ QQ O (xK t) _ ?_ ?_ ?_ _
   ·exact ag QQ (au (ag QQ (au ⟨_,QQ⟩)))
   ·exact ag QQ (au ay)
   ·exact ay
  ·have C:=A7 C
   refine T q q2 r r2 (h.up (ze _) (AM _)) (f.up (ze _) (AM _)) QQ QQ (om168 C) (xK t) _ ?_ ?_ ?_ _
   all_goals exact⟨_,QQ⟩
 obtain⟨d,fr,C,E⟩:=dO (X:=X) (args:=[sD "join",.int z,aG W q r k,aG W q2 r2 k2]) B.o2 QQ N;exact⟨d,fr,C,E⟩
theorem nz(B:BN P)(n:Nat)(z:Int)(h:TpA W R c dp q r k)(a:TpA W R c dp q2 r2 k2):∃ d fr,nr W R (c+12) (dp+2) d/\(ai P X (n+3)).call "_law_of_two" [sD "both",.int z,aG W q r k,aG W q2 r2 k2]=ac (d,fr):=by
 have m:=h.r;have s:=a.r;have b:Rex (ai P X (n+2)) fu.body [("_law_word",(yM,sD "both")),("_law_cell",(yM,.int z)),("_law_one",(yM,aG W q r k)),("_law_two",(yM,aG W q2 r2 k2))] λd Z=>nr W R (c+12) (dp+2) d:=by
  refine dU (k:=decide ((k:Int)+k2 > 24)||(yM&&yP)) (fN (k:=decide ((k:Int)+k2 > 24)) (l:=yM&&yP) QQ λZ=>bk (cW (k:=yM) (l:=yP) QQ nofun)) QQ (λZ=>cI (d:=.list []) (fr:=yP) QQ QQ (.inl QQ)) λf=>?_
  have f:=A7 (BQ.mp f).1;refine dU (k:=yM) (x:=.bool yM) QQ QQ nofun λZ=>?_
  refine dU (k:=yP&&((q.wd W:Int) == (q2.wd W:Int)&&decide ((r:Int)+r2<=36))) (cW (k:=yP) QQ λZ=>cW (k:=(q.wd W:Int) == (q2.wd W:Int)) (l:=decide ((r:Int)+r2<=36)) (ax (x:=.int (q.wd W)) (y:=.int (q2.wd W)) QQ QQ QQ) λZ=>bk (ax (x:=.int ((r:Int)+r2)) (y:=.int 36) QQ QQ QQ)) QQ (λo=>?_) λZ=>cI (d:=.list []) (fr:=yP) QQ QQ (.inl QQ)
  rw[Bool.true_and,Bo,Bh,BU] at o;obtain⟨i,j⟩:=o;have i:q.wd W=q2.wd W:=by exact om97 i
  have A:TpA W R (c+12) (dp+2) (.both q q2) (r+r2) (k+k2):=by
   have h1:=h.wd;have t:=h.k1;have u:=h.cp;have w:=a.cp;have C:=h.pr;have E:=a.pr;have G:=h.dp;have H:=a.dp;exact⟨⟨h.ok,a.ok,i⟩,by show q.wd W<=_;exact om169 h1,by exact om160 t,by exact xK f,by exact om170 j,by show max _ _<=_;exact om161 u w,by show max _ _<=_;exact om171 C E,⟨h.nar,a.nar⟩,by show max _ _+1<=_;exact om172 G H,r,r2,h.rb,a.rb,h.r,a.r,ze _⟩
  refine cI (d:=.list [aG W (.both q q2) (r+r2) (k+k2)]) (fr:=yP) ?_ QQ (.inr ⟨_,_,_,A,QQ⟩);unfold aG;rw[AA,AA]
  rfl
 obtain⟨d,fr,I,m⟩:=dO (X:=X) (args:=[sD "both",.int z,aG W q r k,aG W q2 r2 k2]) B.o2 QQ b;exact⟨d,fr,I,m⟩
end
set_option maxHeartbeats 800000
noncomputable def jM:Fn:=⟨["_law_cell"],[
  .ite (.cmp .Eq (.bin .Mod (.bin .FloorDiv (.u "_law_cell") (.int 35)) (.int 6)) (.int 2)) [.ret (.bin .Mod (.bin .FloorDiv (.u "_law_cell") (.int 210)) (.int 13))] [],
  .ret (.sub (.lst [.int 2,.int 1,.int 3,.int 2,.int 0]) (.bin .Mod (.u "_law_cell") (.int 5)))]⟩
noncomputable def jR:Fn:=⟨["_law_cell"],[
  .ret (.sub (.lst [.int 5,.int 7,.int 4,.int 8,.int 6,.int 2,.int 0]) (.bin .Mod (.bin .FloorDiv (.u "_law_cell") (.int 5)) (.int 7)))]⟩
noncomputable def l8:Fn:=⟨["_law_script"],[
  .x0 "_law_cell" (.call "_law_cell_at" [.u "_law_script",.int 0]),
  .x0 "_law_words" (.lst [.str "one",.str "join",.str "table",.str "first",.str "sieve",.str "pick",.str "group",.str "order",.str "both",.str "once"]),
  .x0 "_law_word" (.sub (.u "_law_words") (.bin .Mod (.bin .FloorDiv (.u "_law_cell") (.int 35)) (.int 10))),
  .x0 "_law_rest" (.bin .FloorDiv (.u "_law_cell") (.int 350)),
  .ite (.cmp .Eq (.bin .Mod (.u "_law_rest") (.int 2)) (.int 0)) [.ret (.lst [.u "_law_word",.bin .Add (.str "Two ") (.call "_law_sign_by" [.bin .FloorDiv (.u "_law_rest") (.int 2)]),.str ""])] [],
  .x0 "_law_at" (.bin .Mod (.bin .FloorDiv (.u "_law_rest") (.int 2)) (.bin .Add (.blt "len" [.u "_law_word"]) (.int 1))),
  .ret (.comp (.bin .Add (.bin .Add (.sl (.u "_law_word") .none (.u "_law_at")) (.call "_law_sign_by" [.bin .Add (.bin .FloorDiv (.u "_law_rest") (.int 18)) (.u "_law_k")])) (.sl (.u "_law_word") (.u "_law_at") .none)) "_law_k" (.blt "range" [.int 3]) [])]⟩
noncomputable def jV:Fn:=⟨["_law_script","_law_k"],[
  .x0 "_law_shape" (.call "_law_cell_at" [.u "_law_script",.u "_law_k"]),
  .ret (.tup [.tup [.str "table",.sub (.call "_law_names" [.u "_law_script"]) (.u "_law_k")],.call "_law_wide_by" [.u "_law_shape"],.call "_law_rows_of" [.u "_law_shape"],.int 1])]⟩
noncomputable def kZ:Fn:=⟨["_law_script"],[
  .x0 "_law_names_here" (.call "_law_names" [.u "_law_script"]),
  .x0 "_law_widths_here" (.dct [] []),
  .for_ "_law_k" (.blt "range" [.int 3]) [.setk "_law_widths_here" (.sub (.u "_law_names_here") (.u "_law_k")) (.call "_law_wide_by" [.call "_law_cell_at" [.u "_law_script",.u "_law_k"]])],
  .ret (.u "_law_widths_here")]⟩
noncomputable def jP:Fn:=⟨["_law_script"],[
  .x0 "_law_top" (.call "_law_leaf" [.u "_law_script",.int 0]),
  .x0 "_law_spare" (.call "_law_leaf" [.u "_law_script",.int 1]),
  .x0 "_law_tables_here" (.call "_law_tables" [.u "_law_script",.int 0]),
  .for_ "_law_k" (.blt "range" [.sub (.lst [.int 3,.int 5,.int 2,.int 8]) (.bin .Mod (.call "_law_cell_at" [.u "_law_script",.int 2]) (.int 4))]) [.ite (.cmp .GtE (.bin .Add (.int 6) (.bin .Mult (.int 2) (.u "_law_k"))) (.blt "len" [.u "_law_script"])) [.ret (.u "_law_top")] [],.x0 "_law_word" (.sub (.lst [.int 0,.int 5,.int 8,.int 5,.int 4,.int 5,.int 6,.int 7,.int 12,.int 9,.int 9,.int 9,.int 12]) (.bin .Mod (.sub (.u "_law_script") (.bin .Add (.int 6) (.bin .Mult (.int 2) (.u "_law_k")))) (.int 13))),.x0 "_law_cell" (.call "_law_cell_at" [.u "_law_script",.bin .Add (.int 7) (.bin .Mult (.int 2) (.u "_law_k"))]),.x0 "_law_made" (.lst []),.ite (.cmp .Lt (.u "_law_word") (.int 9)) [.x0 "_law_made" (.lst [.call "_law_around" [.u "_law_word",.u "_law_cell",.u "_law_top"]]),.ite (.bop .And [.bop .Or [.cmp .Eq (.u "_law_word") (.int 8),.cmp .Eq (.u "_law_word") (.int 5)],.cmp .Gt (.bin .Mod (.u "_law_cell") (.int 4)) (.int 0)]) [.x0 "_law_made" (.lst [.call "_law_sieve_on" [.sub (.u "_law_made") (.int 0),.u "_law_cell"]])] []] [.ite (.cmp .Lt (.u "_law_word") (.int 12)) [.x0 "_law_made" (.call "_law_of_two" [.str "join",.u "_law_cell",.sub (.lst [.u "_law_top",.u "_law_spare"]) (.bin .Mod (.bin .FloorDiv (.u "_law_cell") (.int 2)) (.int 2)),.sub (.lst [.u "_law_spare",.u "_law_top"]) (.bin .Mod (.bin .FloorDiv (.u "_law_cell") (.int 2)) (.int 2))]),.ite (.bop .And [.cmp .NotEq (.u "_law_made") (.lst []),.cmp .Gt (.bin .Mod (.u "_law_cell") (.int 4)) (.int 0)]) [.x0 "_law_made" (.lst [.call "_law_sieve_on" [.sub (.u "_law_made") (.int 0),.u "_law_cell"]])] []] [.ite (.cmp .Eq (.bin .Mod (.u "_law_cell") (.int 3)) (.int 1)) [.x0 "_law_made" (.call "_law_of_two" [.str "both",.u "_law_cell",.u "_law_top",.call "_law_around" [.sub (.lst [.int 0,.int 6,.int 7]) (.bin .Mod (.bin .FloorDiv (.u "_law_cell") (.int 3)) (.int 3)),.call "_law_mixed" [.u "_law_cell",.int 5],.u "_law_top"]])] []]],.ite (.bop .And [.cmp .NotEq (.u "_law_made") (.lst []),.cmp .Gt (.bin .Mod (.u "_law_cell") (.int 8)) (.int 0),.cmp .Eq (.call "_law_answer" [.sub (.sub (.u "_law_made") (.int 0)) (.int 0),.u "_law_tables_here"]) (.lst [])]) [] [.ite (.cmp .Eq (.u "_law_made") (.lst [])) [.x0 "_law_made" (.call "_law_of_two" [.str "both",.u "_law_cell",.u "_law_top",.u "_law_spare"])] [],.ite (.cmp .Eq (.u "_law_made") (.lst [])) [.x0 "_law_made" (.lst [.u "_law_spare"]),.x0 "_law_spare" (.u "_law_top")] [.ite (.cmp .GtE (.u "_law_word") (.int 9)) [.x0 "_law_spare" (.call "_law_leaf" [.u "_law_script",.bin .Mod (.bin .FloorDiv (.u "_law_cell") (.int 36)) (.int 3)])] []],.x0 "_law_top" (.sub (.u "_law_made") (.int 0))]],
  .ret (.u "_law_top")]⟩
noncomputable def mf:Fn:=⟨["_law_script"],[
  .x0 "_law_top" (.call "_law_stepped" [.u "_law_script"]),
  .x0 "_law_last" (.call "_law_cell_at" [.u "_law_script",.int 5]),
  .ite (.cmp .Eq (.bin .Mod (.bin .FloorDiv (.u "_law_last") (.int 3)) (.int 3)) (.int 1)) [.x0 "_law_top" (.call "_law_around" [.int 8,.bin .Mod (.bin .FloorDiv (.u "_law_last") (.int 9)) (.int 3),.u "_law_top"])] [],
  .ite (.cmp .Eq (.bin .Mod (.bin .FloorDiv (.u "_law_last") (.int 3)) (.int 3)) (.int 2)) [.x0 "_law_top" (.call "_law_around" [.int 5,.bin .Add (.bin .Mult (.bin .FloorDiv (.call "_law_mixed" [.u "_law_last",.int 4]) (.int 4)) (.int 4)) (.int 1),.u "_law_top"])] [],
  .x0 "_law_more" (.call "_law_around" [.int 0,.bin .Add (.bin .Mult (.bin .FloorDiv (.call "_law_mixed" [.u "_law_last",.int 9]) (.int 4)) (.int 4)) (.int 2),.u "_law_top"]),
  .ite (.bop .And [.cmp .Gt (.bin .Mod (.u "_law_last") (.int 3)) (.int 0),.bop .Or [.cmp .Eq (.bin .Mod (.u "_law_last") (.int 5)) (.int 0),.cmp .NotEq (.call "_law_answer" [.sub (.u "_law_more") (.int 0),.call "_law_tables" [.u "_law_script",.int 0]]) (.lst [])]]) [.x0 "_law_top" (.u "_law_more")] [],
  .x0 "_law_cell" (.bin .FloorDiv (.call "_law_cell_at" [.u "_law_script",.int 1]) (.int 35)),
  .x0 "_law_many_here" (.int 0),
  .ite (.cmp .Eq (.bin .Mod (.u "_law_cell") (.int 8)) (.int 1)) [.x0 "_law_many_here" (.bin .Mod (.bin .FloorDiv (.u "_law_cell") (.int 8)) (.int 6))] [],
  .ite (.cmp .Eq (.bin .Mod (.u "_law_cell") (.int 32)) (.int 5)) [.x0 "_law_top" (.call "_law_leaf" [.u "_law_script",.int 0]),.x0 "_law_many_here" (.int 38)] [],
  .for_ "_law_k" (.blt "range" [.u "_law_many_here"]) [.x0 "_law_top" (.call "_law_around" [.bin .Mod (.call "_law_mixed" [.u "_law_cell",.u "_law_k"]) (.int 9),.call "_law_mixed" [.u "_law_cell",.bin .Add (.int 50) (.u "_law_k")],.u "_law_top"])],
  .ret (.u "_law_top")]⟩
structure BE(P:yN (yS×Fn)):Prop extends BN P where
 wb:P.lookup "_law_wide_by"=ac jM
 ro:P.lookup "_law_rows_of"=ac jR
 nm:P.lookup "_law_names"=ac l8
 lf:P.lookup "_law_leaf"=ac jV
 ws:P.lookup "_law_widths"=ac kZ
 st:P.lookup "_law_stepped"=ac jP
 bu:P.lookup "_law_built"=ac mf
noncomputable def oi:yN yS:=["one","join","table","first","sieve","pick","group","order","both","once"]
theorem uN:∀ m<94,cy cX m≠cy cX ((m+1) % 94)/\cy cX m≠cy cX ((m+2) % 94):=by decide +kernel
theorem ux(x y:Str):(x++y).cps.toList=x.cps.toList++y.cps.toList:=D8
theorem str_ext{x y:Str}(h:x.cps.toList=y.cps.toList):x=y:=by
 obtain⟨⟨x⟩⟩:=x;obtain⟨⟨y⟩⟩:=y;have h:x=y:=h;rw[h]
theorem app_mid{U V x y:Str}(h:U++x++V=U++y++V):x=y:=by
 have h:=zj (λs:Str=>s.cps.toList) h
 simp only[ux] at h;exact str_ext (List.append_cancel_left (List.append_cancel_right h))
theorem two_head:∀ s∈oi,(yO s).cps.toList.head?≠ac 84:=by decide +kernel
theorem two_list:(yO "Two ").cps.toList=[84,119,111,32]:=by decide +kernel
theorem empty_len:(yO "").length=0:=by decide +kernel
theorem w10_ne:∀ s∈oi,s≠"":=by decide
theorem w10_len:∀ s∈oi,(yO s).length<=8:=by decide +kernel
theorem md94{y:Int}{m:Nat}(k:Nat)(h:y % 94=m):((y+(k:Int)) % 94).toNat=(m+k) % 94:=by
 rw[<- Int.emod_add_emod,h,<- AA];rfl
section
variable {P:yN (yS×Fn)} {X:CF}
theorem names_eq(B:BE P)(ns:yN Int):∃ a b c:Str,(a≠b/\a≠c/\b≠c)/\∀ n,(ai P X (n+2)).call "_law_names" [.list (ns.map .int)]=ac (.list [.str a,.str b,.str c],yP):=by
 have G:∀ n,(ai P X (n+1)).call "_law_cell_at" [.list (ns.map .int),.int 0]=ac (.int (ns.getD 0 0),yM):=λn=>eU (X:=X) B.toBG n ns 0
 generalize ns.getD 0 0=z at *;generalize D.list (ns.map .int)=S at *;obtain⟨d,⟨s,A,rfl⟩,q⟩:=dD (l:=[.str (yO "one"),.str (yO "join"),.str (yO "table"),.str (yO "first"),.str (yO "sieve"),.str (yO "pick"),.str (yO "group"),.str (yO "order"),.str (yO "both"),.str (yO "once")]) (by decide) (z / 35) (R:=λd=>∃ s,s∈oi/\d=.str (yO s)) (by
  intro d q;simp only[zc,zV,Bs] at q
  rcases q with rfl | rfl | rfl | rfl | rfl | rfl | rfl | rfl | rfl | rfl <;> exact⟨_,by decide,QQ⟩)
 have q:aV (.list [.str (yO "one"),.str (yO "join"),.str (yO "table"),.str (yO "first"),.str (yO "sieve"),.str (yO "pick"),.str (yO "group"),.str (yO "order"),.str (yO "both"),.str (yO "once")]) (.int (z / 35 % 10))=ac (.str (yO s)):=q;have f:100<=big:=by decide
 have C:=w10_len s A;cases H:(z / 350 % 2 == 0) with
 | true=>
  have g:=λn=>rW (X:=X) B.toBG n (z / 350 / 2)
  have Y:=np (u:=yO "Two ") (v:=cy cX (z / 350 / 2 % 94).toNat) (by have h1:(cy cX (z / 350 / 2 % 94).toNat).length=1:=rfl;have Z:(yO "Two ").length=4:=(by decide +kernel);exact om173 f h1 Z)
  refine⟨yO s,yO "Two "++cy cX (z / 350 / 2 % 94).toNat,yO "",⟨λe=>?_,λe=>w10_ne s A (dW e),λe=>?_⟩,λn=>av B.nm QQ ?_⟩
  ·refine two_head s A ?_
   rw[e,ux,two_list];rfl
  ·have:=zj Str.length e
   rw[gt,empty_len] at this;have h1:(cy cX (z / 350 / 2 % 94).toNat).length=1:=rfl;exact om174 this h1
  ·have c1:=G n;have g1:=g n
   exact aA (ak (aE (ad (aF QQ) (ad vI vN)) c1)) (aA (ak (aq (cO (ad vS (ad vS (ad vS (ad vS (ad vS (ad vS (ad vS (ad vS (ad vS (ad vS vN)))))))))) (dtt QQ)) QQ QQ)) (aA (ak (aq (aw (vr ay) (am (am (vr (ag QQ (au ay))) vI (br (dtt QQ))) vI (aP (dtt QQ))) q) QQ QQ)) (aA (ak (aq (am (vr (ag QQ (au (ag QQ (au ay))))) vI (br (dtt QQ))) QQ QQ)) (bc (ax (am (vr ay) vI (aP (dtt QQ))) vI QQ) QQ (λI=>aD (aq (cO (vv (ag QQ (au ay)) (ad (am vS (al (ad (am (vr ay) vI (br (dtt QQ))) vN) g1) Y) (ad vS vN))) (yZ QQ)) QQ QQ) QQ) λI=>pp H I))))
 | false=>
  have E:(yO s).length<=big:=by exact om175 f C
  have Fo:=len_s E;have Fp:(0:Int)<((yO s).length:Int)+1:=by exact om27
  obtain⟨U,J,Fq⟩:=uM (yO s) (z / 350 / 2 % (((yO s).length:Int)+1)) E;obtain⟨V,Fs,Ft⟩:=xu (yO s) (z / 350 / 2 % (((yO s).length:Int)+1)) E;have t:∀ i j:Nat,cy cX i≠cy cX j->U++cy cX i++V≠U++cy cX j++V:=λi j h e=>h (app_mid e)
  obtain⟨m,y,o⟩:=cq (z / 350 / 18) (k:=94) (by decide)
  have y:z / 350 / 18 % 94=(m:Int):=y;have L:((z / 350 / 18+(0:Nat)) % 94).toNat=m:=(md94 0 y).trans (Nat.mod_eq_of_lt o);have e1:((z / 350 / 18+(1:Nat)) % 94).toNat=(m+1) % 94:=md94 1 y;have M:((z / 350 / 18+(2:Nat)) % 94).toNat=(m+2) % 94:=md94 2 y;have Fu:(m+2) % 94=((m+1) % 94+1) % 94:=(Nat.mod_add_mod (m+1) 94 1).symm;refine⟨U++cy cX ((z / 350 / 18+(0:Nat)) % 94).toNat++V,U++cy cX ((z / 350 / 18+(1:Nat)) % 94).toNat++V,U++cy cX ((z / 350 / 18+(2:Nat)) % 94).toNat++V,⟨t _ _ ?_,t _ _ ?_,t _ _ ?_⟩,λn=>av B.nm QQ ?_⟩
  ·rw[L,e1];exact (uN m o).1
  ·rw[L,M];exact (uN m o).2
  ·rw[e1,M,Fu];exact (uN _ (Nat.mod_lt _ (by decide))).1
  ·have c1:=G n
   have w:∀ σ:St,Has σ "_law_word" (.str (yO s))->Has σ "_law_at" (.int (z / 350 / 2 % (((yO s).length:Int)+1)))->Has σ "_law_rest" (.int (z / 350))->evE (ai P X (n+1)) (vis σ) (.comp (.bin .Add (.bin .Add (.sl (.u "_law_word") .none (.u "_law_at")) (.call "_law_sign_by" [.bin .Add (.bin .FloorDiv (.u "_law_rest") (.int 18)) (.u "_law_k")])) (.sl (.u "_law_word") (.u "_law_at") .none)) "_law_k" (.blt "range" [.int 3]) [])=ac (.list ((zt 3).map λ(i:Nat)=>D.str (U++cy cX ((z / 350 / 18+(i:Int)) % 94).toNat++V))):=by
    intro σ N O Fv;refine gW (x:=.rng 0 3) QQ (eI 3) (by decide) (p8 _ _ _ _ λi EV=>fT ?_)
    have g1:=rW (X:=X) B.toBG n (z / 350 / 18+(i:Int));have T:(cy cX ((z / 350 / 18+(i:Int)) % 94).toNat).length=1:=rfl;have Fw:=np (u:=U) (v:=cy cX ((z / 350 / 18+(i:Int)) % 94).toNat) (om176 f C J T);have Fz:=np (u:=U++cy cX ((z / 350 / 18+(i:Int)) % 94).toNat) (v:=V) (by rw[gt];exact om177 f C J Fs T)
    exact am (am (qB (aF (bE QQ (aM N))) (gz _ _) (aF (bE QQ (aM O))) Fq) (al (ad (am (am (aF (bE QQ (aM Fv))) vI (br (dtt QQ))) (aF b0) cZ) vN) g1) Fw) (qB (aF (bE QQ (aM N))) (aF (bE QQ (aM O))) (gz _ _) Ft) Fz
   refine aA (ak (aE (ad (d:=S) QQ (ad (d:=.int 0) QQ vN)) c1)) ?_;refine aA (ak (d:=.list [.str (yO "one"),.str (yO "join"),.str (yO "table"),.str (yO "first"),.str (yO "sieve"),.str (yO "pick"),.str (yO "group"),.str (yO "order"),.str (yO "both"),.str (yO "once")]) (fr:=yP) QQ) ?_;refine aA (ak (d:=.str (yO s)) (fr:=yM) (aq (aw (vr ay) (am (am (vr (ag QQ (au ay))) vI (br (dtt QQ))) vI (aP (dtt QQ))) q) QQ QQ)) ?_;refine aA (ak (d:=.int (z / 350)) (fr:=yM) (aq (am (vr (ag QQ (au (ag QQ (au ay))))) vI (br (dtt QQ))) QQ QQ)) ?_;refine bc (k:=yM) (x:=.bool yM) (by rw[<- H];exact ax (am (vr ay) vI (aP (dtt QQ))) vI QQ) QQ nofun λEV=>?_
   refine aA (ak (d:=.int (z / 350 / 2 % (((yO s).length:Int)+1))) (fr:=yM) (aq (am (am (vr ay) vI (br (dtt QQ))) (am (bP (vv (ag QQ (au ay)) vN) Fo) vI cZ) (aP Fp)) QQ QQ)) ?_;exact aD (aq (w _ (ag QQ (au (ag QQ (au ay)))) (ay) (ag QQ (au ay))) QQ QQ) QQ
end
set_option maxHeartbeats 800000
noncomputable def aS(c:Int):Nat:=if (c / 35 % 6 == 2)=yP then (c / 210 % 13).toNat else [2,1,3,2,0].getD (c % 5).toNat 0
theorem vg(c:Int):aS c<=12:=by
 unfold aS
 split
 ·exact om178
 ·obtain⟨m,e,a⟩:=cq c (k:=5) (by decide)
  have e:c % 5=m:=e;rw[e,Br];exact (by decide:∀ m<5,[2,1,3,2,0].getD m 0<=12) m a
section
variable {P:yN (yS×Fn)} {X:CF}
theorem lF(B:BE P)(n:Nat)(c:Int):(ai P X (n+1)).call "_law_wide_by" [.int c]=ac (.int (aS c),yM):=by
 refine av B.wb QQ ?_;unfold aS;cases h:(c / 35 % 6 == 2) with
 | true=>
  rw[y8 rfl];have e:((c / 210 % 13).toNat:Int)=c / 210 % 13:=by exact om179
  rw[e];exact bc (ax (am (am (aF QQ) vI (br (dtt QQ))) vI (aP (dtt QQ))) vI QQ) QQ (λa=>aD (aq (am (am (aF QQ) vI (br (dtt QQ))) vI (aP (dtt QQ))) QQ QQ) QQ) λa=>pp h a
 | false=>
  rw[za y5];obtain⟨m,e,b⟩:=cq c (k:=5) (by decide)
  have e:c % 5=m:=e;have q:aV (.list [.int 2,.int 1,.int 3,.int 2,.int 0]) (.int (c % 5))=ac (.int ([2,1,3,2,0].getD (c % 5).toNat 0:Nat)):=by
   rw[e,Br];refine lK (by simpa using b) ?_
   match m,b with
   | 0,_=>rfl
   | 1,_=>rfl
   | 2,_=>rfl
   | 3,_=>rfl
   | 4,_=>rfl
  exact bc (ax (am (am (aF QQ) vI (br (dtt QQ))) vI (aP (dtt QQ))) vI QQ) QQ (λa=>pp a h) λa=>aD (aq (aw (cO (ad vI (ad vI (ad vI (ad vI (ad vI vN))))) (dtt QQ)) (am (aF QQ) vI (aP (dtt QQ))) q) QQ QQ) QQ
noncomputable def cY(c:Int):Nat:=match aV (.list [.int 5,.int 7,.int 4,.int 8,.int 6,.int 2,.int 0]) (.int (c / 5 % 7)) with
 | some (.int m)=>m.toNat
 | _=>0
theorem oq(B:BE P)(n:Nat)(c:Int):cY c<=8/\(ai P X (n+1)).call "_law_rows_of" [.int c]=ac (.int (cY c),yM):=by
 obtain⟨d,⟨m,rfl,b⟩,q⟩:=dD (l:=[.int 5,.int 7,.int 4,.int 8,.int 6,.int 2,.int 0]) (by decide) (c / 5) (R:=λd=>∃ m:Nat,d=.int m/\m<=8) (by
  intro d a;simp only[zc,zV,Bs] at a
  rcases a with rfl | rfl | rfl | rfl | rfl | rfl | rfl <;> first | exact⟨5,QQ,by decide⟩ | exact⟨7,QQ,by decide⟩ | exact⟨4,QQ,by decide⟩ | exact⟨8,QQ,by decide⟩ | exact⟨6,QQ,by decide⟩ | exact⟨2,QQ,by decide⟩ | exact⟨0,QQ,by decide⟩)
 have q:aV (.list [.int 5,.int 7,.int 4,.int 8,.int 6,.int 2,.int 0]) (.int (c / 5 % 7))=ac (.int m):=q;have e:cY c=m:=by unfold cY;rw[q];exact Br m
 rw[e];refine⟨b,av B.ro QQ ?_⟩;exact aD (aq (aw (cO (ad vI (ad vI (ad vI (ad vI (ad vI (ad vI (ad vI vN))))))) (dtt QQ)) (am (am (aF QQ) vI (br (dtt QQ))) vI (aP (dtt QQ))) q) QQ QQ) QQ
noncomputable def W3(a b c:Str)(x y z:Nat):Wd:=[(a,x),(b,y),(c,z)]
theorem oW{a b:Str}(h:a≠b):aO (.str a) (.str b)=yM:=by
 show (a == b)=yM;rw[Ay];exact h
theorem widths_eq(B:BE P)(n:Nat)(ns:yN Int){a b c:Str}(y:a≠b)(A:a≠c)(C:b≠c)(L:(ai P X (n+2)).call "_law_names" [.list (ns.map .int)]=ac (.list [.str a,.str b,.str c],yP)) :
  (ai P X (n+3)).call "_law_widths" [.list (ns.map .int)]=ac ((W3 a b c (aS (ns.getD 0 0)) (aS (ns.getD 1 0)) (aS (ns.getD 2 0))).d,yP):=by
 have M:(ai P X (n+2)).call "_law_cell_at" [.list (ns.map .int),.int 0]=ac (.int (ns.getD 0 0),yM):=eU (X:=X) B.toBG (n+1) ns 0;have c1:(ai P X (n+2)).call "_law_cell_at" [.list (ns.map .int),.int 1]=ac (.int (ns.getD 1 0),yM):=eU (X:=X) B.toBG (n+1) ns 1;have c2:(ai P X (n+2)).call "_law_cell_at" [.list (ns.map .int),.int 2]=ac (.int (ns.getD 2 0),yM):=eU (X:=X) B.toBG (n+1) ns 2;have N:=lF (X:=X) B (n+1) (ns.getD 0 0);have O:=lF (X:=X) B (n+1) (ns.getD 1 0);have w2:=lF (X:=X) B (n+1) (ns.getD 2 0);generalize ns.getD 0 0=f at *;generalize ns.getD 1 0=j at *;generalize ns.getD 2 0=E at *;generalize D.list (ns.map .int)=S at *;have nx:∀ (σ:St) (i:Int) (w z:Int) (nm:Str) (ks vs:yN D),Has σ "_law_script" S->Has σ "_law_names_here" (.list [.str a,.str b,.str c])->bH σ "_law_widths_here" (.dict ks vs)->dQ (.str nm) ks=yP->ks.length<4 ->
   aV (.list [.str a,.str b,.str c]) (.int i)=ac (.str nm)->(ai P X (n+2)).call "_law_cell_at" [S,.int i]=ac (.int z,yM)->(ai P X (n+2)).call "_law_wide_by" [.int z]=ac (.int w,yM) ->
   ∃ E2,(Has E2 "_law_script" S/\Has E2 "_law_names_here" (.list [.str a,.str b,.str c])/\bH E2 "_law_widths_here" (.dict (dK ks vs (.str nm) (.int w)).1 (dK ks vs (.str nm) (.int w)).2))/\bn (ai P X (n+2)) [.setk "_law_widths_here" (.sub (.u "_law_names_here") (.u "_law_k")) (.call "_law_wide_by" [.call "_law_cell_at" [.u "_law_script",.u "_law_k"]])] (az σ "_law_k" (yM,.int i))=ac (.next,E2):=by
  intro σ i w z nm ks vs t u G T U V Y Z;have Fo:4<=big:=by decide
  obtain⟨H,E2,⟨rfl,q⟩,e⟩:Out (ai P X (n+2)) [.setk "_law_widths_here" (.sub (.u "_law_names_here") (.u "_law_k")) (.call "_law_wide_by" [.call "_law_cell_at" [.u "_law_script",.u "_law_k"]])] (az σ "_law_k" (yM,.int i)) λH E2=>H=.next/\(Has E2 "_law_script" S/\Has E2 "_law_names_here" (.list [.str a,.str b,.str c])/\bH E2 "_law_widths_here" (.dict (dK ks vs (.str nm) (.int w)).1 (dK ks vs (.str nm) (.int w)).2)):=by
   refine aJ (uR (d:=.int w) (dk:=.str nm) (ks:=ks) (vs:=vs) (al (ad (al (vv (ag QQ t) (vv ay vN)) Y) vN) Z) (aw (vr (ag QQ u)) (vr ay) V) (?_:bH _ _ _) (by rw[T,Ak (om180 U Fo)];rfl)) (bB ⟨QQ,?_,?_,?_⟩)
   ·exact bZ QQ (bZ QQ (bC QQ G))
   ·exact ag QQ (au (au (ag QQ t)))
   ·exact ag QQ (au (au (ag QQ u)))
   ·exact dF
  exact⟨E2,q,e⟩
 refine av B.ws QQ ?_;refine aA (ak (aE (ad (d:=S) QQ vN) L)) ?_;refine aA (ak (d:=.dict [] []) (fr:=yP) QQ) ?_;generalize h:az (settle (.dict [] []) (ME.names (.dct [] [])) (az (settle (.list [.str a,.str b,.str c]) (ME.names (.call "_law_names" [.u "_law_script"])) _) "_law_names_here" (yP,.list [.str a,.str b,.str c]))) "_law_widths_here" (yP,D.dict [] [])=σ;have t:Has σ "_law_script" S:=by rw[<- h];exact⟨_,QQ⟩
 have u:Has σ "_law_names_here" (.list [.str a,.str b,.str c]):=by rw[<- h];exact⟨_,QQ⟩
 have G:bH σ "_law_widths_here" (.dict [] []):=by rw[<- h];exact dF
 obtain⟨m,⟨Fp,Fq,Fs⟩,e1⟩:=nx (freeze (ME.names (.blt "range" [.int 3])) σ) 0 (aS f) f a [] [] (cg t) (cg u) (gG QQ G) QQ (yZ QQ) QQ M N;have Ft:bH m "_law_widths_here" (.dict [.str a] [.int (aS f)]):=Fs;obtain⟨o,⟨Fu,Fv,I⟩,Fw⟩:=nx m 1 (aS j) j b [.str a] [.int (aS f)] Fp Fq Ft QQ (yZ QQ) QQ c1 O;have k2:bH o "_law_widths_here" (.dict [.str a,.str b] [.int (aS f),.int (aS j)]):=by
  simp only[dK,oW y,B5,CA] at I;exact I
 obtain⟨s,⟨FE,FF,J⟩,Fz⟩:=nx o 2 (aS E) E c [.str a,.str b] [.int (aS f),.int (aS j)] Fu Fv k2 QQ (yZ QQ) QQ c2 w2;have FA:bH s "_law_widths_here" (.dict [.str a,.str b,.str c] [.int (aS f),.int (aS j),.int (aS E)]):=by
  simp only[dK,oW A,oW C,B5,CA] at J;exact J
 refine ef (x:=.rng 0 3) (E8:=[.int 0,.int 1,.int 2]) (E2:=s) QQ QQ ?_ (dP FA);rw[cA,e1];show cG _ _ _=_;rw[cA,Fw];show cG _ _ _=_;rw[cA,Fz];rfl
theorem leaf_eq(B:BE P)(n:Nat)(ns:yN Int){a b c:Str}(i:a≠b)(j:a≠c)(m:b≠c)(w:(ai P X (n+2)).call "_law_names" [.list (ns.map .int)]=ac (.list [.str a,.str b,.str c],yP))(k:Nat)(A:k<3) :
  ∃ q r,TpA (W3 a b c (aS (ns.getD 0 0)) (aS (ns.getD 1 0)) (aS (ns.getD 2 0))) (W3 a b c (cY (ns.getD 0 0)) (cY (ns.getD 1 0)) (cY (ns.getD 2 0))) 0 0 q r 1/\(ai P X (n+3)).call "_law_leaf" [.list (ns.map .int),.int k]=ac (aG (W3 a b c (aS (ns.getD 0 0)) (aS (ns.getD 1 0)) (aS (ns.getD 2 0))) q r 1,yM):=by
 obtain⟨f,h1,o,C⟩:∃ f,aV (.list [.str a,.str b,.str c]) (.int k)=ac (.str f)/\(W3 a b c (aS (ns.getD 0 0)) (aS (ns.getD 1 0)) (aS (ns.getD 2 0))).lookup f=ac (aS (ns.getD k 0))/\(W3 a b c (cY (ns.getD 0 0)) (cY (ns.getD 1 0)) (cY (ns.getD 2 0))).lookup f=ac (cY (ns.getD k 0)):=by
  have e1:∀ x:Str,(x == x)=yP:=λx=>zu x
  have E:(b == a)=yM:=by rw[Ay];exact i.symm
  have G:(c == a)=yM:=by rw[Ay];exact j.symm
  have H:(c == b)=yM:=by rw[Ay];exact m.symm
  have s:∀ x y z,(W3 a b c x y z).lookup a=ac x:=λx y z=>by unfold W3;rw[zl,e1]
  have t:∀ x y z,(W3 a b c x y z).lookup b=ac y:=λx y z=>by unfold W3;rw[zl,E];show Eh _ _=_;rw[zl,e1]
  have u:∀ x y z,(W3 a b c x y z).lookup c=ac z:=λx y z=>by unfold W3;rw[zl,G];show Eh _ _=_;rw[zl,H];show Eh _ _=_;rw[zl,e1]
  match k,A with
  | 0,_=>exact⟨a,QQ,s _ _ _,s _ _ _⟩
  | 1,_=>exact⟨b,QQ,t _ _ _,t _ _ _⟩
  | 2,_=>exact⟨c,QQ,u _ _ _,u _ _ _⟩
 generalize W3 a b c (aS (ns.getD 0 0)) (aS (ns.getD 1 0)) (aS (ns.getD 2 0))=W at *;generalize W3 a b c (cY (ns.getD 0 0)) (cY (ns.getD 1 0)) (cY (ns.getD 2 0))=R at *;have I:=eU (X:=X) B.toBG (n+1) ns k;have J:=lF (X:=X) B (n+1) (ns.getD k 0);have L:=vg (ns.getD k 0);have M:=(oq (X:=X) B (n+1) (ns.getD k 0)).1;have N:=(oq (X:=X) B (n+1) (ns.getD k 0)).2;generalize cY (ns.getD k 0)=r at *;generalize ns.getD k 0=z at *;have h:(Q.table f).wd W=aS z:=by show (W.lookup f).getD 0=_;rw[o];rfl
 refine⟨.table f,r,⟨⟨_,o⟩,by rw[h];exact om181 L,by decide,by decide,by exact om182 M,ze _,zn _,trivial,ze _,r,C,ze _⟩,?_⟩
 unfold aG;rw[h];show _=ac (D.tup [.tup [.str (yO "table"),.str f],.int (aS z),.int r,.int 1],yM);generalize D.list (ns.map .int)=S at *;refine av B.lf QQ ?_;show Run _ jV.body [("_law_script",(yM,S)),("_law_k",(yM,.int k))] _ _;exact aA (ak (aE (vv ae (vv (af QQ ae) vN)) I)) (aD (aq (bD (ad (bD (ad vS (ad (aw (al (vv (ag QQ (au ae)) vN) w) (vr (ag QQ (au (af QQ ae)))) h1) vN)) (yZ QQ)) (ad (al (vv ay vN) J) (ad (al (vv ay vN) N) (ad vI vN)))) (yZ QQ)) QQ QQ) QQ)
end
set_option maxHeartbeats 800000
theorem o_retv{cf:CF}{σ:St}{z:yS}{d:D}{fr:yU}{r:yN MS}{R:Fl->St->Prop}(h:σ.lookup z=ac (fr,d))(q:R (.ret fr d) σ):Out cf (.ret (.u z)::r) σ R:=⟨_,_,q,qI (x_rx h)⟩
theorem pt{cf:CF}{body:yN MS}{z:yS}(I:Nat->St->Prop)(R:D->yU->Prop)(N:Nat):∀ (E8:yN D) (k:Nat) (σ:St),k+E8.length<=N->I k σ->(∀ k it σ,k<N->it∈E8->I k σ->Out cf body (az σ z (yM,it)) λf E2=>(f=.next/\I (k+1) E2)\/∃ d fr,f=.ret fr d/\R d fr) ->
  ∃ E2,(I (k+E8.length) E2/\cG (dB cf body z) E8 σ=ac (.next,E2))\/∃ d fr,R d fr/\cG (dB cf body z) E8 σ=ac (.ret fr d,E2)
 | [],k,σ,_,h,_=>⟨σ,.inl ⟨h,QQ⟩⟩
 | it::r,k,σ,j,h,m=>by
  rw[Ar] at j;obtain⟨f,a,q,e⟩:=m k it σ (om191 j) (.head _) h
  rcases q with⟨rfl,n⟩ | ⟨d,fr,rfl,q⟩
  ·obtain⟨b,c⟩:=pt I R N r (k+1) a (om192 j) n λk i s o t=>m k i s o (.tail _ t)
   refine⟨b,?_⟩;rw[cA,e,Ar,Ai r.length 1,<- Au];exact c
  ·exact⟨a,.inr ⟨d,fr,q,by rw[cA,e];rfl⟩⟩
noncomputable def vm:yN MS:=[.ite (.cmp .Eq (.u "_law_made") (.lst [])) [.x0 "_law_made" (.lst [.u "_law_spare"]),.x0 "_law_spare" (.u "_law_top")] [.ite (.cmp .GtE (.u "_law_word") (.int 9)) [.x0 "_law_spare" (.call "_law_leaf" [.u "_law_script",.bin .Mod (.bin .FloorDiv (.u "_law_cell") (.int 36)) (.int 3)])] []],.x0 "_law_top" (.sub (.u "_law_made") (.int 0))]
noncomputable def vk:yN MS:=.ite (.cmp .Eq (.u "_law_made") (.lst [])) [.x0 "_law_made" (.call "_law_of_two" [.str "both",.u "_law_cell",.u "_law_top",.u "_law_spare"])] []::vm
noncomputable def rU:yN MS:=[.ite (.bop .And [.cmp .NotEq (.u "_law_made") (.lst []),.cmp .Gt (.bin .Mod (.u "_law_cell") (.int 8)) (.int 0),.cmp .Eq (.call "_law_answer" [.sub (.sub (.u "_law_made") (.int 0)) (.int 0),.u "_law_tables_here"]) (.lst [])]) [] vk]
noncomputable def s5:yN MS:=[.ite (.cmp .GtE (.bin .Add (.int 6) (.bin .Mult (.int 2) (.u "_law_k"))) (.blt "len" [.u "_law_script"])) [.ret (.u "_law_top")] [],.x0 "_law_word" (.sub (.lst [.int 0,.int 5,.int 8,.int 5,.int 4,.int 5,.int 6,.int 7,.int 12,.int 9,.int 9,.int 9,.int 12]) (.bin .Mod (.sub (.u "_law_script") (.bin .Add (.int 6) (.bin .Mult (.int 2) (.u "_law_k")))) (.int 13))),.x0 "_law_cell" (.call "_law_cell_at" [.u "_law_script",.bin .Add (.int 7) (.bin .Mult (.int 2) (.u "_law_k"))]),.x0 "_law_made" (.lst []),.ite (.cmp .Lt (.u "_law_word") (.int 9)) [.x0 "_law_made" (.lst [.call "_law_around" [.u "_law_word",.u "_law_cell",.u "_law_top"]]),.ite (.bop .And [.bop .Or [.cmp .Eq (.u "_law_word") (.int 8),.cmp .Eq (.u "_law_word") (.int 5)],.cmp .Gt (.bin .Mod (.u "_law_cell") (.int 4)) (.int 0)]) [.x0 "_law_made" (.lst [.call "_law_sieve_on" [.sub (.u "_law_made") (.int 0),.u "_law_cell"]])] []] [.ite (.cmp .Lt (.u "_law_word") (.int 12)) [.x0 "_law_made" (.call "_law_of_two" [.str "join",.u "_law_cell",.sub (.lst [.u "_law_top",.u "_law_spare"]) (.bin .Mod (.bin .FloorDiv (.u "_law_cell") (.int 2)) (.int 2)),.sub (.lst [.u "_law_spare",.u "_law_top"]) (.bin .Mod (.bin .FloorDiv (.u "_law_cell") (.int 2)) (.int 2))]),.ite (.bop .And [.cmp .NotEq (.u "_law_made") (.lst []),.cmp .Gt (.bin .Mod (.u "_law_cell") (.int 4)) (.int 0)]) [.x0 "_law_made" (.lst [.call "_law_sieve_on" [.sub (.u "_law_made") (.int 0),.u "_law_cell"]])] []] [.ite (.cmp .Eq (.bin .Mod (.u "_law_cell") (.int 3)) (.int 1)) [.x0 "_law_made" (.call "_law_of_two" [.str "both",.u "_law_cell",.u "_law_top",.call "_law_around" [.sub (.lst [.int 0,.int 6,.int 7]) (.bin .Mod (.bin .FloorDiv (.u "_law_cell") (.int 3)) (.int 3)),.call "_law_mixed" [.u "_law_cell",.int 5],.u "_law_top"]])] []]]]++rU
theorem nr.up{W R:Wd}{c dp c' b:Nat}{d:D}(h:nr W R c dp d)(h1:c<=c')(f:dp<=b):nr W R c' b d:=h.elim .inl λ⟨q,r,k,a,e⟩=>.inr ⟨q,r,k,a.up h1 f,e⟩
theorem xQ:eT .Eq (.list []) (.list [])=ac (.bool yP):=rfl
theorem xR(t:D):eT .Eq (.list [t]) (.list [])=ac (.bool yM):=rfl
theorem vW:eT .NotEq (.list []) (.list [])=ac (.bool yM):=rfl
theorem vV(t:D):eT .NotEq (.list [t]) (.list [])=ac (.bool yP):=rfl
section
variable {P:yN (yS×Fn)} {X:CF} {W R:Wd} {TT:D}
structure fQ(W R:Wd)(TT S:D)(c dp:Nat)(σ:St):Prop where
 tt:Has σ "_law_tables_here" TT
 sc:Has σ "_law_script" S
 tp:∃ q r k,TpA W R c dp q r k/\Has σ "_law_top" (aG W q r k)
 sp:∃ q r k,TpA W R c dp q r k/\Has σ "_law_spare" (aG W q r k)
section
variable {S d:D}{c dp:Nat}{σ:St}{w z:Int}
theorem sZ{cf:CF}(a:∀ k:Nat,k<3->∃ q r,TpA W R 0 0 q r 1/\cf.call "_law_leaf" [S,.int k]=ac (aG W q r 1,yM))(I:fQ W R TT S c dp σ)(h1:Has σ "_law_word" (.int w))(V:Has σ "_law_cell" (.int z))(b:Has σ "_law_made" d)(X:nr W R c dp d) :
  Out cf vm σ λY E2=>Y=.next/\fQ W R TT S c dp E2:=by
 obtain⟨j,f,⟨B,C,E,Z,Fo⟩,⟨q2,r2,k2,G,H⟩⟩:=I;have J:1<=big:=by decide
 rcases X with rfl | ⟨q,r,k,t,rfl⟩
 ·have h:aV (.list [aG W q2 r2 k2]) (.int 0)=ac (aG W q2 r2 k2):=rfl
  generalize n:aG W q2 r2 k2=i at *;generalize o:aG W B C E=L at *;refine cM (k:=yP) (x:=.bool yP) (ax (vr b) (cO vN (zn _)) xQ) QQ (λEV=>?_) nofun
  refine aJ (ak (d:=.list [i]) (fr:=yP) (aq (cO (vv H vN) (yZ QQ)) QQ QQ)) (aJ (ak (d:=L) (fr:=frF (.u "_law_top") L) (aq (vr (ag QQ (au Fo))) QQ QQ)) (aJ (ak (d:=i) (fr:=frF (.sub (.u "_law_made") (.int 0)) i) (aq (aw (x:=.list [i]) (y:=.int 0) (vr (ag QQ (au ay))) vI h) QQ QQ)) (bB ⟨QQ,(ag QQ (au (ag QQ (au (ag QQ (au j)))))),(ag QQ (au (ag QQ (au (ag QQ (au f)))))),⟨q2,r2,k2,G,?_⟩,⟨B,C,E,Z,?_⟩⟩)))
  ·rw[n];exact ay
  ·rw[o];exact ag QQ (au ay)
 ·have h:aV (.list [aG W q r k]) (.int 0)=ac (aG W q r k):=rfl
  generalize M:aG W q r k=T at *;refine cM (k:=yM) (x:=.bool yM) (ax (vr b) (cO vN (zn _)) (xR _)) QQ nofun λEV=>?_
  refine cM (k:=decide (w ≥ 9)) (ax (vr h1) vI QQ) QQ (λEV=>?_) λEV=>?_
  ·obtain⟨m,s,u⟩:=cq (z / 36) (k:=3) (by decide)
   have s:z / 36 % 3=(m:Int):=s;obtain⟨N,O,Fp,U⟩:=a m u;rw[<- s] at U;generalize A:aG W N O 1=Fq at *;refine aJ (ak (d:=Fq) (fr:=yM) (aE (vv f (ad (am (am (vr V) vI (br (dtt QQ))) vI (aP (dtt QQ))) vN)) U)) (aJ (ak (d:=T) (fr:=frF (.sub (.u "_law_made") (.int 0)) T) (aq (aw (x:=.list [T]) (y:=.int 0) (vr (ag QQ (au b))) vI h) QQ QQ)) (bB ⟨QQ,(ag QQ (au (ag QQ (au j)))),(ag QQ (au (ag QQ (au f)))),⟨q,r,k,t,?_⟩,⟨N,O,1,Fp.up (zn _) (zn _),?_⟩⟩))
   ·rw[M];exact ay
   ·rw[A];exact ag QQ (au ay)
  ·refine aJ (ak (d:=T) (fr:=frF (.sub (.u "_law_made") (.int 0)) T) (aq (aw (x:=.list [T]) (y:=.int 0) (vr b) vI h) QQ QQ)) (bB ⟨QQ,(ag QQ (au j)),(ag QQ (au f)),⟨q,r,k,t,?_⟩,⟨q2,r2,k2,G,?_⟩⟩)
   ·rw[M];exact ay
   ·exact ag QQ (au H)
theorem fQ.up{c' a:Nat}(I:fQ W R TT S c dp σ)(h1:c<=c')(b:dp<=a):fQ W R TT S c' a σ:=
 ⟨I.tt,I.sc,let ⟨q,r,k,t,h⟩:=I.tp;⟨q,r,k,t.up h1 b,h⟩,let ⟨q,r,k,t,h⟩:=I.sp;⟨q,r,k,t.up h1 b,h⟩⟩
theorem fQ.set{x:yS}{v:yU×D}{e:D}{ns:yN yS}(I:fQ W R TT S c dp σ)(a:("_law_tables_here" == x)=yM)(h1:("_law_script" == x)=yM)(b:("_law_top" == x)=yM)(f:("_law_spare" == x)=yM):fQ W R TT S c dp (az (settle e ns σ) x v):=
 ⟨ag a (au I.tt),ag h1 (au I.sc),let ⟨q,r,k,t,h⟩:=I.tp;⟨q,r,k,t,ag b (au h)⟩,let ⟨q,r,k,t,h⟩:=I.sp;⟨q,r,k,t,ag f (au h)⟩⟩
theorem step_mid(B:BN P)(n:Nat)(a:∀ k:Nat,k<3->∃ q r,TpA W R 0 0 q r 1/\(ai P X (n+7)).call "_law_leaf" [S,.int k]=ac (aG W q r 1,yM))(I:fQ W R TT S c dp σ)(h1:Has σ "_law_word" (.int w))(b:Has σ "_law_cell" (.int z))(f:Has σ "_law_made" d)(h:nr W R (c+24) (dp+3) d) :
  Out (ai P X (n+7)) vk σ λi E2=>i=.next/\fQ W R TT S (c+24) (dp+3) E2:=by
 obtain⟨y,A,⟨C,E,G,j,m⟩,⟨q2,r2,k2,o,s⟩⟩:=id I
 rcases h with rfl | ⟨q,r,k,t,rfl⟩
 ·obtain⟨H,fr,m',u⟩:=nz (X:=X) B (n+4) z j o
  refine cM (k:=yP) (x:=.bool yP) (ax (vr f) (cO vN (zn _)) xQ) QQ (λZ=>?_) nofun
  refine aJ (ak (aE (ad vS (vv b (vv m (vv s vN)))) u)) ?_;exact sZ a ((I.set QQ QQ QQ QQ).up (zo _ _) (zo _ _)) (ag QQ (au h1)) (ag QQ (au b)) ay (m'.up (xJ) (om194))
 ·refine cM (k:=yM) (x:=.bool yM) (ax (vr f) (cO vN (zn _)) (xR _)) QQ nofun λZ=>?_
  exact sZ a (I.up (zo _ _) (zo _ _)) h1 b f (.inr ⟨q,r,k,t,QQ⟩)
theorem tab_nil(t:Tab):eT .Eq (aC t) (.list [])=ac (.bool t.isEmpty):=by
 cases t with
 | nil=>rfl
 | cons r t=>show (if (List.map D.tup (r::t)).length=([]:yN D).length then jZ (List.map D.tup (r::t)) [] else ac yM).map D.bool=_;rw[za (λh=>nomatch h)];rfl
theorem step_ans(B:BN P)(n:Nat)(b:∀ q r k,TpA W R (c+24) (dp+3) q r k->∃ t fr,(ai P X (n+7)).call "_law_answer" [q.d,TT]=ac (aC t,fr))(a:∀ k:Nat,k<3->∃ q r,TpA W R 0 0 q r 1/\(ai P X (n+7)).call "_law_leaf" [S,.int k]=ac (aG W q r 1,yM))(I:fQ W R TT S c dp σ)(h1:Has σ "_law_word" (.int w))(i:Has σ "_law_cell" (.int z))(h:Has σ "_law_made" d)(j:nr W R (c+24) (dp+3) d) :
  Out (ai P X (n+7)) rU σ λm E2=>m=.next/\fQ W R TT S (c+24) (dp+3) E2:=by
 have f:=step_mid B n a I h1 i h j
 rcases j with rfl | ⟨q,r,k,t,rfl⟩
 ·exact cM (k:=yM) (x:=.bool yM) (cW (k:=yM) (l:=yM) (ax (vr h) (cO vN (zn _)) vW) nofun) QQ nofun λZ=>f
 ·obtain⟨tb,fr,e⟩:=b q r k t
  exact cM (cW (k:=yP) (l:=decide (z % 8 > 0)&&tb.isEmpty) (ax (vr h) (cO vN (zn _)) (vV _)) λZ=>cW (k:=decide (z % 8 > 0)) (l:=tb.isEmpty) (ax (am (vr i) vI (aP (by decide))) vI QQ) λZ=>bk (ax (al (ad (aw (x:=aG W q r k) (y:=.int 0) (aw (x:=.list [aG W q r k]) (y:=.int 0) (vr h) vI QQ) vI QQ) (vv I.tt vN)) e) (cO vN (zn _)) (tab_nil tb))) QQ (λZ=>bB ⟨QQ,I.up (zo _ _) (zo _ _)⟩) λZ=>f
end
end
set_option maxHeartbeats 800000
section
variable {P:yN (yS×Fn)} {X:CF} {W R:Wd} {TT:D}
theorem fQ.u{S:D}{c dp:Nat}{σ:St}{x:yS}{v:yU×D}(I:fQ W R TT S c dp σ)(a:("_law_tables_here" == x)=yM)(h1:("_law_script" == x)=yM)(b:("_law_top" == x)=yM)(f:("_law_spare" == x)=yM):fQ W R TT S c dp (az σ x v):=
 ⟨ag a I.tt,ag h1 I.sc,let ⟨q,r,k,t,h⟩:=I.tp;⟨q,r,k,t,ag b h⟩,let ⟨q,r,k,t,h⟩:=I.sp;⟨q,r,k,t,ag f h⟩⟩
theorem nF{cf:CF}{z:yS}{e:ME}{r:yN MS}{σ:St}{d:D}{fr:yU}{Q:Fl->St->Prop}(h:evF cf (vis σ) e=ac (d,fr))(k:∀ E2,(∀ x u,(x == z)=yM->Has σ x u->Has E2 x u)->Has E2 z d->Out cf r E2 Q):Out cf (.x0 z e::r) σ Q:=aJ (ak h) (k _ (λx u a i=>ag a (au i)) ay)
theorem fQ.mv{S:D}{c dp:Nat}{σ E2:St}{z:yS}(I:fQ W R TT S c dp σ)(m:∀ x u,(x == z)=yM->Has σ x u->Has E2 x u)(a:("_law_tables_here" == z)=yM)(h1:("_law_script" == z)=yM)(b:("_law_top" == z)=yM)(f:("_law_spare" == z)=yM):fQ W R TT S c dp E2:=
 ⟨m _ _ a I.tt,m _ _ h1 I.sc,let ⟨q,r,k,t,h⟩:=I.tp;⟨q,r,k,t,m _ _ b h⟩,let ⟨q,r,k,t,h⟩:=I.sp;⟨q,r,k,t,m _ _ f h⟩⟩
theorem script_at(ns:yN Int){k:Nat}(h:k<ns.length):aV (.list (ns.map .int)) (.int k)=ac (.int (ns.getD k 0)):=
 lK (by rw[yV];exact h) (by rw[As,y4 h,zb,y4 h];rfl)
theorem tz(l:yN Int)(a:0<l.length)(z:Int):∃ w:Int,aV (.list (l.map .int)) (.int (z % (l.length:Int)))=ac (.int w):=by
 obtain⟨d,⟨w,rfl⟩,h⟩:=dD (l:=l.map .int) (by rw[yV];exact a) z (R:=λd=>∃ w:Int,d=.int w) λd b=>let ⟨w,_,e⟩:=zz.mp b;⟨w,e.symm⟩
 rw[yV] at h;exact⟨w,h⟩
theorem step_turn(B:BN P)(n:Nat){ns:yN Int}{c dp:Nat}(V:∀ q r k,TpA W R (c+24) (dp+3) q r k->∃ t fr,(ai P X (n+7)).call "_law_answer" [q.d,TT]=ac (aC t,fr))(H:∀ k:Nat,k<3->∃ q r,TpA W R 0 0 q r 1/\(ai P X (n+7)).call "_law_leaf" [.list (ns.map .int),.int k]=ac (aG W q r 1,yM))(i:Nat){σ:St}(I:fQ W R TT (.list (ns.map .int)) c dp σ) :
  Out (ai P X (n+7)) s5 (az σ "_law_k" (yM,.int i)) λJ E2=>(J=.next/\fQ W R TT (.list (ns.map .int)) (c+24) (dp+3) E2)\/∃ d fr,J=.ret fr d/\∃ q r k,TpA W R c dp q r k/\d=aG W q r k:=by
 have C:gI "len" [.list (ns.map .int)]=ac (.int ns.length):=by show ac (D.int ((ns.map D.int).length:Nat))=_;rw[yV]
 have FF:=eU (X:=X) B.toBG (n+6) ns (7+2 * i);have F0:((7+2 * i:Nat):Int)=7+2 * (i:Int):=by exact om195
 rw[F0] at FF;generalize ns.getD (7+2 * i) 0=z at *;have T:=I.u (x:="_law_k") (v:=(yM,.int i)) QQ QQ QQ QQ;have L:Has (az σ "_law_k" (yM,.int i)) "_law_k" (.int i):=ay;generalize az σ "_law_k" (yM,.int i)=FG at *;clear I;have fin:∀ {σ:St} {d:D} {w:Int},fQ W R TT (.list (ns.map .int)) c dp σ->Has σ "_law_word" (.int w)->Has σ "_law_cell" (.int z)->Has σ "_law_made" d->nr W R (c+24) (dp+3) d ->
   Out (ai P X (n+7)) rU σ λJ E2=>(J=.next/\fQ W R TT (.list (ns.map .int)) (c+24) (dp+3) E2)\/∃ d fr,J=.ret fr d/\∃ q r k,TpA W R c dp q r k/\d=aG W q r k:=λI h1 Y F3 F4=>
  let ⟨J,E2,q,e⟩:=step_ans B n V H I h1 Y F3 F4;⟨J,E2,.inl q,e⟩
 have E:en .Mult (.int 2) (.int i)=ac (.int (2 * i)):=nq (by decide)
 have o:evE (ai P X (n+7)) (vis FG) (.bin .Add (.int 6) (.bin .Mult (.int 2) (.u "_law_k")))=ac (.int (6+2 * (i:Int))):=am vI (am vI (vr L) E) cZ;refine cM (k:=decide (6+2 * (i:Int) ≥ ns.length)) (ax o (bP (vv T.sc vN) C) QQ) QQ (λEV=>?_) λFV=>?_
 ·obtain⟨Ft,Fu,u,M,fr,N⟩:=T.tp
  exact o_retv N (.inr ⟨_,fr,QQ,Ft,Fu,u,M,QQ⟩)
 have FH:=script_at ns (k:=6+2 * i) (om196 (A7 FV));have F5:((6+2 * i:Nat):Int)=6+2 * (i:Int):=by exact om197
 rw[F5] at FH;generalize ns.getD (6+2 * i) 0=y at *;obtain⟨w,FW⟩:=tz [0,5,8,5,4,5,6,7,12,9,9,9,12] (by decide) y
 clear FV;refine nF (d:=.int w) (fr:=yM) (aq (aw (x:=.list [.int 0,.int 5,.int 8,.int 5,.int 4,.int 5,.int 6,.int 7,.int 12,.int 9,.int 9,.int 9,.int 12]) QQ (am (aw (vr T.sc) o FH) vI (aP (by decide))) FW) QQ QQ) λF6 Fv Z=>?_
 refine nF (d:=.int z) (fr:=yM) (aE (vv (Fv _ _ QQ T.sc) (ad (am vI (am vI (vr (Fv _ _ QQ L)) E) cZ) vN)) FF) λF7 FJ Fo=>?_
 refine nF (d:=.list []) (fr:=yP) QQ λFK Fw FM=>?_
 have Fp:=((T.mv Fv QQ QQ QQ QQ).mv FJ QQ QQ QQ QQ).mv Fw QQ QQ QQ QQ;have j:=Fw _ _ QQ (FJ _ _ QQ Z);have a:=Fw _ _ QQ Fo;clear C FH FF FW Fv FJ Fw Z Fo o T L;obtain⟨F9,Ga,⟨Ft,Fu,u,M,N⟩,⟨q2,r2,k2,FY,FZ⟩⟩:=id Fp;refine cM (k:=decide (w<9)) (ax (vr j) vI QQ) QQ (λEV=>?_) λEV=>?_
 ·obtain⟨Fz,FA,FE,FN⟩:=fk (X:=X) B (n+1) w z M
  refine nF (d:=.list [aG W Fz FA u]) (fr:=yP) (aq (cO (ad (al (vv j (vv a (vv N vN))) FN) vN) (yZ QQ)) QQ QQ) λFq s b=>?_
  have U:=Fp.mv s QQ QQ QQ QQ;have h:=s _ _ QQ j;have f:=s _ _ QQ a;refine cM (k:=(w == 8||w == 5)&&decide (z % 4 > 0)) (cW (k:=w == 8||w == 5) (l:=decide (z % 4 > 0)) (fN (k:=w == 8) (l:=w == 5) (ax (vr h) vI QQ) λEV=>bk (ax (vr h) vI QQ)) λEV=>bk (ax (am (vr f) vI (aP (by decide))) vI QQ)) QQ (λEV=>?_) λEV=>?_
  ·obtain⟨Fs,rb,tb,FO⟩:=tm (X:=X) B n z FE
   refine nF (d:=.list [aG W Fs rb u]) (fr:=yP) (aq (cO (ad (al (ad (aw (x:=.list [aG W Fz FA u]) (y:=.int 0) (vr b) vI QQ) (vv f vN)) FO) vN) (yZ QQ)) QQ QQ) λFP A O=>?_
   exact fin (U.mv A QQ QQ QQ QQ) (A _ _ QQ h) (A _ _ QQ f) O (.inr ⟨Fs,rb,u,tb.up (xI) (om199),QQ⟩)
  ·exact fin U h f b (.inr ⟨Fz,FA,u,FE.up (xJ) (om200),QQ⟩)
 ·refine cM (k:=decide (w<12)) (ax (vr j) vI QQ) QQ (λEV=>?_) λEV=>?_
  ·obtain⟨d,fr,m,u1,u2,FQ,FR,FS,FT⟩:∃ d fr,∃ m:Nat,∃ u1 u2:D,nr W R (c+12) (dp+2) d/\aV (.list [aG W Ft Fu u,aG W q2 r2 k2]) (.int (z / 2 % 2))=ac u1/\aV (.list [aG W q2 r2 k2,aG W Ft Fu u]) (.int (z / 2 % 2))=ac u2/\(ai P X (n+7)).call "_law_of_two" [sD "join",.int z,u1,u2]=ac (d,fr):=by
    rcases (show z / 2 % 2=0\/z / 2 % 2=1 by exact om201) with e | e
    ·rw[e]
     obtain⟨d,fr,h1,Y⟩:=ny (X:=X) B (n+4) z M FY;exact⟨d,fr,0,_,_,h1,QQ,QQ,Y⟩
    ·rw[e]
     obtain⟨d,fr,h1,Y⟩:=ny (X:=X) B (n+4) z FY M;exact⟨d,fr,0,_,_,h1,QQ,QQ,Y⟩
   have G:evE (ai P X (n+7)) (vis FK) (.bin .Mod (.bin .FloorDiv (.u "_law_cell") (.int 2)) (.int 2))=ac (.int (z / 2 % 2)):=am (am (vr a) vI (br (by decide))) vI (aP (by decide))
   refine nF (aE (ad vS (vv a (ad (aw (cO (vv N (vv FZ vN)) (yZ QQ)) G FR) (ad (aw (cO (vv FZ (vv N vN)) (yZ QQ)) G FS) vN)))) FT) λFq s b=>?_
   have U:=Fp.mv s QQ QQ QQ QQ;have h:=s _ _ QQ j;have f:=s _ _ QQ a
   rcases FQ with rfl | ⟨q,r,k,t,rfl⟩
   ·refine cM (k:=yM) (x:=.bool (yM&&yM)) (cW (k:=yM) (l:=yM) (ax (vr b) (cO vN (zn _)) vW) nofun) QQ nofun λEV=>?_
    exact fin U h f b (.inl QQ)
   ·refine cM (k:=yP&&decide (z % 4 > 0)) (cW (k:=yP) (l:=decide (z % 4 > 0)) (ax (vr b) (cO vN (zn _)) (vV _)) λEV=>bk (ax (am (vr f) vI (aP (by decide))) vI QQ)) QQ (λEV=>?_) λEV=>?_
    ·obtain⟨Fs,rb,tb,FO⟩:=tm (X:=X) B n z t
     refine nF (d:=.list [aG W Fs rb k]) (fr:=yP) (aq (cO (ad (al (ad (aw (x:=.list [aG W q r k]) (y:=.int 0) (vr b) vI QQ) (vv f vN)) FO) vN) (yZ QQ)) QQ QQ) λFP A O=>?_
     exact fin (U.mv A QQ QQ QQ QQ) (A _ _ QQ h) (A _ _ QQ f) O (.inr ⟨Fs,rb,k,tb.up (xI) (om202),QQ⟩)
    ·exact fin U h f b (.inr ⟨q,r,k,t.up (xJ) (om194),QQ⟩)
  ·refine cM (k:=z % 3 == 1) (ax (am (vr a) vI (aP (by decide))) vI QQ) QQ (λEV=>?_) λEV=>fin Fp j a FM (.inl QQ)
   obtain⟨v,FU⟩:=tz [0,6,7] (by decide) (z / 3)
   have FU:aV (.list [.int 0,.int 6,.int 7]) (.int (z / 3 % 3))=ac (.int v):=FU;obtain⟨F8,_,A⟩:=mixed (X:=X) B.toBG (n+6) z 5;obtain⟨Fz,FA,FE,FN⟩:=fk (X:=X) B (n+1) v F8 M;obtain⟨d,fr,FQ,FT⟩:=nz (X:=X) B (n+4) z (M.up (zo _ 12) (AM _)) FE;refine nF (aE (ad vS (vv a (vv N (ad (al (ad (aw (x:=.list [.int 0,.int 6,.int 7]) (y:=.int (z / 3 % 3)) QQ (am (am (vr a) vI (br (by decide))) vI (aP (by decide))) FU) (ad (al (vv a (ad vI vN)) A) (vv N vN))) FN) vN)))) FT) λFq s b=>?_
   exact fin (Fp.mv s QQ QQ QQ QQ) (s _ _ QQ j) (s _ _ QQ a) b (FQ.up (xI) (om203))
end
set_option maxHeartbeats 800000
noncomputable def yu:yN MS:=[.for_ "_law_k" (.blt "range" [.u "_law_many_here"]) [.x0 "_law_top" (.call "_law_around" [.bin .Mod (.call "_law_mixed" [.u "_law_cell",.u "_law_k"]) (.int 9),.call "_law_mixed" [.u "_law_cell",.bin .Add (.int 50) (.u "_law_k")],.u "_law_top"])],.ret (.u "_law_top")]
noncomputable def yv:yN MS:=.ite (.cmp .Eq (.bin .Mod (.u "_law_cell") (.int 32)) (.int 5)) [.x0 "_law_top" (.call "_law_leaf" [.u "_law_script",.int 0]),.x0 "_law_many_here" (.int 38)] []::yu
noncomputable def yw:yN MS:=.x0 "_law_cell" (.bin .FloorDiv (.call "_law_cell_at" [.u "_law_script",.int 1]) (.int 35))::.x0 "_law_many_here" (.int 0)::.ite (.cmp .Eq (.bin .Mod (.u "_law_cell") (.int 8)) (.int 1)) [.x0 "_law_many_here" (.bin .Mod (.bin .FloorDiv (.u "_law_cell") (.int 8)) (.int 6))] []::yv
noncomputable def built4:yN MS:=.x0 "_law_more" (.call "_law_around" [.int 0,.bin .Add (.bin .Mult (.bin .FloorDiv (.call "_law_mixed" [.u "_law_last",.int 9]) (.int 4)) (.int 4)) (.int 2),.u "_law_top"])::.ite (.bop .And [.cmp .Gt (.bin .Mod (.u "_law_last") (.int 3)) (.int 0),.bop .Or [.cmp .Eq (.bin .Mod (.u "_law_last") (.int 5)) (.int 0),.cmp .NotEq (.call "_law_answer" [.sub (.u "_law_more") (.int 0),.call "_law_tables" [.u "_law_script",.int 0]]) (.lst [])]]) [.x0 "_law_top" (.u "_law_more")] []::yw
section
variable {P:yN (yS×Fn)} {X:CF} {W R:Wd}
theorem tab_nn(t:Tab):eT .NotEq (aC t) (.list [])=ac (.bool (!t.isEmpty)):=by
 cases t with
 | nil=>rfl
 | cons r t=>show (if (List.map D.tup (r::t)).length=([]:yN D).length then jZ (List.map D.tup (r::t)) [] else ac yM).map (λx=>D.bool (!x))=_;rw[za (λh=>nomatch h)];rfl
noncomputable def u8(P:yN (yS×Fn))(X:CF)(W R:Wd)(S:D):Prop:=∀ n,∃ TT a,(ai P X (n+5)).call "_law_tables" [S,.int 0]=ac (TT,a)/\∀ m q r k c dp,45<=m->dp<=40->TpA W R c dp q r k->∃ t fr,(ai P X m).call "_law_answer" [q.d,TT]=ac (aC t,fr)
noncomputable def gF(W R:Wd)(c dp:Nat)(d:D):Prop:=∃ q r k,TpA W R c dp q r k/\d=aG W q r k
theorem gF.up{c dp c' a:Nat}{d:D}(h:gF W R c dp d)(h1:c<=c')(b:dp<=a):gF W R c' a d:=let ⟨q,r,k,t,e⟩:=h;⟨q,r,k,t.up h1 b,e⟩
theorem stepped_eq(B:BE P)(n:Nat){ns:yN Int}(G:45<=n)(a:u8 P X W R (.list (ns.map .int)))(b:∀ k:Nat,k<3->∃ q r,TpA W R 0 0 q r 1/\(ai P X (n+7)).call "_law_leaf" [.list (ns.map .int),.int k]=ac (aG W q r 1,yM)) :
  ∃ d fr,gF W R 216 27 d/\(ai P X (n+8)).call "_law_stepped" [.list (ns.map .int)]=ac (d,fr):=by
 have c2:(ai P X (n+7)).call "_law_cell_at" [.list (ns.map .int),.int 2]=ac (.int (ns.getD 2 0),yM):=eU (X:=X) B.toBG (n+6) ns 2;obtain⟨y,A,M,N⟩:=b 0 (by decide)
 obtain⟨C,E,O,T⟩:=b 1 (by decide)
 obtain⟨TT,J,a,u⟩:=a (n+2);have a:(ai P X (n+7)).call "_law_tables" [.list (ns.map .int),.int 0]=ac (TT,J):=a;have turn:=λk i σ (w:k<=8) (I:fQ W R TT (.list (ns.map .int)) (24 * k) (3 * k) σ)=>step_turn B.toBN n (c:=24 * k) (dp:=3 * k) (λq r H h=>u (n+7) q r H _ _ (om204 G) (om205 w) h) b i I
 generalize ns.getD 2 0=z at *;generalize D.list (ns.map .int)=S at *;obtain⟨d,⟨m,rfl,o⟩,s⟩:=dD (l:=[.int 3,.int 5,.int 2,.int 8]) (by decide) z (R:=λd=>∃ m:Nat,d=.int m/\m<=8) (by
  intro d s;simp only[zc,zV,Bs] at s
  rcases s with rfl | rfl | rfl | rfl <;> first | exact⟨3,QQ,by decide⟩ | exact⟨5,QQ,by decide⟩ | exact⟨2,QQ,by decide⟩ | exact⟨8,QQ,by decide⟩)
 have s:aV (.list [.int 3,.int 5,.int 2,.int 8]) (.int (z % 4))=ac (.int m):=s;have U:8<=big:=by decide
 refine dO (X:=X) (args:=[S]) B.st QQ ?_;refine bi (ak (aE (ad (d:=S) QQ (ad (d:=.int 0) QQ vN)) N)) ?_;refine bi (ak (aE (ad (d:=S) QQ (ad (d:=.int 1) QQ vN)) T)) ?_;refine bi (ak (aE (ad (d:=S) (vr (ag QQ (au (ag QQ (au ae))))) (ad vI vN)) a)) ?_;generalize f:az (settle TT (ME.names (.call "_law_tables" [.u "_law_script",.int 0])) (az (settle (aG W C E 1) (ME.names (.call "_law_leaf" [.u "_law_script",.int 1])) (az (settle (aG W y A 1) (ME.names (.call "_law_leaf" [.u "_law_script",.int 0])) _) "_law_top" (yM,aG W y A 1))) "_law_spare" (yM,aG W C E 1))) "_law_tables_here" (J,TT)=σ;have V:Has σ "_law_tables_here" TT:=by rw[<- f];exact ay
 have L:Has σ "_law_script" S:=by rw[<- f];exact ag QQ (au (ag QQ (au (ag QQ (au ae)))))
 have Y:Has σ "_law_top" (aG W y A 1):=by rw[<- f];exact ag QQ (au (ag QQ (au ay)))
 have Z:Has σ "_law_spare" (aG W C E 1):=by rw[<- f];exact ag QQ (au ay)
 obtain⟨E2,c⟩:=pt (cf:=ai P X (n+7)) (body:=s5) (z:="_law_k") (λk σ=>fQ W R TT S (24 * k) (3 * k) σ) (λd EV=>gF W R 216 27 d) m ((zt m).map λ(i:Nat)=>D.int (i:Int)) 0 (freeze (ME.names (.blt "range" [.sub (.lst [.int 3,.int 5,.int 2,.int 8]) (.bin .Mod (.call "_law_cell_at" [.u "_law_script",.int 2]) (.int 4))])) σ) (by rw[yV,zX];exact om206) ⟨cg V,cg L,⟨y,A,1,M,cg Y⟩,⟨C,E,1,O,cg Z⟩⟩ (by
  intro k Fp σ w hit I;obtain⟨i,_,rfl⟩:=zz.mp hit;obtain⟨Fo,E2,q,e⟩:=turn k i σ (om207 o w) I;refine⟨Fo,E2,?_,e⟩
  rcases q with q | ⟨d,fr,h1,q,r,H,t,h2⟩
  ·exact .inl q
  ·exact .inr ⟨d,fr,h1,q,r,H,t.up (om208 o w) (om209 o w),h2⟩)
 have j:evE (ai P X (n+7)) (vis σ) (.blt "range" [.sub (.lst [.int 3,.int 5,.int 2,.int 8]) (.bin .Mod (.call "_law_cell_at" [.u "_law_script",.int 2]) (.int 4))])=ac (.rng 0 m):=
  bP (ad (aw (x:=.list [.int 3,.int 5,.int 2,.int 8]) QQ (am (al (vv L (ad vI vN)) c2) vI (aP (by decide))) s) vN) (kN (yQ o U))
 rcases c with⟨I,e⟩ | ⟨d,fr,h,e⟩
 ·refine q_for j (eI m) e ?_
  obtain⟨q,r,k,t,fr,h⟩:=I.tp;rw[yV,zX,Al] at t;exact xF h ⟨q,r,k,t.up (om210 o) (om211 o),QQ⟩
 ·exact q_forR j (eI m) e h
theorem qm(B:BN P)(n:Nat){c dp m:Nat}(j:m<=38){z:Int}{σ:St}{d:D}(a:gF W R c dp d)(h1:Has σ "_law_cell" (.int z))(o:Has σ "_law_top" d)(s:Has σ "_law_many_here" (.int m)):Rex (ai P X (n+6)) yu σ λd Z=>gF W R (c+12 * m) (dp+m) d:=by
 have u:38<=big:=by decide
 obtain⟨E2,e⟩:=pt (cf:=ai P X (n+6)) (body:=[.x0 "_law_top" (.call "_law_around" [.bin .Mod (.call "_law_mixed" [.u "_law_cell",.u "_law_k"]) (.int 9),.call "_law_mixed" [.u "_law_cell",.bin .Add (.int 50) (.u "_law_k")],.u "_law_top"])]) (z:="_law_k") (λk σ=>Has σ "_law_cell" (.int z)/\∃ d,gF W R (c+12 * k) (dp+k) d/\Has σ "_law_top" d) (λZ Z=>False) m ((zt m).map λ(i:Nat)=>D.int (i:Int)) 0 (freeze (ME.names (.blt "range" [.u "_law_many_here"])) σ) (by rw[yV,zX];exact om206) ⟨cg h1,d,a,cg o⟩ (by
  rintro k M σ N hit ⟨w,d,⟨q,r,A,t,rfl⟩,C⟩;obtain⟨i,_,rfl⟩:=zz.mp hit;obtain⟨x,_,E⟩:=mixed (X:=X) B.toBG (n+5) z i;obtain⟨y,_,G⟩:=mixed (X:=X) B.toBG (n+5) z (50+i);obtain⟨H,r',I,J⟩:=fk (X:=X) B n (x % 9) y t;have b:=ag (y:="_law_k") (v:=(yM,.int i)) QQ w;have L:=ag (y:="_law_k") (v:=(yM,.int i)) QQ C;have f:Has (az σ "_law_k" (yM,.int i)) "_law_k" (.int i):=ay;generalize az σ "_law_k" (yM,.int i)=σ at *;refine aJ (ak (aE (ad (am (al (vv b (vv f vN)) E) vI (aP (by decide))) (ad (al (vv b (ad (am vI (vr f) cZ) vN)) G) (vv L vN))) J)) ?_
  exact bB (.inl ⟨QQ,ag QQ (au b),_,⟨H,r',A,I.up (om212) (om213),QQ⟩,ay⟩))
 rcases e with⟨⟨_,d,a,fr,h⟩,e⟩ | ⟨_,_,h,_⟩
 ·refine q_for (bP (vv s vN) (kN (yQ j u))) (eI m) e ?_
  rw[yV,zX,Al] at a;exact xF h a
 ·exact h.elim
theorem built_eq(B:BE P)(n:Nat){ns:yN Int}(E:45<=n)(j:u8 P X W R (.list (ns.map .int)))(b:∀ n,∀ k:Nat,k<3->∃ q r,TpA W R 0 0 q r 1/\(ai P X (n+3)).call "_law_leaf" [.list (ns.map .int),.int k]=ac (aG W q r 1,yM)) :
  ∃ d fr,gF W R 456 38 d/\(ai P X (n+9)).call "_law_built" [.list (ns.map .int)]=ac (d,fr):=by
 have Y:(ai P X (n+8)).call "_law_cell_at" [.list (ns.map .int),.int 5]=ac (.int (ns.getD 5 0),yM):=eU (X:=X) B.toBG (n+7) ns 5;have c1:(ai P X (n+8)).call "_law_cell_at" [.list (ns.map .int),.int 1]=ac (.int (ns.getD 1 0),yM):=eU (X:=X) B.toBG (n+7) ns 1;obtain⟨FE,Z,o,Fo⟩:=stepped_eq (X:=X) B n E j (b (n+4));obtain⟨TT,Fp,s,G⟩:=j (n+3);have s:(ai P X (n+8)).call "_law_tables" [.list (ns.map .int),.int 0]=ac (TT,Fp):=s;obtain⟨Fq,Fs,Ft,Fu⟩:=b (n+5) 0 (by decide)
 generalize ns.getD 5 0=y at *;generalize ns.getD 1 0=z at *;generalize D.list (ns.map .int)=S at *;have U:∀ {σ:St} {d:D} {m:Nat},m<=7->gF W R 240 29 d->Has σ "_law_script" S->Has σ "_law_cell" (.int (z / 35))->Has σ "_law_top" d->Has σ "_law_many_here" (.int m)->Rex (ai P X (n+8)) yv σ λd EV=>gF W R 456 38 d:=by
  intro σ d m L u w f M Fv;refine dU (k:=z / 35 % 32 == 5) (ax (am (vr f) vI (aP (by decide))) vI QQ) QQ (λEV=>?_) λEV=>?_
  ·refine bi (ak (aE (vv w (ad vI vN)) Fu)) ?_
   refine bi (ak (d:=.int (38:Nat)) (fr:=yM) QQ) ?_;obtain⟨d,fr,h,r⟩:=qm (X:=X) (W:=W) B.toBN (n+2) (m:=38) (c:=0) (dp:=0) (by decide) ⟨Fq,Fs,1,Ft,QQ⟩ (ag QQ (au (ag QQ (au f)))) (ag QQ (au ay)) ay
   exact⟨d,fr,h.up (om214) (om215),r⟩
  ·obtain⟨d,fr,h,r⟩:=qm (X:=X) (W:=W) B.toBN (n+2) (om216 L) u f M Fv
   exact⟨d,fr,h.up (om217 L) (om218 L),r⟩
 have V:∀ {σ:St} {d:D},gF W R 240 29 d->Has σ "_law_script" S->Has σ "_law_top" d->Rex (ai P X (n+8)) yw σ λd EV=>gF W R 456 38 d:=by
  intro σ d u w f;refine bi (ak (d:=.int (z / 35)) (fr:=yM) (aq (am (al (vv w (ad vI vN)) c1) vI (br (by decide))) QQ QQ)) ?_
  refine bi (ak (d:=.int (0:Nat)) (fr:=yM) QQ) ?_;refine dU (k:=z / 35 % 8 == 1) (ax (am (vr (ag QQ (au ay))) vI (aP (by decide))) vI QQ) QQ (λEV=>?_) λEV=>?_
  ·obtain⟨m,Fw,L⟩:=cq (z / 35 / 8) (k:=6) (by decide)
   have Fz:en .Mod (.int (z / 35 / 8)) (.int 6)=ac (.int m):=by rw[<- Fw];exact aP (by decide)
   refine bi (ak (d:=.int m) (fr:=yM) (aq (am (am (vr (ag QQ (au ay))) vI (br (by decide))) vI Fz) QQ QQ)) ?_
   exact U (m:=m) (by omega) u (ag QQ (au (ag QQ (au (ag QQ (au w)))))) (ag QQ (au (ag QQ (au ay)))) (ag QQ (au (ag QQ (au (ag QQ (au f)))))) ay
  ·exact U (m:=0) (om219) u (ag QQ (au (ag QQ (au w)))) (ag QQ (au ay)) (ag QQ (au (ag QQ (au f)))) ay
 have N:∀ {σ:St} {d:D},gF W R 228 28 d->Has σ "_law_script" S->Has σ "_law_last" (.int y)->Has σ "_law_top" d->Rex (ai P X (n+8)) built4 σ λd EV=>gF W R 456 38 d:=by
  intro σ d u w M f;obtain⟨q,r,k,t,rfl⟩:=id u;obtain⟨x,_,O⟩:=mixed (X:=X) B.toBG (n+7) y 9;obtain⟨a,r',C,H⟩:=fk (X:=X) B.toBN (n+2) 0 (x / 4 * 4+2) t;obtain⟨tb,fr,FA⟩:=G (n+8) a r' k _ _ (om220 E) (by decide) C
  refine bi (ak (aE (ad vI (ad (am (am (am (al (vv M (ad vI vN)) O) vI (br (by decide))) vI (uw (by decide))) vI cZ) (vv f vN))) H)) ?_
  have A:=ag (y:="_law_more") (v:=(yM,aG W a r' k)) QQ (au (e:=aG W a r' k) (ns:=ME.names (.call "_law_around" [.int 0,.bin .Add (.bin .Mult (.bin .FloorDiv (.call "_law_mixed" [.u "_law_last",.int 9]) (.int 4)) (.int 4)) (.int 2),.u "_law_top"])) w);have T:=ag (y:="_law_more") (v:=(yM,aG W a r' k)) QQ (au (e:=aG W a r' k) (ns:=ME.names (.call "_law_around" [.int 0,.bin .Add (.bin .Mult (.bin .FloorDiv (.call "_law_mixed" [.u "_law_last",.int 9]) (.int 4)) (.int 4)) (.int 2),.u "_law_top"])) f);have I:=ag (y:="_law_more") (v:=(yM,aG W a r' k)) QQ (au (e:=aG W a r' k) (ns:=ME.names (.call "_law_around" [.int 0,.bin .Add (.bin .Mult (.bin .FloorDiv (.call "_law_mixed" [.u "_law_last",.int 9]) (.int 4)) (.int 4)) (.int 2),.u "_law_top"])) M);have J:Has (az (settle (aG W a r' k) (ME.names (.call "_law_around" [.int 0,.bin .Add (.bin .Mult (.bin .FloorDiv (.call "_law_mixed" [.u "_law_last",.int 9]) (.int 4)) (.int 4)) (.int 2),.u "_law_top"])) σ) "_law_more" (yM,aG W a r' k)) "_law_more" (aG W a r' k):=ay;generalize az (settle (aG W a r' k) (ME.names (.call "_law_around" [.int 0,.bin .Add (.bin .Mult (.bin .FloorDiv (.call "_law_mixed" [.u "_law_last",.int 9]) (.int 4)) (.int 4)) (.int 2),.u "_law_top"])) σ) "_law_more" (yM,aG W a r' k)=σ at *;refine dU (k:=decide (y % 3 > 0)&&(y % 5 == 0||!tb.isEmpty)) (cW (k:=decide (y % 3 > 0)) (l:=y % 5 == 0||!tb.isEmpty) (ax (am (vr I) vI (aP (by decide))) vI QQ) λEV=>bk (fN (k:=y % 5 == 0) (l:=!tb.isEmpty) (ax (am (vr I) vI (aP (by decide))) vI QQ) λEV=>bk (ax (al (ad (aw (x:=aG W a r' k) (y:=.int 0) (vr J) vI QQ) (ad (al (vv A (ad vI vN)) s) vN)) FA) (cO vN (zn _)) (tab_nn tb)))) QQ (λEV=>?_) λEV=>V (u.up (om221) (om222)) A T
  exact bi (ak (d:=aG W a r' k) (fr:=frF (.u "_law_more") (aG W a r' k)) (aq (vr J) QQ QQ)) (V ⟨a,r',k,C,QQ⟩ (ag QQ (au A)) ay)
 have hq:∀ {σ:St},Has σ "_law_last" (.int y)->evE (ai P X (n+8)) (vis σ) (.bin .Mod (.bin .FloorDiv (.u "_law_last") (.int 3)) (.int 3))=ac (.int (y / 3 % 3)):=λi=>am (am (vr i) vI (br (by decide))) vI (aP (by decide))
 refine dO (X:=X) (args:=[S]) B.bu QQ ?_;refine bi (ak (aE (ad (d:=S) QQ vN) Fo)) ?_;refine bi (ak (aE (vv (ag QQ (au ae)) (ad vI vN)) Y)) ?_;refine dU (k:=y / 3 % 3 == 1) (ax (hq ay) vI QQ) QQ (λh1=>?_) λEV=>?_
 ·obtain⟨q,r,k,t,rfl⟩:=o
  obtain⟨a,r',C,H⟩:=fk (X:=X) B.toBN (n+2) 8 (y / 9 % 3) t;refine bi (ak (aE (ad vI (ad (am (am (vr ay) vI (br (by decide))) vI (aP (by decide))) (vv (ag QQ (au ay)) vN))) H)) ?_
  rw[Bh] at h1;refine dU (k:=yM) (x:=.bool yM) (ax (hq (ag QQ (au ay))) vI (by rw[h1];rfl)) QQ nofun λEV=>?_
  exact N ⟨a,r',k,C,QQ⟩ (ag QQ (au (ag QQ (au (ag QQ (au ae)))))) (ag QQ (au ay)) ay
 ·refine dU (k:=y / 3 % 3 == 2) (ax (hq ay) vI QQ) QQ (λEV=>?_) λEV=>N (o.up (om223) (om224)) (ag QQ (au (ag QQ (au ae)))) ay (ag QQ (au ay))
  obtain⟨q,r,k,t,rfl⟩:=o;obtain⟨x,_,O⟩:=mixed (X:=X) B.toBG (n+7) y 4;obtain⟨a,r',C,H⟩:=fk (X:=X) B.toBN (n+2) 5 (x / 4 * 4+1) t;refine bi (ak (aE (ad vI (ad (am (am (am (al (vv ay (ad vI vN)) O) vI (br (by decide))) vI (uw (by decide))) vI cZ) (vv (ag QQ (au ay)) vN))) H)) ?_
  exact N ⟨a,r',k,C,QQ⟩ (ag QQ (au (ag QQ (au (ag QQ (au ae)))))) (ag QQ (au ay)) ay
end
noncomputable def jS:Fn:=⟨["_law_cell","_law_wide","_law_many_here"],[
  .x0 "_law_rows" (.lst []),
  .for_ "_law_at" (.blt "range" [.u "_law_many_here"]) [.x0 "_law_like" (.bin .Sub (.u "_law_at") (.bin .FloorDiv (.bin .Mod (.u "_law_at") (.int 3)) (.int 2))),.ite (.cmp .Eq (.bin .Mod (.u "_law_at") (.int 5)) (.int 4)) [.x0 "_law_like" (.int 0)] [],.append "_law_rows" (.blt "tuple" [.comp (.call "_law_thing_by" [.call "_law_mixed" [.u "_law_cell",.bin .Add (.bin .Mult (.int 13) (.u "_law_like")) (.u "_law_k")]]) "_law_k" (.blt "range" [.u "_law_wide"]) []])],
  .ret (.u "_law_rows")]⟩
noncomputable def k4:Fn:=⟨["_law_script","_law_more"],[
  .x0 "_law_names_here" (.call "_law_names" [.u "_law_script"]),
  .x0 "_law_tables_here" (.dct [] []),
  .for_ "_law_k" (.blt "range" [.int 3]) [.x0 "_law_shape" (.call "_law_cell_at" [.u "_law_script",.u "_law_k"]),.x0 "_law_cell" (.call "_law_mixed" [.call "_law_cell_at" [.u "_law_script",.bin .Add (.int 3) (.u "_law_k")],.bin .Add (.int 80) (.u "_law_more")]),.setk "_law_tables_here" (.sub (.u "_law_names_here") (.u "_law_k")) (.call "_law_rows_by" [.u "_law_cell",.call "_law_wide_by" [.u "_law_shape"],.call "_law_rows_of" [.u "_law_shape"]])],
  .ret (.u "_law_tables_here")]⟩
structure BT(P:yN (yS×Fn)):Prop extends BE P,BA P where
 rowsBy:P.lookup "_law_rows_by"=ac jS
 tables:P.lookup "_law_tables"=ac k4
noncomputable abbrev rowsB:yN MS:=[.x0 "_law_like" (.bin .Sub (.u "_law_at") (.bin .FloorDiv (.bin .Mod (.u "_law_at") (.int 3)) (.int 2))),.ite (.cmp .Eq (.bin .Mod (.u "_law_at") (.int 5)) (.int 4)) [.x0 "_law_like" (.int 0)] [],.append "_law_rows" (.blt "tuple" [.comp (.call "_law_thing_by" [.call "_law_mixed" [.u "_law_cell",.bin .Add (.bin .Mult (.int 13) (.u "_law_like")) (.u "_law_k")]]) "_law_k" (.blt "range" [.u "_law_wide"]) []])]
section
variable {P:yN (yS×Fn)} {X:CF}
theorem rows_by(B:BT P)(n:Nat)(c:Int){m k:Nat}(E:m<=1000)(s:k<=60):∃ t:Tab,aQ m t/\t.length=k/\(ai P X (n+3)).call "_law_rows_by" [.int c,.int m,.int k]=ac (aC t,yP):=by
 obtain⟨E2,⟨t,h1,f,o,_⟩,e⟩:=iy (cf:=ai P X (n+2)) (body:=rowsB) (z:="_law_at") (g:=λi:Nat=>D.int (i:Int)) (λb σ=>∃ t:Tab,aQ m t/\t.length=b.length/\bH σ "_law_rows" (aC t)/\Has σ "_law_cell" (.int c)/\Has σ "_law_wide" (.int m)) (zt k) [] (freeze ["_law_many_here"] (az [("_law_cell",(yM,.int c)),("_law_wide",(yM,.int m)),("_law_many_here",(yM,.int k))] "_law_rows" (yP,.list [])))
  ⟨[],(λZ h=>nomatch h),QQ,gG QQ dF,cg (ag QQ ae),cg (ag QQ (af QQ ae))⟩ (by
  rintro b i σ _ u ⟨t,h1,f,o,w,y⟩;have fin:∀ (L:Int) (σ:St),bH σ "_law_rows" (aC t)->Has σ "_law_cell" (.int c)->Has σ "_law_wide" (.int m)->Has σ "_law_like" (.int L)->Out (ai P X (n+2)) (rowsB.drop 2) σ λG E2=>G=.next/\∃ t:Tab,aQ m t/\t.length=(b++[i]).length/\bH E2 "_law_rows" (aC t)/\Has E2 "_law_cell" (.int c)/\Has E2 "_law_wide" (.int m):=λL σ H A C I=>by
   obtain⟨J,M,q2,N⟩:=k8 (cf:=ai P X (n+2)) (ρ:=vis σ) (z:="_law_k") (elt:=.call "_law_thing_by" [.call "_law_mixed" [.u "_law_cell",.bin .Add (.bin .Mult (.int 13) (.u "_law_like")) (.u "_law_k")]]) (Fm:=.u "_law_wide") E vd (vr C) λj Z=>by
    obtain⟨r,_,a⟩:=mixed (X:=X) B.toBG (n+1) c (13 * L+j);obtain⟨d,O,q⟩:=sW (X:=X) B.toBG n r;exact⟨d,O,al (ad (al (ad (aF (bE QQ (aM A))) (ad (am (am vI (aF (bE QQ (aM I))) (nq (by decide))) (aF b0) cZ) vN)) a) vN) q⟩
   refine aJ (bT (ds:=t.map .tup) N (bZ QQ H) ?_) (bB ⟨QQ,t++[J],λr a=>(zM.mp a).elim (h1 r) λa=>zg.mp a▸⟨M,λd q=>(q2 d q).cell⟩,?_,?_,ag QQ (au A),ag QQ (au C)⟩)
   ·rw[yV,f]
    exact zf (by rw[zX,ET,Al] at u;exact u) (yQ s (by decide))
   ·rw[zd,zd,f];rfl
   ·rw[eE];exact dF
  refine aJ (aW (d:=.int (i - i % 3 / 2)) (fr:=yM) (aq (am (vr ay) (am (am (vr ay) vI (aP (by decide))) vI (br (by unfold lim;decide))) u6) QQ QQ) QQ) (cM (k:=(i:Int) % 5 == 4) (ax (am (vr (ag QQ ay)) vI (aP (by decide))) vI QQ) QQ (λZ=>?_) λZ=>?_)
  ·exact aJ (aW (d:=.int 0) (fr:=yM) (aq vI QQ QQ) QQ) (fin 0 _ (bC QQ (bC QQ (bC QQ o))) (ag QQ (ag QQ (ag QQ w))) (ag QQ (ag QQ (ag QQ y))) ay)
  ·exact fin _ _ (bC QQ (bC QQ o)) (ag QQ (ag QQ w)) (ag QQ (ag QQ y)) ay)
 refine⟨t,h1,f.trans (by rw[A0,zX]),av B.rowsBy QQ ?_⟩
 exact aA (ak (d:=.list []) (fr:=yP) QQ) (ef (x:=.rng 0 k) (bP (ad (d:=.int k) (vr (ag QQ (af QQ (af QQ ae)))) vN) (kN (yQ s (by decide)))) (eI k) e (dP o))
noncomputable abbrev tabsB:yN MS:=[.x0 "_law_shape" (.call "_law_cell_at" [.u "_law_script",.u "_law_k"]),.x0 "_law_cell" (.call "_law_mixed" [.call "_law_cell_at" [.u "_law_script",.bin .Add (.int 3) (.u "_law_k")],.bin .Add (.int 80) (.u "_law_more")]),.setk "_law_tables_here" (.sub (.u "_law_names_here") (.u "_law_k")) (.call "_law_rows_by" [.u "_law_cell",.call "_law_wide_by" [.u "_law_shape"],.call "_law_rows_of" [.u "_law_shape"]])]
structure TabI(S:D)(a b c:Str)(more:Int)(ks vs:yN D)(σ:St):Prop where
 s:Has σ "_law_script" S
 m:Has σ "_law_more" (.int more)
 n:Has σ "_law_names_here" (.list [.str a,.str b,.str c])
 t:bH σ "_law_tables_here" (.dict ks vs)
theorem mD(B:BT P)(n:Nat)(ns:yN Int){a b c:Str}{more:Int}{i:Nat}{nm:Str}{ks vs:yN D}(o:aV (.list [.str a,.str b,.str c]) (.int i)=ac (.str nm))(u:dQ (.str nm) ks=yP)(w:ks.length<4)(h:∀ x∈ks,aO x (.str nm)=yM)(f:ks.length=vs.length){σ:St}(I:TabI (.list (ns.map .int)) a b c more ks vs σ) :
  ∃ t E2,(aQ (aS (ns.getD i 0)) t/\t.length=cY (ns.getD i 0))/\TabI (.list (ns.map .int)) a b c more (ks++[.str nm]) (vs++[aC t]) E2/\bn (ai P X (n+4)) tabsB (az σ "_law_k" (yM,.int i))=ac (.next,E2):=by
 have c1:=eU (X:=X) B.toBG (n+3) ns i;have c2:=eU (X:=X) B.toBG (n+3) ns (3+i);obtain⟨x,_,y⟩:=mixed (X:=X) B.toBG (n+3) (ns.getD (3+i) 0) (80+more);obtain⟨t,z,A,C⟩:=rows_by (X:=X) B (n+1) x (m:=aS (ns.getD i 0)) (k:=cY (ns.getD i 0)) (yQ (vg _) (by decide)) (yQ (oq (X:=X) B.toBE 0 _).1 (by decide))
 have E:=lF (X:=X) B.toBE (n+3) (ns.getD i 0);have w2:=(oq (X:=X) B.toBE (n+3) (ns.getD i 0)).2;have G:((3+i:Nat):Int)=3+(i:Int):=AA 3 i;rw[G] at c2;obtain⟨j,E2,⟨rfl,q⟩,e⟩:Out (ai P X (n+4)) tabsB (az σ "_law_k" (yM,.int i)) λj E2=>j=.next/\TabI (.list (ns.map .int)) a b c more (ks++[.str nm]) (vs++[aC t]) E2:=by
  refine aJ (aW (d:=.int (ns.getD i 0)) (fr:=yM) (aE (vv (ag QQ I.s) (vv ay vN)) c1) QQ) ?_;refine aJ (aW (d:=.int x) (fr:=yM) (aE (ad (al (vv (ag QQ (ag QQ I.s)) (ad (am vI (vr (ag QQ ay)) cZ) vN)) c2) (ad (am vI (vr (ag QQ (ag QQ I.m))) cZ) vN)) y) QQ) ?_;refine aJ (uR (d:=aC t) (dk:=.str nm) (ks:=ks) (vs:=vs) (al (vv ay (ad (al (vv (ag QQ ay) vN) E) (ad (al (vv (ag QQ ay) vN) w2) vN))) C) (aw (vr (ag QQ (ag QQ (ag QQ I.n)))) (vr (ag QQ (ag QQ ay))) o) (bZ QQ (bZ QQ (bC QQ (bC QQ (bC QQ I.t))))) (by rw[u,Ak (Aj w (by decide))];rfl)) (bB ⟨QQ,?_,?_,?_,?_⟩)
  ·exact ag QQ (au (au (ag QQ (ag QQ (ag QQ I.s)))))
  ·exact ag QQ (au (au (ag QQ (ag QQ (ag QQ I.m)))))
  ·exact ag QQ (au (au (ag QQ (ag QQ (ag QQ I.n)))))
  ·rw[sL f h];exact dF
 exact⟨t,E2,⟨z,A⟩,q,e⟩
theorem for3{cf:CF}{body:yN MS}{z:yS}{σ a b c:St}{f h d2:D}(i:bn cf body (az σ z (yM,f))=ac (.next,a))(e1:bn cf body (az a z (yM,h))=ac (.next,b))(j:bn cf body (az b z (yM,d2))=ac (.next,c)):cG (dB cf body z) [f,h,d2] σ=ac (.next,c):=by
 rw[cA,i];show cG _ _ _=_;rw[cA,e1];show cG _ _ _=_;rw[cA,j];rfl
theorem qO(B:BT P)(n:Nat)(ns:yN Int)(more:Int){a b c:Str}(q:a≠b)(s:a≠c)(u:b≠c)(C:(ai P X (n+4)).call "_law_names" [.list (ns.map .int)]=ac (.list [.str a,.str b,.str c],yP)) :
  ∃ f j m,((aQ (aS (ns.getD 0 0)) f/\f.length=cY (ns.getD 0 0))/\(aQ (aS (ns.getD 1 0)) j/\j.length=cY (ns.getD 1 0))/\(aQ (aS (ns.getD 2 0)) m/\m.length=cY (ns.getD 2 0)))/\(ai P X (n+5)).call "_law_tables" [.list (ns.map .int),.int more]=ac (Tbs.d [(a,f),(b,j),(c,m)],yP):=by
 have E:TabI (.list (ns.map .int)) a b c more [] [] (freeze [] (az (az (freeze ["_law_script"] [("_law_script",(yM,.list (ns.map .int))),("_law_more",(yM,.int more))]) "_law_names_here" (yP,.list [.str a,.str b,.str c])) "_law_tables_here" (yP,.dict [] []))):=⟨cg (ag QQ (ag QQ (cg ae))),cg (ag QQ (ag QQ (cg (af QQ ae)))),cg (ag QQ ay),gG QQ dF⟩;have o:∀ {x y:Str},x≠y->∀ z∈[D.str x],aO z (.str y)=yM:=λh z w=>zg.mp w▸oW h
 obtain⟨f,G,H,I,J⟩:=mD (X:=X) B n ns (i:=0) (nm:=a) (ks:=[]) (vs:=[]) QQ QQ (yZ QQ) (λx (h:x∈[])=>nomatch h) QQ E
 obtain⟨j,L,M,N,e1⟩:=mD (X:=X) B n ns (i:=1) (nm:=b) (ks:=[.str a]) (vs:=[aC f]) QQ QQ (yZ QQ) (o q) QQ I;obtain⟨m,A,O,T,U⟩:=mD (X:=X) B n ns (i:=2) (nm:=c) (ks:=[.str a,.str b]) (vs:=[aC f,aC j]) QQ QQ (yZ QQ) (λz w=>(zc.mp w).elim (λe=>e▸oW s) (o u z)) QQ N
 refine⟨f,j,m,⟨H,M,O⟩,av B.tables QQ ?_⟩;refine aA (ak (aE (vv ae vN) C)) (aA (ak (d:=.dict [] []) (fr:=yP) QQ) ?_);refine ef (x:=.rng 0 3) (E8:=[.int 0,.int 1,.int 2]) (E2:=A) QQ QQ ?_ (dP T.t);exact for3 J e1 U
end
set_option maxHeartbeats 400000
noncomputable def rq:Fn:=⟨["clause","places"],[
  .x0 "found" (.lst []),
  .for_ "test" (.u "clause") [.x0 "other" (.sub (.u "test") (.int 3)),.ite (.cmp .Eq (.sub (.u "test") (.int 2)) (.str "col")) [.x0 "other" (.sub (.u "places") (.sub (.u "test") (.int 3)))] [],.append "found" (.tup [.sub (.u "test") (.int 0),.sub (.u "places") (.sub (.u "test") (.int 1)),.sub (.u "test") (.int 2),.u "other"])],
  .ret (.blt "tuple" [.u "found"])]⟩
noncomputable def wG:Fn:=⟨["clauses","query"],[
  .ite (.cmp .Eq (.u "clauses") (.lst [])) [.ret (.u "query")] [],
  .ret (.tup [.str "sieve",.blt "tuple" [.u "clauses"],.u "query"])]⟩
noncomputable def lw:Fn:=⟨["clause"],[
  .ret (.bop .And [.cmp .Eq (.blt "len" [.u "clause"]) (.int 1),.cmp .Eq (.sub (.sub (.u "clause") (.int 0)) (.int 0)) (.str "same"),.cmp .Eq (.sub (.sub (.u "clause") (.int 0)) (.int 2)) (.str "col")])]⟩
noncomputable def fH:Fn:=⟨["query","clauses","widths"],[
  .x0 "own" (.call "width" [.sub (.u "query") (.int 1),.u "widths"]),
  .x0 "many" (.bin .Add (.u "own") (.call "width" [.sub (.u "query") (.int 2),.u "widths"])),
  .x0 "moved" (.comp (.bin .Sub (.u "place") (.u "own")) "place" (.blt "range" [.u "many"]) []),
  .x0 "ahead" (.lst []),
  .x0 "behind" (.lst []),
  .x0 "pairs" (.lst []),
  .x0 "kept" (.lst []),
  .for_ "clause" (.u "clauses") [.x0 "places" (.call "places_of" [.u "clause"]),.ite (.bop .Or [.cmp .Eq (.u "places") (.lst []),.cmp .Lt (.sub (.u "places") (.neg (.int 1))) (.u "own")]) [.append "ahead" (.u "clause")] [.ite (.cmp .GtE (.sub (.u "places") (.int 0)) (.u "own")) [.append "behind" (.call "turned" [.u "clause",.u "moved"])] [.ite (.call "is_pair" [.u "clause"]) [.append "pairs" (.tup [.sub (.u "places") (.int 0),.bin .Sub (.sub (.u "places") (.int 1)) (.u "own")])] [.append "kept" (.u "clause")]]]],
  .x0 "first" (.call "placed" [.sub (.u "query") (.int 1),.u "ahead",.u "widths"]),
  .x0 "second" (.call "placed" [.sub (.u "query") (.int 2),.u "behind",.u "widths"]),
  .ret (.call "over" [.u "kept",.tup [.str "join",.u "first",.u "second",.bin .Add (.sub (.u "query") (.int 3)) (.blt "tuple" [.u "pairs"])]])]⟩
noncomputable def fh:Fn:=⟨["query","clauses","widths"],[
  .x0 "inner" (.lst []),
  .x0 "kept" (.lst []),
  .for_ "clause" (.u "clauses") [.x0 "places" (.call "places_of" [.u "clause"]),.ite (.bop .Or [.cmp .Eq (.u "places") (.lst []),.cmp .Lt (.sub (.u "places") (.neg (.int 1))) (.blt "len" [.sub (.u "query") (.int 1)])]) [.append "inner" (.call "turned" [.u "clause",.sub (.u "query") (.int 1)])] [.append "kept" (.u "clause")]],
  .ret (.call "over" [.u "kept",.tup [.str "group",.sub (.u "query") (.int 1),.sub (.u "query") (.int 2),.call "placed" [.sub (.u "query") (.int 3),.u "inner",.u "widths"]]])]⟩
noncomputable def kK:Fn:=⟨["query","clauses","widths"],[
  .x0 "word" (.sub (.u "query") (.int 0)),
  .ite (.cmp .Eq (.u "word") (.str "sieve")) [.ret (.call "placed" [.sub (.u "query") (.int 2),.bin .Add (.lcp (.sub (.u "query") (.int 1))) (.u "clauses"),.u "widths"])] [],
  .ite (.cmp .Eq (.u "word") (.str "pick")) [.x0 "inner" (.comp (.call "turned" [.u "clause",.sub (.u "query") (.int 1)]) "clause" (.u "clauses") []),.ret (.tup [.str "pick",.sub (.u "query") (.int 1),.call "placed" [.sub (.u "query") (.int 2),.u "inner",.u "widths"]])] [],
  .ite (.cmp .Eq (.u "word") (.str "order")) [.ret (.tup [.str "order",.sub (.u "query") (.int 1),.call "placed" [.sub (.u "query") (.int 2),.u "clauses",.u "widths"]])] [],
  .ite (.cmp .Eq (.u "word") (.str "once")) [.ret (.tup [.str "once",.call "placed" [.sub (.u "query") (.int 1),.u "clauses",.u "widths"]])] [],
  .ite (.cmp .Eq (.u "word") (.str "both")) [.x0 "first" (.call "placed" [.sub (.u "query") (.int 1),.u "clauses",.u "widths"]),.ret (.tup [.str "both",.u "first",.call "placed" [.sub (.u "query") (.int 2),.u "clauses",.u "widths"]])] [],
  .ite (.cmp .Eq (.u "word") (.str "join")) [.ret (.call "through_join" [.u "query",.u "clauses",.u "widths"])] [],
  .ite (.cmp .Eq (.u "word") (.str "group")) [.ret (.call "through_group" [.u "query",.u "clauses",.u "widths"])] [],
  .ite (.cmp .Eq (.u "word") (.str "first")) [.ret (.call "over" [.u "clauses",.tup [.str "first",.sub (.u "query") (.int 1),.call "placed" [.sub (.u "query") (.int 2),.lst [],.u "widths"]]])] [],
  .ret (.call "over" [.u "clauses",.u "query"])]⟩
noncomputable def wF:Fn:=⟨["query","widths"],[
  .expr (.call "width" [.u "query",.u "widths"]),
  .ret (.call "placed" [.u "query",.lst [],.u "widths"])]⟩
structure BP(P:yN (yS×Fn)):Prop extends BW P where
 tu:P.lookup "turned"=ac rq
 ov:P.lookup "over"=ac wG
 ip:P.lookup "is_pair"=ac lw
 tj:P.lookup "through_join"=ac fH
 tg:P.lookup "through_group"=ac fh
 pl:P.lookup "placed"=ac kK
 pn:P.lookup "plan"=ac wF
noncomputable def du(f:Nat->Nat)(t:D):D:=match t with
 | .tup [w,.int p,.str k,o]=>.tup [w,aN (f p.toNat),.str k,if k == yO "col" then (match o with | .int q=>aN (f q.toNat) | _=>.none) else o]
 | _=>.none
theorem ku(f:Nat->Nat)(w:yS)(p q:Nat):du f (tst w p "col" (.int q))=.tup [.str (yO w),aN (f p),.str (yO "col"),aN (f q)]:=by
 show D.tup [_,_,_,if _ then _ else _]=_
 rw[y8 col_t];rfl
theorem lJ(f:Nat->Nat)(w:yS)(p:Nat)(o:D):du f (tst w p "is" o)=.tup [.str (yO w),aN (f p),.str (yO "is"),o]:=by
 show D.tup [_,_,_,if _ then _ else _]=_
 rw[za (by rw[yn];exact y5)];rfl
theorem turnN_tst{m m':Nat}{f:Nat->Nat}{t:D}(c:Tst m t)(a:∀ p:Nat,(p:Int)∈fX t->f p<m'):Tst m' (du f t):=by
 obtain⟨w,p,b,_,⟨q,_,rfl⟩ | ⟨o,h,rfl⟩⟩:=c
 ·rw[gL] at a
  exact⟨w,f p,b,a p (.head _),.inl ⟨f q,a q (.tail _ (.head _)),ku f w p q⟩⟩
 ·rw[li] at a
  exact⟨w,f p,b,a p (.head _),.inr ⟨o,h,lJ f w p o⟩⟩
theorem qL{m m':Nat}{f:Nat->Nat}{c:yN D}(a:bV m c)(h:∀ t∈c,∀ p:Nat,(p:Int)∈fX t->f p<m'):bV m' (c.map (du f)):=
 ⟨λt i=>by
  obtain⟨u,b,rfl⟩:=zz.mp i;exact turnN_tst (a.1 u b) (h u b),by rw[yV];exact a.2⟩
theorem lR{m:Nat}{t:D}(b:Tst m t){z:Int}(hz:z∈fX t):∃ p:Nat,z=p/\p<m:=by
 obtain⟨w,p,_,a,⟨q,hq,rfl⟩ | ⟨o,_,rfl⟩⟩:=b
 ·rw[gL] at hz
  rcases zc.mp hz with rfl | hz
  ·exact⟨p,QQ,a⟩
  ·exact⟨q,zg.mp hz,hq⟩
 ·rw[li] at hz
  exact⟨p,zg.mp hz,a⟩
section
variable {P:yN (yS×Fn)} {X:CF} {m:Nat}
theorem uH(B:BP P)(n:Nat){c:yN D}{pl:D}{f:Nat->Nat}(G:∀ t∈c,Tst m t)(C:c.length<=31)(A:∀ t∈c,∀ p:Nat,(p:Int)∈fX t->aV pl (.int p)=ac (aN (f p))):(ai P X (n+1)).call "turned" [.tup c,pl]=ac (.tup (c.map (du f)),yM):=by
 have h:2000<big:=by decide
 refine av B.tu QQ ?_;refine aA (ak (d:=.list []) (fr:=yP) QQ) ?_;obtain⟨E2,⟨_,u⟩,H⟩:=fZ (cf:=ai P X n) (body:=[.x0 "other" (.sub (.u "test") (.int 3)),.ite (.cmp .Eq (.sub (.u "test") (.int 2)) (.str "col")) [.x0 "other" (.sub (.u "places") (.sub (.u "test") (.int 3)))] [],.append "found" (.tup [.sub (.u "test") (.int 0),.sub (.u "places") (.sub (.u "test") (.int 1)),.sub (.u "test") (.int 2),.u "other"])]) (z:="test")
  (λa σ=>Has σ "places" pl/\bH σ "found" (.list (a.map (du f)))) c [] [("clause",(yM,.tup c)),("places",(yM,pl)),("found",(yP,.list []))] ⟨(af QQ ae),QQ⟩ (by
   rintro a E b σ i ⟨j,u⟩;rw[A0] at i;have hit:E∈c:=by rw[i];simp
   have s:a.length<c.length:=by rw[i];simp
   obtain⟨w,p,J,_,⟨q,hq,rfl⟩ | ⟨o,I,rfl⟩⟩:=G E hit
   ·rw[zq,zm,EQ,ku]
    refine aJ (ak (d:=.int q) (fr:=yM) (aq (aw (x:=tst w p "col" (.int q)) (y:=.int 3) (vr ay) vI QQ) QQ QQ)) ?_;refine cM (k:=yP) (ax (aw (x:=tst w p "col" (.int q)) (y:=.int 2) (vr (ag QQ (au ay))) vI QQ) vS yj) QQ (λZ=>?_) nofun
    refine aJ (ak (d:=aN (f q)) (fr:=yM) (aq (aw (x:=pl) (y:=.int q) (vr (ag QQ (au (ag QQ j)))) (aw (x:=tst w p "col" (.int q)) (y:=.int 3) (vr (ag QQ (au ay))) vI QQ) (A _ hit q (by rw[gL];exact .tail _ (.head _)))) QQ QQ)) ?_
    refine aJ (bT (d:=.tup [.str (yO w),aN (f p),.str (yO "col"),aN (f q)]) (ds:=a.map (du f))
     (bD (ad (aw (x:=tst w p "col" (.int q)) (y:=.int 0) (vr (ag QQ (au (ag QQ (au ay))))) vI QQ) (ad (aw (x:=pl) (y:=.int p) (vr (ag QQ (au (ag QQ (au (ag QQ j)))))) (aw (x:=tst w p "col" (.int q)) (y:=.int 1) (vr (ag QQ (au (ag QQ (au ay))))) vI QQ) (A _ hit p (by rw[gL];exact .head _))) (ad (aw (x:=tst w p "col" (.int q)) (y:=.int 2) (vr (ag QQ (au (ag QQ (au ay))))) vI QQ) (vv ay vN)))) (yZ QQ)) (?_:bH _ _ _) (by rw[yV];exact om84 C h s)) (bB ⟨QQ,?_,dF⟩)
    ·exact bZ QQ (bC QQ (bZ QQ (bC QQ (bZ QQ (bC QQ u)))))
    ·exact ag QQ (au (ag QQ (au (ag QQ (au (ag QQ j))))))
   ·rw[zq,zm,EQ,lJ]
    refine aJ (aW (d:=o) (fr:=yM) (aq (aw (x:=tst w p "is" o) (y:=.int 3) (vr ay) vI QQ) QQ QQ) I.cell) ?_;refine cM (k:=yM) (ax (aw (x:=tst w p "is" o) (y:=.int 2) (vr (ag QQ ay)) vI QQ) vS eq_is) QQ nofun λZ=>?_
    refine aJ (bT (d:=.tup [.str (yO w),aN (f p),.str (yO "is"),o]) (ds:=a.map (du f))
     (bD (ad (aw (x:=tst w p "is" o) (y:=.int 0) (vr (ag QQ ay)) vI QQ) (ad (aw (x:=pl) (y:=.int p) (vr (ag QQ (ag QQ j))) (aw (x:=tst w p "is" o) (y:=.int 1) (vr (ag QQ ay)) vI QQ) (A _ hit p (by rw[li];exact .head _))) (ad (aw (x:=tst w p "is" o) (y:=.int 2) (vr (ag QQ ay)) vI QQ) (vv ay vN)))) (yZ QQ)) (?_:bH _ _ _) (by rw[yV];exact om84 C h s)) (bB ⟨QQ,?_,dF⟩)
    ·exact bZ QQ (bC QQ (bC QQ u))
    ·exact ag QQ (au (ag QQ (ag QQ j))))
 exact ef (x:=.tup c) (E8:=c) QQ QQ H (aD (aq (bP (ad (d:=.list (c.map (du f))) (vr (iB u)) vN) QQ) QQ QQ) QQ)
theorem ou(B:BP P)(n:Nat){cs:yN (yN D)}{q:D}(hq:q.isCell=yM):(ai P X (n+1)).call "over" [.list (cs.map clD),q]=ac (if cs=[] then q else .tup [sD "sieve",.tup (cs.map clD),q],yM):=by
 refine av B.ov QQ ?_;cases cs with
 | nil=>
  rw[y8 rfl];exact bc (k:=yP) (x:=.bool yP) QQ QQ (λZ=>dP QQ) nofun
 | cons c cs=>
  rw[za (by nofun)]
  refine bc (k:=yM) (x:=.bool yM) QQ QQ nofun λZ=>?_
  exact aD (aq (bD (ad vS (ad (bP (ad (d:=.list ((c::cs).map clD)) QQ vN) QQ) (ad (d:=q) QQ vN))) (yZ QQ)) QQ QQ) QQ
end
set_option maxHeartbeats 400000
noncomputable def gH(c:yN D):yN Int:=c.flatMap fX
noncomputable def cV(E7:Nat)(c:yN D):yU:=(gH c).all λz=>decide (z<E7)
noncomputable def ji(E7:Nat)(c:yN D):yU:=(gH c).all λz=>decide ((E7:Int)<=z)
noncomputable def pairT(t:D):yU:=match t with
 | .tup [.str w,_,.str k,_]=>w == yO "same"&&k == yO "col"
 | _=>yM
noncomputable def qX(c:yN D):yU:=match c with
 | [t]=>pairT t
 | _=>yM
theorem mM(t u:D)(r:yN D):qX (t::u::r)=yM:=rfl
noncomputable def cat(E7:Nat)(c:yN D):Nat:=if cV E7 c=yP then 0 else if ji E7 c=yP then 1 else if qX c=yP then 2 else 3
theorem all_iff{l b:yN Int}(h:∀ z,z∈l↔z∈b)(p:Int->yU):l.all p=b.all p:=by
 rw[Bg,zx,zx];exact⟨λq z a=>q z ((h z).mpr a),λq z a=>q z ((h z).mp a)⟩
theorem u7(c:yN D)(p:Int->yU):(cP (gH c)).all p=(gH c).all p:=all_iff (λz=>im z _) p
theorem srt_last{l:yN Int}(h:l.Pairwise (·<·)){r:yN Int}{z:Int}(e:l=r++[z])(k:Int):(l.all λx=>decide (x<k))=decide (z<k):=by
 subst e;rw[C2] at h;rw[Bg,zx,BU]
 constructor
 ·intro q;exact zS (q z (z7 _ (.head _)))
 ·intro q x hx
  refine Ak ?_
  rcases zM.mp hx with hx | hx
  ·have:=h.2.2 x hx z (.head _);exact om85 q this
  ·rw[zg.mp hx];exact q
theorem srt_head{l:yN Int}{r:yN Int}{a:Int}(h:(a::r).Pairwise (·<·))(k:Int):((a::r).all λx=>decide (k<=x))=decide (k<=a):=by
 rw[AG] at h;rw[Bg,zx,BU]
 constructor
 ·intro q;exact zS (q a (.head _))
 ·intro q x hx
  refine Ak ?_
  rcases zc.mp hx with rfl | hx
  ·exact q
  ·have:=h.1 x hx;exact om86 q this
theorem sub_last{r:yN D}{z:D}:aV (.list (r++[z])) (.int (-1))=ac z:=by
 show (idx (-1) (r++[z]).length).bind _=_;have:idx (-1) (r++[z]).length=ac r.length:=by
  unfold idx;rw[za (om87),y8 (by simp;exact om88)]
  simp;exact om89
 rw[this];simp
section
variable {cf:CF} {σ:St} {c:yN D}
theorem vh{e:ME}{E7:Nat}(h:Has σ "places" (.list ((cP (gH c)).map .int)))(he:evE cf (vis σ) e=ac (.int E7)) :
  evE cf (vis σ) (.bop .Or [.cmp .Eq (.u "places") (.lst []),.cmp .Lt (.sub (.u "places") (.neg (.int 1))) e])=ac (.bool (cV E7 c)):=by
 have a:=kt (gH c);unfold cV;rw[<- u7];generalize cP (gH c)=l at *
 rcases List.eq_nil_or_concat l with rfl | ⟨r,z,rfl⟩
 ·exact fN (k:=yP) (l:=yP) (ax (vr h) (cO vN (zn _)) QQ) nofun
 ·rw[List.concat_eq_append] at *
  rw[srt_last a rfl];have h1:eT .Eq (.list ((r++[z]).map .int)) (.list [])=ac (.bool yM):=by
   show (if ((r++[z]).map D.int).length=0 then _ else ac yM).map D.bool=_
   rw[za (by simp)];rfl
  rw[zq] at h h1;exact fN (k:=yM) (l:=decide (z<E7)) (ax (vr h) (cO vN (zn _)) h1) λZ=>bk (ax (aw (vr h) rP sub_last) he QQ)
theorem us_ne{E7:Nat}(h:cV E7 c=yM):∃ a r,cP (gH c)=a::r:=by
 cases e:cP (gH c) with
 | nil=>
  unfold cV at h;rw[<- u7,e] at h;cases h
 | cons a r=>exact⟨a,r,QQ⟩
theorem v_behind{E7:Nat}(f:cV E7 c=yM)(h:Has σ "places" (.list ((cP (gH c)).map .int)))(i:Has σ "own" (.int E7)) :
  evE cf (vis σ) (.cmp .GtE (.sub (.u "places") (.int 0)) (.u "own"))=ac (.bool (ji E7 c)):=by
 have b:=kt (gH c);obtain⟨a,r,e⟩:=us_ne f;unfold ji;rw[e] at h b;rw[<- u7,e,srt_head (l:=[]) b];exact ax (x:=.int a) (vsi h (lK (k:=0) (by simp) QQ)) (vr i) QQ
end
theorem tst_parts{m:Nat}{t:D}(a:Tst m t):∃ w k o p,t=.tup [.str w,.int p,.str k,o]/\(k=yO "col"\/k=yO "is"):=by
 obtain⟨w,p,_,_,⟨q,_,rfl⟩ | ⟨o,_,rfl⟩⟩:=a
 ·exact⟨_,_,_,_,QQ,.inl QQ⟩
 ·exact⟨_,_,_,_,QQ,.inr QQ⟩
section
variable {P:yN (yS×Fn)} {X:CF} {m:Nat}
theorem is_pair(B:BP P)(n:Nat){c:yN D}(a:bV m c):(ai P X (n+1)).call "is_pair" [clD c]=ac (.bool (qX c),yM):=by
 refine av B.ip QQ ?_;show Run _ lw.body [("clause",(yM,.tup c))] _ _;generalize ai P X n=cf at *
 match c,a with
 | [],_=>exact aD (aq (cW (k:=yM) (l:=yM) (ax (x:=.int 0) (y:=.int 1) QQ QQ QQ) nofun) QQ QQ) QQ
 | t::u::r,_=>
  have h1:eT .Eq (.int ((t::u::r).length:Nat)) (.int 1)=ac (.bool yM):=by
   show ac (D.bool (((t::u::r).length:Int) == 1))=_;rw[show ((((t::u::r).length:Nat):Int) == 1)=yM from by rw[Ay];simp;exact om90]
  rw[mM];exact aD (aq (cW (k:=yM) (l:=yM) (ax (bP (ad (d:=.tup (t::u::r)) QQ vN) QQ) vI h1) nofun) QQ QQ) QQ
 | [t],a=>
  obtain⟨w,k,o,p,rfl,b⟩:=tst_parts (a.1 t (.head _));have e:qX [.tup [.str w,.int p,.str k,o]]=(yP&&((w == yO "same")&&(k == yO "col"))):=rfl;rw[e];exact aD (aq (cW (k:=yP) (ax (x:=.int 1) (y:=.int 1) QQ QQ QQ) λZ=>cW (k:=w == yO "same") (l:=k == yO "col") (ax (aw (x:=.tup [.str w,.int p,.str k,o]) (y:=.int 0) QQ QQ QQ) vS QQ) λZ=>bk (ax (aw (x:=.tup [.str w,.int p,.str k,o]) (y:=.int 2) QQ QQ QQ) vS QQ)) QQ QQ) QQ
end
noncomputable def uP(E7:Nat)(c:yN D):Nat×Nat:=match cP (gH c) with
 | a::b::_=>(a.toNat,b.toNat - E7)
 | _=>(0,0)
theorem xH{E7:Nat}{m:Nat}{c:yN D}(n:bV m c)(h:cat E7 c=2):∃ a b:Nat,cP (gH c)=[(a:Int),(b:Int)]/\a<E7/\E7<=b/\b<m/\uP E7 c=(a,b - E7):=by
 unfold cat at h;split at h
 ·cases h
 rename_i h1
 split at h
 ·cases h
 rename_i j
 split at h
 case isFalse=>cases h
 rename_i i
 match c,n,i with
 | [],_,i=>cases i
 | t::u::r,_,i=>rw[mM] at i;cases i
 | [t],n,i=>
  obtain⟨w,p,z,y,⟨q,hq,rfl⟩ | ⟨o,A,rfl⟩⟩:=n.1 t (.head _)
  ·have e:gH [tst w p "col" (.int q)]=[(p:Int),(q:Int)]:=rfl
   unfold cV at h1;unfold ji at j;rw[e] at h1 j;simp only[Bc,List.all_nil,C8,Bo,BU,not_and,Ce,Int.not_le] at h1 j;unfold uP;rw[e]
   by_cases f:p<q
   ·have s:cP [(p:Int),(q:Int)]=[(p:Int),(q:Int)]:=by
     show mX p (mX q [])=_;simp only[mX];rw[y8 (om35 f)]
    rw[s];exact⟨p,q,QQ,by exact om91 j f,by exact om92 h1 f,hq,by simp⟩
   ·have s:cP [(p:Int),(q:Int)]=[(q:Int),(p:Int)]:=by
     show mX p (mX q [])=_;simp only[mX];rw[za (om93 f),za (om94 h1 j)]
    rw[s];exact⟨q,p,QQ,by exact om95 j f,by exact om96 h1 f,y,by simp⟩
  ·have i:((yO w == yO "same")&&(yO "is" == yO "col"))=yP:=i
   rw[yn,CN] at i;cases i
set_option maxHeartbeats 400000
noncomputable def bU(E7:Nat)(cl:yN (yN D)):yN (yN D):=cl.filter λc=>cat E7 c == 0
noncomputable def aY(E7:Nat)(cl:yN (yN D)):yN (yN D):=(cl.filter λc=>cat E7 c == 1).map λc=>c.map (du (· - E7))
noncomputable def bJ(E7:Nat)(cl:yN (yN D)):yN (Nat×Nat):=(cl.filter λc=>cat E7 c == 2).map (uP E7)
noncomputable def dH(E7:Nat)(cl:yN (yN D)):yN (yN D):=cl.filter λc=>cat E7 c == 3
noncomputable def tP:yN MS:=[.x0 "places" (.call "places_of" [.u "clause"]),.ite (.bop .Or [.cmp .Eq (.u "places") (.lst []),.cmp .Lt (.sub (.u "places") (.neg (.int 1))) (.u "own")]) [.append "ahead" (.u "clause")] [.ite (.cmp .GtE (.sub (.u "places") (.int 0)) (.u "own")) [.append "behind" (.call "turned" [.u "clause",.u "moved"])] [.ite (.call "is_pair" [.u "clause"]) [.append "pairs" (.tup [.sub (.u "places") (.int 0),.bin .Sub (.sub (.u "places") (.int 1)) (.u "own")])] [.append "kept" (.u "clause")]]]]
structure JInv(E7:Nat)(mv q T:D)(pre:yN (yN D))(σ:St):Prop where
 ow:Has σ "own" (.int E7)
 mo:Has σ "moved" mv
 qu:Has σ "query" q
 wi:Has σ "widths" T
 ah:bH σ "ahead" (.list ((bU E7 pre).map clD))
 be:bH σ "behind" (.list ((aY E7 pre).map clD))
 pr:bH σ "pairs" (.list ((bJ E7 pre).map prT))
 ke:bH σ "kept" (.list ((dH E7 pre).map clD))
theorem bo{α:Type}(p:α->yU)(l:yN α)(x:α):(l++[x]).filter p=l.filter p++if p x=yP then [x] else []:=by
 rw[zZ,AK,Bj]
section
variable {P:yN (yS×Fn)} {X:CF} {m:Nat}
theorem join_turn(B:BP P)(n:Nat){E7 N:Nat}{mv q T:D}(L:∀ p:Nat,E7<=p->p<E7+N->aV mv (.int p)=ac (aN (p - E7))){pre:yN (yN D)}{c:yN D}(j:bV (E7+N) c)(V:pre.length<=5000){σ:St}(I:JInv E7 mv q T pre σ) :
  Out (ai P X (n+1)) tP (az σ "clause" (yM,clD c)) λY E2=>Y=.next/\JInv E7 mv q T (pre++[c]) E2:=by
 obtain⟨Z,Fo,Fp,Fq,Fs,Ft,Fu,Fv⟩:=I;have h:5000<big:=by decide
 have Fw:(ai P X (n+1)).call "places_of" [clD c]=ac (.list ((cP (gH c)).map .int),yP):=mJ (X:=X) B.toBW n j.1 j.2;have Fz:=is_pair (X:=X) B n j;have y:∀ p:yN D->yU,(pre.filter p).length<=5000:=λp=>yQ (z8 _ _) V
 have O:Has (az σ "clause" (yM,clD c)) "clause" (clD c):=ay;have c1:Has (az σ "clause" (yM,clD c)) "own" (.int E7):=ag QQ Z;have c2:Has (az σ "clause" (yM,clD c)) "moved" mv:=ag QQ Fo;have c3:Has (az σ "clause" (yM,clD c)) "query" q:=ag QQ Fp;have FA:Has (az σ "clause" (yM,clD c)) "widths" T:=ag QQ Fq;have FE:bH (az σ "clause" (yM,clD c)) "ahead" (.list ((bU E7 pre).map clD)):=bC QQ Fs;have FF:bH (az σ "clause" (yM,clD c)) "behind" (.list ((aY E7 pre).map clD)):=bC QQ Ft;have FG:bH (az σ "clause" (yM,clD c)) "pairs" (.list ((bJ E7 pre).map prT)):=bC QQ Fu;have FH:bH (az σ "clause" (yM,clD c)) "kept" (.list ((dH E7 pre).map clD)):=bC QQ Fv;generalize az σ "clause" (yM,clD c)=i at *;refine aJ (ak (aE (vv O vN) Fw)) ?_;generalize FJ:D.list ((cP (gH c)).map .int)=pl at *;have z:Has (az (settle pl (ME.names (.call "places_of" [.u "clause"])) i) "places" (yP,pl)) "clause" (clD c):=ag QQ (au O);have m:Has (az (settle pl (ME.names (.call "places_of" [.u "clause"])) i) "places" (yP,pl)) "own" (.int E7):=ag QQ (au c1);have d2:Has (az (settle pl (ME.names (.call "places_of" [.u "clause"])) i) "places" (yP,pl)) "moved" mv:=ag QQ (au c2);have A:Has (az (settle pl (ME.names (.call "places_of" [.u "clause"])) i) "places" (yP,pl)) "query" q:=ag QQ (au c3);have C:Has (az (settle pl (ME.names (.call "places_of" [.u "clause"])) i) "places" (yP,pl)) "widths" T:=ag QQ (au FA);have E:bH (az (settle pl (ME.names (.call "places_of" [.u "clause"])) i) "places" (yP,pl)) "ahead" (.list ((bU E7 pre).map clD)):=bC QQ (bZ QQ FE);have G:bH (az (settle pl (ME.names (.call "places_of" [.u "clause"])) i) "places" (yP,pl)) "behind" (.list ((aY E7 pre).map clD)):=bC QQ (bZ QQ FF);have H:bH (az (settle pl (ME.names (.call "places_of" [.u "clause"])) i) "places" (yP,pl)) "pairs" (.list ((bJ E7 pre).map prT)):=bC QQ (bZ QQ FG);have J:bH (az (settle pl (ME.names (.call "places_of" [.u "clause"])) i) "places" (yP,pl)) "kept" (.list ((dH E7 pre).map clD)):=bC QQ (bZ QQ FH)
 have u:Has (az (settle pl (ME.names (.call "places_of" [.u "clause"])) i) "places" (yP,pl)) "places" (.list ((cP (gH c)).map .int)):=FJ▸ay;generalize az (settle pl (ME.names (.call "places_of" [.u "clause"])) i) "places" (yP,pl)=FK at *;have FR:∀ k,(cat E7 c == k)=decide (cat E7 c=k):=λk=>by rw[Bg,Bh,BU]
 refine cM (k:=cV E7 c) (vh u (vr m)) QQ (λo=>?_) λo=>?_
 ·have f:cat E7 c=0:=by unfold cat;rw[y8 o]
  refine aJ (bT (d:=clD c) (ds:=(bU E7 pre).map clD) (vr z) (bZ QQ E) (by rw[yV];exact y3 (y _) h)) (bB ⟨QQ,ag QQ (au m),ag QQ (au d2),ag QQ (au A),ag QQ (au C),?_,?_,?_,?_⟩)
  ·unfold bU;rw[bo,f,zq];exact dF
  ·unfold aY;rw[bo,f,za (by decide),zy];exact bC QQ (bZ QQ G)
  ·unfold bJ;rw[bo,f,za (by decide),zy];exact bC QQ (bZ QQ H)
  ·unfold dH;rw[bo,f,za (by decide),zy];exact bC QQ (bZ QQ J)
 refine cM (k:=ji E7 c) (v_behind o u m) QQ (λw=>?_) λw=>?_
 ·have f:cat E7 c=1:=by unfold cat;rw[za (by rw[o];exact y5),y8 w]
  have k2:(ai P X (n+1)).call "turned" [clD c,mv]=ac (clD (c.map (du (· - E7))),yM):=uH (X:=X) B n j.1 j.2 λt U p s=>by
   have FM:(p:Int)∈gH c:=B0.mpr ⟨t,U,s⟩;have h1:=zS (zx.mp w _ FM);obtain⟨FN,e,M⟩:=lR (j.1 t U) s;have:p=FN:=by exact om97 e
   exact L p (om98 h1) (om99 e M)
  refine aJ (bT (d:=clD (c.map (du (· - E7)))) (ds:=(aY E7 pre).map clD) (al (vv z (vv d2 vN)) k2) (bZ QQ G) (by unfold aY;rw[yV,yV];exact y3 (y _) h)) (bB ⟨QQ,ag QQ (au m),ag QQ (au d2),ag QQ (au A),ag QQ (au C),?_,?_,?_,?_⟩)
  ·unfold bU;rw[bo,f,za (by decide),zy];exact bC QQ (bZ QQ E)
  ·unfold aY;rw[bo,f,y8 (by decide),zq,zq];exact dF
  ·unfold bJ;rw[bo,f,za (by decide),zy];exact bC QQ (bZ QQ H)
  ·unfold dH;rw[bo,f,za (by decide),zy];exact bC QQ (bZ QQ J)
 refine cM (k:=qX c) (al (vv z vN) Fz) QQ (λs=>?_) λs=>?_
 ·have f:cat E7 c=2:=by unfold cat;rw[za (by rw[o];exact y5),za (by rw[w];exact y5),y8 s]
  obtain⟨a,b,e1,h1,FO,FS,FP⟩:=xH j f;rw[e1] at u;have FQ:evE (ai P X (n+1)) (vis FK) (.tup [.sub (.u "places") (.int 0),.bin .Sub (.sub (.u "places") (.int 1)) (.u "own")])=ac (prT (uP E7 c)):=by
   rw[FP];show _=ac (D.tup [.int a,.int (b - E7:Nat)]);rw[Int.ofNat_sub FO];exact bD (ad (vsi u QQ) (ad (am (x:=.int b) (vsi u QQ) (vr m) QQ) vN)) (yZ QQ)
  refine aJ (bT (d:=prT (uP E7 c)) (ds:=(bJ E7 pre).map prT) FQ (bZ QQ H) (by unfold bJ;rw[yV,yV];exact y3 (y _) h)) (bB ⟨QQ,ag QQ (au m),ag QQ (au d2),ag QQ (au A),ag QQ (au C),?_,?_,?_,?_⟩)
  ·unfold bU;rw[bo,f,za (by decide),zy];exact bC QQ (bZ QQ E)
  ·unfold aY;rw[bo,f,za (by decide),zy];exact bC QQ (bZ QQ G)
  ·unfold bJ;rw[bo,f,y8 (by decide),zq,zq];exact dF
  ·unfold dH;rw[bo,f,za (by decide),zy];exact bC QQ (bZ QQ J)
 ·have f:cat E7 c=3:=by unfold cat;rw[za (by rw[o];exact y5),za (by rw[w];exact y5),za (by rw[s];exact y5)]
  refine aJ (bT (d:=clD c) (ds:=(dH E7 pre).map clD) (vr z) (bZ QQ J) (by unfold dH;rw[yV];exact y3 (y _) h)) (bB ⟨QQ,ag QQ (au m),ag QQ (au d2),ag QQ (au A),ag QQ (au C),?_,?_,?_,?_⟩)
  ·unfold bU;rw[bo,f,za (by decide),zy];exact bC QQ (bZ QQ E)
  ·unfold aY;rw[bo,f,za (by decide),zy];exact bC QQ (bZ QQ G)
  ·unfold bJ;rw[bo,f,za (by decide),zy];exact bC QQ (bZ QQ H)
  ·unfold dH;rw[bo,f,y8 (by decide),zq];exact dF
end
set_option maxHeartbeats 400000
noncomputable def nD(cs:yN (yN D))(q:D):D:=if cs=[] then q else .tup [sD "sieve",.tup (cs.map clD),q]
section
variable {P:yN (yS×Fn)} {X:CF}
theorem through_join(B:BP P)(n:Nat){E7 j:Nat}(U:E7+j<=5000){I J T Da f:D}{prs:yN D}{cl:yN (yN D)}(A:∀ c∈cl,bV (E7+j) c)(V:cl.length<=5000)(C:prs.length<=5000)
  (Fp:(ai P X (n+1)).call "width" [I,T]=ac (.int E7,yM)) (w2:(ai P X (n+1)).call "width" [J,T]=ac (.int j,yM))
  (Fq:(ai P X (n+1)).call "placed" [I,.list ((bU E7 cl).map clD),T]=ac (Da,yM)) (Fs:(ai P X (n+1)).call "placed" [J,.list ((aY E7 cl).map clD),T]=ac (f,yM)) :
  (ai P X (n+2)).call "through_join" [.tup [sD "join",I,J,.tup prs],.list (cl.map clD),T]=ac (nD (dH E7 cl) (.tup [sD "join",Da,f,.tup (prs++(bJ E7 cl).map prT)]),yM):=by
 have m:20000<big:=by decide
 refine av B.tj QQ ?_;have Ft:=ou (X:=X) B n (cs:=dH E7 cl) (q:=.tup [sD "join",Da,f,.tup (prs++(bJ E7 cl).map prT)]) QQ;refine aA (ak (d:=.int E7) (fr:=yM) (aE (ad (d:=I) QQ (ad (d:=T) QQ vN)) Fp)) ?_;refine aA (ak (d:=.int (E7+j:Nat)) (fr:=yM) (aq (am (x:=.int E7) (y:=.int j) QQ (al (ad (d:=J) QQ (ad (d:=T) QQ vN)) w2) (by rw[AA];rfl)) QQ QQ)) ?_
 refine r_norm (E2:=[("query",(yM,.tup [sD "join",I,J,.tup prs])),("clauses",(yM,.list (cl.map clD))),("widths",(yM,T)),("own",(yM,.int E7)),("many",(yM,.int (E7+j:Nat)))]) QQ ?_;have E:evE (ai P X (n+1)) (vis [("query",(yM,.tup [sD "join",I,J,.tup prs])),("clauses",(yM,.list (cl.map clD))),("widths",(yM,T)),("own",(yM,.int E7)),("many",(yM,.int (E7+j:Nat)))]) (.comp (.bin .Sub (.u "place") (.u "own")) "place" (.blt "range" [.u "many"]) [])=ac (.list ((zt (E7+j)).map λ(i:Nat)=>D.int ((i:Int) - E7))):=by
  refine gW (bP (ad (d:=.int (E7+j:Nat)) QQ vN) (kN (om100 U m))) (eI _) (by rw[yV,zX];exact om100 U m) ?_
  have:∀ l:yN Nat,bS (k5 (ai P X (n+1)) (vis [("query",(yM,.tup [sD "join",I,J,.tup prs])),("clauses",(yM,.list (cl.map clD))),("widths",(yM,T)),("own",(yM,.int E7)),("many",(yM,.int (E7+j:Nat)))]) (.bin .Sub (.u "place") (.u "own")) "place" []) (l.map λ(i:Nat)=>D.int (i:Int))=ac (l.map λ(i:Nat)=>D.int ((i:Int) - E7)):=λl=>by
   induction l with
   | nil=>rfl
   | cons x l G=>
    rw[zm,bS,fT (d:=.int ((x:Int) - E7)) (am (x:=.int x) (y:=.int E7) rfl rfl rfl)];dsimp only;rw[G];rfl
  exact this _
 refine aA (ak (aq E QQ QQ)) ?_;have u:∀ p:Nat,E7<=p->p<E7+j->aV (.list ((zt (E7+j)).map λ(i:Nat)=>D.int ((i:Int) - E7))) (.int p)=ac (aN (p - E7)):=λp h1 Y=>
  lK (by rw[yV,zX];exact Y) (by rw[As,D9 Y];show ac (D.int ((p:Int) - E7))=ac (D.int ((p - E7:Nat):Int));rw[Int.ofNat_sub h1])
 generalize D.list ((zt (E7+j)).map λ(i:Nat)=>D.int ((i:Int) - E7))=mv at *
 refine aA (ak (d:=.list []) (fr:=yP) QQ) (aA (ak (d:=.list []) (fr:=yP) QQ) (aA (ak (d:=.list []) (fr:=yP) QQ) (aA (ak (d:=.list []) (fr:=yP) QQ) ?_)));have H:∀ σ:St,Has σ "own" (.int E7)->Has σ "moved" mv->Has σ "query" (.tup [sD "join",I,J,.tup prs])->Has σ "widths" T->bH σ "ahead" (.list [])->bH σ "behind" (.list [])->bH σ "pairs" (.list [])->bH σ "kept" (.list [])->Has σ "clauses" (.list (cl.map clD))->Run (ai P X (n+1)) (fH.body.drop 7) σ (nD (dH E7 cl) (.tup [sD "join",Da,f,.tup (prs++(bJ E7 cl).map prT)])) yM:=by
  intro σ Fu Fv Fw Fz FA FE FF FG FH;obtain⟨E2,⟨pre,e,L⟩,FJ⟩:=fZ (cf:=ai P X (n+1)) (body:=tP) (z:="clause") (λa σ=>∃ pre,a=pre.map clD/\JInv E7 mv (.tup [sD "join",I,J,.tup prs]) T pre σ) (cl.map clD) [] (freeze ["clauses"] σ)
   ⟨[],QQ,cg Fu,cg Fv,cg Fw,cg Fz,gG QQ FA,gG QQ FE,gG QQ FF,gG QQ FG⟩ (by
    rintro a FK b σ t ⟨pre,rfl,L⟩;rw[A0] at t;obtain⟨c,M,rfl⟩:=zz.mp (by rw[t];simp:FK∈cl.map clD)
    have o:=zj Dc t;simp only[yV,zd,Ar] at o;obtain⟨F0,E2,⟨rfl,q⟩,q2⟩:=join_turn (X:=X) B n u (A c M) (om101 V o) L;exact⟨.next,E2,⟨QQ,pre++[c],by rw[zq];rfl,q⟩,q2⟩)
  have FM:cl=pre:=by
   rw[A0] at e;have inj:∀ (l s:yN (yN D)),l.map clD=s.map clD->l=s:=λl=>by
    induction l with
    | nil=>intro s h;cases s <;> first | rfl | cases h
    | cons x l G=>intro s h;cases s with
     | nil=>cases h
     | cons y s=>
      rw[zm,zm,Ej.injEq] at h;rw[G s h.2,D.tup.inj h.1]
   exact inj _ _ e
  subst FM;obtain⟨F3,F4,Z,Fo,FN,FO,FP,FQ⟩:=L;refine ef (x:=.list (cl.map clD)) (E8:=cl.map clD) (vr FH) QQ FJ ?_;refine aA (ak (aE (ad (vsi Z QQ) (vv (iB FN) (vv Fo vN))) Fq)) ?_;have a3:Has (az (settle Da (ME.names (.call "placed" [.sub (.u "query") (.int 1),.u "ahead",.u "widths"])) E2) "first" (yM,Da)) "query" (.tup [sD "join",I,J,.tup prs]):=ag QQ (au Z);have a4:Has (az (settle Da (ME.names (.call "placed" [.sub (.u "query") (.int 1),.u "ahead",.u "widths"])) E2) "first" (yM,Da)) "widths" T:=ag QQ (au Fo);have FR:Has (az (settle Da (ME.names (.call "placed" [.sub (.u "query") (.int 1),.u "ahead",.u "widths"])) E2) "first" (yM,Da)) "behind" (.list ((aY E7 cl).map clD)):=ag QQ (au (iB FO));have FS:Has (az (settle Da (ME.names (.call "placed" [.sub (.u "query") (.int 1),.u "ahead",.u "widths"])) E2) "first" (yM,Da)) "pairs" (.list ((bJ E7 cl).map prT)):=ag QQ (au (iB FP));have FT:Has (az (settle Da (ME.names (.call "placed" [.sub (.u "query") (.int 1),.u "ahead",.u "widths"])) E2) "first" (yM,Da)) "kept" (.list ((dH E7 cl).map clD)):=ag QQ (au (iB FQ));have FU:Has (az (settle Da (ME.names (.call "placed" [.sub (.u "query") (.int 1),.u "ahead",.u "widths"])) E2) "first" (yM,Da)) "first" Da:=ay;generalize az (settle Da (ME.names (.call "placed" [.sub (.u "query") (.int 1),.u "ahead",.u "widths"])) E2) "first" (yM,Da)=w at *;refine aA (ak (aE (ad (vsi a3 QQ) (vv FR (vv a4 vN))) Fs)) ?_;have FV:Has (az (settle f (ME.names (.call "placed" [.sub (.u "query") (.int 2),.u "behind",.u "widths"])) w) "second" (yM,f)) "query" (.tup [sD "join",I,J,.tup prs]):=ag QQ (au a3);have FW:Has (az (settle f (ME.names (.call "placed" [.sub (.u "query") (.int 2),.u "behind",.u "widths"])) w) "second" (yM,f)) "pairs" (.list ((bJ E7 cl).map prT)):=ag QQ (au FS);have FY:Has (az (settle f (ME.names (.call "placed" [.sub (.u "query") (.int 2),.u "behind",.u "widths"])) w) "second" (yM,f)) "kept" (.list ((dH E7 cl).map clD)):=ag QQ (au FT)
  have FZ:Has (az (settle f (ME.names (.call "placed" [.sub (.u "query") (.int 2),.u "behind",.u "widths"])) w) "second" (yM,f)) "first" Da:=ag QQ (au FU);have N:Has (az (settle f (ME.names (.call "placed" [.sub (.u "query") (.int 2),.u "behind",.u "widths"])) w) "second" (yM,f)) "second" f:=ay;have O:(bJ E7 cl).length<=5000:=by unfold bJ;rw[yV];exact yQ (z8 _ _) V
  exact aD (aE (vv FY (ad (bD (ad vS (vv FZ (vv N (ad (am (vsi FV QQ) (bP (vv FW vN) QQ) (bin_tt (by rw[yV];exact om102 C m O))) vN)))) (yZ QQ)) vN)) Ft) QQ
 refine H _ ?_ ?_ ?_ ?_ ?_ ?_ ?_ ?_ ?_
 all_goals (repeat' (first | (with_reducible (first | assumption | exact ay | exact b0 | exact dF | exact ae | apply iB;assumption)) | ((with_reducible (first | apply ag | apply bE | apply bC | apply af | apply bZ | apply gG));(focus (exact QQ))) | (with_reducible (first | apply aM | apply au | apply cg))))
noncomputable def bY(ps:yN Nat)(cl:yN (yN D)):yN (yN D):=(cl.filter (cV ps.length)).map λc=>c.map (du (ps.getD · 0))
noncomputable def dG(ps:yN Nat)(cl:yN (yN D)):yN (yN D):=cl.filter λc=>!cV ps.length c
noncomputable def groupBody:yN MS:=[.x0 "places" (.call "places_of" [.u "clause"]),.ite (.bop .Or [.cmp .Eq (.u "places") (.lst []),.cmp .Lt (.sub (.u "places") (.neg (.int 1))) (.blt "len" [.sub (.u "query") (.int 1)])]) [.append "inner" (.call "turned" [.u "clause",.sub (.u "query") (.int 1)])] [.append "kept" (.u "clause")]]
theorem through_group(B:BP P)(n:Nat){m:Nat}{ps:yN Nat}{I T S Da:D}{cl:yN (yN D)}(E:∀ c∈cl,bV m c)(Fp:cl.length<=5000)
  (Fq:(ai P X (n+1)).call "placed" [I,.list ((bY ps cl).map clD),T]=ac (Da,yM)) :
  (ai P X (n+2)).call "through_group" [.tup [sD "group",.tup (ps.map aN),S,I],.list (cl.map clD),T]=ac (nD (dG ps cl) (.tup [sD "group",.tup (ps.map aN),S,Da]),yM):=by
 have A:20000<big:=by decide
 have Fs:=ou (X:=X) B n (cs:=dG ps cl) (q:=.tup [sD "group",.tup (ps.map aN),S,Da]) QQ;refine av B.tg QQ ?_;refine aA (ak (d:=.list []) (fr:=yP) QQ) (aA (ak (d:=.list []) (fr:=yP) QQ) ?_);have G:∀ σ:St,Has σ "query" (.tup [sD "group",.tup (ps.map aN),S,I])->Has σ "widths" T->bH σ "inner" (.list [])->bH σ "kept" (.list [])->Has σ "clauses" (.list (cl.map clD))->Run (ai P X (n+1)) (fh.body.drop 2) σ (nD (dG ps cl) (.tup [sD "group",.tup (ps.map aN),S,Da])) yM:=by
  intro σ H J L M Ft;obtain⟨E2,⟨pre,e,N,Fu,Fv,Fw⟩,Fz⟩:=fZ (cf:=ai P X (n+1)) (body:=groupBody) (z:="clause") (λa σ=>∃ pre,a=pre.map clD/\Has σ "query" (.tup [sD "group",.tup (ps.map aN),S,I])/\Has σ "widths" T/\bH σ "inner" (.list ((bY ps pre).map clD))/\bH σ "kept" (.list ((dG ps pre).map clD))) (cl.map clD) [] (freeze ["clauses"] σ)
   ⟨[],QQ,cg H,cg J,gG QQ L,gG QQ M⟩ (by
    rintro a FA b σ o ⟨pre,rfl,H,J,L,M⟩;rw[A0] at o;obtain⟨c,O,rfl⟩:=zz.mp (by rw[o];simp:FA∈cl.map clD)
    have i:=zj Dc o;simp only[yV,zd,Ar] at i;have f:=E c O;have FE:(ai P X (n+1)).call "places_of" [clD c]=ac (.list ((cP (gH c)).map .int),yP):=mJ (X:=X) B.toBW n f.1 f.2;have U:∀ p:yN D->yU,(pre.filter p).length<big:=λp=>y3 (z8 _ _) (om103 Fp A i)
    have V:Has (az σ "clause" (yM,clD c)) "clause" (clD c):=ay;have c1:Has (az σ "clause" (yM,clD c)) "query" (.tup [sD "group",.tup (ps.map aN),S,I]):=ag QQ H;have c2:Has (az σ "clause" (yM,clD c)) "widths" T:=ag QQ J;have c3:bH (az σ "clause" (yM,clD c)) "inner" (.list ((bY ps pre).map clD)):=bC QQ L;have FF:bH (az σ "clause" (yM,clD c)) "kept" (.list ((dG ps pre).map clD)):=bC QQ M;generalize az σ "clause" (yM,clD c)=s at *;refine aJ (ak (aE (vv V vN) FE)) ?_;generalize FG:D.list ((cP (gH c)).map .int)=pl at *;have Y:Has (az (settle pl (ME.names (.call "places_of" [.u "clause"])) s) "places" (yP,pl)) "clause" (clD c):=ag QQ (au V);have C:Has (az (settle pl (ME.names (.call "places_of" [.u "clause"])) s) "places" (yP,pl)) "query" (.tup [sD "group",.tup (ps.map aN),S,I]):=ag QQ (au c1);have d2:Has (az (settle pl (ME.names (.call "places_of" [.u "clause"])) s) "places" (yP,pl)) "widths" T:=ag QQ (au c2);have Z:bH (az (settle pl (ME.names (.call "places_of" [.u "clause"])) s) "places" (yP,pl)) "inner" (.list ((bY ps pre).map clD)):=bC QQ (bZ QQ c3);have Fo:bH (az (settle pl (ME.names (.call "places_of" [.u "clause"])) s) "places" (yP,pl)) "kept" (.list ((dG ps pre).map clD)):=bC QQ (bZ QQ FF);have FH:Has (az (settle pl (ME.names (.call "places_of" [.u "clause"])) s) "places" (yP,pl)) "places" (.list ((cP (gH c)).map .int)):=FG▸ay;generalize az (settle pl (ME.names (.call "places_of" [.u "clause"])) s) "places" (yP,pl)=FJ at *;have u:evE (ai P X (n+1)) (vis FJ) (.blt "len" [.sub (.u "query") (.int 1)])=ac (.int ps.length):=by
     have FK:gI "len" [.tup (ps.map aN)]=ac (.int ps.length):=by show ac (D.int ((ps.map aN).length:Nat))=_;rw[yV]
     exact bP (ad (vsi C QQ) vN) FK
    refine cM (k:=cV ps.length c) (vh FH u) QQ (λw=>?_) λw=>?_
    ·have k2:(ai P X (n+1)).call "turned" [clD c,.tup (ps.map aN)]=ac (clD (c.map (du (ps.getD · 0))),yM):=uH (X:=X) B n f.1 f.2 λt FM p FN=>by
      have FO:(p:Int)∈gH c:=B0.mpr ⟨t,FM,FN⟩;have h1:=zS (zx.mp w _ FO);exact vE (vH h1)
     refine aJ (bT (d:=clD (c.map (du (ps.getD · 0)))) (ds:=(bY ps pre).map clD) (al (vv Y (ad (vsi C QQ) vN)) k2) (bZ QQ Z) (by unfold bY;rw[yV,yV];exact U _)) (bB ⟨QQ,pre++[c],by rw[zq];rfl,ag QQ (au C),ag QQ (au d2),?_,?_⟩)
     ·unfold bY;rw[bo,y8 w,zq,zq];exact dF
     ·unfold dG;rw[bo,w,za (by decide),zy];exact bC QQ (bZ QQ Fo)
    ·refine aJ (bT (d:=clD c) (ds:=(dG ps pre).map clD) (vr Y) (bZ QQ Fo) (by unfold dG;rw[yV];exact U _)) (bB ⟨QQ,pre++[c],by rw[zq];rfl,ag QQ (au C),ag QQ (au d2),?_,?_⟩)
     ·unfold bY;rw[bo,za (by rw[w];exact y5),zy];exact bC QQ (bZ QQ Z)
     ·unfold dG;rw[bo,w,y8 (by decide),zq];exact dF)
  have FP:cl=pre:=by
   rw[A0] at e;have inj:∀ (l j:yN (yN D)),l.map clD=j.map clD->l=j:=λl=>by
    induction l with
    | nil=>intro j h;cases j <;> first | rfl | cases h
    | cons x l FQ=>intro j h;cases j with
     | nil=>cases h
     | cons y j=>
      rw[zm,zm,Ej.injEq] at h;rw[FQ j h.2,D.tup.inj h.1]
   exact inj _ _ e
  subst FP;refine ef (x:=.list (cl.map clD)) (E8:=cl.map clD) (vr Ft) QQ Fz ?_;exact aD (aE (vv (iB Fw) (ad (bD (ad vS (ad (vsi N QQ) (ad (vsi N QQ) (ad (al (ad (vsi N QQ) (vv (iB Fv) (vv Fu vN))) Fq) vN)))) (yZ QQ)) vN)) Fs) QQ
 exact G _ ⟨_,QQ⟩ ⟨_,QQ⟩ QQ QQ ⟨_,QQ⟩
end
set_option maxHeartbeats 400000
noncomputable def jr(cs:yN (yN D))(q:Q):Q:=match cs with
 | []=>q
 | cs=>.sieve cs q
theorem ox(cs:yN (yN D))(q:Q):(jr cs q).d=nD cs q.d:=by
 cases cs with
 | nil=>rfl
 | cons c cs=>unfold nD;rw[za (by nofun)];rfl
noncomputable def gM(ps:yN Nat)(cl:yN (yN D)):yN (yN D):=cl.map λc=>c.map (du (ps.getD · 0))
noncomputable def Q.placed(W:Wd):Q->yN (yN D)->Q
 | table i,f=>jr f (.table i)
 | sieve j q,f=>q.placed W (j++f)
 | pick ps q,f=>.pick ps (q.placed W (gM ps f))
 | group ps m q,f=>jr (dG ps f) (.group ps m (q.placed W (bY ps f)))
 | order ks q,f=>.order ks (q.placed W f)
 | once q,f=>.once (q.placed W f)
 | first c q,f=>jr f (.first c (q.placed W []))
 | join a b h,f=>jr (dH (a.wd W) f) (.join (a.placed W (bU (a.wd W) f)) (b.placed W (aY (a.wd W) f)) (h++bJ (a.wd W) f))
 | both a b,f=>.both (a.placed W f) (b.placed W f)
theorem fU{E7 m:Nat}{c:yN D}(b:bV m c)(h:cV E7 c=yP):bV E7 c:=by
 refine⟨λt f=>?_,b.2⟩
 have a:∀ z∈fX t,z<(E7:Int):=λz a=>zS (zx.mp h z (B0.mpr ⟨t,f,a⟩))
 obtain⟨w,p,i,s,⟨q,hq,rfl⟩ | ⟨o,j,rfl⟩⟩:=b.1 t f
 ·rw[gL] at a
  have h1:=a p (.head _);have n:=a q (.tail _ (.head _));exact⟨w,p,i,by exact vH h1,.inl ⟨q,by exact vH n,QQ⟩⟩
 ·rw[li] at a
  have h1:=a p (.head _);exact⟨w,p,i,by exact vH h1,.inr ⟨o,j,QQ⟩⟩
theorem iM{E7 m:Nat}{cl:yN (yN D)}(h:∀ c∈cl,bV m c):∀ c∈bU E7 cl,bV E7 c:=λc b=>by
 obtain⟨h1,a⟩:=zC.mp b;have a:cat E7 c=0:=by simpa using a
 refine fU (h c h1) ?_;unfold cat at a;split at a
 ·assumption
 ·split at a
  ·cases a
  ·split at a <;> cases a
theorem gE{E7 i:Nat}{cl:yN (yN D)}(h:∀ c∈cl,bV (E7+i) c):∀ c∈aY E7 cl,bV i c:=λc n=>by
 obtain⟨b,h1,rfl⟩:=zz.mp n;obtain⟨h1,a⟩:=zC.mp h1;have a:cat E7 b=1:=by simpa using a
 have o:ji E7 b=yP:=by
  unfold cat at a;split at a
  ·cases a
  ·split at a
   ·assumption
   ·split at a <;> cases a
 refine qL (h b h1) λt j p m=>?_
 have q:=zS (zx.mp o _ (B0.mpr ⟨t,j,m⟩));obtain⟨s,e,f⟩:=lR ((h b h1).1 t j) m;exact om105 q e f
theorem vi{ps:yN Nat}{m:Nat}{c:yN D}(f:bV ps.length c)(h:∀ p∈ps,p<m):bV m (c.map (du (ps.getD · 0))):=qL f λt i p b=>by
 obtain⟨j,e,a⟩:=lR (f.1 t i) b;have:p=j:=by exact om97 e
 subst this;rw[zb,y4 a];exact h _ (AJ a)
theorem lS{ps:yN Nat}{m:Nat}{cl:yN (yN D)}(h:∀ c∈cl,bV ps.length c)(a:∀ p∈ps,p<m):∀ c∈gM ps cl,bV m c:=λc b=>by
 obtain⟨f,h1,rfl⟩:=zz.mp b;exact vi (h f h1) a
theorem kJ{ps:yN Nat}{m m':Nat}{cl:yN (yN D)}(h:∀ c∈cl,bV m' c)(a:∀ p∈ps,p<m):∀ c∈bY ps cl,bV m c:=λc b=>by
 obtain⟨f,h1,rfl⟩:=zz.mp b;obtain⟨h1,i⟩:=zC.mp h1;exact vi (fU (h f h1) i) a
section
variable {P:yN (yS×Fn)} {X:CF} {W:Wd}
theorem dg{cf:CF}{q C T R:D}{wd:yS}(h:Run cf (kK.body.drop 1) [("query",(yM,q)),("clauses",(yM,C)),("widths",(yM,T)),("word",(yM,sD wd))] R yM)(a:aV q (.int 0)=ac (sD wd)) :
  Run cf kK.body [("query",(yM,q)),("clauses",(yM,C)),("widths",(yM,T))] R yM:=
 aA (aW (d:=sD wd) (fr:=yM) (aq (aw (x:=q) (y:=.int 0) QQ QQ a) QQ QQ) QQ) h
theorem sk{cf:CF}{σ:St}{w w2:yS}{t r:yN MS}{R:D}{fr:yU}(h:Has σ "word" (sD w))(a:(yO w == yO w2)=yM)(k:Run cf r σ R fr):Run cf (.ite (.cmp .Eq (.u "word") (.str w2)) t []::r) σ R fr:=
 bc (k:=yM) (x:=.bool yM) (ax (vr h) vS (by show ac (D.bool (yO w == yO w2))=_;rw[a])) QQ nofun λZ=>k
theorem hit{cf:CF}{σ:St}{w:yS}{t r:yN MS}{R:D}{fr:yU}(h:Has σ "word" (sD w))(k:Run cf (t++r) σ R fr):Run cf (.ite (.cmp .Eq (.u "word") (.str w)) t []::r) σ R fr:=
 bc (k:=yP) (x:=.bool yP) (ax (vr h) vS (by show ac (D.bool (yO w == yO w))=_;rw[zu])) QQ (λZ=>k) nofun
theorem lM(q C T:D)(w:yS):Has (st0 q C T w) "word" (sD w):=⟨yM,QQ⟩
theorem n2d{d n:Nat}(h:2 * (d+1)<=n):∃ a,n=a+2:=⟨n - 2,by exact om106 h⟩
theorem cS(B:BP P)(u:X.glob "STEPS"=ac (.tup eF)):∀ (q:Q) (cl:yN (yN D)) (n:Nat),q.ok W->(∀ c∈cl,bV (q.wd W) c)->q.cp+cl.length<=1000->q.nar W 5000->2 * q.dp<=n ->
  (ai P X (n+6)).call "placed" [q.d,.list (cl.map clD),W.d]=ac ((q.placed W cl).d,yM)
 | .table I=>by
  intro cl n _ _ _ _ _;have L:(ai P X (n+5)).call "over" [.list (cl.map clD),(Q.table I).d]=ac (nD cl (Q.table I).d,yM):=ou (X:=X) B (n+4) QQ;rw[Q.placed,ox];refine av B.pl QQ (dg (wd:="table") ?_ QQ);have f:=lM (Q.table I).d (.list (cl.map clD)) W.d "table";refine sk f QQ (sk f QQ (sk f QQ (sk f QQ (sk f QQ (sk f QQ (sk f QQ (sk f QQ ?_)))))));exact aD (aE (ad (d:=.list (cl.map clD)) QQ (ad (d:=(Q.table I).d) QQ vN)) L) QQ
 | .sieve z q=>by
  intro cl n h m j o i;obtain⟨n,rfl⟩:=n2d i;have s:=cS B u q (z++cl) (n+1) h.1 (λc J=>(zM.mp J).elim (h.2.1 c) (m c)) (by rw[zd];have:(Q.sieve z q).cp=z.length+q.cp:=rfl;exact om107 j this) o (by have:(Q.sieve z q).dp=q.dp+1:=rfl;exact tE i this)
  have w:2000<big:=by decide
  have G:z.length+cl.length<=1000:=by have:(Q.sieve z q).cp=z.length+q.cp:=rfl;exact om109 j this
  refine av B.pl QQ (dg (wd:="sieve") ?_ QQ);have f:=lM (Q.sieve z q).d (.list (cl.map clD)) W.d "sieve";refine hit f ?_;refine aD (aE (ad (d:=q.d) QQ (ad (d:=.list ((z++cl).map clD)) (am (xq (x:=.tup (z.map clD)) QQ QQ) (y:=.list (cl.map clD)) QQ ?_) (ad (d:=W.d) QQ vN))) s) QQ;rw[zq];exact yy (by rw[yV,yV];exact om110 w G)
 | .pick ps q=>by
  intro cl n h m j o i;obtain⟨n,rfl⟩:=n2d i;have s:=cS B u q (gM ps cl) (n+1) h.1 (lS m h.2.1) (by unfold gM;rw[yV];exact j) o (by have:(Q.pick ps q).dp=q.dp+1:=rfl;exact tE i this)
  have w:2000<big:=by decide
  refine av B.pl QQ (dg (wd:="pick") ?_ QQ);have f:=lM (Q.pick ps q).d (.list (cl.map clD)) W.d "pick";refine sk f QQ (hit f ?_);have T:evE (ai P X (n+2+5)) (vis (st0 (Q.pick ps q).d (.list (cl.map clD)) W.d "pick")) (.comp (.call "turned" [.u "clause",.sub (.u "query") (.int 1)]) "clause" (.u "clauses") [])=ac (.list ((gM ps cl).map clD)):=by
   refine gW (x:=.list (cl.map clD)) (E8:=cl.map clD) QQ QQ (by rw[yV];exact om111 j w) ?_
   have:∀ l:yN (yN D),(∀ c∈l,c∈cl)->bS (k5 (ai P X (n+2+5)) (vis (st0 (Q.pick ps q).d (.list (cl.map clD)) W.d "pick")) (.call "turned" [.u "clause",.sub (.u "query") (.int 1)]) "clause" []) (l.map clD)=ac ((gM ps l).map clD):=λl=>by
    induction l with
    | nil=>intro _;rfl
    | cons c l U=>
     intro J;have C:=m c (J c (.head _));have k:(ai P X (n+2+5)).call "turned" [clD c,.tup (ps.map aN)]=ac (clD (c.map (du (ps.getD · 0))),yM):=uH (X:=X) B (n+6) C.1 C.2 λt V p Y=>by
      obtain⟨Z,e,M⟩:=lR (C.1 t V) Y;have:p=Z:=by exact om97 e
      subst this;exact vE M
     rw[zm,bS,fT (d:=clD (c.map (du (ps.getD · 0)))) (al (ad (d:=clD c) rfl (ad (d:=.tup (ps.map aN)) rfl vN)) k)];dsimp only;rw[U λx Fo=>J x (.tail _ Fo)]
     rfl
   exact this cl λEV h=>h
  refine aA (ak (aq T QQ QQ)) ?_;exact aD (aq (bD (ad vS (ad (d:=.tup (ps.map aN)) QQ (ad (al (ad (d:=q.d) QQ (vv ay (ad (d:=W.d) QQ vN))) s) vN))) (yZ QQ)) QQ QQ) QQ
 | .order ks q=>by
  intro cl n h m j o i;obtain⟨n,rfl⟩:=n2d i;have s:=cS B u q cl (n+1) h.1 m j o (by have:(Q.order ks q).dp=q.dp+1:=rfl;exact tE i this)
  refine av B.pl QQ (dg (wd:="order") ?_ QQ);have f:=lM (Q.order ks q).d (.list (cl.map clD)) W.d "order";refine sk f QQ (sk f QQ (hit f ?_));exact aD (aq (bD (ad vS (ad (d:=.tup (ks.map eL)) QQ (ad (al (ad (d:=q.d) QQ (ad (d:=.list (cl.map clD)) QQ (ad (d:=W.d) QQ vN))) s) vN))) (yZ QQ)) QQ QQ) QQ
 | .once q=>by
  intro cl n h m j o i;obtain⟨n,rfl⟩:=n2d i;have s:=cS B u q cl (n+1) h m j o (by have:(Q.once q).dp=q.dp+1:=rfl;exact tE i this)
  refine av B.pl QQ (dg (wd:="once") ?_ QQ);have f:=lM (Q.once q).d (.list (cl.map clD)) W.d "once";refine sk f QQ (sk f QQ (sk f QQ (hit f ?_)));exact aD (aq (bD (ad vS (ad (al (ad (d:=q.d) QQ (ad (d:=.list (cl.map clD)) QQ (ad (d:=W.d) QQ vN))) s) vN)) (yZ QQ)) QQ QQ) QQ
 | .both a b=>by
  intro cl n h m j o i;obtain⟨n,rfl⟩:=n2d i;have e1:(Q.both a b).dp=max a.dp b.dp+1:=rfl;have A:(Q.both a b).cp=max a.cp b.cp:=rfl;have Fp:=zL a.dp b.dp;have Fq:=zB a.dp b.dp;have Fs:=zL a.cp b.cp;have Ft:=zB a.cp b.cp;have s:=cS B u a cl (n+1) h.1 m (om112 j A) o.1 (om113 i e1);have E:=cS B u b cl (n+1) h.2.1 (h.2.2▸m) (om114 j A) o.2 (om115 i e1);refine av B.pl QQ (dg (wd:="both") ?_ QQ);have f:=lM (Q.both a b).d (.list (cl.map clD)) W.d "both";refine sk f QQ (sk f QQ (sk f QQ (sk f QQ (hit f ?_))));refine aA (ak (aE (ad (d:=a.d) QQ (ad (d:=.list (cl.map clD)) QQ (ad (d:=W.d) QQ vN))) s)) ?_;have Fu:Has (az (settle (a.placed W cl).d (ME.names (.call "placed" [.sub (.u "query") (.int 1),.u "clauses",.u "widths"])) (st0 (Q.both a b).d (.list (cl.map clD)) W.d "both")) "first" (yM,(a.placed W cl).d)) "query" (Q.both a b).d:=ag QQ (au ⟨_,QQ⟩);have Fv:Has (az (settle (a.placed W cl).d (ME.names (.call "placed" [.sub (.u "query") (.int 1),.u "clauses",.u "widths"])) (st0 (Q.both a b).d (.list (cl.map clD)) W.d "both")) "first" (yM,(a.placed W cl).d)) "clauses" (.list (cl.map clD)):=ag QQ (au ⟨_,QQ⟩);have Fw:Has (az (settle (a.placed W cl).d (ME.names (.call "placed" [.sub (.u "query") (.int 1),.u "clauses",.u "widths"])) (st0 (Q.both a b).d (.list (cl.map clD)) W.d "both")) "first" (yM,(a.placed W cl).d)) "widths" W.d:=ag QQ (au ⟨_,QQ⟩);exact aD (aq (bD (ad vS (vv ay (ad (al (ad (vsi Fu QQ) (vv Fv (vv Fw vN))) E) vN))) (yZ QQ)) QQ QQ) QQ
 | .join a b prs=>by
  intro cl n h m j o i;obtain⟨n,rfl⟩:=n2d i;have e1:(Q.join a b prs).dp=max a.dp b.dp+1:=rfl;have A:(Q.join a b prs).cp=max a.cp b.cp:=rfl;have Fp:=zL a.dp b.dp;have Fq:=zB a.dp b.dp;have Fs:=zL a.cp b.cp;have Ft:=zB a.cp b.cp;have Fz:(bU (a.wd W) cl).length<=cl.length:=z8 _ _;have N:(aY (a.wd W) cl).length<=cl.length:=by unfold aY;rw[yV];exact z8 _ _
  have s:=cS B u a (bU (a.wd W) cl) n h.1 (iM m) (om116 j A Fz) o.1 (om117 i e1);have E:=cS B u b (aY (a.wd W) cl) n h.2.1 (gE m) (om118 j A N) o.2.1 (om119 i e1);have FA:=oQ B.toBW u a (n+3) h.1 (om120 i e1);have w2:=oQ B.toBW u b (n+3) h.2.1 (om121 i e1);have O:=through_join (X:=X) B (n+5) o.2.2 (prs:=prs.map prT) m (om122 j) (by rw[yV];exact h.2.2.2) FA w2 s E
  rw[<- zq] at O;rw[Q.placed,ox];refine av B.pl QQ (dg (wd:="join") ?_ QQ);have f:=lM (Q.join a b prs).d (.list (cl.map clD)) W.d "join";refine sk f QQ (sk f QQ (sk f QQ (sk f QQ (sk f QQ (hit f ?_)))));exact aD (aE (ad (d:=(Q.join a b prs).d) QQ (ad (d:=.list (cl.map clD)) QQ (ad (d:=W.d) QQ vN))) O) QQ
 | .group ps H q=>by
  intro cl n h m j o i;obtain⟨n,rfl⟩:=n2d i;have e1:(Q.group ps H q).dp=q.dp+1:=rfl;have A:(Q.group ps H q).cp=q.cp:=rfl;have N:(bY ps cl).length<=cl.length:=by unfold bY;rw[yV];exact z8 _ _
  have s:=cS B u q (bY ps cl) n h.1 (kJ m h.2.1) (om123 j A N) o.1 (om124 i e1);have FE:=through_group (X:=X) B (n+5) (S:=.tup (H.map dN)) m (om122 j) s;rw[Q.placed,ox];refine av B.pl QQ (dg (wd:="group") ?_ QQ);have f:=lM (Q.group ps H q).d (.list (cl.map clD)) W.d "group";refine sk f QQ (sk f QQ (sk f QQ (sk f QQ (sk f QQ (sk f QQ (hit f ?_))))));exact aD (aE (ad (d:=(Q.group ps H q).d) QQ (ad (d:=.list (cl.map clD)) QQ (ad (d:=W.d) QQ vN))) FE) QQ
 | .first c q=>by
  intro cl n h m j o i;obtain⟨n,rfl⟩:=n2d i;have e1:(Q.first c q).dp=q.dp+1:=rfl
  have A:(Q.first c q).cp=q.cp:=rfl
  have s:=cS B u q [] (n+1) h (λEV h=>nomatch h) (by show q.cp+0<=1000;exact om125 j A) o (tE i e1)
  have L:(ai P X (n+2+5)).call "over" [.list (cl.map clD),.tup [sD "first",aN c,(q.placed W []).d]]=ac (nD cl (.tup [sD "first",aN c,(q.placed W []).d]),yM):=ou (X:=X) B (n+6) QQ;rw[Q.placed,ox];refine av B.pl QQ (dg (wd:="first") ?_ QQ);have f:=lM (Q.first c q).d (.list (cl.map clD)) W.d "first"
  refine sk f QQ (sk f QQ (sk f QQ (sk f QQ (sk f QQ (sk f QQ (sk f QQ (hit f ?_)))))));exact aD (aE (ad (d:=.list (cl.map clD)) QQ (ad (bD (ad vS (ad (d:=aN c) QQ (ad (al (ad (d:=q.d) QQ (ad (d:=.list []) QQ (ad (d:=W.d) QQ vN))) s) vN))) (yZ QQ)) vN)) L) QQ
theorem plan_eq(B:BP P)(a:X.glob "STEPS"=ac (.tup eF))(q:Q)(n:Nat)(h:q.ok W)(c:q.cp<=1000)(f:q.nar W 5000)(b:2 * q.dp<=n):(ai P X (n+7)).call "plan" [q.d,W.d]=ac ((q.placed W []).d,yM):=by
 have i:=oQ B.toBW a q (n+3) h (om126 b);have k2:=cS B a q [] n h (λZ h=>nomatch h) c f b
 refine av B.pn QQ ?_;refine aA (jH (d:=.int (q.wd W)) (al (ad (d:=q.d) QQ (ad (d:=W.d) QQ vN)) i) QQ) ?_;exact aD (aE (ad (d:=q.d) QQ (ad (d:=.list []) QQ (ad (d:=W.d) QQ vN))) k2) QQ
end
set_option maxHeartbeats 400000
structure POk(W:Wd)(q:Q)(m c p d:Nat):Prop where
 ok:q.ok W
 wd:q.wd W=m
 cp:q.cp<=c
 pr:q.pr<=p
 dp:q.dp<=d
 nar:q.nar W 5000
theorem lU{W:Wd}{cs:yN (yN D)}{q:Q}{m c p d:Nat}(h:POk W q m c p d)(a:∀ x∈cs,bV m x)(b:cs.length<=1000):POk W (jr cs q) m (cs.length+c) p (d+1):=by
 cases cs with
 | nil=>exact⟨h.ok,h.wd,yQ h.cp (Ao _ _),h.pr,zR h.dp,h.nar⟩
 | cons x cs=>exact⟨⟨h.ok,λy f=>h.wd▸a y f,b⟩,h.wd,zN h.cp _,h.pr,zs h.dp,h.nar⟩
theorem ud(E7:Nat):∀ a:yN (yN D),(bU E7 a).length+(aY E7 a).length+(bJ E7 a).length+(dH E7 a).length=a.length
 | []=>rfl
 | c::a=>by
  have f:=ud E7 a;unfold bU aY bJ dH at *;rw[yV,yV] at *;rw[AK,AK,AK,AK];have b:cat E7 c=0\/cat E7 c=1\/cat E7 c=2\/cat E7 c=3:=by
   unfold cat;split
   ·exact .inl QQ
   ·split
    ·exact .inr (.inl QQ)
    ·split
     ·exact .inr (.inr (.inl QQ))
     ·exact .inr (.inr (.inr QQ))
  rcases b with h | h | h | h <;> rw[h] <;> simp <;> omega
theorem rm(ps:yN Nat):∀ a:yN (yN D),(bY ps a).length+(dG ps a).length=a.length
 | []=>rfl
 | c::a=>by
  have b:=rm ps a;unfold bY dG at *;rw[yV] at *;rw[AK,AK];cases cV ps.length c <;> simp <;> omega
theorem d2m{x y:Nat}(h:x<=y):2 * x+1<=2 * y+1:=by exact om127 h
theorem four_le(E7:Nat)(cl:yN (yN D)):(bU E7 cl).length<=cl.length/\(aY E7 cl).length<=cl.length/\(bJ E7 cl).length<=cl.length/\(bU E7 cl).length+(aY E7 cl).length+(dH E7 cl).length<=cl.length:=by
 have:=ud E7 cl;exact om128 this
theorem four_up{a b k l m:Nat}(h:a+b+k<=l):k+(m+(a+b))<=m+l:=by exact om129 h
theorem POk.up{W:Wd}{q:Q}{m c p d c' p' a:Nat}(h:POk W q m c p d)(h1:c<=c')(b:p<=p')(f:d<=a):POk W q m c' p' a:=⟨h.ok,h.wd,yQ h.cp h1,yQ h.pr b,yQ h.dp f,h.nar⟩
theorem d2{x y:Nat}(h:x<=2 * y+1):x+1<=2 * (y+1)+1:=by exact om130 h
theorem d2o{y:Nat}:2 * y+2+1<=2 * (y+1)+1:=by exact om131
theorem cR{W:Wd}:∀ (q:Q) (cl:yN (yN D)),q.ok W->(∀ c∈cl,bV (q.wd W) c)->q.cp+cl.length<=1000->q.pr+q.cp+cl.length<=5000->q.nar W 5000 ->
  POk W (q.placed W cl) (q.wd W) (q.cp+cl.length) (q.pr+q.cp+cl.length) (2 * q.dp+1)
 | .table J,cl,h,i,j,f,n=>
  have t:POk W (.table J) ((Q.table J).wd W) 0 0 0:=⟨h,QQ,ze _,ze _,ze _,trivial⟩
  (lU t i (yQ (Ao _ _) j)).up (Ao _ _) (zn _) (ze _)
 | .sieve cs q,cl,h,i,j,f,n=>by
  have e:cs.length+q.cp+cl.length=q.cp+(cs++cl).length:=by rw[zd];exact om132
  have L:q.pr+(cs.length+q.cp)+cl.length=q.pr+q.cp+(cs++cl).length:=by rw[zd];exact om133
  have:=cR q (cs++cl) h.1 (λc G=>(zM.mp G).elim (h.2.1 c) (i c)) (yQ (zk e.symm) j) (yQ (zk L.symm) f) n
  exact this.up (zk e.symm) (zk L.symm) (zK (z6 2 (AM _)) 1)
 | .pick ps q,cl,h,i,j,f,n=>by
  have u:(gM ps cl).length=cl.length:=by unfold gM;rw[yV]
  have:=cR q (gM ps cl) h.1 (lS i h.2.1) (by rw[u];exact j) (by rw[u];exact f) n
  rw[u] at this;exact⟨⟨this.ok,λp f=>by rw[this.wd];exact h.2.1 p f,h.2.2⟩,QQ,this.cp,this.pr,d2 this.dp,this.nar⟩
 | .group ps M q,cl,h,i,j,f,n=>by
  have H:=rm ps cl;have g1:(bY ps cl).length<=cl.length:=H▸zo _ _;have w:(dG ps cl).length<=cl.length:=H▸Ao _ _;have:=cR q (bY ps cl) h.1 (kJ i h.2.1) (yQ (zN g1 _) j) (yQ (zN g1 _) f) n.1;have t:POk W (.group ps M (q.placed W (bY ps cl))) (ps.length+M.length) (q.cp+(bY ps cl).length) (q.pr+q.cp+cl.length) (2 * q.dp+2):=
   ⟨⟨this.ok,λp f=>by rw[this.wd];exact h.2.1 p f,λx z=>by rw[this.wd];exact h.2.2.1 x z,h.2.2.2⟩,QQ,this.cp,yQ this.pr (zN g1 _),zs this.dp,⟨this.nar,n.2⟩⟩
  have h1:=lU (cs:=dG ps cl) t (λx z=>i x (zC.mp z).1) (yQ w (yQ (Ao _ _) j))
  exact h1.up (by show _<=q.cp+cl.length;exact om134 H) (ze _) d2o
 | .order ks q,cl,h,i,j,f,n=>
  have:=cR q cl h.1 i j f n
  ⟨⟨this.ok,λp f=>by rw[this.wd];exact h.2.1 p f,h.2.2⟩,this.wd,this.cp,this.pr,d2 this.dp,this.nar⟩
 | .once q,cl,h,i,j,f,n=>
  have:=cR q cl h i j f n
  ⟨this.ok,this.wd,this.cp,this.pr,d2 this.dp,this.nar⟩
 | .first c q,cl,h,i,j,f,n=>
  have:=cR q [] h (λZ h=>nomatch h) (yQ (zo _ _) j) (yQ (zo _ _) f) n
  have t:POk W (.first c (q.placed W [])) (q.wd W) q.cp (q.pr+q.cp) (2 * q.dp+2):=⟨this.ok,this.wd,this.cp,this.pr,zs this.dp,this.nar⟩
  (lU t i (yQ (Ao _ _) j)).up (zk (Ai _ _)) (zo _ _) d2o
 | .both a b,cl,h,i,j,f,n=>
  have c1:a.cp+cl.length<=(Q.both a b).cp+cl.length:=zK (zL _ _) _
  have c2:b.cp+cl.length<=(Q.both a b).cp+cl.length:=zK (zB _ _) _
  have A:a.pr+a.cp+cl.length<=(Q.both a b).pr+(Q.both a b).cp+cl.length:=zK (zr (zL _ _) (zL _ _)) _
  have B:b.pr+b.cp+cl.length<=(Q.both a b).pr+(Q.both a b).cp+cl.length:=zK (zr (zB _ _) (zB _ _)) _
  have o:=cR a cl h.1 i (yQ c1 j) (yQ A f) n.1
  have s:=cR b cl h.2.1 (h.2.2▸i) (yQ c2 j) (yQ B f) n.2
  ⟨⟨o.ok,s.ok,by rw[o.wd,s.wd];exact h.2.2⟩,o.wd,B1.mpr ⟨yQ o.cp c1,yQ s.cp c2⟩,B1.mpr ⟨yQ o.pr A,yQ s.pr B⟩,
   d2 (B1.mpr ⟨yQ o.dp (d2m (zL _ _)),yQ s.dp (d2m (zB _ _))⟩),o.nar,s.nar⟩
 | .join a b m,cl,h,i,j,f,n=>by
  obtain⟨g1,w,C,N⟩:=four_le (a.wd W) cl;have c1:a.cp+(bU (a.wd W) cl).length<=max a.cp b.cp+cl.length:=zr (zL _ _) g1;have c2:b.cp+(aY (a.wd W) cl).length<=max a.cp b.cp+cl.length:=zr (zB _ _) w;have O:a.pr<=max m.length (max a.pr b.pr):=yQ (zL _ _) (zB _ _);have T:b.pr<=max m.length (max a.pr b.pr):=yQ (zB _ _) (zB _ _);have A:a.pr+a.cp+(bU (a.wd W) cl).length<=max m.length (max a.pr b.pr)+max a.cp b.cp+cl.length:=zr (zr O (zL _ _)) g1;have B:b.pr+b.cp+(aY (a.wd W) cl).length<=max m.length (max a.pr b.pr)+max a.cp b.cp+cl.length:=zr (zr T (zB _ _)) w;have U:m.length+(bJ (a.wd W) cl).length<=max m.length (max a.pr b.pr)+max a.cp b.cp+cl.length:=zr (yQ (zL _ _) (zo _ _)) C;have o:=cR a (bU (a.wd W) cl) h.1 (iM i) (yQ c1 j) (yQ A f) n.1;have s:=cR b (aY (a.wd W) cl) h.2.1 (gE i) (yQ c2 j) (yQ B f) n.2.1;have lp:(m++bJ (a.wd W) cl).length<=max m.length (max a.pr b.pr)+max a.cp b.cp+cl.length:=by rw[zd];exact U
  have t:POk W (.join (a.placed W (bU (a.wd W) cl)) (b.placed W (aY (a.wd W) cl)) (m++bJ (a.wd W) cl)) (a.wd W+b.wd W) (max a.cp b.cp+((bU (a.wd W) cl).length+(aY (a.wd W) cl).length)) (max m.length (max a.pr b.pr)+max a.cp b.cp+cl.length) (2 * max a.dp b.dp+2):=by
   refine⟨⟨o.ok,s.ok,λk hk=>?_,yQ lp f⟩,by show _+_=_;rw[o.wd,s.wd],
    B1.mpr ⟨yQ o.cp (zr (zL _ _) (zo _ _)),yQ s.cp (zr (zB _ _) (Ao _ _))⟩,
    B1.mpr ⟨lp,B1.mpr ⟨yQ o.pr A,yQ s.pr B⟩⟩,
    zs (B1.mpr ⟨yQ o.dp (d2m (zL _ _)),yQ s.dp (d2m (zB _ _))⟩),o.nar,s.nar,by rw[o.wd,s.wd];exact n.2.2⟩
   rw[o.wd,s.wd]
   rcases zM.mp hk with hk | hk
   ·exact h.2.2.1 k hk
   ·obtain⟨c,I,rfl⟩:=zz.mp hk
    obtain⟨G,E⟩:=zC.mp I;obtain⟨x,y,_,g1,w,C,e⟩:=xH (i c G) (by simpa using E)
    rw[e];have C:y<a.wd W+b.wd W:=C;exact⟨g1,Cf w C⟩
  have h1:=lU (cs:=dH (a.wd W) cl) t (λx z=>i x (zC.mp z).1) (yQ (yQ (Ao _ _) N) (yQ (Ao _ _) j))
  exact h1.up (four_up N) (ze _) d2o
section
variable {α:Type}{m E7 k:Nat}{t:D}{R:Wd}
theorem keeps_app(cs cl:yN (yN D))(r:yN D):aK (cs++cl) r=(aK cs r&&aK cl r):=EU
theorem mV(t:Tab):t.filter (aK [])=t:=List.filter_eq_self.mpr λZ Z=>QQ
theorem tV_turn(c:Tst m t){row a:yN D}{f:Nat->Nat}(h:∀ p:Nat,(p:Int)∈fX t->row.getD p .none=a.getD (f p) .none):tV row t=tV a (du f t):=by
 obtain⟨w,p,b,j,⟨q,hq,rfl⟩ | ⟨o,n,rfl⟩⟩:=c
 ·rw[gL] at h
  have e1:=h p (.head _);have i:=h q (.tail _ (.head _));rw[ku];refine (iP row b p "col" (.int q)).trans (Eq.trans ?_ (iP a b (f p) "col" (.int (f q:Nat))).symm);show jp w (row.getD p .none) (row.getD q .none)=jp w (a.getD (f p) .none) (a.getD (f q) .none);rw[e1,i]
 ·rw[li] at h
  have e1:=h p (.head _);rw[lJ];refine (iP row b p "is" o).trans (Eq.trans ?_ (iP a b (f p) "is" o).symm);show jp w (row.getD p .none) o=jp w (a.getD (f p) .none) o;rw[e1]
theorem turn_id(a:Tst m t):du (λp=>p) t=t:=by
 obtain⟨w,p,b,c,⟨q,hq,rfl⟩ | ⟨o,f,rfl⟩⟩:=a
 ·exact ku _ _ _ _
 ·exact lJ _ _ _ _
theorem qs{c:yN D}(j:∀ t∈c,Tst m t){row a:yN D}{f:Nat->Nat}(h:∀ t∈c,∀ p:Nat,(p:Int)∈fX t->row.getD p .none=a.getD (f p) .none):c.any (tV row)=(c.map (du f)).any (tV a):=by
 rw[List.any_map];have b:∀ l:yN D,(∀ t∈l,t∈c)->l.any (tV row)=l.any (tV a ∘ du f):=by
  intro l
  induction l with
  | nil=>exact λZ=>QQ
  | cons t l n=>exact λi=>by rw[AI,AI,n λx o=>i x (.tail _ o),tV_turn (j t (i t (.head _))) (h t (i t (.head _)))];rfl
 exact b c λZ h=>h
theorem uy{c:yN D}(b:∀ t∈c,Tst m t){row a:yN D}(h:∀ t∈c,∀ p:Nat,(p:Int)∈fX t->row.getD p .none=a.getD p .none):c.any (tV row)=c.any (tV a):=by
 rw[qs b (f:=λp=>p) h]
 have e:c.map (du λp=>p)=c:=(AP λt i=>turn_id (b t i)).trans (D6 c)
 rw[e]
theorem fm{p q:α->yU}:∀ {l:yN α},(∀ x∈l,p x=q x)->l.all p=l.all q
 | [],_=>rfl
 | x::l,h=>by rw[Bc,Bc,h x (.head _),fm λy a=>h y (.tail _ a)]
theorem cells_getD{ps:yN Nat}{row:yN D}{p:Nat}(h:p<ps.length):(aR ps row).getD p .none=row.getD (ps.getD p 0) .none:=by
 unfold aR;rw[zb,As,y4 h,zb (l:=ps),y4 h];rfl
theorem uQ(a:Tst m t){p:Nat}(h:(p:Int)∈fX t):p<m:=by
 obtain⟨b,e,h'⟩:=lR a h;exact Bb e▸h'
theorem oR{ps:yN Nat}{c:yN D}(a:∀ t∈c,Tst ps.length t){row x:yN D}:c.any (tV (aR ps row++x))=(c.map (du (ps.getD · 0))).any (tV row):=
 qs a λt f p h=>by
  have b:=uQ (a t f) h;rw[iD (by unfold aR;rw[yV];exact b),cells_getD b]
theorem pick_keeps{ps:yN Nat}{cl:yN (yN D)}(b:∀ c∈cl,bV ps.length c)(row:yN D):aK (gM ps cl) row=aK cl (aR ps row):=by
 unfold aK gM;rw[BK];exact fm λc a=>by
  have:=oR (b c a).1 (row:=row) (x:=[]);rw[zy] at this;exact this.symm
theorem Stb.filter{G:α->Prop}{lt:α->α->yU}{l r:yN α}(h:Stb G lt l r)(p:α->yU):Stb G lt (l.filter p) (r.filter p) where
 pw:=h.pw.filter p
 fl:=λx b=>by
  rw[Aw,Aw];have e:∀ t:yN α,t.filter (λa=>eqv lt x a&&p a)=(t.filter (eqv lt x)).filter p:=λt=>by
   rw[Aw];exact Bu λZ Z=>Cs _ _
  rw[e,e,h.fl x b]
theorem order_filter{t:Tab}(h:aQ m t){ks:yN (Nat×yU)}(b:∀ k∈ks,k.1<m)(p:yN D->yU):eO ks (t.filter p)=(eO ks t).filter p:=by
 have o:=kC h b;have o2:=kC (t:=t.filter p) (λr f=>h r (zC.mp f).1) b
 exact o2.1.uniq (λa c=>(wkL b).irr c) (o.1.filter p) o2.2 λa c=>o.2 a (zC.mp c).1
theorem xE{a b:yN D}(j:bF m a)(h:aB a b=yP):a=b:=by
 have cell:∀ {x y:D},x.isCell=yP->bw x y=yP->x=y:=λ{x y} n h=>by
  revert h;refine aU (C:=λx=>bw x y=yP->x=y) n (λi=>?_) λs=>?_
  ·cases y <;> intro h <;> first | exact zj D.int (eq_of_beq h) | cases h
  ·cases y <;> intro h <;> first | exact zj D.str (eq_of_beq h) | cases h
 have c:∀ {a b:yN D},(∀ d∈a,d.isCell=yP)->aB a b=yP->a=b:=by
  intro a
  induction a with
  | nil=>intro b _ h;cases b;rfl;cases h
  | cons x a o=>
   intro b f h;cases b with
   | nil=>cases h
   | cons y b=>
    have h:=zE.mp (show (bw x y&&aB a b)=yP from h);rw[cell (f x (.head _)) h.1,o (λd q=>f d (.tail _ q)) h.2]
 exact c j.2 h
theorem nE(p:yN D->yU):∀ (n:Nat) (t:Tab),t.length=n->aQ m t->aZ (t.filter p)=(aZ t).filter p
 | 0,t,a,_=>by rw[AR.mp a];rfl
 | n+1,t,a,h=>by
  obtain⟨l,r,rfl⟩:∃ l r,t=l++[r]:=⟨t.dropLast,t.getLast (Cp a),(CS _).symm⟩;have b:aQ m l:=λx j=>h x (AC _ j)
  have i:=nE p n l (by rw[zd] at a;exact Ax a) b
  rw[zZ,fe];unfold gN;cases c:p r with
  | false=>
   rw[zI (by rw[c];exact y5),Bj,zy,i]
   split
   ·rfl
   ·rw[zZ,zI (by rw[c];exact y5),Bj,zy]
  | true=>
   rw[zp c,Bj,fe,i];unfold gN;have e:(((aZ l).filter p).any λx=>aB x r)=(aZ l).any λx=>aB x r:=by
    rw[Bg,C4,C4];exact⟨λ⟨x,h1,f⟩=>⟨x,(zC.mp h1).1,f⟩,λ⟨x,h1,f⟩=>⟨x,zC.mpr ⟨h1,xE (b x (mO.1 x h1)) f▸c⟩,f⟩⟩
   rw[e]
   split
   ·rfl
   ·rw[zZ,zp c,Bj]
theorem m0(k r:yN D)(q:yN D×Tab)(G:Grp):cT k r (q::G)=if aB q.1 k=yP then (q.1,q.2++[r])::G else q::cT k r G:=rfl
theorem nN{k r:yN D}{p:yN D->yU}:∀ {G:Grp},(∀ q∈G,aB q.1 k=yP->q.1=k)->(cT k r G).filter (λq=>p q.1)=if p k=yP then cT k r (G.filter λq=>p q.1) else G.filter λq=>p q.1
 | [],_=>by
  show[(k,[r])].filter (λq=>p q.1)=_
  cases h:p k with
  | true=>rw[zp (p:=λq:yN D×Tab=>p q.1) h];rfl
  | false=>rw[zI (p:=λq:yN D×Tab=>p q.1) (by rw[h];exact y5)];rfl
 | q::G,f=>by
  have i:=nN (r:=r) (p:=p) λx j=>f x (.tail _ j)
  have a:∀ (u:yN D×Tab) (l:Grp),p u.1=yP->(u::l).filter (λq=>p q.1)=u::l.filter λq=>p q.1:=λu l h=>zp (p:=λq:yN D×Tab=>p q.1) h
  have b:∀ (u:yN D×Tab) (l:Grp),p u.1=yM->(u::l).filter (λq=>p q.1)=l.filter λq=>p q.1:=λu l h=>zI (p:=λq:yN D×Tab=>p q.1) (by rw[h];exact y5)
  rw[m0];cases e:aB q.1 k with
  | true=>
   have c:=f q (.head _) e;rw[y8 rfl];cases h:p k with
   | true=>rw[a _ _ (c.symm▸h),a _ _ (c.symm▸h),y8 rfl,m0,y8 e]
   | false=>rw[b _ _ (c.symm▸h),b _ _ (c.symm▸h),za y5]
  | false=>
   rw[za y5];cases hq:p q.1 with
   | true=>
    rw[a _ _ hq,a _ _ hq,i];cases h:p k with
    | true=>rw[y8 rfl,y8 rfl,m0,e,za y5]
    | false=>rw[za y5,za y5]
   | false=>rw[b _ _ hq,b _ _ hq,i]
theorem kY{ps:yN Nat}(a:∀ p∈ps,p<m){p' p:yN D->yU}(i:∀ r,p' r=p (aR ps r)):∀ (n:Nat) (t:Tab),t.length=n->aQ m t->cx ps (t.filter p')=(cx ps t).filter λq=>p q.1
 | 0,t,b,_=>by rw[AR.mp b];rfl
 | n+1,t,b,h=>by
  obtain⟨l,r,rfl⟩:∃ l r,t=l++[r]:=⟨t.dropLast,t.getLast (Cp b),(CS _).symm⟩;have f:aQ m l:=λx s=>h x (AC _ s)
  have j:=kY a i n l (by rw[zd] at b;exact Ax b) f
  have o:∀ l:Tab,cx ps (l++[r])=cT (aR ps r) r (cx ps l):=λl=>by unfold cx;rw[Bt];rfl
  rw[zZ,o l,nN λq hq e=>xE ((iC a f).ke q hq) e,<- i]
  cases c:p' r with
  | true=>rw[zp c,Bj,o,j];rfl
  | false=>rw[zI (by rw[c];exact y5),Bj,zy,j];rfl
theorem all_split(p q:α->yU)(l:yN α):l.all q=((l.filter p).all q&&(l.filter λx=>!p x).all q):=by
 induction l with
 | nil=>rfl
 | cons x l a=>
  rw[Bc,a];cases h:p x with
  | true=>rw[zp h,zI (by rw[h];exact y5),Bc,Bool.and_assoc]
  | false=>
   rw[zI (by rw[h];exact y5),zp (by rw[h];rfl),Bc]
   cases q x <;> cases (l.filter p).all q <;> rfl
theorem group_filter{ps:yN Nat}{b:yN (yS×Nat)}{t:Tab}(h:aQ m t)(f:∀ p∈ps,p<m){w:Nat}{cl:yN (yN D)}(i:∀ c∈cl,bV w c):(eS ps b (t.filter (aK (bY ps cl)))).filter (aK (dG ps cl))=(eS ps b t).filter (aK cl):=by
 have j:∀ (r x:yN D),aK (bY ps cl) r=(cl.filter (cV ps.length)).all λc=>c.any (tV (aR ps r++x)):=λr x=>by
  unfold aK bY;rw[BK];exact fm λc a=>(oR (fU (i c (zC.mp a).1) (zC.mp a).2).1).symm
 have n:∀ (k x:yN D),k.length=ps.length->((cl.filter (cV ps.length)).all λc=>c.any (tV (k++x)))=(cl.filter (cV ps.length)).all λc=>c.any (tV k):=λk x o=>fm λc a=>uy (fU (i c (zC.mp a).1) (zC.mp a).2).1 λt s p u=>iD (by rw[o];exact uQ ((fU (i c (zC.mp a).1) (zC.mp a).2).1 t s) u)
 have e:=kY f (p':=aK (bY ps cl)) (p:=λk=>(cl.filter (cV ps.length)).all λc=>c.any (tV k)) (λr=>by have:=j r [];rw[zy] at this;exact this) t.length t QQ h
 unfold eS;rw[e,BO,BO,Aw];refine zj _ (Bu λq hq=>?_)
 have y:=((iC f h).ke q hq).1;show (aK (dG ps cl) (rY b q)&&(cl.filter (cV ps.length)).all λc=>c.any (tV q.1))=aK cl (rY b q)
 rw[show aK cl (rY b q)=_ from all_split (cV ps.length) (λc=>c.any (tV (rY b q))) cl,Cs]
 exact zj (·&&_) (n q.1 (mB b q.2) y).symm
theorem cat_lt(E7:Nat)(c:yN D):cat E7 c=0\/cat E7 c=1\/cat E7 c=2\/cat E7 c=3:=by
 unfold cat
 split
 ·exact .inl QQ
 ·split
  ·exact .inr (.inl QQ)
  ·split
   ·exact .inr (.inr (.inl QQ))
   ·exact .inr (.inr (.inr QQ))
theorem wZ(E7:Nat)(q:yN D->yU):∀ a:yN (yN D),a.all q=((a.filter λc=>cat E7 c == 0).all q&&((a.filter λc=>cat E7 c == 1).all q&&((a.filter λc=>cat E7 c == 2).all q&&(a.filter λc=>cat E7 c == 3).all q)))
 | []=>rfl
 | c::a=>by
  rw[Bc,wZ E7 q a,AK,AK,AK,AK];have b:∀ x A B C E:yU,(x&&(A&&(B&&(C&&E))))=(A&&(x&&B&&(C&&E)))/\(x&&(A&&(B&&(C&&E))))=(A&&(B&&(x&&C&&E)))/\(x&&(A&&(B&&(C&&E))))=(A&&(B&&(C&&(x&&E)))):=λx A B C E=>by cases x <;> cases A <;> cases B <;> cases C <;> exact⟨QQ,QQ,QQ⟩
  rcases cat_lt E7 c with e | e | e | e <;> rw[e]
  ·exact (Bool.and_assoc _ _ _).symm
  ·exact (b _ _ _ _ _).1
  ·exact (b _ _ _ _ _).2.1
  ·exact (b _ _ _ _ _).2.2
theorem cat0{c:yN D}(h:cat E7 c=0):cV E7 c=yP:=by
 unfold cat at h;split at h
 ·assumption
 ·split at h
  ·cases h
  ·split at h <;> cases h
theorem cat1{c:yN D}(h:cat E7 c=1):ji E7 c=yP:=by
 unfold cat at h;split at h
 ·cases h
 ·split at h
  ·assumption
  ·split at h <;> cases h
theorem pQ{l r:yN α}{z:α}(h:l.length<=k):(l++r).getD k z=r.getD (k - l.length) z:=by
 rw[zb,zb,Av h]
theorem pair_one{c:yN D}(i:bV m c)(h:cat E7 c=2){x y:yN D}(j:bF E7 x)(J:bF k y)(L:m=E7+k):c.any (tV (x++y))=eC (x.getD (uP E7 c).1 .none) (y.getD (uP E7 c).2 .none):=by
 obtain⟨a,b,M,s,A,B,e⟩:=xH i h;rw[e];have f:qX c=yP:=by
  unfold cat at h;split at h
  ·cases h
  ·split at h
   ·cases h
   ·split at h
    ·assumption
    ·cases h
 match c,i,f with
 | [],_,f=>cases f
 | t::u::r,_,f=>rw[mM] at f;cases f
 | [t],i,f=>
  obtain⟨w,p,N,O,⟨q,hq,rfl⟩ | ⟨o,Z,rfl⟩⟩:=i.1 t (.head _)
  ·have C:w="same":=by
    have:=(zE.mp (show (yO w == yO "same"&&yO "col" == yO "col")=yP from f)).1;rw[vJ] at this;exact eq_of_beq this
   subst C;have T:tV (x++y) (tst "same" p "col" (.int q))=eC ((x++y).getD p .none) ((x++y).getD q .none):=iP (x++y) N p "col" (.int q);rw[AI,List.any_nil,Bool.or_false,T];have n:∀ z:Int,z∈[(p:Int),(q:Int)]↔z∈[(a:Int),(b:Int)]:=λz=>by rw[<- M];exact (im z _).symm
   have E:(x++y).getD a .none=x.getD a .none:=iD (by rw[j.1];exact s)
   have G:(x++y).getD b .none=y.getD (b - E7) .none:=by rw[pQ (by rw[j.1];exact A),j.1]
   have U:=dL j s;have V:=dL J (p:=b - E7) (om76 L A B);have X:=(n p).mp (.head _);have Y:=(n q).mp (.tail _ (.head _));have H:=(n a).mpr (.head _);have I:=(n b).mpr (.tail _ (.head _));simp only[zc,zV,Bs] at X Y H I;have:(p=a/\q=b)\/(p=b/\q=a):=by exact om77 s A H I
   rcases this with⟨rfl,rfl⟩ | ⟨rfl,rfl⟩
   ·rw[E,G]
   ·rw[E,G,qv V U]
  ·have:(Bool.and (yO w == yO "same") (yO "is" == yO "col"))=yP:=f
   rw[show (yO "is" == yO "col")=yM from by decide +kernel,CN] at this
   cases this
theorem pF{cl:yN (yN D)}(f:∀ c∈cl,bV (E7+k) c){x y:yN D}(b:bF E7 x)(m:bF k y):aK cl (x++y)=(aK (bU E7 cl) x&&(aK (aY E7 cl) y&&(bv (bJ E7 cl) x y&&aK (dH E7 cl) (x++y)))):=by
 have n:aK (bU E7 cl) (x++y)=aK (bU E7 cl) x:=fm λc a=>by
  have h:=zC.mp a;have ok:=fU (f c h.1) (cat0 (eq_of_beq h.2));exact uy ok.1 λt i p j=>iD (by rw[b.1];exact uQ (ok.1 t i) j)
 have e1:((cl.filter λc=>cat E7 c == 1).all λc=>c.any (tV (x++y)))=aK (aY E7 cl) y:=by
  unfold aK aY;rw[BK];refine fm λc a=>?_
  have h:=zC.mp a;have o:=cat1 (eq_of_beq h.2);refine qs (f c h.1).1 λt i p j=>?_
  have q:(E7:Int)<=p:=zS (zx.mp o _ (B0.mpr ⟨t,i,j⟩));rw[pQ (by rw[b.1];exact AD.mp q),b.1]
 have s:((cl.filter λc=>cat E7 c == 2).all λc=>c.any (tV (x++y)))=bv (bJ E7 cl) x y:=by
  unfold bv bJ;rw[BK];refine fm λc a=>?_
  have h:=zC.mp a;exact pair_one (f c h.1) (eq_of_beq h.2) b m QQ
 rw[show aK cl (x++y)=_ from wZ E7 (λc=>c.any (tV (x++y))) cl,e1,s]
 exact zj (·&&_) n
theorem meets_app(a b:yN (Nat×Nat))(x y:yN D):bv (a++b) x y=(bv a x y&&bv b x y):=EU
theorem nL{cl:yN (yN D)}(h:∀ c∈cl,bV (E7+k) c){b:Tab}(i:aQ k b){prs:yN (Nat×Nat)}:∀ {a:Tab},aQ E7 a->(iW (prs++bJ E7 cl) (a.filter (aK (bU E7 cl))) (b.filter (aK (aY E7 cl)))).filter (aK (dH E7 cl))=(iW prs a b).filter (aK cl)
 | [],_=>rfl
 | x::a,m=>by
  have o:=nL h i (prs:=prs) (a:=a) λr q=>m r (.tail _ q)
  have n:=m x (.head _);have step:∀ (p:yN (Nat×Nat)) (a b:Tab),iW p (x::a) b=(b.filter (bv p x)).map (x++·)++iW p a b:=λZ Z Z=>QQ
  rw[step,zZ,<- o];have e:((b.filter (bv prs x)).map (x++·)).filter (aK cl)=(b.filter λy=>bv prs x y&&aK cl (x++y)).map (x++·):=by
   rw[BO,Aw];exact zj _ (Bu λy Z=>Cs _ _)
  rw[e];cases f:aK (bU E7 cl) x with
  | true=>
   rw[zp f,step,zZ];refine zj (·++_) ?_;rw[BO,Aw,Aw];refine zj _ (Bu λy j=>?_)
   show (aK (dH E7 cl) (x++y)&&bv (prs++bJ E7 cl) x y&&aK (aY E7 cl) y)=(bv prs x y&&aK cl (x++y));rw[pF h n (i y j),f,meets_app];cases aK (dH E7 cl) (x++y) <;> cases bv prs x y <;> cases bv (bJ E7 cl) x y <;> cases aK (aY E7 cl) y <;> rfl
  | false=>
   rw[zI (by rw[f];exact y5),show (b.filter λy=>bv prs x y&&aK cl (x++y))=[] from CD.mpr λy j=>by rw[pF h n (i y j),f];cases bv prs x y <;> exact y5]
   rfl
theorem mu(T:Tbs)(cs:yN (yN D))(q:Q):(jr cs q).ans T=(q.ans T).filter (aK cs):=by
 cases cs with
 | nil=>exact (mV _).symm
 | cons=>rfl
theorem lj{W:Wd}{T:Tbs}(s:mw W R T):∀ (q:Q) (cl:yN (yN D)) (r:Nat),q.ok W->q.rb R r->(∀ c∈cl,bV (q.wd W) c)->(q.placed W cl).ans T=(q.ans T).filter (aK cl):=by
 intro q
 induction q with
 | table A=>rintro cl _ _ _ _;exact mu T cl _
 | sieve t q j=>
  rintro cl r h i f;show (q.placed W (t++cl)).ans T=((q.ans T).filter (aK t)).filter (aK cl);rw[j (t++cl) r h.1 i λc z=>(zM.mp z).elim (h.2.1 c) (f c),Aw]
  exact Bu λx Z=>(keeps_app t cl x).trans (Cs _ _)
 | pick ps q j=>
  rintro cl r h i f;show ((q.placed W (gM ps cl)).ans T).map (aR ps)=((q.ans T).map (aR ps)).filter (aK cl);rw[j (gM ps cl) r h.1 i (lS f h.2.1),BO];exact zj _ (Bu λx Z=>pick_keeps f x)
 | group ps y q j=>
  rintro cl r h i f;show (jr (dG ps cl) (.group ps y (q.placed W (bY ps cl)))).ans T=(eS ps y (q.ans T)).filter (aK cl);rw[mu];show (eS ps y ((q.placed W (bY ps cl)).ans T)).filter _=_;rw[j (bY ps cl) r h.1 i (kJ f h.2.1)];exact group_filter (cr s q r h.1 i).1 h.2.1 f
 | order ks q j=>
  rintro cl r h i f;show eO ks ((q.placed W cl).ans T)=(eO ks (q.ans T)).filter (aK cl);rw[j cl r h.1 i f];exact order_filter (cr s q r h.1 i).1 h.2.1 _
 | once q j=>
  rintro cl r h i f;show aZ ((q.placed W cl).ans T)=(aZ (q.ans T)).filter (aK cl);rw[j cl r h i f];exact nE _ _ _ QQ (cr s q r h i).1
 | first c q j=>
  rintro cl r h ⟨r',i,_⟩ f;show (jr cl (.first c (q.placed W []))).ans T=((q.ans T).take c).filter (aK cl)
  rw[mu];show (((q.placed W []).ans T).take c).filter _=_;rw[j [] r' h i (λZ h=>nomatch h),mV]
 | join a b m n o=>
  rintro cl r h ⟨u,r2,h1,w,_⟩ f;show (jr (dH (a.wd W) cl) (.join (a.placed W (bU (a.wd W) cl)) (b.placed W (aY (a.wd W) cl)) (m++bJ (a.wd W) cl))).ans T=(iW m (a.ans T) (b.ans T)).filter (aK cl);rw[mu];show (iW (m++bJ (a.wd W) cl) ((a.placed W _).ans T) ((b.placed W _).ans T)).filter _=_;rw[n _ u h.1 h1 (iM f),o _ r2 h.2.1 w (gE f)];exact nL f (cr s b r2 h.2.1 w).1 (cr s a u h.1 h1).1
 | both a b n o=>
  rintro cl r h ⟨u,r2,h1,w,_⟩ f;show (a.placed W cl).ans T++(b.placed W cl).ans T=(a.ans T++b.ans T).filter (aK cl);rw[n cl u h.1 h1 f,o cl r2 h.2.1 w (h.2.2▸f),zZ]
theorem ot{cs:yN (yN D)}{q:Q}{r:Nat}(h:q.rb R r):(jr cs q).rb R r:=by
 cases cs with
 | nil=>exact h
 | cons=>exact h
theorem placed_rb{W:Wd}:∀ (q:Q) (cl:yN (yN D)) (r:Nat),q.rb R r->(q.placed W cl).rb R r:=by
 intro q
 induction q with
 | table _=>rintro _ _ h;exact ot h
 | sieve s q f=>rintro cl r h;exact f (s++cl) r h
 | pick ps q f=>rintro cl r h;exact f _ r h
 | group ps t q f=>rintro cl r h;exact ot (q:=.group ps t (q.placed W _)) (f _ r h)
 | order ks q f=>rintro cl r h;exact f _ r h
 | once q f=>rintro cl r h;exact f _ r h
 | first c q f=>rintro cl r ⟨r',h,m⟩;exact ot (q:=.first c (q.placed W _)) ⟨r',f _ r' h,m⟩
 | join a b u i j=>rintro cl r ⟨n,r2,h1,m,o⟩;exact ot (q:=.join (a.placed W _) (b.placed W _) _) ⟨n,r2,i _ n h1,j _ r2 m,o⟩
 | both a b i j=>rintro cl r ⟨n,r2,h1,m,o⟩;exact⟨n,r2,i _ n h1,j _ r2 m,o⟩
end
theorem tx{cf:CF}{z:yS}{e:ME}{r:yN MS}{σ:St}{d R:D}{fr f:yU}(h:evF cf (vis σ) e=ac (d,fr))(k:∀ E2:St,(∀ x u,(x == z)=yM->Has σ x u->Has E2 x u)->Has E2 z d->Run cf r E2 R f):Run cf (.x0 z e::r) σ R f:=
 aA (ak h) (k _ (λx u a i=>ag a (au i)) ay)
theorem skX{cf:CF}{e:ME}{σ:St}{t r:yN MS}{R:D}{fr k:yU}(h:evE cf (vis σ) e=ac (.bool k))(a:k=yM)(z:Run cf r σ R fr):Run cf (.ite e t []::r) σ R fr:=bc (k:=yM) (x:=.bool yM) (a▸h) QQ nofun λZ=>z
theorem tbs3{W3w W3r:Wd}{a b c:Str}{j m n:Tab}{t u w2 w y r2:Nat}(e1:W3w=W3 a b c t u w2)(C:W3r=W3 a b c w y r2)(z:aQ t j/\j.length=w)(A:aQ u m/\m.length=y)(B:aQ w2 n/\n.length=r2):mw W3w W3r [(a,j),(b,m),(c,n)]:=λq k h=>by
 subst e1 C;unfold W3 at h ⊢;rw[zl] at h ⊢;cases i:q == a with
 | true=>
  rw[i] at h;exact⟨j,QQ,yW h▸z.1,λr f=>by rw[zl,i] at f;exact yW f▸zk z.2⟩
 | false=>
  rw[i] at h;dsimp only at h ⊢;rw[zl] at h ⊢;cases o:q == b with
  | true=>
   rw[o] at h;exact⟨m,QQ,yW h▸A.1,λr f=>by rw[zl,i] at f;dsimp only at f;rw[zl,o] at f;exact yW f▸zk A.2⟩
  | false=>
   rw[o] at h;dsimp only at h ⊢;rw[zl] at h ⊢;cases s:q == c with
   | true=>
    rw[s] at h;exact⟨n,QQ,yW h▸B.1,λr f=>by rw[zl,i] at f;dsimp only at f;rw[zl,o] at f;dsimp only at f;rw[zl,s] at f;exact yW f▸zk B.2⟩
   | false=>rw[s] at h;cases h
theorem qU{m:Nat}:∀ {t:Tab},aQ m t->fF (t.map .tup) (t.map .tup)=yP
 | [],_=>rfl
 | r::t,h=>by
  show (aB r r&&fF (t.map .tup) (t.map .tup))=yP;rw[dY (h r (.head _)).2,qU λx a=>h x (.tail _ a)];rfl
theorem sJ{m:Nat}{t:Tab}(h:aQ m t):eqV (aC t) (aC t)=ac yP:=by
 show (if ((t.map D.tup).all D.isTK&&(t.map D.tup).all D.isTK)=yP then ac (fF (t.map .tup) (t.map .tup)) else y7)=_
 rw[rS h,qU h];rfl
theorem nT:∀ {l:yN D},(∀ d∈l,eqV d d=ac yP)->nd l l=ac yP
 | [],_=>rfl
 | d::l,h=>by
  show (eqV d d).bind _=_;rw[h d (.head _)];show (nd l l).map _=_;rw[nT λx a=>h x (.tail _ a)];rfl
theorem three{P:D->Prop}{x y z:D}(b:P x)(c:P y)(hz:P z):∀ d∈[x,y,z],P d:=λd a=>(zc.mp a).elim (λe=>e▸b) λa=>(zc.mp a).elim (λe=>e▸c) λa=>zg.mp a▸hz
theorem eqX_three(a b c:Str){x y z:D}(f:eqV x x=ac yP)(h:eqV y y=ac yP)(hz:eqV z z=ac yP):eqX (.dict [.str a,.str b,.str c] [x,y,z]) (.dict [.str a,.str b,.str c] [x,y,z])=ac yP:=by
 refine (y8 ?_).trans (nT (three f h hz));have e:aB [D.str a,.str b,.str c] [D.str a,.str b,.str c]=yP:=dY (three (P:=λd=>d.isCell=yP) QQ QQ QQ)
 show ([D.str a,.str b,.str c].all D.isCell&&aB [D.str a,.str b,.str c] [D.str a,.str b,.str c]&&_)=yP;rw[e];rfl
theorem eq_t{a b:D}(h:eqX a b=ac yP):eT .Eq a b=ac (.bool yP):=by
 show (eqX a b).map D.bool=_;rw[h];rfl
structure Pln(W R:Wd)(q f:Q)(r:Nat):Prop where
 ok:q.ok W
 rb:q.rb R r
 r6:r<=60
 nar:q.nar W 5000
 dp:q.dp<=38
 wd:q.wd W<=big
 fok:f.ok W
 frb:f.rb R r
 fnar:f.nar W 5000
 fdp:f.dp<=77
 an:∀ {T:Tbs},mw W R T->f.ans T=q.ans T
theorem TpA.pln{W R:Wd}{q:Q}{r k:Nat}(t:TpA W R 456 38 q r k):Pln W R q (q.placed W []) r:=by
 have b:=t.cp;have c:=t.pr;have f:=t.dp;have a:=cR (W:=W) q [] t.ok (λZ h=>nomatch h) (by show q.cp+0<=1000;exact om3 b) (by show q.pr+q.cp+0<=5000;exact om4 b c) t.nar
 exact⟨t.ok,t.rb,t.r,t.nar,t.dp,yQ t.wd (yQ (z6 24 t.k2) (by decide)),a.ok,placed_rb q [] r t.rb,a.nar,yQ a.dp (om5 f),λi=>by rw[lj i q [] r t.ok t.rb (λZ h=>nomatch h),mV]⟩
noncomputable def jc:Fn:=⟨["query","tables"],[
  .x0 "word" (.sub (.u "query") (.int 0)),
  .ite (.cmp .Eq (.u "word") (.str "table")) [.ret (.int 0)] [],
  .ite (.cmp .Eq (.u "word") (.str "both")) [.ret (.bin .Add (.call "work" [.sub (.u "query") (.int 1),.u "tables"]) (.call "work" [.sub (.u "query") (.int 2),.u "tables"]))] [],
  .ite (.cmp .Eq (.u "word") (.str "join")) [.x0 "below" (.bin .Add (.call "work" [.sub (.u "query") (.int 1),.u "tables"]) (.call "work" [.sub (.u "query") (.int 2),.u "tables"])),.ret (.bin .Add (.u "below") (.bin .Mult (.blt "len" [.call "answer" [.sub (.u "query") (.int 1),.u "tables"]]) (.blt "len" [.call "answer" [.sub (.u "query") (.int 2),.u "tables"]])))] [],
  .ret (.call "work" [.sub (.u "query") (.neg (.int 1)),.u "tables"])]⟩
noncomputable def cJ:Fn:=⟨["_law_query","_law_tables_here"],[
  .ite (.cmp .Eq (.sub (.u "_law_query") (.int 0)) (.str "table")) [.ret (.int 0)] [],
  .ite (.bop .Or [.cmp .Eq (.sub (.u "_law_query") (.int 0)) (.str "join"),.cmp .Eq (.sub (.u "_law_query") (.int 0)) (.str "both")]) [.x0 "_law_many_here" (.int 0),.ite (.cmp .Eq (.sub (.u "_law_query") (.int 0)) (.str "join")) [.x0 "_law_many_here" (.bin .Mult (.blt "len" [.call "_law_answer" [.sub (.u "_law_query") (.int 1),.u "_law_tables_here"]]) (.blt "len" [.call "_law_answer" [.sub (.u "_law_query") (.int 2),.u "_law_tables_here"]]))] [],.ret (.bin .Add (.bin .Add (.u "_law_many_here") (.call "_law_work" [.sub (.u "_law_query") (.int 1),.u "_law_tables_here"])) (.call "_law_work" [.sub (.u "_law_query") (.int 2),.u "_law_tables_here"]))] [],
  .ret (.call "_law_work" [.call "_law_inner" [.u "_law_query"],.u "_law_tables_here"])]⟩
noncomputable def u4:Fn:=⟨["_law_script"],[
  .x0 "_law_query" (.sub (.call "_law_built" [.u "_law_script"]) (.int 0)),
  .x0 "_law_tables_here" (.call "_law_tables" [.u "_law_script",.int 0]),
  .x0 "_law_found" (.call "plan" [.u "_law_query",.call "_law_widths" [.u "_law_script"]]),
  .x0 "_law_due" (.lst [.call "_law_work" [.u "_law_query",.u "_law_tables_here"],.call "_law_work" [.u "_law_found",.u "_law_tables_here"]]),
  .x0 "_law_handed" (.call "_law_tables" [.u "_law_script",.int 0]),
  .ite (.bop .Or [.not (.call "_law_cell_is" [.call "work" [.u "_law_query",.u "_law_handed"],.sub (.u "_law_due") (.int 0)]),.not (.call "_law_cell_is" [.call "work" [.u "_law_found",.u "_law_handed"],.sub (.u "_law_due") (.int 1)])]) [.ret (.bool yM)] [],
  .ret (.bop .And [.cmp .LtE (.sub (.u "_law_due") (.int 1)) (.sub (.u "_law_due") (.int 0)),.cmp .Eq (.u "_law_handed") (.u "_law_tables_here")])]⟩
noncomputable def PP:yN (yS×Fn):=[("before",nb),("does",sH),("_law_before",ie),("rank",wE),("told_of",lm),("holds",pV),("alike",uf),("_law_ahead",jf),("_law_told",jN),("_law_row_like",ju),("_law_stands",hM),("_law_one_by",hY),("once",sG),("ordered",lv),("grouped",lx),("cells_at",nQ),("keeps",pU),("meets",pT),("is_pair",lw),("places_of",l7),("need_columns",fI),("_law_ordered",gu),("_law_grouped",gv),("_law_holds",jd),("_law_alike",je),("_law_many",jU),("_law_clause_by",dX),("_law_pairs_by",jv),("stepped",lu),("met",u3),("over",wG),("through_group",fh),("through_join",fH),("turned",rq),("width_upon",gZ),("width_of_two",jt),("_law_thing_by",fJ),("_law_sign_by",jQ),("_law_done",jX),("_law_joined",hZ),("_law_keys_by",jW),("_law_sums_by",jO),("_law_places_by",iE),("_law_clauses_by",dI),("_law_of_two",fu),("_law_sieve_on",fK),("answer",kL),("_law_inner",md),("placed",kK),("width",ue),("_law_rows_of",jR),("_law_wide_by",jM),("_law_rows_by",jS),("_law_names",l8),("_law_leaf",jV),("_law_answer",dE),("_law_mixed",l9),("_law_around",fw),("_law_cell_at",jY),("_law_stepped",jP),("work",jc),("_law_cell_is",gy),("_law_work",cJ),("_law_widths",kZ),("plan",wF),("_law_tables",k4),("_law_built",mf),("law",u4)]
noncomputable def X7:CF:=⟨λZ Z=>y7,λx=>if x="STEPS" then ac (.tup eF) else y7⟩
theorem bt:BT PP:={ toBE:=⟨⟨⟨⟨QQ,QQ,QQ,QQ⟩,QQ,QQ⟩,QQ,QQ,QQ,QQ,QQ,QQ,QQ,QQ,QQ⟩,QQ,QQ,QQ,QQ,QQ,QQ,QQ⟩,toBA:=⟨QQ,QQ,QQ,QQ,QQ,QQ,QQ,QQ,QQ,QQ,QQ,QQ,QQ,QQ,QQ⟩,rowsBy:=rfl,tables:=rfl }
theorem bl:BL PP:=⟨QQ,QQ,QQ,QQ,QQ,QQ,QQ,QQ,QQ,QQ,QQ,QQ,QQ,QQ⟩
theorem bp:BP PP:=⟨⟨QQ,QQ,QQ,QQ,QQ⟩,QQ,QQ,QQ,QQ,QQ,QQ,QQ⟩
noncomputable def Q.wk(T:Tbs):Q->Nat
 | .table _=>0
 | .sieve _ q | .pick _ q | .group _ _ q | .order _ q | .once q | .first _ q=>q.wk T
 | .join a b _=>a.wk T+b.wk T+(a.ans T).length * (b.ans T).length
 | .both a b=>a.wk T+b.wk T
theorem oj(T:Tbs)(cs:yN (yN D))(q:Q):(jr cs q).wk T=q.wk T:=by
 cases cs with
 | nil=>rfl
 | cons=>rfl
theorem cQ{W R:Wd}{T:Tbs}(i:mw W R T):∀ (q:Q) (cl:yN (yN D)) (r:Nat),q.ok W->q.rb R r->(∀ c∈cl,bV (q.wd W) c)->(q.placed W cl).wk T<=q.wk T
 | .table w,cl,_,_,_,_=>zk (oj T cl _)
 | .sieve s q,cl,r,h,j,f=>cQ i q (s++cl) r h.1 j λc t=>(zM.mp t).elim (h.2.1 c) (f c)
 | .pick ps q,cl,r,h,j,f=>cQ i q (gM ps cl) r h.1 j (lS f h.2.1)
 | .group ps u q,cl,r,h,j,f=>yQ (zk (oj T _ (.group ps u (q.placed W (bY ps cl))))) (cQ i q (bY ps cl) r h.1 j (kJ f h.2.1))
 | .order ks q,cl,r,h,j,f=>cQ i q cl r h.1 j f
 | .once q,cl,r,h,j,f=>cQ i q cl r h j f
 | .first c q,cl,r,h,⟨r',j,_⟩,f=>yQ (zk (oj T _ (.first c (q.placed W [])))) (cQ i q [] r' h j λZ h=>nomatch h)
 | .join a b o,cl,r,h,⟨m,r2,h1,n,_⟩,f=>by
  refine yQ (zk (oj T _ (.join (a.placed W (bU (a.wd W) cl)) (b.placed W (aY (a.wd W) cl)) (o++bJ (a.wd W) cl)))) ?_;refine zr (zr (cQ i a _ m h.1 h1 (iM f)) (cQ i b _ r2 h.2.1 n (gE f))) (CO ?_ ?_)
  ·rw[lj i a _ m h.1 h1 (iM f)];exact z8 _ _
  ·rw[lj i b _ r2 h.2.1 n (gE f)];exact z8 _ _
 | .both a b,cl,r,h,⟨m,r2,h1,n,_⟩,f=>zr (cQ i a cl m h.1 h1 f) (cQ i b cl r2 h.2.1 n (h.2.2▸f))
section
variable {X:CF} {P:yN (yS×Fn)} {cf:CF} {w:yS} {R:D} {fr:yU}
theorem rO(a:P.lookup "work"=ac jc)(n:Nat){q T:D}(b:aV q (.int 0)=ac (sD w))(k:Run (ai P X n) (jc.body.drop 1) [("query",(yM,q)),("tables",(yM,T)),("word",(yM,sD w))] R fr):(ai P X (n+1)).call "work" [q,T]=ac (R,fr):=
 av a QQ (aA (aW (d:=sD w) (fr:=yM) (aq (vsi ae b) QQ QQ) QQ) k)
theorem wW{q T:D}:Has [("query",(yM,q)),("tables",(yM,T)),("word",(yM,sD w))] "word" (sD w):=af QQ (af QQ ae)
theorem wT{q T:D}:Has [("query",(yM,q)),("tables",(yM,T)),("word",(yM,sD w))] "tables" T:=af QQ ae
theorem upon_ne2:∀ w∈lI,(yO w == yO "table")=yM/\(yO w == yO "both")=yM/\(yO w == yO "join")=yM:=by decide +kernel
theorem kq(b:P.lookup "work"=ac jc)(n:Nat){q I T:D}(c:w∈lI)(f:aV q (.int 0)=ac (sD w))(h:aV q (.int (-1))=ac I)(k:(ai P X n).call "work" [I,T]=ac (R,fr)):(ai P X (n+1)).call "work" [q,T]=ac (R,fr):=by
 have a:=upon_ne2 w c;exact rO b n f (skW a.1 wW (skW a.2.1 wW (skW a.2.2 wW (aD (aE (ad (aw (vr ae) rP h) (vv wT vN)) k) QQ))))
theorem oA(t:Tab):gI "len" [aC t]=ac (.int t.length):=by show ac (D.int ((t.map D.tup).length:Nat))=_;rw[yV]
theorem mul60{x y:Nat}(h:x<=60):en .Mult (.int x) (.int y)=ac (.int (x * y:Nat)):=by rw[DY];exact nq (by unfold lim;omega)
theorem jm(x y:Nat):en .Add (.int x) (.int y)=ac (.int (x+y:Nat)):=by rw[AA];rfl
theorem et(B:BA P)(f:P.lookup "work"=ac jc)(o:X.glob "STEPS"=ac (.tup eF)){W R:Wd}{T:Tbs}(m:mw W R T):∀ (q:Q) (r n:Nat),q.ok W->q.rb R r->r<=60->q.nar W 5000->q.dp<=n->(ai P X (n+6)).call "work" [q.d,T.d]=ac (.int (q.wk T),yM)
 | .table U,r,n,_,_,_,_,_=>rO f (n+5) QQ (kP wW (aD (aq vI QQ QQ) QQ))
 | .sieve V q,r,n+1,h,t,s,i,j=>kq f _ (w:="sieve") (by decide) QQ QQ (et B f o m q r n h.1 t s i (zH j))
 | .pick ps q,r,n+1,h,t,s,i,j=>kq f _ (w:="pick") (by decide) QQ QQ (et B f o m q r n h.1 t s i (zH j))
 | .group ps Y q,r,n+1,h,t,s,i,j=>kq f _ (w:="group") (by decide) QQ QQ (et B f o m q r n h.1 t s i.1 (zH j))
 | .order ks q,r,n+1,h,t,s,i,j=>kq f _ (w:="order") (by decide) QQ QQ (et B f o m q r n h.1 t s i (zH j))
 | .once q,r,n+1,h,t,s,i,j=>kq f _ (w:="once") (by decide) QQ QQ (et B f o m q r n h t s i (zH j))
 | .first c q,r,n+1,h,⟨r',t,G,_⟩,s,i,j=>kq f _ (w:="first") (by decide) QQ QQ (et B f o m q r' n h t G i (zH j))
 | .join a b u,r,n+1,h,⟨z,r2,h1,C,A,E,_⟩,s,i,j=>by
  have J:=yQ (zL _ _) (zH j);have L:=yQ (zB _ _) (zH j);have H:=et B f o m a z n h.1 h1 A i.1 J;have I:=et B f o m b r2 n h.2.1 C E i.2.1 L;have M:=rH (X:=X) B o m a z (n+1) h.1 h1 A i.1 (zR J);have N:=rH (X:=X) B o m b r2 (n+1) h.2.1 C E i.2.1 (zR L);have O:=(cr m a z h.1 h1).2;refine rO (w:="join") f (n+6) QQ (skW (by decide +kernel) wW (skW (by decide +kernel) wW (kP wW ?_)))
  refine aA (aW (d:=.int (a.wk T+b.wk T:Nat)) (fr:=yM) (aq (am (al (ad (aw (x:=(Q.join a b u).d) (y:=.int 1) (vr ae) vI QQ) (vv wT vN)) H) (al (ad (aw (x:=(Q.join a b u).d) (y:=.int 2) (vr ae) vI QQ) (vv wT vN)) I) (jm _ _)) QQ QQ) QQ) ?_;exact aD (aq (am (vr ay) (am (bP (ad (al (ad (aw (x:=(Q.join a b u).d) (y:=.int 1) (vr (ag QQ ae)) vI QQ) (vv (ag QQ wT) vN)) M) vN) (oA _)) (bP (ad (al (ad (aw (x:=(Q.join a b u).d) (y:=.int 2) (vr (ag QQ ae)) vI QQ) (vv (ag QQ wT) vN)) N) vN) (oA _)) (mul60 (yQ O A))) (jm _ _)) QQ QQ) QQ
 | .both a b,r,n+1,h,⟨z,r2,h1,C,A,E,_⟩,s,i,j=>by
  have H:=et B f o m a z n h.1 h1 A i.1 (yQ (zL _ _) (zH j));have I:=et B f o m b r2 n h.2.1 C E i.2 (yQ (zB _ _) (zH j));exact rO (w:="both") f (n+6) QQ (skW (by decide +kernel) wW (kP wW (aD (aq (am (al (ad (aw (x:=(Q.both a b).d) (y:=.int 1) (vr ae) vI QQ) (vv wT vN)) H) (al (ad (aw (x:=(Q.both a b).d) (y:=.int 2) (vr ae) vI QQ) (vv wT vN)) I) (jm _ _)) QQ QQ) QQ)))
theorem vQ{q T:D}(w2:yS)(a:aV q (.int 0)=ac (sD w)):evE cf (vis (laS q T)) (.cmp .Eq (.sub (.u "_law_query") (.int 0)) (.str w2))=ac (.bool (yO w == yO w2)):=ax (vsi ae a) vS QQ
theorem bq{a b:yU}(h:a=b):ac (D.bool a)=ac (D.bool b):=h▸rfl
theorem kG(B:BL P)(c:P.lookup "_law_work"=ac cJ)(n:Nat){q I T:D}(f:w∈lI)(b:aV q (.int 0)=ac (sD w))(h:aV q (.int (qC (yO w)))=ac I)(k:(ai P X (n+1)).call "_law_work" [I,T]=ac (R,fr)):(ai P X (n+2)).call "_law_work" [q,T]=ac (R,fr):=by
 have a:=rQ w f;refine av c QQ ?_;show Run _ cJ.body (laS q T) _ _;refine skQ a.1 ae b (bc (k:=yM) (x:=.bool (yM||false)) (fN (k:=yM) (l:=yM) ?_ λZ=>bk ?_) QQ nofun λZ=>aD (aE (ad (al (vv ae vN) (xT B n b h)) (vv (af QQ ae) vN)) k) QQ)
 ·rw[vQ "join" b,a.2.1]
 ·rw[vQ "both" b,a.2.2]
theorem dA(B:BL P)(f:P.lookup "_law_work"=ac cJ){W R:Wd}{T:Tbs}(m:mw W R T):∀ (q:Q) (r n:Nat),q.ok W->q.rb R r->r<=60->q.nar W 5000->q.dp<=n->(ai P X (n+6)).call "_law_work" [q.d,T.d]=ac (.int (q.wk T),yM)
 | .table L,r,n,_,_,_,_,_=>by
  refine av f QQ ?_;show Run _ cJ.body (laS (.tup [sD "table",.str L]) T.d) _ _;exact qD ae QQ (aD (aq vI QQ QQ) QQ)
 | .sieve U q,r,n+1,h,s,o,i,j=>kG B f _ (w:="sieve") (by decide) QQ QQ (dA B f m q r n h.1 s o i (zH j))
 | .pick ps q,r,n+1,h,s,o,i,j=>kG B f _ (w:="pick") (by decide) QQ QQ (dA B f m q r n h.1 s o i (zH j))
 | .group ps V q,r,n+1,h,s,o,i,j=>kG B f _ (w:="group") (by decide) QQ QQ (dA B f m q r n h.1 s o i.1 (zH j))
 | .order ks q,r,n+1,h,s,o,i,j=>kG B f _ (w:="order") (by decide) QQ QQ (dA B f m q r n h.1 s o i (zH j))
 | .once q,r,n+1,h,s,o,i,j=>kG B f _ (w:="once") (by decide) QQ QQ (dA B f m q r n h s o i (zH j))
 | .first c q,r,n+1,h,⟨r',s,E,_⟩,o,i,j=>kG B f _ (w:="first") (by decide) QQ QQ (dA B f m q r' n h s E i (zH j))
 | .join a b t,r,n+1,h,⟨u,r2,h1,A,z,C,_⟩,o,i,j=>by
  have I:=yQ (zL _ _) (zH j);have J:=yQ (zB _ _) (zH j);have G:=dA B f m a u n h.1 h1 z i.1 I;have H:=dA B f m b r2 n h.2.1 A C i.2.1 J;obtain⟨_,M⟩:=sj (X:=X) B m a u (n+1) h.1 h1 z i.1 (zR I);obtain⟨_,N⟩:=sj (X:=X) B m b r2 (n+1) h.2.1 A C i.2.1 (zR J);have O:=(cr m a u h.1 h1).2;refine av f QQ ?_;show Run _ cJ.body (laS (.tup [sD "join",a.d,b.d,.tup (t.map prT)]) T.d) _ _;refine skQ (by decide +kernel) ae QQ (bc (k:=yP) (x:=.bool (yP||true)) (fN (k:=yP) (l:=yP) ((vQ (w:="join") "join" QQ).trans (bq (zu _))) nofun) QQ (λZ=>?_) nofun)
  refine aA (aW (d:=.int 0) (fr:=yM) (aq vI QQ QQ) QQ) (qD (ag QQ ae) QQ ?_);refine aA (aW (d:=.int ((a.ans T).length * (b.ans T).length:Nat)) (fr:=yM) (aq (am (bP (ad (al (ad (aw (x:=.tup [sD "join",a.d,b.d,.tup (t.map prT)]) (y:=.int 1) (vr (ag QQ ae)) vI QQ) (vv (ag QQ (af QQ ae)) vN)) M) vN) (oA _)) (bP (ad (al (ad (aw (x:=.tup [sD "join",a.d,b.d,.tup (t.map prT)]) (y:=.int 2) (vr (ag QQ ae)) vI QQ) (vv (ag QQ (af QQ ae)) vN)) N) vN) (oA _)) (mul60 (yQ O z))) QQ QQ) QQ) ?_;refine aD (aq (am (am (vr ay) (al (ad (aw (x:=.tup [sD "join",a.d,b.d,.tup (t.map prT)]) (y:=.int 1) (vr (ag QQ (ag QQ ae))) vI QQ) (vv (ag QQ (ag QQ (af QQ ae))) vN)) G) (jm _ _)) (al (ad (aw (x:=.tup [sD "join",a.d,b.d,.tup (t.map prT)]) (y:=.int 2) (vr (ag QQ (ag QQ ae))) vI QQ) (vv (ag QQ (ag QQ (af QQ ae))) vN)) H) ((jm _ _).trans ?_)) QQ QQ) QQ;rw[Ai ((a.ans T).length * _),Nat.add_right_comm];rfl
 | .both a b,r,n+1,h,⟨u,r2,h1,A,z,C,_⟩,o,i,j=>by
  have G:=dA B f m a u n h.1 h1 z i.1 (yQ (zL _ _) (zH j));have H:=dA B f m b r2 n h.2.1 A C i.2 (yQ (zB _ _) (zH j));refine av f QQ ?_;show Run _ cJ.body (laS (.tup [sD "both",a.d,b.d]) T.d) _ _;refine skQ (by decide +kernel) ae QQ (bc (k:=yP) (x:=.bool (yM||true)) (fN (k:=yM) (l:=yP) ((vQ (w:="both") "join" QQ).trans (bq (by decide +kernel))) λZ=>bk ((vQ (w:="both") "both" QQ).trans (bq (zu _)))) QQ (λZ=>?_) nofun)
  refine aA (aW (d:=.int (0:Nat)) (fr:=yM) (aq vI QQ QQ) QQ) (skQ (by decide +kernel) (ag QQ ae) QQ ?_)
  refine aD (aq (am (am (vr ay) (al (ad (aw (x:=.tup [sD "both",a.d,b.d]) (y:=.int 1) (vr (ag QQ ae)) vI QQ) (vv (ag QQ (af QQ ae)) vN)) G) (jm _ _)) (al (ad (aw (x:=.tup [sD "both",a.d,b.d]) (y:=.int 2) (vr (ag QQ ae)) vI QQ) (vv (ag QQ (af QQ ae)) vN)) H) ((jm _ _).trans ?_)) QQ QQ) QQ;rw[Al];rfl
end
theorem pure_ok(n:Nat)(ns:yN Int):∃ fr,(ai PP X7 (n+131)).call "law" [.list (ns.map .int)]=ac (.bool yP,fr):=by
 have M:X7.glob "STEPS"=ac (.tup eF):=rfl;obtain⟨a,b,c,⟨f,i,o⟩,E⟩:=names_eq (X:=X7) bt.toBE ns;have A:u8 PP X7 (W3 a b c (aS (ns.getD 0 0)) (aS (ns.getD 1 0)) (aS (ns.getD 2 0))) (W3 a b c (cY (ns.getD 0 0)) (cY (ns.getD 1 0)) (cY (ns.getD 2 0))) (.list (ns.map .int)):=λn=>by
  obtain⟨s,u,w,⟨G,H,I⟩,z⟩:=qO (X:=X7) bt n ns 0 f i o (E (n+2));refine⟨_,yP,z,λm q r k cc dp F5 F6 t=>?_⟩
  obtain⟨m,rfl⟩:∃ j,m=j+5:=⟨m - 5,by omega⟩
  obtain⟨fr,e⟩:=sj (X:=X7) bl (tbs3 QQ QQ G H I) q r m t.ok t.rb t.r t.nar (yQ t.dp (by omega))
  exact⟨_,fr,e⟩
 obtain⟨d,fr,⟨q,r,k,t,rfl⟩,N⟩:=built_eq bt.toBE (n+121) (by omega) A λn k Fw=>leaf_eq bt.toBE n ns f i o (E n) k Fw
 have Fz:(ai PP X7 (n+130)).call "_law_widths" [.list (ns.map .int)]=_:=widths_eq bt.toBE (n+127) ns f i o (E (n+127));have F7:=t.cp;have FA:=t.dp;have pl:=t.pln;have FE:(ai PP X7 (n+130)).call "plan" [q.d,Wd.d _]=_:=plan_eq bp M q (n+123) t.ok (by omega) t.nar (by omega)
 have FF:aV (aG (W3 a b c (aS (ns.getD 0 0)) (aS (ns.getD 1 0)) (aS (ns.getD 2 0))) q r k) (.int 0)=ac q.d:=rfl;obtain⟨s,u,w,⟨G,H,I⟩,z⟩:=qO (X:=X7) bt (n+125) ns 0 f i o (E (n+127));have B:=tbs3 (W3w:=W3 a b c (aS (ns.getD 0 0)) (aS (ns.getD 1 0)) (aS (ns.getD 2 0))) (W3r:=W3 a b c (cY (ns.getD 0 0)) (cY (ns.getD 1 0)) (cY (ns.getD 2 0))) QQ QQ G H I;have FG:=et (X:=X7) bt.toBA (by rfl:PP.lookup "work"=ac jc) M B q r (n+124) pl.ok pl.rb pl.r6 pl.nar (yQ pl.dp (by omega))
 have w2:=et (X:=X7) bt.toBA (by rfl:PP.lookup "work"=ac jc) M B _ r (n+124) pl.fok pl.frb pl.r6 pl.fnar (yQ pl.fdp (by omega))
 have FH:=dA (X:=X7) bl (by rfl:PP.lookup "_law_work"=ac cJ) B q r (n+124) pl.ok pl.rb pl.r6 pl.nar (yQ pl.dp (by omega))
 have FJ:=dA (X:=X7) bl (by rfl:PP.lookup "_law_work"=ac cJ) B _ r (n+124) pl.fok pl.frb pl.r6 pl.fnar (yQ pl.fdp (by omega))
 have le:=cQ B q [] r t.ok t.rb λEV h=>nomatch h
 have FK:eT .Eq (Tbs.d [(a,s),(b,u),(c,w)]) (Tbs.d [(a,s),(b,u),(c,w)])=ac (.bool yP):=eq_t (eqX_three a b c (sJ G.1) (sJ H.1) (sJ I.1));have Fo:∀ x:Nat,(ai PP X7 (n+130)).call "_law_cell_is" [.int x,.int x]=ac (.bool yP,yM):=λx=>lcell_is bl (n+129) QQ
 refine⟨yM,av (by rfl:PP.lookup "law"=ac u4) QQ ?_⟩
 show Run _ u4.body [("_law_script",(yM,.list (ns.map .int)))] _ _;have N:(ai PP X7 (n+130)).call "_law_built" [.list (ns.map .int)]=_:=N;have z:(ai PP X7 (n+130)).call "_law_tables" [.list (ns.map .int),.int 0]=_:=z;generalize aG (W3 a b c (aS (ns.getD 0 0)) (aS (ns.getD 1 0)) (aS (ns.getD 2 0))) q r k=T at *;generalize Q.wk [(a,s),(b,u),(c,w)] (q.placed (W3 a b c (aS (ns.getD 0 0)) (aS (ns.getD 1 0)) (aS (ns.getD 2 0))) [])=y at *;generalize Q.wk [(a,s),(b,u),(c,w)] q=x at *;generalize (q.placed (W3 a b c (aS (ns.getD 0 0)) (aS (ns.getD 1 0)) (aS (ns.getD 2 0))) []).d=F8 at *;generalize (W3 a b c (aS (ns.getD 0 0)) (aS (ns.getD 1 0)) (aS (ns.getD 2 0))).d=V at *;generalize Tbs.d [(a,s),(b,u),(c,w)]=U at *;generalize D.list (ns.map .int)=S at *;generalize q.d=F9 at *;generalize ai PP X7 (n+130)=cf at *;refine tx (aq (aw (al (vv ae vN) N) vI FF) QQ QQ) λFM FN FO=>?_
 have s1:=FN _ _ QQ ae;refine tx (aE (vv s1 (ad vI vN)) z) λFP Fp FQ=>?_
 have Fq:=Fp _ _ QQ s1;have q2:=Fp _ _ QQ FO;refine tx (aE (vv q2 (ad (al (vv Fq vN) Fz) vN)) FE) λFR O Fs=>?_
 have FS:=O _ _ QQ Fq;have Ft:=O _ _ QQ q2;have Y:=O _ _ QQ FQ;refine tx (aq (cO (ds:=[.int x,.int y]) (ad (al (vv Ft (vv Y vN)) FH) (ad (al (vv Fs (vv Y vN)) FJ) vN)) (yZ QQ)) QQ QQ) λFT J FU=>?_
 have FV:=J _ _ QQ FS;have FW:=J _ _ QQ Ft;have FY:=J _ _ QQ Y;have FZ:=J _ _ QQ Fs;refine tx (aE (vv FV (ad vI vN)) z) λC L Z=>?_
 have F0:=L _ _ QQ FW;have F3:=L _ _ QQ FY;have F4:=L _ _ QQ FZ;have Fu:=L _ _ QQ FU;have Fv:evE cf (vis C) (.sub (.u "_law_due") (.int 0))=ac (.int x):=aw (x:=.list [.int x,.int y]) (vr Fu) vI QQ;have e1:evE cf (vis C) (.sub (.u "_law_due") (.int 1))=ac (.int y):=aw (x:=.list [.int x,.int y]) (vr Fu) vI QQ;refine skX (fN (k:=yM) (l:=yM) (jD (k:=yP) (al (ad (al (vv F0 (vv Z vN)) FG) (ad Fv vN)) (Fo x)) QQ) λEV=>bk (jD (k:=yP) (al (ad (al (vv F4 (vv Z vN)) w2) (ad e1 vN)) (Fo y)) QQ)) QQ ?_
 exact aD (aq (cW (k:=yP) (l:=yP) (ax e1 Fv (zj (λb=>ac (D.bool b)) (Ak (AD.mpr le)))) λEV=>bk (ax (vr Z) (vr F3) FK)) QQ QQ) QQ
noncomputable def GlobOk(mg:Str->yX yR)(h:Heap):Prop:=∃ a vs n,mg (yO "STEPS")=ac (.ref a)/\h.get? a=ac (ec vs n)/\lL vs.toList qQ=yP
theorem GlobOk.keeps{mg:Str->yX yR}{h h':Heap}(x:GlobOk mg h)(c:∀ b o,h.get? b=ac o->h'.get? b=ac o):GlobOk mg h':=let ⟨a,vs,n,h1,h2,h3⟩:=x;⟨a,vs,n,h1,c _ _ h2,h3⟩
theorem glob_of(s:yY)(e:oo s=yP):GlobOk (s.heap.nsMap AB) s.heap:=by
 unfold oo at e;split at e
 ·rename_i a j
  split at e
  ·rename_i o m
   unfold sY at e;simp only[Bo,Bh,Bf,Ev] at e;obtain⟨⟨⟨e1,b⟩,f⟩,h⟩:=e;split at e1
   ·rename_i vs n i
    refine⟨a,vs,n,j,?_,e1⟩;rw[m];obtain⟨c,d,q,t⟩:=o;dsimp only at b f h i;subst b f h i
    rfl
   ·cases e1
  ·cases e
 ·cases e
theorem qW{P:zT}{h:Heap}{H:y0->Prop}:∀ {vs:yN yR} {ys:yN Str},lL vs ys=yP->ao P h H vs (ys.map .str)
 | [],[],_=>.nil
 | [],_::_,e=>by cases e
 | _::_,[],e=>by cases e
 | v::vs,y::ys,e=>by
  rw[lL,Bo] at e;obtain⟨e1,b⟩:=e;refine .cons ?_ (qW b);cases v <;> first | (cases e1;done) | skip
  rename_i x t
  have a:(x == y)=yP:=e1;rw[Bh] at a;subst a;exact .str _ _
theorem hx7{Fd:zv}{w:zD}{Fe:Heap}{mg:Str->yX yR}{A:zF}(g:GlobOk mg Fe):e5 Fd w Fe mg X7 A:=by
 refine⟨(λZ Z Z Z h=>nomatch h),λx d h=>?_⟩
 have h:(if x="STEPS" then ac (D.tup eF) else y7)=ac d:=h
 split at h
 ·rename_i b
  cases h;subst b;obtain⟨a,vs,n,h1,c,f⟩:=g;refine⟨_,h1,.tup c (λq=>q) (by decide) ?_⟩
  exact qW f
 ·cases h
end Mine
namespace Mine
open PySem PySem.W PyProof.Rows
set_option maxHeartbeats 0
theorem chkd:sM (DF vw) PP=yP:=by decide +kernel
theorem freed:oM vw (looseW vw [])=yP:=by decide +kernel
end Mine
open PySem PySem.W PyProof.Rows
set_option maxRecDepth 100000 in
set_option maxHeartbeats 8000000 in
theorem PySem.Challenge.cw_uf030018_13_holds : PySem.Challenge.rw_uf030018_13.Holds := by
 refine holds_law Mine.ws fun said=>?_
 refine holds_open (q:=Mine.vw) (loose:=[]) (Xt:=Mine.hdXt) (XP:=(fun mg h=>XL Mine.vw [] mg h∧Mine.TbOk mg h∧Mine.GlobOk mg h)) (Yf:=Hook.obs Hook.none) (Ya:=Hook.val Hook.none) (YP:=Hook.says Hook.none) (N:=20000) Mine.left (Hook.of Hook.none) (Hook.keeps Hook.none) (fun s e=>⟨xl_of s (zE.mp (zE.mp (Mine.hdXi e)).1).1,Mine.tb_of s (zE.mp (zE.mp (Mine.hdXi e)).2).1,Mine.glob_of s (zE.mp (zE.mp (Mine.hdXi e)).2).2⟩) (fun mg h h' x k=>⟨XL.keeps mg h h' x.1 k,Mine.TbOk.keeps x.2.1 k,Mine.GlobOk.keeps x.2.2 k⟩) Mine.dlDef Mine.dlIs Mine.dlKw (fun s e=>recFacts_of (zE.mp (zE.mp (Mine.hdXi e)).1).2) (by rfl) said Mine.okAll ⟨rfl,rfl,rfl,rfl,rfl,by decide +kernel⟩ ?hw ?hc
 (case hw=>w_witness2)
 intro w s₀ s₁ mg mb G Y fa o pm cd doc dV kV ho hd hcd hD hmg hg args vals as hpre hlay hrd hwl hlo;rw[Mine.dlName] at hmg;refine Ground.open G ?_;intro T B D TE TW
 wrow_args hpre hlay hrd hwl hlo
 exact Mine.law_fin (P:=Mine.PP) (X:=Mine.X7) 131 T Mine.chkd Mine.freed (by decide) (fun _ _=>Mine.hx7 G.X.2.2) G.X.2.1 hmg hg (by assumption) (by assumption) (Mine.pure_ok _ _)
