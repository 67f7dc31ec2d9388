import PyProof.Rows.All
import Wide.All
import Open.Line
import Wide.FinOn
import PyProof.Cells
import PyProof.RangeIter
import PyProof.CodeObjX
import PyProof.FactsAll.tuple
import PyProof.DictKinds
import PyProof.CompMap
import PyProof.DictKind
import PyProof.Rows.Tup
import PyProof.DictRoads
import PyProof.DictDisplay
import PyProof.NeKinds
import PyProof.DictRoadsH
import PyProof.StrBlockI
import PyProof.StrBlock2
import KE.KSortTup
import PyProof.CompFree
import PyProof.Rows.Walk
import PyProof.Rows.IntRules
import PyProof.Rows.RuleB_mul
import PyProof.Rows.RuleB_floordiv
import PyProof.Rows.RuleB_pow
import PyProof.Rows.RuleB_mod
import PyProof.Rows.RuleC_int
import PyProof.Rows.RuleU_int
import PyProof.Rows.StrRules
import PyProof.Rows.Nodes
import PyProof.Rows.TupSub
import PyProof.ListOps
import PyProof.TupleOps
import PyProof.DictStraight
import PyProof.Rows.Lst
import PyProof.Rows.TupMore
import PyProof.Rows.StrTemp
import PyProof.ListTruth
import PyProof.TupleOfSeq
import PyProof.CallStr
import PyProof.RangeFor
import PyProof.Conv_int_bool
import PyProof.SliceStr2
import PyProof.SliceMore
import PyProof.ListIndexNeg
import PyProof.IsiPairs
import PyProof.IsiHeapPairs
import KE.KEqDict
import PyProof.Rows.Exc
import PyProof.Rows.Globals
import PyProof.IsiTuple
import PyProof.ListCopy
import PyProof.WalkInts
import PyProof.Rows.SumAny
import KE.KDictList
import PyProof.DictWalks
import PyProof.WalksMore
import PyProof.Rows.StrTempNeg
import PyProof.Rows.SortRuns
import PyProof.SetKind
import PyProof.SetRoads
import PyProof.Rows.SetFrom
import PyProof.Rows.SortShell
import PyProof.Rows.RuleB_bool
import KE.KLam
import PyProof.ForAppend
import KE.KRevIter
import PyProof.TupleCall
import PyProof.CallTypeRange
import PySem.Challenge.RW_uf030018_14
set_option Elab.async false
set_option linter.all false
set_option backward.eqns.nonrecursive false
set_option genSizeOf false
set_option maxRecDepth 100000
open Option renaming some->ac,none->yS,isNone_iff_eq_none->AX,map_some->DW
open Bool renaming false->yz,true->yC,false_ne_true->yQ,and_eq_true_iff->zr,or_eq_true_iff->AV,eq_iff_iff->AY,and_eq_true->Bb,or_eq_false_iff->Bz,false_eq_true->BS,and_comm->Cf,eq_false_iff->Cz,and_false->CB,and_true->CX,not_eq_true'->Dr,or_eq_true->DS,false_or->Eh,or_true->EH
open _root_ renaming List->yA,String->yF,Bool->yH,Option->yK,if_pos->yT,if_neg->yV,congrArg->y6,beq_self_eq_true->zg,Array->zj,absurd->zl,of_decide_eq_true->zG,decide_eq_false->Ad,decide_eq_true->Af,beq_eq_false_iff_ne->An,of_decide_eq_false->AS,beq_iff_eq->AZ,getElem?_pos->Bc,or_false->Bf,decide_eq_true_eq->BH,dite->Cb,if_false->Co,bne_iff_ne->CN,if_true->D5
open PySem.Str renaming ofString->yB
open Nat renaming le_trans->yD,le_of_ble_eq_true->yM,lt_of_le_of_lt->yO,lt_of_lt_of_le->yZ,le_refl->y0,le_of_eq->y5,le_add_right->y9,zero_le->za,succ_le_succ->zb,add_le_add->ze,mul_le_mul_left->zo,add_le_add_right->zs,add_le_add_left->zu,le_of_lt_succ->zx,le_of_lt->zy,le_max_right->zz,le_max_left->zB,ne_of_lt->zC,le_add_left->zE,lt_or_eq_of_le->zI,lt_trans->zM,le_succ_of_le->zO,lt_of_succ_lt->zS,lt_succ_of_lt->zT,not_lt->zU,lt_irrefl->zY,add_comm->z5,zero_add->z6,lt_succ_self->Ab,succ_pos->Ac,add_assoc->Ah,lt_add_of_pos_right->Ak,le_of_add_le_add_right->Aw,le_succ->AB,lt_of_succ_lt_succ->AC,not_lt_zero->AF,one_pos->AI,sub_lt->AO,max_le->Bm,pos_of_ne_zero->Bp,le_antisymm->Bx,le_of_succ_le->BB,le_of_not_lt->BM,sub_lt_left_of_lt_add->B2,sub_add_cancel->Cg,min_eq_left->Cj,lt_of_le_of_ne->Ck,le_pred_of_lt->Cy,sub_self->CD,succ_lt_succ->CO,add_sub_cancel'->C4,ne_of_gt->Dc,sub_le->De,mul_le_mul->Dh,le_mul_of_pos_left->Dv,min_eq_right->DC,min_le_right->DD,not_lt_of_le->DE,le_of_sub_eq_zero->DI,min_self->DP,min_le_left->DQ,not_succ_le_self->DT,sub_lt_sub_left->DZ,two_pos->D8,le_zero->D9,add_left_comm->Em,lt_of_not_le->Ey,lt_or_ge->Ez,succ->EA
open PySem renaming Value->yE,wpAny_bind->yG,Shared->yL,Addr->yN,model->yR,wpAny_pure->yU,Expr->y4,Program->zh,World->zq,Around->zt,eval->zF,Params->zH,Stmt->zZ,wpAny_newObj_type->z4,mainGlobals->Ao,cellsFrom->As,Operator->AM,wpAny_call_entry->AN,wpAny_execs_cons->AT,Scope->A8,cLine->A9,SetTable->Bd,rawInt->Bk,wpAny_holding->Bn,Builtin->Bq,builtinLookup_eq_fast->Br,wpAny_of_eq->Bt,NameKind->Bv,wpAny_callSpecial?_slot->BJ,recursionLimit->BO,wpAny_setField_rec->BU,codeAny_builtin->BV,wpAny_execs_nil->BX,starEach->BY,pyNext->BZ,wpAny_setState_of->B0,compareOp->B4,isSubtype_type->B6,isTrue->B8,DictEntry->Ch,Arguments->Ci,typeLookup_type->Cm,wpAny_ite_split->Cn,wpAny_field->Cq,callEnvC->Cs,wpAny_typeNameOfWhole_keyiter->Cu,firstArgMember->CC,exec->CE,scanBound->CH,CmpOp->CL,wpAny_mono->CM,wpAny_isInstance->CP,Walks->CQ,execs->CT,BoolOp->CW,wpAny_attempt->CY,valueAt->C0,wpAny_typeNameOf_keyiter->C7,setField->C8,wpAny_Constant_int->C9,argsOk->Dd,hashInt->Df,sysModules->Dg,wpAny_setField->Di,relabel->Dj,wpAny_rule->Dk,wpAny_list_append_plain->Dl,wpAny_pyIter_slot->Do,Flow->Dp,pyIter->Dw,unsupported->Dz,plainId_quiet->DA,getItem->DH,pickOrder->DJ,wpAny_specialOf->DU,newExc->Ed,pushCells->Ee,swapsWith->Ef,wpAny_newList->Ei,wpAny_assign_Name->Eo,fits_of_scanBound->Ep,builtinsNs->Es,codeAny->Eu,intKind->Ev,setNext->Ew,raiseNew->EB,wpAny_typeOf->EC,relayAll->ED
open List renaming length_map->yI,getElem?_eq_getElem->yP,getD_eq_getElem?_getD->yW,mem_cons->yX,length_append->yY,mem_singleton->y3,lookup_cons->y7,map_cons->y8,filter_cons_of_pos->zc,map_append->zd,range->zf,all_eq_true->zk,append_nil->zm,mem_map->zn,mem_filter->zp,mem_cons_self->zv,filter_cons_of_neg->zw,mem_append->zA,length_range->zJ,not_mem_nil->zK,filter_append->zP,mem_append_right->zQ,map_map->zV,mem_cons_of_mem->zX,length_filter_le->z7,isEmpty_iff->z8,length_cons->Ae,getElem?_map->Ag,getElem?_append_right->Ai,filter_filter->Aj,mem_append_left->Ap,pairwise_cons->At,contains_iff_mem->Av,any_cons->Ax,getElem_mem->Ay,filter_cons->Az,map_congr_left->AH,length_eq_zero_iff->AJ,mem_range->AK,pairwise_map->AP,nil_append->AR,all_cons->AU,nodup_cons->AW,filter_nil->A7,zip_cons_cons->Ba,foldl_append->Bg,filter_congr->Bh,pairwise_iff_forall_sublist->Bo,pairwise_iff_getElem->Bs,all_map->Bw,filter_map->By,eq_nil_of_length_eq_zero->BI,getElem_of_mem->BK,mem_flatMap->BQ,range_succ_eq_map->BR,append_assoc->B1,getElem?_append_left->B3,Perm->B5,append_cons->B7,length_drop->B9,ne_nil_of_length_eq_add_one->Ca,take_of_length_le->Cp,filter_eq_nil_iff->Cr,size_toArray->Cw,take_append_drop->CA,dropLast_concat_getLast->CG,length_take->CR,pairwise_append->CS,any_eq_true->CU,length->CZ,filterMap_cons->C2,length_reverse->C3,length_zip->C5,find?_cons->C6,getElem?_nil->Dm,any_eq_false->Dq,flatMap_cons->Dt,pairwise_lt_range->Dy,cons_append->DB,take_length->DF,mem_reverse->DG,getElem?_toArray->DK,getElem?_eq_none->DL,reverse_reverse->DV,mem_of_mem_take->DX,map_id'->DY,getElem?_range->D1,mem_map_of_mem->D2,flatMap_append->D3,replicate->D7,lookup->Ea,not_lt->Eb,cons->Ec,take_nil->Eg,map_take->El,reverse_cons->Er,toArray->EF,flatMap_nil->EI,map_nil->EJ,map_reverse->EK,forIn_cons->EM,length_nil->EN,all_append->EO
open Option.some renaming inj->yJ
open Array renaming length_toList->zD,getElem?_toList->zL,getElem?_eq_getElem->A0,toList_push->Cv,mem_toList_iff->CJ,getElem?_eq_none->Dx,toList_append->D0,isEmpty_iff->En
open Int renaming natCast_nonneg->zN,le_trans->zW,ofNat_lt->z9,emod_nonneg->Aa,ofNat_le->Al,lt_of_lt_of_le->Aq,lt_of_le_of_lt->Ar,natCast_add->Au,emod_lt_of_pos->AA,lt_trans->AG,toNat_natCast->Be,toNat_of_nonneg->Bi,le_of_lt->Bj,not_lt->Bl,neg_nonpos_of_nonneg->Bu,ofNat_sub->Ce,mul_le_mul_of_nonneg_left->Ct,sub_le_sub_right->CI,add_lt_add_right->DM,le_of_eq->DN,mul_le_mul_of_nonneg_right->DO,natCast_pow->DR,add_nonneg->D4,lt_irrefl->Ej,not_le->Et,natCast_mul->EL
open Prod.mk renaming inj->zR
open Nat.succ renaming inj->Am
open PyProof.Rows renaming seqObj->AD,recsOf->Du,listUpdate_at->Ek
open PySem.W renaming katRev->AL,kat_len->BF,kas_rev->C1,kas_desc->D6,kas_descPart->EE
open Int.ofNat renaming inj->AQ
open PySem.SeqAt renaming EqAt->Cd
open List.cons renaming inj->CV
open Prod renaming ext->EG
namespace Mine
open PySem PySem.W PyProof.Rows
theorem QQ.{u}{α:Sort u}{a:α}:a=a:=rfl
noncomputable def tb:yN:=199
noncomputable def oc:yN:=203
noncomputable def uJ:Str:=yB "ordered"
noncomputable def wX{α:Type}(l:yK α)(f:α->yH):yH:=match l with | some x=>f x | none=>yz
noncomputable def cRef(v:yK yE)(f:yN->yH):yH:=wX v λv=>match v with | .ref a=>f a | _=>yz
noncomputable def cObj(o:yK Obj)(f:Data->yH):yH:=wX o λo=>f o.data
noncomputable def tbAt(s:yL):yH:=cRef (s.heap.nsMap Ao uJ) λa=>cObj (s.heap.get? a) λd=>match d with
 | .func b=>b.code == .ref oc&&cObj (s.heap.get? oc) λd=>match d with
  | .fields vs=>vs[11]? == ac (.ref tb)
  | _=>yz
 | _=>yz
noncomputable def qG:yA Str:=["table","sieve","pick","join","group","order","both","once","first"].map yB
noncomputable def strIs(v:yE)(y:Str):yH:=match v with
 | .str x _=>x == y
 | _=>yz
noncomputable def lA:yA yE->yA Str->yH
 | [],[]=>yC
 | v::vs,y::ys=>strIs v y&&lA vs ys
 | _,_=>yz
noncomputable def sO(o:Obj):yH:=(match o.data with | .seq vs _=>lA vs.toList qG | _=>yz)&&o.cls == .type "tuple"&&o.dict.isNone&&o.slots.isEmpty
noncomputable def n0(s:yL):yH:=match s.heap.nsMap Ao (yB "STEPS") with
 | some (.ref a)=>(match s.heap.get? a with | some o=>sO o | none=>yz)
 | _=>yz
set_option maxHeartbeats 0
noncomputable def keepS:zZ->yH
 | .Assign [.Name x _] _ _=>x != yB "__name__"
 | _=>yC
noncomputable def vw:zh:={ PySem.Challenge.pw_uf030018_14 with main:={ PySem.Challenge.pw_uf030018_14.main with body:=PySem.Challenge.pw_uf030018_14.main.body.filter keepS } }
noncomputable def hdDef:zZ->yK DefRec
 | .FunctionDef n a b _ _ _ sc _ _ c=>ac ⟨n,a,b,sc,c⟩
 | _=>yS
noncomputable def hdNm:zZ->yK Str
 | .FunctionDef n _ _ _ _ _ _ _ _ _=>ac n
 | .ClassDef n _ _ _ _ _ _ _ _ _ _=>ac n
 | .Assign [.Name x _] _ _=>ac x
 | _=>yS
noncomputable def mO:yA DefRec:=vw.main.body.filterMap hdDef
noncomputable def hdKs:yA Str:=startupNames++vw.main.body.filterMap hdNm
noncomputable def hdSt:yA (Str×WData):=(theConstW vw (yB "STEPS")).elim [] λd=>[(yB "STEPS",d)]
noncomputable def hdXt(s:yL):yH:=(xlAt vw [] s&&recOk (RowW.records PySem.Challenge.rw_uf030018_14.row.toRowW) s)&&(tbAt s&&n0 s)
theorem hdXi{s:yL}(e:hdXt s=yC):((xlAt vw [] s&&recOk (RowW.records PySem.Challenge.rw_uf030018_14.row.toRowW) s)&&(tbAt s&&n0 s))=yC:=e
noncomputable def hdQ(s:yL):yH:=(((ownsOf vw).all λo=>s.heap.ownExcOk o.name o.chain o.bm o.newId&&s.heap.quietOk o.name)&&(s.heap.noLimitOk&&s.heap.noDigitsOk))&&((s.heap.isNs Ao&&s.heap.isNs Es)&&((s.heap.accountedOkI (importedModules PySem.Challenge.pw_uf030018_14.main.body)&&tablesOk vw s.heap)&&((hdXt s&&s.gens.size == 0)&&(((s.heap.bmainOk&&valsOk vw s.heap)&&(!importsNone vw||s.heap.noSeerOk))&&hdSt.all (constAt s.heap)))))
def HdP(l:yA DefRec)(o:yK yL):Prop:=o.map (λs=>l.map λd=>(s.heap.shapeAt Ao d.name,s.heap.tab0Ok d.name))=ac (l.map λd=>(ac d.shape,yC))
theorem left1(w:zq):HdP (mO.take 30) (openEnds treeTable PySem.Challenge.pw_uf030018_14 w 20000):=by unfold HdP;kernel_rfl
theorem left2(w:zq):HdP ((mO.drop 30).take 21) (openEnds treeTable PySem.Challenge.pw_uf030018_14 w 20000):=by unfold HdP;kernel_rfl
theorem left3(w:zq):HdP ((mO.drop 30).drop 21) (openEnds treeTable PySem.Challenge.pw_uf030018_14 w 20000):=by unfold HdP;kernel_rfl
theorem left4(w:zq):(openEnds treeTable PySem.Challenge.pw_uf030018_14 w 20000).map (λs=>(hdQ s,s.heap.nsKeys Ao,s.heap.bltView,Hook.obs Hook.none s))=ac (yC,hdKs,bltViewBooted,Hook.val Hook.none w):=by kernel_rfl
theorem hdRecs:Du vw=mO:=by kernel_rfl
theorem hdLits:wlitsOf vw=hdSt:=by kernel_rfl
theorem hdE:((drecsOf vw).isEmpty&&((plainsOf vw (looseW vw [])).isEmpty&&((dclssOf vw []).isEmpty&&((wdefsOf vw).isEmpty&&(wclssOf vw []).isEmpty))))=yC:=by decide +kernel
theorem hdKeys:(hdKs.all λk=>startupNames.contains k||(looseW vw []).contains k||((Du vw).map (·.name)).contains k||((litsOf vw).map (·.1)).contains k||((clssOf vw (looseW vw [])).map (·.name)).contains k)=yC:=by decide +kernel
theorem hdA{a b:yH}(h:(a&&b)=yC):a=yC/\b=yC:=zr.mp h
theorem hdB{a b:yH}(h:a=yC)(h':b=yC):(a&&b)=yC:=zr.mpr ⟨h,h'⟩
theorem hdM{α a:Type}{f g:α->a}:∀ {l:yA α},l.map f=l.map g->∀ x∈l,f x=g x
 | _::_,h,_,.head _=>(CV h).1
 | _::_,h,x,.tail _ k=>hdM (CV h).2 x k
theorem pB{α a:Type}{l:yA α}{f g:α->a}(h:l.isEmpty=yC):l.map f=l.map g:=(z8.mp h).symm▸rfl
theorem xR{α:Type}{l:yA α}{f:α->yH}(h:l.isEmpty=yC):l.all f=yC:=(z8.mp h).symm▸rfl
theorem hdT{A B:Type}{a c:A}{b f:B}(h1:a=c)(h:b=f):(a,b)=(c,f):=h1▸h▸rfl
theorem hdS{a c:yA (yK FnShape)}{b d e f:yH}{n:yA (yK yE×yK yE)}(h1:a=c)(h:b=yC)(i:d=yC)(j:e=yC)(m:f=yC):(⟨a,b,n,d,e,f,0⟩:Seen)=⟨c,yC,n,yC,yC,yC,0⟩:=by
 subst h1 h i j m;rfl
theorem hdGlue{Y:Type}{s:yL}{Yf:yL->Y}{y:Y}(h1:HdP (mO.take 30) (ac s))(m:HdP ((mO.drop 30).take 21) (ac s))(u:HdP ((mO.drop 30).drop 21) (ac s))(w:(hdQ s,s.heap.nsKeys Ao,s.heap.bltView,Yf s)=(yC,hdKs,bltViewBooted,y)):(openSeen vw [] (importedModules PySem.Challenge.pw_uf030018_14.main.body) hdXt yC s,Yf s)=(openGood vw [],y):=by
 obtain⟨k,q⟩:=zR w;obtain⟨A,q⟩:=zR q;obtain⟨B,C⟩:=zR q;have a1:=hdA k;have a2:=hdA a1.2;have a3:=hdA a2.2;have a4:=hdA a3.2;have h:=hdA a4.2;have o:=hdA a1.1;have n:=hdA a2.1;have t:=hdA a3.1;have x:=hdA a4.1;have z:=hdA h.1;have e1:=hdA hdE;have i:=hdA e1.2;have j:=hdA i.2;have b:=hdA j.2;have a:∀ d∈mO,(s.heap.shapeAt Ao d.name,s.heap.tab0Ok d.name)=(ac d.shape,yC):=λd a=>by
  rw[<- CA 30 mO,<- CA 21 (mO.drop 30)] at a;exact (zA.mp a).elim (hdM (yJ h1) d) λa=>(zA.mp a).elim (hdM (yJ m) d) (hdM (yJ u) d)
 rw[<- hdRecs] at a;have E:s.heap.keysOk (looseW vw []) ((Du vw).map (·.name)) ((litsOf vw).map (·.1)) ((clssOf vw (looseW vw [])).map (·.name))=yC:=by
  unfold Heap.keysOk;rw[A];exact hdKeys
 have c:((wdefsOf vw).all λd=>s.heap.restOk (vw.nameAt yz d.1.name) d.1.name&&dfltAt s.heap d)=yC:=xR b.1
 have l:(wlitsOf vw).all (constAt s.heap)=yC:=hdLits▸h.2;have G:((Du vw).map (·.name)).map (s.heap.shapeAt Ao)=(Du vw).map λd=>ac d.shape:=by
  rw[zV];exact AH λd f=>(zR (a d f)).1
 exact hdT (hdT (hdS G o.1 n.1 n.2 o.2) (hdT B (hdT (hdB (hdB (hdB (hdB (hdB (hdB E t.1) n.1) n.2) t.2) x.1) x.2) (hdT (hdB (hdB (hdB (zk.mpr λd f=>(zR (a d f)).2) (hdA z.1).1) (hdA z.1).2) z.2) (hdT (hdT (pB e1.1) (xR e1.1)) (hdT (pB i.1) (hdT (pB j.1) (hdT (hdT (pB b.1) (hdB c l)) (pB b.2))))))))) C
theorem hdLeft{Y:Type}{o:yK yL}{Yf:yL->Y}{y:Y}(h1:HdP (mO.take 30) o)(b:HdP ((mO.drop 30).take 21) o)(c:HdP ((mO.drop 30).drop 21) o)(a:o.map (λs=>(hdQ s,s.heap.nsKeys Ao,s.heap.bltView,Yf s))=ac (yC,hdKs,bltViewBooted,y)):o.map (λs=>(openSeen vw [] (importedModules PySem.Challenge.pw_uf030018_14.main.body) hdXt yC s,Yf s))=ac (openGood vw [],y):=by
 cases o with
 | none=>cases a
 | some s=>exact y6 ac (hdGlue h1 b c (yJ a))
theorem left:LeftO PySem.Challenge.pw_uf030018_14 vw [] hdXt (Hook.obs Hook.none) (Hook.val Hook.none) 20000:=λw=>hdLeft (left1 w) (left2 w) (left3 w) (left4 w)
theorem ws:OpenLaw.wellSaid PySem.Challenge.rw_uf030018_14=yC:=by decide +kernel
theorem x9:(defOf vw (yB "law")).isSome=yC:=by decide +kernel
noncomputable def dl:DefRec×yA (Str×y4):=(defOf vw (yB "law")).get x9
theorem dlDef:defOf vw PySem.Challenge.rw_uf030018_14.row.name=ac (dl.1,dl.2):=(Option.some_get x9).symm
theorem dlIs:PySem.Challenge.rw_uf030018_14.row.prog.theDef PySem.Challenge.rw_uf030018_14.row.name=ac (dl.1.params,dl.1.body,dl.1.scope):=by kernel_rfl
theorem dlKw:kwWritten? dl.1.params.kwonlyargs dl.1.params.kw_defaults=ac dl.2:=by kernel_rfl
theorem dlName:dl.1.name=yB "law":=by kernel_rfl
theorem okAll:(chainsOk vw&&opensWell PySem.Challenge.rw_uf030018_14.row.prog&&(frees PySem.Challenge.rw_uf030018_14.row.toRowW&&PySem.Challenge.rw_uf030018_14.row.within.isEmpty))=yC:=by decide +kernel
end Mine
namespace Mine
section
variable {a0 a1 a2 a3 a4:Nat}
theorem om1:((↑a0:Int) - 1).toNat=a0 - 1:=Int.toNat_sub a0 1
theorem om2(h1:a0<=60)(a:60<=a1):(-(↑a1:Int)<=(↑a0:Int)/\(↑a0:Int)<=(↑a1:Int))/\-(↑a1:Int)<=1/\1<=(↑a1:Int):=⟨⟨zW (Bu (zN a1)) (zN a0),Al.mpr (yD h1 a)⟩,zW (Bu (zN a1)) (by decide),Al.mpr (yD (by decide) a)⟩
theorem om3(h1:a0<=456):a0+0<=1000:=yD h1 (by decide)
theorem om4(h1:a0<=456)(a:a1<=12):a1+a0+0<=5000:=yD (ze a h1:a1+a0<=12+456) (by decide)
theorem om5(h1:a0<=38):2 * a0+1<=77:=zb (zo 2 h1)
theorem om6(h1:45<=a0):a0=a0 - 5+5:=(Cg (yD (by decide) h1)).symm
theorem om7(h1:a0<=40)(a:45<=a1+5):a0<=a1:=yD h1 (Aw (b:=5) a)
theorem om8:45<=a0+121:=zE _ _
theorem om9(h1:a0<=456):a0<=1000:=yD h1 (by decide)
theorem om10(h1:a0<=38):2 * a0<=a1+123:=yD (zo 2 h1) (yD (by decide) (zE 123 a1))
theorem om11(h1:a0<=38):2 * a0<=a1+122:=yD (zo 2 h1) (yD (by decide:2 * 38<=122) (zE _ _))
theorem om12:38<=a0+125:=zE _ _
theorem om13:77<=a0+125:=zE _ _
theorem om14:77<=a0+124:=zE _ _
theorem om15(h1:0<a0):(↑a0:Int)≠0:=by omega
theorem om16(h1:0<a0):0<(↑a0:Int):=z9.mpr h1
theorem om17{a1:Int}(h1:0<a0)(a:a1<(↑a0:Int)):a1.toNat<a0:=(Int.lt_or_le a1 0).elim (λh=>by rw[Int.toNat_of_nonpos (Bj h)];exact h1) λh=>(Int.toNat_lt h).mpr a
theorem om18{a0:Int}:0<=a0 % 94:=Aa _ (by decide)
theorem om19{a0:Int}:a0 % 94<(↑94:Int):=AA _ (by decide)
theorem om20{a0:Int}{a1:Int}(h1:2147483647<a0):-a0<a1 % 2147483647/\a1 % 2147483647<a0/\(0:Int)<=5/\(5:Int)<=100:=⟨Aq (Int.neg_neg_of_pos (AG (by decide) h1)) (Aa _ (by decide)),AG (AA _ (by decide)) h1,by decide,by decide⟩
theorem om21(h1:a0=1):a0<=100:=yD (y5 h1) (by decide)
theorem om22(h1:a0=1):a1+a0+a2=a1+(a2+1):=by rw[h1,Ah,z5 1]
theorem om23{a0:Int}(h1:a0<=100):a0<=100:=h1
theorem om24{a0:Int}:0<=a0 / 9 / 94 % 100/\a0 / 9 / 94 % 100<=100:=⟨Aa _ (by decide),Bj (AA _ (by decide))⟩
theorem om25{a0:Int}{a1:Int}{a2:Int}(h1:0<=a0/\a0<a1)(a:a1+3<a2):-a2<a0+3/\a0+3<a2/\(0:Int)<=9/\(9:Int)<=100:=⟨Aq (Int.neg_neg_of_pos (AG (Ar (D4 h1.1 (by decide:(0:Int)<=3)) (DM h1.2 3)) a)) (D4 h1.1 (by decide)),AG (DM h1.2 3) a,by decide,by decide⟩
theorem om26{a0:Int}(h1:0<a0):0<2 * a0 - 1:=Int.sub_pos_of_lt (Aq (by decide:(1:Int)<2 * (0+1)) (Ct h1 (by decide)))
theorem om27:0<(↑a0:Int)+1:=by omega
theorem om28(h1:a0=1)(a:a1<=8)(b:a2<=a1)(c:16+1<=a3):a2+a0<=a3:=yD (ze (yD b a) (y5 h1)) (yD (by decide) c)
theorem om29(h1:a0=1)(a:a1<=8)(b:a2<=a1)(c:a3<=a1)(f:16+1<=a4):a2+a0+a3<=a4:=yD (ze (ze (yD b a) (y5 h1)) (yD c a)) f
theorem om30{a0:Int}:-10 ^ 61<a0 / 9 % 4 - 1/\a0 / 9 % 4 - 1<10 ^ 61:=⟨Aq (by decide +kernel) (CI (Aa (a0 / 9) (by decide)) 1),AG (Int.sub_lt_sub_right (AA _ (by decide)) _) (by decide +kernel)⟩
theorem om31{a0:Int}:-10 ^ 61<a0 / 9 % 2000001 - 1000000/\a0 / 9 % 2000001 - 1000000<10 ^ 61:=⟨Aq (by decide +kernel) (CI (Aa (a0 / 9) (by decide)) 1000000),AG (Int.sub_lt_sub_right (AA _ (by decide)) _) (by decide +kernel)⟩
theorem om32{a0:Int}:2 * a0 - 1≠0:=by omega
theorem om33{a0:Int}{a1:Int}(h1:0<=a0)(a:a0<2 * a1 - 1):-(10 * a1)<a0 - a1+1/\a0 - a1+1<10 * a1:=
 have p:0<a1:=Et.mp λh=>zl (Ar h1 a) (Bl.mpr (zW (CI (Ct h (by decide:(0:Int)<=2)) 1) (by decide)))
 have q:∀ k:Int,1<=k->a1<=k * a1:=λk b=>zW (DN (Int.one_mul a1).symm) (DO b (Bj p))
 ⟨Ar (Int.neg_le_neg (q 10 (by decide))) (Ar (DN (Int.zero_sub a1).symm) (Ar (CI h1 a1) (Int.lt_succ _))),Ar (zW (Int.add_le_add_left p _) (DN (Int.sub_add_cancel a0 a1))) (Aq a (zW (Int.sub_le_self _ (by decide)) (DO (by decide) (Bj p))))⟩
theorem om34(h1:a0=1)(a:a1<=8)(b:a2<=a1)(c:a3<=a1):a2+a0+a3<=200:=yD (ze (ze (yD b a) (y5 h1)) (yD c a)) (by decide)
theorem om35(h1:a0<a1):(↑a0:Int)<(↑a1:Int):=z9.mpr h1
theorem om36{a0:Int}{a1:Int}:a0<a1\/a1=a0↔a0<=a1:=⟨λh=>h.elim Bj λe=>DN e.symm,λh=>(Int.lt_or_eq_of_le h).imp_right Eq.symm⟩
theorem om37(h1:0<a0)(a:a0<=1000):0<(↑a0:Int)/\(↑a0:Int)<2 ^ 64:=⟨Int.natCast_pos.mpr h1,Ar (Al.mpr a) (by decide)⟩
theorem om38(h1:¬a0=0):0<a0:=Bp h1
theorem om39(h1:¬a0=0):(↑a0:Int) - 1=(↑(a0 - 1):Int):=(Ce (Bp h1)).symm
theorem om40(h1:¬a0=0):a0 - 1<a0:=AO (Bp h1) AI
theorem om41{a0:Int}:1+a0 / 16 % 2=(↑(1+a0 / 16 % 2).toNat:Int):=(Bi (D4 (by decide) (Aa _ (by decide)))).symm
theorem om42{a0:Int}:(1+a0 / 16 % 2).toNat<=13:=Int.toNat_le.mpr (zW (Int.add_le_add_left (Bj (AA _ (by decide))) 1) (by decide))
theorem om43(h1:a0=a1):a1=a0:=h1.symm
theorem om44:0=(↑(min 0 a0):Int):=y6 Nat.cast (Nat.zero_min a0).symm
theorem uF:¬(↑a0:Int)<0:=Bl.mpr (zN a0)
theorem om46:min (↑a0:Int) (↑a1:Int)=(↑(min a0 a1):Int):=by omega
theorem om47:(↑a0:Int)=(↑(min a0 a0):Int):=y6 Nat.cast (DP a0).symm
theorem om48:((↑a0:Int)+(↑a1:Int) * 1).toNat=a0+a1:=by rw[Int.mul_one,<- Au,Be]
theorem om49(h1:a0<a1)(a:a0=a1):False:=by omega
theorem om51(h1:a0<=a1+1):a0+1+2 * a2+20<=a1+2 * (a2+1)+20:=by rw[Nat.mul_succ,z5 (2 * a2) 2,<- Ah a1 2];exact zs (zs (zb h1) _) 20
theorem om52(h1:a0<=a1+10):a0+3+13 * a2+100<=a1+13 * (a2+1)+100:=by rw[Nat.mul_succ,z5 (13 * a2) 13,<- Ah a1 13];exact zs (zs (zs h1 3) _) 100
theorem om53(h1:a0<=300)(a:a1=300)(b:a2=1000):1+a1+2 * a0+20<a2:=by subst a b;exact yO (zs (zu (zo 2 h1) _) 20) (by decide)
theorem om54(h1:a0<=300)(a:a1=9900):4+13 * a0+100<a1:=by subst a;exact yO (zs (zu (zo 13 h1) 4) 100) (by decide)
theorem om55{a0:Int}(h1:0<=a0/\a0<=1000/\a1<=1000):-9223372036854775808<=a0/\a0<9223372036854775808:=⟨zW (by decide) h1.1,Ar h1.2.1 (by decide)⟩
theorem om56{a0:Int}(h1:¬a0<1):0<a0:=Aq (by decide) (Bl.mp h1)
theorem om57{a0:Int}(h1:0<=a0/\a0<=1000/\a1<=1000):1000 * a0<=2 ^ 63 - 1:=zW (Ct h1.2.1 (by decide)) (by decide)
theorem om58{a0:Int}{a2:Int}(h1:0<=a0/\a0<=1000/\a1<=1000)(a:1000<=a2):¬(↑a1:Int) > a2:=Bl.mpr (zW (Al.mpr h1.2.2) a)
theorem om59{a0:Int}(h1:0<=a0):-(↑a1:Int)<=a0:=zW (Bu (zN a1)) h1
theorem om60{a1:Int}(h1:-(↑a0:Int)<=a1):0<=a1+(↑a0:Int):=by have:=Int.add_le_add_right h1 (↑a0:Int);rw[Int.add_left_neg] at this;exact this
theorem om61{a0:Int}(h1:a0<0):a0+(↑a1:Int)<(↑a1:Int):=Aq (DM h1 _) (DN (Int.zero_add _))
theorem om62{a1:Int}(h1:-(↑a0:Int)<=a1)(a:a1<0):-(↑a0:Int)<=a1/\a1<(↑a0:Int):=⟨h1,Aq a (zN a0)⟩
theorem om63{a0:Int}(h1:0<=a0/\a0<(↑a1:Int)/\a1<=a2)(a:(↑a1:Int)<2 ^ 63):-9223372036854775808<=a0/\a0<9223372036854775808:=⟨zW (by decide) h1.1,Aq (AG h1.2.1 a) (by decide)⟩
theorem om64{a1:Int}(h1:(↑a0:Int)<2 ^ 63)(a:-(↑a0:Int)<=a1):-2 ^ 63<=a1:=zW (Int.neg_le_neg (Bj h1)) a
theorem om65(h1:(↑a0:Int)<2 ^ 63):-2 ^ 63<=-(↑a0:Int):=Int.neg_le_neg (Bj h1)
theorem om66(h1:¬a0<a1):a1<=a0:=zU.mp h1
theorem om67(h1:a0<=a1):¬a1<a0:=by omega
theorem om68{a0:Int}{a1:Int}(h1:-(↑(2 ^ 24):Int)<=a0/\a0<=(↑(2 ^ 24):Int)/\-(↑(2 ^ 24):Int)<=a1/\a1<=(↑(2 ^ 24):Int)):-2 ^ 62<=a0:=zW (by decide) h1.1
theorem om69{a0:Int}{a1:Int}(h1:-(↑(2 ^ 24):Int)<=a0/\a0<=(↑(2 ^ 24):Int)/\-(↑(2 ^ 24):Int)<=a1/\a1<=(↑(2 ^ 24):Int)):a0<2 ^ 62:=Ar h1.2.1 (by decide)
theorem om70{a0:Int}{a1:Int}(h1:-(↑(2 ^ 24):Int)<=a0/\a0<=(↑(2 ^ 24):Int)/\-(↑(2 ^ 24):Int)<=a1/\a1<=(↑(2 ^ 24):Int)):-2 ^ 62<=a1:=zW (by decide) h1.2.2.1
theorem om71{a0:Int}{a1:Int}(h1:-(↑(2 ^ 24):Int)<=a0/\a0<=(↑(2 ^ 24):Int)/\-(↑(2 ^ 24):Int)<=a1/\a1<=(↑(2 ^ 24):Int)):a1<2 ^ 62:=Ar h1.2.2.2 (by decide)
theorem om72(h1:a0+1<=a1):a0<=a1:=zy h1
theorem om73(h1:a0<a1):a2<=a2+a1 - 1 - a0:=by rw[Nat.sub_sub];exact Nat.le_sub_of_add_le (zu (by rw[z5];exact h1) a2)
theorem om74(h1:a0<=a1)(a:a1<a2):a0+a2 - 1 - a1<a2:=B2 (Nat.le_sub_of_add_le (yD a (zE _ _))) (yZ (AO (yZ (yO (za _) a) (zE _ _)) AI) (zs h1 a2))
theorem om75(h1:a0+1<a1):a2+a1 - 1 - (a0+1)<a2+a1 - 1 - a0:=DZ (Nat.lt_sub_of_add_lt (yZ h1 (zE _ _))) (Ab _)
theorem om76(h1:a0=a1+a2)(a:a1<=a3)(b:a3<a0):a3 - a1<a2:=B2 a (yZ b (y5 h1))
theorem om77(h1:a0<a1)(a:a1<=a2)(c:(↑a0:Int)=(↑a3:Int)\/(↑a0:Int)=(↑a4:Int))(b:(↑a2:Int)=(↑a3:Int)\/(↑a2:Int)=(↑a4:Int)):a3=a0/\a4=a2\/a3=a2/\a4=a0:=c.elim (λe=>b.elim (λf=>zl ((AQ e).trans (AQ f).symm) (zC (yZ h1 a))) λf=>.inl ⟨(AQ e).symm,(AQ f).symm⟩) λe=>b.elim (λf=>.inr ⟨(AQ f).symm,(AQ e).symm⟩) λf=>zl ((AQ e).trans (AQ f).symm) (zC (yZ h1 a))
theorem om78(h1:a0<=31)(a:2000<a1)(b:a2<a0)(c:a3<=2 * a2):a3<a1:=yO (yD c (zo 2 (yD (zy b) h1))) (zM (by decide) a)
theorem om79(h1:a0<=31)(a:2000<a1)(b:a2<a0)(c:a3<=2 * a2):a3+(0+1)<a1:=yO (zb (yD c (zo 2 (yD (zy b) h1)))) (zM (by decide) a)
theorem om80(h1:a0<=31)(a:a1<=2 * a0):a1<63:=yO (yD a (zo 2 h1)) (by decide)
theorem om81(h1:a0<a1):¬(↑a0:Int) ≥ (↑a1:Int):=Et.mpr (z9.mpr h1)
theorem om82(h1:a0<=1000)(a:2000<a1):a0<=a1:=yD h1 (zy (zM (by decide) a))
theorem om83(h1:a0<=5000)(a:5000<=a1):a0<=a1:=yD h1 a
theorem om84(h1:a0<=31)(a:2000<a1)(b:a2<a0):a2<a1:=yZ b (yD h1 (yD (by decide) (zy a)))
theorem om85{a0:Int}{a1:Int}{a2:Int}(h1:a0<a1)(a:a2<a0):a2<a1:=AG a h1
theorem om86{a0:Int}{a1:Int}{a2:Int}(h1:a0<=a1)(a:a1<a2):a0<=a2:=zW h1 (Bj a)
theorem om87:¬(0<=-1/\-1<(↑a0:Int)):=by omega
theorem om88:1<=(↑a0:Int)+1:=Int.add_le_add_right (zN a0) 1
theorem om89:(-1+((↑a0:Int)+1)).toNat=a0:=by rw[Int.add_comm,Int.add_neg_cancel_right,Be]
theorem om90:¬(↑a0:Int)+1+1=1:=by omega
theorem om91(h1:(↑a0:Int)<=(↑a1:Int)->(↑a2:Int)<(↑a0:Int))(a:a1<a2):a1<a0:=Ey λh=>zl (z9.mp (h1 (Al.mpr h))) (zU.mpr (yD h (zy a)))
theorem om92(h1:(↑a0:Int)<(↑a1:Int)->(↑a1:Int)<=(↑a2:Int))(a:a0<a2):a1<=a2:=(Ez a0 a1).elim (λh=>Al.mp (h1 (z9.mpr h))) λh=>yD h (zy a)
theorem om93(h1:¬a0<a1):¬(↑a0:Int)<(↑a1:Int):=by omega
theorem om94(h1:(↑a0:Int)<(↑a1:Int)->(↑a1:Int)<=(↑a2:Int))(a:(↑a1:Int)<=(↑a0:Int)->(↑a2:Int)<(↑a1:Int)):¬(↑a0:Int)=(↑a2:Int):=λe=>(Int.lt_or_le ↑a0 ↑a1).elim (λh=>zl (h1 h) (Et.mpr (e▸h))) λh=>zl (a h) (Bl.mpr (e▸h))
theorem om95(h1:(↑a0:Int)<=(↑a1:Int)->(↑a2:Int)<(↑a0:Int))(a:¬a1<a2):a2<a0:=(Ez a1 a0).elim (λh=>yO (zU.mp a) h) λh=>z9.mp (h1 (Al.mpr h))
theorem om96(h1:(↑a0:Int)<(↑a1:Int)->(↑a1:Int)<=(↑a2:Int))(a:¬a0<a2):a1<=a0:=(Ez a0 a1).elim (λh=>yD (Al.mp (h1 (z9.mpr h))) (zU.mp a)) id
theorem om97(h1:(↑a0:Int)=(↑a1:Int)):a0=a1:=AQ h1
theorem om98(h1:(↑a0:Int)<=(↑a1:Int)):a0<=a1:=Al.mp h1
theorem om99(h1:(↑a0:Int)=(↑a1:Int))(a:a1<a2+a3):a0<a2+a3:=yO (y5 (AQ h1)) a
theorem om100(h1:a0+a1<=5000)(a:20000<a2):a0+a1<=a2:=yD h1 (zy (zM (by decide) a))
theorem om101(h1:a0<=5000)(a:a0=a1+(a2+1)):a1<=5000:=yD (yD (y9 a1 (a2+1)) (y5 a.symm)) h1
theorem om102(h1:a0<=5000)(a:20000<a1)(b:a2<=5000):a0+a2<=a1:=yD (ze h1 b) (yD (by decide) (zy a))
theorem om103(h1:a0<=5000)(a:20000<a1)(b:a0=a2+(a3+1)):a2<a1:=yO (yD (yD (y9 a2 (a3+1)) (y5 b.symm)) h1) (zM (by decide) a)
theorem vt(h1:(↑a0:Int)<(↑a1:Int)):a0<a1:=z9.mp h1
theorem om105(h1:(↑a0:Int)<=(↑a1:Int))(a:(↑a1:Int)=(↑a2:Int))(b:a2<a0+a3):a1 - a0<a3:=B2 (Al.mp h1) (yO (y5 (AQ a)) b)
theorem om106(h1:2 * (a0+1)<=a1):a1=a1 - 2+2:=(Cg (yD (zo 2 (zb (za a0))) h1)).symm
theorem om107(h1:a0+a1<=1000)(a:a0=a2+a3):a3+(a2+a1)<=1000:=by rw[Em,<- Ah,<- a];exact h1
theorem ti(h1:2 * a0<=a1+2)(a:a0=a2+1):2 * a2<=a1+1:=by subst a;exact zO (Aw (b:=2) h1)
theorem om109(h1:a0+a1<=1000)(a:a0=a2+a3):a2+a1<=1000:=by subst a;exact yD (zs (y9 _ _) _) h1
theorem om110(h1:2000<a0)(a:a1+a2<=1000):a1+a2<=a0:=yD a (zy (zM (by decide) h1))
theorem om111(h1:a0+a1<=1000)(a:2000<a2):a1<=a2:=yD (yD (zE a1 a0) h1) (zy (zM (by decide) a))
theorem om112(h1:a0+a1<=1000)(a:a0=max a2 a3):a2+a1<=1000:=yD (zs (yD (zB _ _) (y5 a.symm)) a1) h1
theorem om113(h1:2 * a0<=a1+2)(a:a0=max a2 a3+1):2 * a2<=a1+1:=by subst a;exact zO (yD (zo 2 (zB a2 a3)) (Aw (b:=2) h1))
theorem om114(h1:a0+a1<=1000)(a:a0=max a2 a3):a3+a1<=1000:=yD (zs (yD (zz _ _) (y5 a.symm)) a1) h1
theorem om115(h1:2 * a0<=a1+2)(a:a0=max a2 a3+1):2 * a3<=a1+1:=by subst a;exact zO (yD (zo 2 (zz a2 a3)) (Aw (b:=2) h1))
theorem om116(h1:a0+a1<=1000)(a:a0=max a2 a3)(b:a4<=a1):a2+a4<=1000:=yD (ze (yD (zB _ _) (y5 a.symm)) b) h1
theorem om117(h1:2 * a0<=a1+2)(a:a0=max a2 a3+1):2 * a2<=a1:=by subst a;exact yD (zo 2 (zB a2 a3)) (Aw (b:=2) h1)
theorem om118(h1:a0+a1<=1000)(a:a0=max a2 a3)(b:a4<=a1):a3+a4<=1000:=yD (ze (yD (zz _ _) (y5 a.symm)) b) h1
theorem om119(h1:2 * a0<=a1+2)(a:a0=max a2 a3+1):2 * a3<=a1:=by subst a;exact yD (zo 2 (zz a2 a3)) (Aw (b:=2) h1)
theorem om120(h1:2 * a0<=a1+2)(a:a0=max a2 a3+1):a2<=a1+3:=by subst a;exact yD (zB a2 a3) (yD (Dv _ D8) (yD (Aw (b:=2) h1) (y9 _ 3)))
theorem om121(h1:2 * a0<=a1+2)(a:a0=max a2 a3+1):a3<=a1+3:=yD (yD (zz a2 a3) (BB (y5 a.symm))) (yD (Dv a0 (by decide)) (zO h1))
theorem om122(h1:a0+a1<=1000):a1<=5000:=yD (yD (zE a1 a0) h1) (by decide)
theorem om123(h1:a0+a1<=1000)(a:a0=a2)(b:a3<=a1):a2+a3<=1000:=by subst a;exact yD (zu b _) h1
theorem om124(h1:2 * a0<=a1+2)(a:a0=a2+1):2 * a2<=a1:=by subst a;exact Aw (b:=2) h1
theorem om125(h1:a0+a1<=1000)(a:a0=a2):a2+0<=1000:=yD (yD (y5 a.symm) (y9 a0 a1)) h1
theorem om126(h1:2 * a0<=a1):a0<=a1+3:=yD (Dv _ D8) (yD h1 (y9 _ 3))
theorem om127(h1:a0<=a1):2 * a0+1<=2 * a1+1:=zb (zo 2 h1)
theorem om128(h1:a0+a1+a2+a3=a4):a0<=a4/\a1<=a4/\a2<=a4/\a0+a1+a3<=a4:=by subst h1;exact⟨yD (y9 a0 a1) (yD (y9 _ a2) (y9 _ a3)),yD (zE a1 a0) (yD (y9 _ a2) (y9 _ a3)),yD (zE a2 _) (y9 _ a3),zs (y9 _ a2) a3⟩
theorem om129(h1:a0+a1+a2<=a3):a2+(a4+(a0+a1))<=a4+a3:=by rw[Em];exact zu (by rw[z5];exact h1) a4
theorem om130(h1:a0<=2 * a1+1):a0+1<=2 * (a1+1)+1:=yD (zb h1) (AB _)
theorem om131:2 * a0+2+1<=2 * (a0+1)+1:=y0 _
theorem om132:a0+a1+a2=a1+(a0+a2):=by rw[z5 a0 a1,Ah]
theorem om133:a0+(a1+a2)+a3=a0+a2+(a1+a3):=by rw[z5 a1 a2,<- Ah a0,Ah (a0+a2)]
theorem om134(h1:a0+a1=a2):a1+(a3+a0)<=a3+a2:=by rw[Em,z5 a1,h1];exact y0 _
theorem om135(h1:¬a0=0):0<(↑a0:Int):=z9.mpr (Bp h1)
theorem kJ(h1:a0<=12):a0<=1000:=yD h1 (by decide)
theorem om137(h1:¬a0=0):(↑a0:Int)≠0:=by omega
theorem th(h1:a0<=12)(a:a1=a0):a1<=12:=yD (y5 a) h1
theorem om139(h1:¬(a0=0\/a1=0)):0<a0:=Bp λe=>h1 (.inl e)
theorem om140(h1:¬(a0=0\/a1=0)):0<a1:=Bp λe=>h1 (.inr e)
theorem om141(h1:¬(a0=0\/a1=0)):0<(↑a0:Int):=Int.natCast_pos.mpr (Bp λe=>h1 (.inl e))
theorem om142(h1:¬(a0=0\/a1=0)):0<(↑a1:Int):=by omega
theorem om143(h1:¬(a0=0\/a1=0)):(↑a0:Int)≠0/\(↑a1:Int)≠0:=⟨λe=>h1 (.inl (Int.natCast_eq_zero.mp e)),λe=>h1 (.inr (Int.natCast_eq_zero.mp e))⟩
theorem om144(h1:a0<=24 * a1)(a:a1<=24):a0<=1000:=yD h1 (yD (zo 24 a) (by decide))
theorem om145{a0:Int}:1+a0 % 6=(↑(1+a0 % 6).toNat:Int):=(Bi (D4 (by decide) (Aa _ (by decide)))).symm
theorem om146{a0:Int}:a0 / 24 % 70=(↑(a0 / 24 % 70).toNat:Int):=(Bi (Aa _ (by decide))).symm
theorem om147(h1:(↑a0:Int)<(↑a1:Int)):a0<=a1:=zy (z9.mp h1)
theorem om148(h1:¬(↑a0:Int)<(↑a1:Int)):a1<=a0:=BM λh=>h1 (z9.mpr h)
theorem om149(h1:a0<=12)(a:a1<=a2):a0+a1<=a2+12:=yD (ze h1 a) (y5 (z5 12 a2))
theorem om150(h1:a0<=12)(a:1<=a1):a0<=24 * a1:=yD h1 (yD (by decide) (zo 24 a))
theorem te:a0<=a0+12:=y9 _ _
theorem om152(h1:a0<=12)(a:a1<=12)(b:1<=a2):a0+a1<=24 * a2:=yD (ze h1 a) (yD (by decide:12+12<=24 * 1) (zo 24 b))
theorem om153(h1:6<(↑a0:Int)):6<=a0:=zy (z9.mp h1)
theorem om154(h1:¬6<(↑a0:Int)):a0<=6:=BM λh=>h1 (z9.mpr h)
theorem om155{a0:Int}:-10 ^ 61<a0 / 36 % 3:=Aq (by decide +kernel) (Aa _ (by decide))
theorem om156{a0:Int}:a0 / 36 % 3<10 ^ 61:=AG (AA _ (by decide)) (by decide +kernel)
theorem om157(h1:a0<=a1):1+a0<=a1+12:=yD (y5 (z5 1 a0)) (ze h1 (by decide))
theorem om158(h1:a0<=12):a0<=5000:=yD h1 (by decide)
theorem om159(h1:a0<=24 * a1)(a:a2<=24 * a3):a0+a2<=24 * (a1+a3):=yD (ze h1 a) (y5 (Nat.mul_add 24 a1 a3).symm)
theorem om160(h1:1<=a0):1<=a0+a1:=yD h1 (y9 _ _)
theorem om161(h1:a0<=a1)(a:a2<=a1):max a0 a2<=a1+12:=yD (Bm.mpr ⟨h1,a⟩) (y9 _ _)
theorem om162(h1:a0<=12)(a:a1<=12)(b:a2<=12):max a0 (max a1 a2)<=12:=Bm.mpr ⟨h1,Bm.mpr ⟨a,b⟩⟩
theorem om163(h1:a0+a1<=24)(a:a2<=24 * a0)(b:a3<=24 * a1):a2+a3<=5000:=yD (ze a b) (yD (y5 (Nat.mul_add 24 a0 a1).symm) (yD (zo 24 h1) (by decide)))
theorem om164(h1:a0<=a1+1)(a:a2<=a1+1):max a0 a2+1<=a1+2:=zb (Bm.mpr ⟨h1,a⟩)
theorem om165(h1:a0<=60):-2 ^ 64<(↑a0:Int)/\(↑a0:Int)<2 ^ 64:=⟨Aq (by decide) (zN a0),Ar (Al.mpr h1) (by decide)⟩
theorem om166:min 6 a0<=60:=yD (DQ 6 a0) (by decide)
theorem xz(h1:¬(↑a0:Int)+(↑a1:Int) > 24):a0+a1<=24:=BM λh=>h1 (z9.mpr h)
theorem om168(h1:¬(↑a0:Int) > 36):a0<=60:=yD (BM λh=>h1 (z9.mpr h)) (by decide:36<=60)
theorem om169(h1:a0<=24 * a1):a0<=24 * (a1+a2):=yD h1 (zo 24 (y9 _ _))
theorem om170(h1:(↑a0:Int)+(↑a1:Int)<=36):a0+a1<=60:=yD (Al.mp h1:a0+a1<=36) (by decide)
theorem om171(h1:a0<=12)(a:a1<=12):max a0 a1<=12:=Bm.mpr ⟨h1,a⟩
theorem om172(h1:a0<=a1)(a:a2<=a1):max a0 a2+1<=a1+2:=zO (zb (Bm.mpr ⟨h1,a⟩))
theorem om173(h1:100<=a0)(a:a1=1)(b:a2=4):a2+a1<=a0:=by rw[a,b];exact yD (by decide) h1
theorem om174(h1:a0+a1=0)(a:a1=1):False:=by subst a;exact zl h1 (Nat.succ_ne_zero _)
theorem om175(h1:100<=a0)(a:a1<=8):a1<=a0:=yD a (yD (by decide) h1)
theorem om176(h1:100<=a0)(a:a1<=8)(b:a2<=a1)(c:a3=1):a2+a3<=a0:=yD (ze (yD b a) (y5 c)) (yD (by decide) h1)
theorem om177(h1:100<=a0)(a:a1<=8)(b:a2<=a1)(c:a3<=a1)(f:a4=1):a2+a4+a3<=a0:=yD (ze (ze (yD b a) (y5 f)) (yD c a)) (yD (by decide) h1)
theorem om178{a0:Int}:(a0 / 210 % 13).toNat<=12:=Int.toNat_le.mpr (Int.le_of_lt_add_one (AA _ (by decide)))
theorem om179{a0:Int}:(↑(a0 / 210 % 13).toNat:Int)=a0 / 210 % 13:=Bi (Aa _ (by decide))
theorem om180(h1:a0<4)(a:4<=a1):a0<a1:=yZ h1 a
theorem om181(h1:a0<=12):a0<=24 * 1:=yD h1 (by decide)
theorem om182(h1:a0<=8):a0<=60:=yD h1 (by decide)
theorem om183(h1:a0<=a1):(-(↑a1:Int)<=(↑a0:Int)/\(↑a0:Int)<=(↑a1:Int))/\-(↑a1:Int)<=0/\0<=(↑a1:Int):=⟨⟨zW (Bu (zN a1)) (zN a0),Al.mpr h1⟩,Bu (zN a1),zN a1⟩
theorem om184:-2 ^ 63<=(↑a0:Int):=zW (by decide) (zN a0)
theorem om185(h1:(↑a0:Int)<2 ^ 63)(a:a1<a0):(↑a1:Int)<2 ^ 63:=AG (z9.mpr a) h1
theorem om186(h1:a0<a1):0<=(↑a0:Int)/\(↑a0:Int)<(↑a1:Int):=⟨zN a0,z9.mpr h1⟩
theorem om187(h1:a0<a1):(↑a1:Int) - 1 - (↑a0:Int)=(↑(a1 - 1 - a0):Int):=by rw[Ce (Nat.le_sub_one_of_lt h1),Ce (yO (za _) h1)];rfl
theorem om188(h1:a0<a1):a1 - 1 - a0<a1:=yO (De _ _) (AO (yO (za _) h1) AI)
theorem om189(h1:a0<a1):(↑(a1 - 1 - a0):Int) - 1=(↑a1:Int) - 1 - (↑(a0+1):Int):=by rw[Ce (Nat.le_sub_one_of_lt h1),Ce (yO (za _) h1)];exact Int.sub_sub _ _ 1
theorem om190:(↑a0:Int) - 1 - (↑a0:Int)=-1:=by rw[Int.sub_sub,Int.add_comm,<- Int.sub_sub,Int.sub_self];rfl
theorem om191(h1:a0+(a1+1)<=a2):a0<a2:=yZ (Ak (Ac _)) h1
theorem om192(h1:a0+(a1+1)<=a2):a0+1+a1<=a2:=by rw[Ah,z5 1];exact h1
theorem xy:a0+12<=a0+24:=zu (by decide) a0
theorem om194:a0+2<=a0+3:=AB _
theorem om195:(↑(7+2 * a0):Int)=7+2 * (↑a0:Int):=rfl
theorem om196(h1:¬6+2 * (↑a0:Int) ≥ (↑a1:Int)):6+2 * a0<a1:=Ey λh=>h1 (Al.mpr h)
theorem om197:(↑(6+2 * a0):Int)=6+2 * (↑a0:Int):=by rw[Au,EL];rfl
theorem xx:a0+12+12<=a0+24:=y0 _
theorem om199:a0+1+1<=a0+3:=AB _
theorem om200:a0+1<=a0+3:=zu (by decide) a0
theorem om201{a0:Int}:a0 / 2 % 2=0\/a0 / 2 % 2=1:=Int.emod_two_eq _
theorem om202:a0+2+1<=a0+3:=y0 _
theorem om203:a0.succ+2<=a0+3:=y0 _
theorem om204(h1:45<=a0):45<=a0+7:=yD h1 (y9 _ _)
theorem om205(h1:a0<=8):3 * a0+3<=40:=yD (zs (zo 3 h1) 3) (by decide)
theorem om206:0+a0<=a0:=y5 (z6 a0)
theorem om207(h1:a0<=8)(a:a1<a0):a1<=8:=yD (zy a) h1
theorem om208(h1:a0<=8)(a:a1<a0):24 * a1<=216:=yD (zo 24 (yD (zy a) h1)) (by decide)
theorem om209(h1:a0<=8)(a:a1<a0):3 * a1<=27:=yD (zo 3 (yD (zy a) h1)) (by decide)
theorem om210(h1:a0<=8):24 * a0<=216:=yD (zo _ h1) (by decide)
theorem om211(h1:a0<=8):3 * a0<=27:=yD (zo _ h1) (by decide)
theorem om212:a0+12 * a1+12<=a0+12 * (a1+1):=y5 (Ah a0 (12 * a1) 12)
theorem om213:a0+a1+1<=a0+(a1+1):=y0 _
theorem om214:0+12 * 38<=456:=y0 _
theorem om215:0+38<=38:=y0 _
theorem om216(h1:a0<=7):a0<=38:=yD h1 (by decide)
theorem om217(h1:a0<=7):240+12 * a0<=456:=yD (zu (zo 12 h1) 240) (by decide)
theorem om218(h1:a0<=7):29+a0<=38:=yD (zu h1 29) (by decide)
theorem om219:0<=7:=za _
theorem om220(h1:45<=a0):45<=a0+8:=yD h1 (y9 _ _)
theorem om221:228<=240:=zE _ _
theorem om222:28<=29:=AB _
theorem om223:216<=228:=zE _ _
theorem om224:27<=28:=AB _
end
end Mine
namespace Mine
open PySem
noncomputable def lamP:Str:=uJ++".<locals>."
noncomputable def pd:Str:=lamP++"<lambda>"
noncomputable def tF(d:Data):yH:=match d with
 | .fields _=>yC
 | _=>yz
noncomputable def wC(c:yE):yH:=match c with
 | .none=>yC
 | .type s=>s == "code"
 | _=>yz
noncomputable def bI(o:Obj):yH:=tF o.data&&wC o.cls
noncomputable abbrev wS:Obj:={ cls:=.none,data:=.fields #[] }
noncomputable def iK(h:Heap)(c:yN):Prop:=∃ o vs t,h.get? c=ac o/\o.cls=.type "code"/\o.data=.fields vs/\vs[1]?=ac (.str pd t)
inductive jt(h:Heap):yA yE->Prop
 | nil:jt h []
 | cons {a t b u c r} (hc:iK h c) (hr:jt h r):jt h (.int a t::.int b u::.ref c::r)
noncomputable def jp(h:Heap)(o:Obj):Prop:=∃ xs,o={ cls:=.none,data:=.fields xs }/\jt h xs.toList
open Classical in
noncomputable def gat(h:Heap)(a:yN):yK Obj:=
 if a=tb then (h.get? a).bind λo=>if bI o=yC then (if jp h o then ac wS else yS) else ac o else h.get? a
section
variable {h h':Heap} {a:yN} {o:Obj}
theorem isTab_code(a:o.cls=.type "code"){vs:zj yE}(b:o.data=.fields vs):bI o=yC:=by
 unfold bI;rw[a,b];rfl
noncomputable abbrev KC(h h':Heap):Prop:=∀ b o,h.get? b=ac o->bI o=yC->o.cls≠.none->h'.get? b=ac o
theorem iK.mono{c:yN}(x:iK h c)(a:KC h h'):iK h' c:=
 x.elim λo x=>x.elim λvs x=>x.elim λt x=>⟨o,vs,t,a _ _ x.1 (isTab_code x.2.1 x.2.2.1) (by rw[x.2.1];nofun),x.2⟩
theorem jt.mono(a:KC h h'){l:yA yE}(x:jt h l):jt h' l:=x.rec .nil λb Z c=>.cons (b.mono a) c
theorem jt.triples{l:yA yE}(x:jt h l):TriplesOk l:=x.rec trivial λZ Z a=>a
theorem jt.snoc{c:yN}(a b:Int)(f:iK h c){l:yA yE}(x:jt h l):jt h (l++[Bk a,Bk b,.ref c]):=x.rec (.cons f .nil) λf Z i=>.cons f i
theorem jt.among{f:Pos}{v:yE}{l:yA yE}(x:jt h l):codeAmong f l=ac v->∃ c,v=.ref c/\iK h c:=x.rec (λe=>nomatch e) λ{a t b u c r} i _ j e=>by
 simp only[codeAmong] at e;split at e
 ·cases e;exact⟨c,QQ,i⟩
 ·exact j e
theorem jp.mono(x:jp h o)(a:KC h h'):jp h' o:=x.elim λxs x=>⟨xs,x.1,x.2.mono a⟩
theorem jp.tab(x:jp h o):bI o=yC:=let ⟨_,e,_⟩:=x;e▸rfl
theorem jp.empty:jp h wS:=⟨#[],QQ,.nil⟩
theorem Heap.gt_ne(b:a≠tb):gat h a=h.get? a:=by unfold gat;rw[yV b]
theorem Heap.gt_of(e:h.get? a=ac o)(b:bI o=yz:=by rfl):gat h a=ac o:=by
 unfold gat;split
 ·rw[e,Option.bind_some,yV (by rw[b];nofun)]
 ·exact e
theorem Heap.gt_good(e:h.get? tb=ac o)(g:jp h o):gat h tb=ac wS:=by
 unfold gat;rw[yT rfl,e,Option.bind_some,yT g.tab,yT g]
theorem Heap.gt_some(e:gat h a=ac o):∃ b,h.get? a=ac b/\(b=o/\(a=tb->bI o=yz)\/a=tb/\o=wS/\jp h b):=by
 unfold gat at e;split at e
 ·rename_i q
  rw[Option.bind_eq_some_iff] at e;obtain⟨b,e1,c⟩:=e;split at c
  ·split at c
   ·rename_i g;cases c;exact⟨b,e1,.inr ⟨q,QQ,g⟩⟩
   ·cases c
  ·rename_i f;cases c;exact⟨_,e1,.inl ⟨QQ,λZ=>by simpa using f⟩⟩
 ·rename_i q;exact⟨o,e,.inl ⟨QQ,λe=>zl e q⟩⟩
theorem Heap.of_gt'(e:gat h a=ac o)(b:o.cls≠.none):h.get? a=ac o:=by
 obtain⟨f,e1,⟨rfl,_⟩ | ⟨_,c,_⟩⟩:=gt_some e
 ·exact e1
 ·subst c;exact zl QQ b
theorem Heap.of_gt(e:gat h a=ac o)(b:bI o=yz:=by rfl):h.get? a=ac o:=by
 obtain⟨f,e1,⟨rfl,_⟩ | ⟨_,c,_⟩⟩:=gt_some e
 ·exact e1
 ·subst c;cases b
theorem Heap.gt_lt(e:gat h a=ac o):@LT.lt Nat _ a h.objs.size:=let ⟨_,e,_⟩:=gt_some e;Heap.lt_size e
theorem Heap.gt_lift{F:yN->Prop}(m:∀ b o,h.get? b=ac o->bI o=yC->F b)(a:∀ b o,F b->h.get? b=ac o->h'.get? b=ac o):∀ b o,F b->gat h b=ac o->gat h' b=ac o:=λb o f e=>by
 obtain⟨c,i,⟨rfl,q⟩ | ⟨rfl,rfl,g⟩⟩:=gt_some e
 ·by_cases j:b=tb
  ·exact gt_of (a b c f i) (q j)
  ·rw[gt_ne j];exact a b c f i
 ·exact gt_good (a _ c f i) (g.mono λb o e n Z=>a b o (m b o e n) e)
noncomputable def KH(h h':Heap):Prop:=∀ b o,gat h b=ac o->gat h' b=ac o
theorem Heap.gt_up(a:∀ b o,h.get? b=ac o->h'.get? b=ac o):KH h h':=
 λb o e=>gt_lift (F:=λZ=>True) (λZ Z Z Z=>trivial) (λb o Z e=>a b o e) b o trivial e
theorem Heap.gt_push_of_some(x:Obj)(e:gat h a=ac o):gat (h.push x) a=ac o:=gt_up (λZ Z e=>Heap.get?_push_of_some _ e) a o e
theorem Heap.gt_push_size(x:Obj)(a:x.isFreed=yz)(b:bI x=yz:=by rfl):gat (h.push x) h.objs.size=ac x:=gt_of (Heap.get?_push_size _ a) b
theorem Heap.gt_none_of_le(e:@LE.le Nat _ h.objs.size a):gat h a=yS:=by
 cases q:gat h a with
 | none=>rfl
 | some o=>obtain⟨c,b,_⟩:=gt_some q;rw[Heap.get?_none_of_le e] at b;cases b
theorem g1{b:yN}(f:Heap.SameBut b h h')(n:∀ o,h.get? b=ac o->bI o=yz)(a:yN)(i:a≠b)(e:gat h a=ac o):gat h' a=ac o:=
 Heap.gt_lift (F:=λx=>x≠b) (λx o e c q=>by rw[n o (q▸e)] at c;cases c) (λx o j e=>(f.2 x j).trans e) a o i e
structure Heap.SB(b:yN)(h h':Heap):Prop where
 s:Heap.SameBut b h h'
 n:∀ o,h.get? b=ac o->bI o=yz
 n':∀ o,h'.get? b=ac o->bI o=yz
theorem Heap.SB.g{b:yN}(c:Heap.SB b h h')(a:yN)(t:a≠b):gat h' a=gat h a:=by
 have f:∀ {h h':Heap},Heap.SB b h h'->∀ o,gat h a=ac o->gat h' a=ac o:=λ{h h'} c o e=>
  gt_lift (F:=λx=>x≠b) (λx o e m q=>by rw[c.n o (q▸e)] at m;cases m) (λx o i e=>(c.s.2 x i).trans e) a o t e
 have j:Heap.SB b h' h:=⟨⟨c.s.1.symm,λx i=>(c.s.2 x i).symm⟩,c.n',c.n⟩
 cases q:gat h a with
 | some o=>exact f c o q
 | none=>
  cases u:gat h' a with
  | none=>rfl
  | some o=>rw[f j o u] at q;cases q
theorem cG{o:Obj}(h:∀ v,o.data≠.fields v):bI o=yz:=by
 have e:tF o.data=yz:=by
  generalize o.data=d at h;cases d <;> first | rfl | exact zl QQ (h _)
 unfold bI;rw[e];rfl
theorem notTab_cls{o:Obj}(h:o.cls≠.none)(a:o.cls≠.type "code"):bI o=yz:=by
 have e:wC o.cls=yz:=by
  generalize o.cls=c at h a;cases c <;> first | rfl | exact zl QQ h | exact Ad λe=>a (y6 Value.type e)
 unfold bI;rw[e,CB]
theorem bZ(e:h.get? a=ac o)(c:bI o=yz:=by rfl):∀ o,h.get? a=ac o->bI o=yz:=λf b=>by
 rw[e] at b;cases b;exact c
theorem fL{m:Str->yK yE}(x:h.Ns a m):∀ o,h.get? a=ac o->bI o=yz:=
 let ⟨_,_,_,e,hd,_⟩:=x;bZ e (cG (by rw[hd];nofun))
theorem jD{v:yK yE}(x:h.IsCell a v):∀ o,h.get? a=ac o->bI o=yz:=
 let ⟨_,e,hd⟩:=x;bZ e (cG (by rw[hd];nofun))
theorem tN{m:Str->yK yE}(x:h.Ns a m):∃ o,gat h a=ac o:=let ⟨_,_,_,e,_⟩:=id x;⟨_,Heap.gt_of e (fL x _ e)⟩
theorem oj{v:yK yE}(x:h.IsCell a v):∃ o,gat h a=ac o:=let ⟨_,e,_⟩:=id x;⟨_,Heap.gt_of e (jD x _ e)⟩
end
inductive D where
 | none
 | bool (b:yH)
 | int (i:Int)
 | str (x:Str)
 | tup (ds:yA D)
 | list (ds:yA D)
 | dict (ks:yA D) (vs:yA D)
 | rng (a b:Int)
 | ptr (a:yN)
noncomputable def big:Nat:=2 ^ 24
noncomputable def xS(P:zH):D->Int
 | .int i=>Df i
 | .str x=>if x.cps.isEmpty=yC then 0 else reduceHash (P.strHash x.cps)
 | _=>0
noncomputable def iv(P:zH):D->Int
 | .tup ds=>reduceHash (Builtin.Tuple.tupleHashOf (ds.map (xS P)))
 | d=>xS P d
noncomputable def D.isCell:D->yH
 | .int _ | .str _=>yC
 | _=>yz
noncomputable def D.isKey:D->yH
 | .int _ | .str _=>yC
 | .tup ds=>ds.all D.isCell
 | _=>yz
noncomputable abbrev dY(vs:zj yE)(n:Nat):Obj:={ cls:=.type "tuple",dict:=none,data:=.seq vs n,slots:=#[] }
noncomputable abbrev fT(vs:zj yE)(n:Nat):Obj:={ cls:=.type "list",dict:=none,data:=.seq vs n,slots:=#[] }
noncomputable abbrev nP(es:zj Ch)(n:Nat):Obj:={ cls:=.type "dict",dict:=none,data:=.dict es n,slots:=#[] }
inductive l8(mkO:zj yE->Nat->Obj)(h:Heap)(H:yN->Prop)(n:Nat)(R:yA yE->Prop):yE->Prop
 | mk {a vs k} (ho:h.get? a=ac (mkO vs k)) (hn:¬ H a) (hl:n<=big) (hr:R vs.toList):l8 mkO h H n R (.ref a)
inductive qv(P:zH)(h:Heap)(H:yN->Prop)(ks:yA D)(R1 R2:yA yE->Prop):yE->Prop
 | mk {a es n} (ho:h.get? a=ac (nP es n)) (hn:¬ H a) (hl:ks.length<=big) (h1:R1 (es.toList.map (·.key))) (h2:R2 (es.toList.map (·.val))) (hh:es.toList.map (·.hash)=ks.map (iv P)) (hk:ks.all D.isKey=yC) (hd:ks.Nodup) (hs:(a == Dg)=yz):qv P h H ks R1 R2 (.ref a)
inductive RRng(h:Heap)(H:yN->Prop)(lo hi:Int):yE->Prop
 | mk {a t u v} (hr:IsRange h a lo hi 1 t u v) (hn:¬ H a) (hl:-big<=lo/\lo<=big/\-big<=hi/\hi<=big):RRng h H lo hi (.ref a)
inductive ym(i:Int):yE->Prop
 | mk (t):ym i (.int i t)
inductive yl(x:Str):yE->Prop
 | mk (t):yl x (.str x t)
inductive dP(p:yE->Prop)(q:yA yE->Prop):yA yE->Prop
 | mk {v vs} (h1:p v) (h2:q vs):dP p q (v::vs)
mutual
noncomputable def Rep(P:zH)(h:Heap)(H:yN->Prop)(v:yE)(d:D):Prop:=match d with
 | .none=>v=.none
 | .bool b=>v=.bool b
 | .int i=>ym i v
 | .str x=>yl x v
 | .tup ds=>l8 dY h H ds.length (λvs=>al P h H vs ds) v
 | .list ds=>l8 fT h H ds.length (λvs=>al P h H vs ds) v
 | .dict ks vs=>qv P h H ks (λl=>al P h H l ks) (λl=>al P h H l vs) v
 | .rng lo c=>RRng h H lo c v
 | .ptr a=>v=.ref a
termination_by structural d
noncomputable def al(P:zH)(h:Heap)(H:yN->Prop)(vs:yA yE)(ds:yA D):Prop:=match ds with
 | []=>vs=[]
 | d::ds=>dP (λv=>Rep P h H v d) (λl=>al P h H l ds) vs
termination_by structural ds
end
section
variable {P:zH} {h h':Heap} {H H':yN->Prop} {v:yE} {d:D} {vs:yA yE} {ds:yA D}
theorem Rep.int(i:Int)(t:Tok):Rep P h H (.int i t) (.int i):=.mk t
theorem Rep.str(x:Str)(t:Tok):Rep P h H (.str x t) (.str x):=.mk t
theorem Rep.tup{a:yN}{vs:zj yE}{n:Nat}(b:h.get? a=ac (dY vs n))(c:¬ H a)(f:ds.length<=big)(i:al P h H vs.toList ds):Rep P h H (.ref a) (.tup ds):=.mk b c f i
theorem al.nil:al P h H [] []:=rfl
theorem al.cons(h1:Rep P h H v d)(a:al P h H vs ds):al P h H (v::vs) (d::ds):=.mk h1 a
noncomputable abbrev nT(h:Heap)(H:yN->Prop)(h':Heap):Prop:=∀ a o,¬ H a->gat h a=ac o->gat h' a=ac o
noncomputable abbrev sI(h:Heap)(H H':yN->Prop):Prop:=∀ a o,gat h a=ac o->H' a->H a
theorem sE{a:yN}{o:Obj}(c:nT h H h')(f:h.get? a=ac o)(i:¬ H a)(b:bI o=yz):h'.get? a=ac o:=Heap.of_gt (c _ _ i (Heap.gt_of f b)) b
theorem oR{a:yN}{o:Obj}(b:sI h H H')(c:h.get? a=ac o)(f:¬ H a)(i:bI o=yz):¬ H' a:=λx=>f (b _ _ (Heap.gt_of c i) x)
theorem l8.mono{mkO:zj yE->Nat->Obj}{n:Nat}{R a:yA yE->Prop}(b:∀ vs k,bI (mkO vs k)=yz)(i:nT h H h')(j:sI h H H')(r:l8 mkO h H n R v)(m:∀ l,R l->a l):l8 mkO h' H' n a v:=
 r.rec λc f o q=>.mk (sE i c f (b _ _)) (oR j c f (b _ _)) o (m _ q)
theorem Rep.mono(b:nT h H h')(c:sI h H H')(r:Rep P h H v d):Rep P h' H' v d:=
 D.rec (motive_1:=λd=>∀ v,Rep P h H v d->Rep P h' H' v d) (motive_2:=λds=>∀ l,al P h H l ds->al P h' H' l ds)
  (λZ r=>r) (λZ Z r=>r) (λZ Z r=>r) (λZ Z r=>r)
  (λZ f Z r=>l8.mono (λZ Z=>QQ) b c r f) (λZ f Z r=>l8.mono (λZ Z=>QQ) b c r f)
  (λZ Z i j Z r=>qv.rec (λq a m h1 n t o u w=>.mk (sE b q a QQ) (oR c q a QQ) m (i _ h1) (j _ n) t o u w) r)
  (λZ Z Z r=>RRng.rec (λs a m=>.mk (sE b s a QQ) (oR c s a QQ) m) r)
  (λZ Z r=>r)
  (λZ r=>r) (λZ Z i j Z r=>dP.rec (λh1 n=>.mk (i _ h1) (j _ n)) r) d v r
theorem al.mono(a:nT h H h')(b:sI h H H')(r:al P h H vs ds):al P h' H' vs ds:=
 List.rec (motive:=λds=>∀ l,al P h H l ds->al P h' H' l ds) (λZ r=>r) (λZ Z c Z r=>dP.rec (λh1 f=>.mk (Rep.mono a b h1) (c _ f)) r) ds vs r
theorem Rep.keeps(b:Rep P h H v d)(c:KH h h'):Rep P h' H v d:=b.mono (λa o Z e=>c a o e) λZ Z Z x=>x
theorem al.keeps(b:al P h H vs ds)(c:KH h h'):al P h' H vs ds:=b.mono (λa o Z e=>c a o e) λZ Z Z x=>x
theorem Rep.sub(b:Rep P h H v d)(c:∀ a,H' a->H a):Rep P h H' v d:=b.mono (λZ Z Z e=>e) λa Z Z x=>c a x
theorem al.length(r:al P h H vs ds):vs.length=ds.length:=
 List.rec (motive:=λds=>∀ l,al P h H l ds->l.length=ds.length) (λZ r=>y6 CZ r) (λZ Z a Z r=>dP.rec (λZ b=>y6 EA (a _ b)) r) ds vs r
theorem al.size{vs:zj yE}(r:al P h H vs.toList ds):vs.size=ds.length:=r.length
theorem al.append{ws:yA yE}{es:yA D}(r:al P h H vs ds)(k:al P h H ws es):al P h H (vs++ws) (ds++es):=
 List.rec (motive:=λds=>∀ l,al P h H l ds->al P h H (l++ws) (ds++es)) (λl r=>(show l=[] from r)▸k) (λZ Z a Z r=>dP.rec (λh1 b=>.mk h1 (a _ b)) r) ds vs r
theorem al.get(i:Nat)(r:al P h H vs ds)(e:ds[i]?=ac d):∃ v,vs[i]?=ac v/\Rep P h H v d:=
 List.rec (motive:=λds=>∀ l i,al P h H l ds->ds[i]?=ac d->∃ v,l[i]?=ac v/\Rep P h H v d) (λZ Z Z e=>by rw[Dm] at e;cases e)
  (λZ Z a Z i r=>dP.rec (λh1 b=>Nat.rec (λe=>⟨_,QQ,yJ e▸h1⟩) (λi Z e=>a _ i b e) i) r) ds vs i r e
theorem al.drop(i:Nat)(r:al P h H vs ds):al P h H (vs.drop i) (ds.drop i):=
 List.rec (motive:=λds=>∀ l i,al P h H l ds->al P h H (l.drop i) (ds.drop i)) (λl i r=>by rw[show l=[] from r,List.drop_nil,List.drop_nil];rfl)
  (λZ Z b Z i r=>dP.rec (λh1 a=>Nat.rec (.mk h1 a) (λi Z=>b _ i a) i) r) ds vs i r
theorem al.take(i:Nat)(r:al P h H vs ds):al P h H (vs.take i) (ds.take i):=
 List.rec (motive:=λds=>∀ l i,al P h H l ds->al P h H (l.take i) (ds.take i)) (λl i r=>by rw[show l=[] from r,Eg,Eg];rfl)
  (λZ Z a Z i r=>dP.rec (λh1 b=>Nat.rec QQ (λi Z=>.mk h1 (a _ i b)) i) r) ds vs i r
end
noncomputable def D.scalar:D->yH
 | .none | .bool _ | .int _ | .str _=>yC
 | _=>yz
theorem Rep.scalar{P:zH}{h h':Heap}{H H':yN->Prop}{v:yE}{d:D}(a:Rep P h H v d)(b:d.scalar=yC):Rep P h' H' v d:=
 D.casesOn (motive_1:=λd=>d.scalar=yC->Rep P h H v d->Rep P h' H' v d) d (λZ r=>r) (λZ Z r=>r) (λZ Z r=>r) (λZ Z r=>r) (λZ h=>nomatch h) (λZ h=>nomatch h) (λZ Z h=>nomatch h) (λZ Z h=>nomatch h)
  (λZ h=>nomatch h)
  b a
theorem vk{H:yN->Prop}{a b:yN}(c:¬ H a)(e:Value.ref a=.ref b):¬ H b:=Value.ref.inj e▸c
theorem l8.off{mkO:zj yE->Nat->Obj}{h:Heap}{H:yN->Prop}{n:Nat}{R:yA yE->Prop}{v:yE}{b:yN}(r:l8 mkO h H n R v):v=.ref b->¬ H b:=r.rec λZ a Z Z e=>vk a e
theorem dR{a b:yF}(h:yB a=yB b):a=b:=by
 rw[Str.ofString_eq_toList,Str.ofString_eq_toList] at h;have h1:a.toList.map Char.toNat=b.toList.map Char.toNat:=by simpa using h
 have c:a.toList=b.toList:=by
  generalize a.toList=l at h1;generalize b.toList=m at h1
  induction l generalizing m with
  | nil=>cases m <;> simp_all
  | cons x l f=>
   cases m with
   | nil=>simp at h1
   | cons y m=>
    simp only[y8,Ec.injEq] at h1;have:x=y:=by
     have:=h1.1;exact Char.toNat_inj.mp this
    rw[this,f _ h1.2]
 exact String.toList_inj.mp c
end Mine
namespace Mine
open PySem PySem.SeqAt
noncomputable abbrev CK:=Int ⊕ Str
noncomputable def bx:CK->D
 | .inl i=>.int i
 | .inr x=>.str x
noncomputable def CK.is:CK->yE->yH
 | .inl i,v=>Value.isInt i v
 | .inr x,v=>Value.isStrOf x v
theorem CK.is_inl{i:Int}{v:yE}(h:CK.is (.inl i) v=yC):∃ t,v=.int i t:=Value.isInt_shape h
theorem CK.is_inr{x:Str}{v:yE}(h:CK.is (.inr x) v=yC):∃ t,v=.str x t:=Value.isStrOf_shape h
theorem CK.cases{C:CK->yE->Prop}{k:CK}{v:yE}(h:CK.is k v=yC)(hi:∀ i t,C (.inl i) (.int i t))(a:∀ x t,C (.inr x) (.str x t)):C k v:=
 match k,h with
 | .inl _,h=>(CK.is_inl h).elim λt e=>e▸hi _ t
 | .inr _,h=>(CK.is_inr h).elim λt e=>e▸a _ t
theorem CK.inj{v:yE}{a b:CK}(c:CK.is a v=yC)(f:CK.is b v=yC):a=b:=by
 cases a <;> cases b
 ·obtain⟨t,rfl⟩:=CK.is_inl c
  obtain⟨u,e⟩:=CK.is_inl f;cases e;rfl
 ·obtain⟨t,rfl⟩:=CK.is_inl c
  obtain⟨u,e⟩:=CK.is_inr f;cases e
 ·obtain⟨t,rfl⟩:=CK.is_inr c
  obtain⟨u,e⟩:=CK.is_inl f;cases e
 ·obtain⟨t,rfl⟩:=CK.is_inr c
  obtain⟨u,e⟩:=CK.is_inr f;cases e;rfl
theorem pP(i j:Int):decide ((Sum.inl i:CK)=.inl j)=decide (i=j):=decide_eq_decide.mpr ⟨Sum.inl.inj,y6 _⟩
theorem pO(i j:Str):decide ((Sum.inr i:CK)=.inr j)=decide (i=j):=decide_eq_decide.mpr ⟨Sum.inr.inj,y6 _⟩
noncomputable def cI(E3:zh)(w:zq):KeyKind E3 w CK where
 is:=CK.is
 hash:=λk=>iv w.params (bx k)
 inj:=λv a b f m=>CK.inj f m
 byValue:=λk v h=>CK.cases (C:=λZ v=>carriedByValue v=yC) h (λZ Z=>QQ) λZ Z=>QQ
 pyHash:=λ{A E s k v Q} c=>CK.cases (C:=λk v=>Q (iv w.params (bx k)) { s with toks:=s.toks+1 }->wpAny (yR E3 w) A (pyHash v) Q E s) c (λZ Z h=>wpAny_pyHash_int h) λZ Z h=>wpAny_pyHash_str h
 eqBool:=λ{A E s a b u v Q} n c=>CK.cases (C:=λa u=>Q (decide (a=b)) s->wpAny (yR E3 w) A (PySem.eqBool u v) Q E s) n
  (λi t=>CK.cases (C:=λb v=>Q (decide (.inl i=b)) s->wpAny (yR E3 w) A (PySem.eqBool (.int i t) v) Q E s) c (λj Z h=>wpAny_eqBool_int (show Q (decide (i=j)) s from pP i j▸h)) λZ Z h=>EqAt.int_str _ _ _ _ E3 w E Q h)
  λx t=>CK.cases (C:=λb v=>Q (decide (.inr x=b)) s->wpAny (yR E3 w) A (PySem.eqBool (.str x t) v) Q E s) c (λZ Z h=>EqAt.str_int _ _ _ _ E3 w E Q h) λy Z h=>wpAny_eqBool_str (show Q (decide (x=y)) s from pO x y▸h)
 «strs»:=λk x t v h=>by
  cases k
  ·obtain⟨u,e⟩:=CK.is_inl h;cases e
  ·exact (strKind E3 w).strs _ x t v h
section
variable {h:Heap}{d:D}
theorem oS{a b:CK}(h:bx a=bx b):a=b:=by
 cases a <;> cases b <;> cases h <;> rfl
theorem gL(h:d.isCell=yC):∃ k,d=bx k:=
 D.casesOn (motive_1:=λd=>d.isCell=yC->∃ k,d=bx k) d (λh=>nomatch h) (λZ h=>nomatch h) (λi Z=>⟨.inl i,QQ⟩) (λx Z=>⟨.inr x,QQ⟩) (λZ h=>nomatch h) (λZ h=>nomatch h) (λZ Z h=>nomatch h) (λZ Z h=>nomatch h)
  (λZ h=>nomatch h)
  h
theorem pU{ks:yA D}(h:ks.all D.isCell=yC):∃ a:yA CK,ks=a.map bx:=by
 induction ks with
 | nil=>exact⟨[],QQ⟩
 | cons k ks b=>
  have h:=zr.mp (show (k.isCell&&ks.all D.isCell)=yC from h);exact (gL h.1).elim λc e=>(b h.2).elim λa f=>⟨c::a,e▸f▸rfl⟩
theorem e8(i:Int)(t:Tok):Value.isInt i (.int i t)=yC:=Af QQ
theorem isStr_self(x:Str)(t:Tok):Value.isStrOf x (.str x t)=yC:=by simp[Value.isStrOf]
theorem mq{P:zH}{H:yN->Prop}{v:yE}{k:CK}(r:Rep P h H v (bx k)):CK.is k v=yC:=
 match k,r with
 | .inl i,r=>ym.rec (motive:=λv Z=>CK.is (.inl i) v=yC) (e8 i) r
 | .inr x,r=>yl.rec (motive:=λv Z=>CK.is (.inr x) v=yC) (isStr_self x) r
theorem yb{P:zH}{H:yN->Prop}{v:yE}{k:CK}(r:CK.is k v=yC):Rep P h H v (bx k):=CK.cases (C:=λk v=>Rep P h H v (bx k)) r (λZ t=>.int _ t) λZ t=>.str _ t
theorem al.inv{P:zH}{H:yN->Prop}{v:yE}{vs:yA yE}{ds:yA D}(r:al P h H (v::vs) (d::ds)):Rep P h H v d/\al P h H vs ds:=by
 cases r with
 | mk h1 a=>exact⟨h1,a⟩
theorem al.inv_nil{P:zH}{H:yN->Prop}{ds:yA D}{C:Prop}(r:al P h H [] (d::ds)):C:=by cases r
theorem pairs_of{E3:zh}{w:zq}{H:yN->Prop}{es:yA Ch}{cs:yA CK}(r:al w.params h H (es.map (·.key)) (cs.map bx)):Pairs (cI E3 w) es (cs.zip (es.map (·.val))):=by
 induction cs generalizing es with
 | nil=>
  cases es with
  | nil=>exact .nil
  | cons _ _=>exact nomatch (show _::_=[] from r)
 | cons c cs a=>
  cases es with
  | nil=>exact r.inv_nil
  | cons e es=>exact .cons (mq r.inv.1) QQ (a r.inv.2)
theorem of_pairs{E3:zh}{w:zq}{H:yN->Prop}{es:yA Ch}{a:yA (CK×yE)}(c:Pairs (cI E3 w) es a):al w.params h H (es.map (·.key)) (a.map λp=>bx p.1)/\es.map (·.val)=a.map (·.2):=
 c.rec ⟨QQ,QQ⟩ λh1 f Z b=>⟨.mk (yb h1) b.1,congr (y6 Ec f) b.2⟩
theorem nV{α c:Type}{a:yA α}{b:yA c}(h:a.length=b.length):(a.zip b).map (·.1)=a:=List.map_fst_zip (y5 h)
theorem zip_snd{α c:Type}{a:yA α}{b:yA c}(h:a.length=b.length):(a.zip b).map (·.2)=b:=List.map_snd_zip (y5 h.symm)
theorem pN{E3:zh}{w:zq}{H:yN->Prop}{a:yN}{es:zj Ch}{n:Nat}{cs:yA CK}(m:h.get? a=ac (nP es n))(b:al w.params h H (es.toList.map (·.key)) (cs.map bx))
  (o:es.toList.map (·.hash)=(cs.map bx).map (iv w.params)) (q:(cs.map bx).Nodup):h.DictOf (cI E3 w) a (cs.zip (es.toList.map (·.val))):=by
 have f:cs.length=(es.toList.map (·.val)).length:=by have:=b.length;simp at this ⊢;exact om43 this
 refine⟨_,es,n,m,⟨QQ,QQ,QQ⟩,QQ,?_,pairs_of b,?_⟩
 ·intro e s
  obtain⟨i,c,rfl⟩:=List.mem_iff_getElem.mp (CJ.mpr s);have j:i<cs.length:=by rw[f];simpa using c
  refine⟨cs[i],?_,?_⟩
  ·obtain⟨v,h1,t⟩:=b.get i (d:=bx cs[i]) (by simp[j])
   have:v=es.toList[i].key:=by simpa [yP c] using h1.symm
   exact mq (this▸t)
  ·have:=y6 (λl=>l[i]?) o
   show _=iv w.params (bx cs[i])
   simpa [yP c,j] using this
 ·rw[nV f]
  exact (AP.mp q).imp λh e=>h (by rw[e])
theorem rep_dictOf{E3:zh}{w:zq}{H:yN->Prop}{a:yN}{f:yA (CK×yE)}(q:h.DictOf (cI E3 w) a f) :
  ∃ es n,h.get? a=ac (nP es n)/\al w.params h H (es.toList.map (·.key)) (f.map λp=>bx p.1)/\es.toList.map (·.val)=f.map (·.2)/\es.toList.map (·.hash)=(f.map λp=>bx p.1).map (iv w.params) /\
   (f.map λp=>bx p.1).all D.isKey=yC/\(f.map λp=>bx p.1).Nodup:=by
 obtain⟨o,es,ep,y,⟨c1,c2,c3⟩,i,j,m,z⟩:=q;obtain⟨A,B⟩:=of_pairs (h:=h) (H:=H) m;have s:o=nP es ep:=by obtain⟨a,b,c,d⟩:=o;dsimp only at c1 c2 c3 i;subst c1 c2 c3 i;rfl
 refine⟨es,ep,s▸y,A,B,?_,?_,?_⟩
 ·have t:∀ (l:yA Ch) (f:yA (CK×yE)),(∀ e∈l,∃ k,(cI E3 w).is k e.key=yC/\e.hash=(cI E3 w).hash k)->Pairs (cI E3 w) l f->l.map (·.hash)=(f.map λp=>bx p.1).map (iv w.params):=by
   intro l f j m
   induction m with
   | nil=>rfl
   | cons h1 G I C=>
    obtain⟨k,E,q2⟩:=j _ (zv);have e:=(cI E3 w).inj _ _ _ E h1;rw[e] at q2;rw[y8,y8,y8,C λe u=>j e (zX _ u),q2]
    rfl
  exact t _ _ (λe u=>j e (CJ.mp u)) m
 ·rw[zk]
  intro d q;obtain⟨p,_,rfl⟩:=zn.mp q;cases p.1 <;> rfl
 ·have:(f.map λp=>bx p.1)=(f.map (·.1)).map bx:=by simp
  rw[this];exact AP.mpr (z.imp λh e=>h (oS e))
end
noncomputable def bv(a b:D):yH:=match a with
 | .int i=>(match b with | .int j=>i == j | _=>yz)
 | .str x=>(match b with | .str y=>x == y | _=>yz)
 | _=>yz
noncomputable def aA:yA D->yA D->yH
 | [],[]=>yC
 | a::r,b::r'=>bv a b&&aA r r'
 | _,_=>yz
noncomputable def aN(a b:D):yH:=match a with
 | .tup x=>(match b with | .tup y=>aA x y | _=>yz)
 | a=>bv a b
noncomputable def nQ:yA D->yA D->D->yK D
 | k::ks,v::vs,x=>if aN k x then ac v else nQ ks vs x
 | _,_,_=>none
noncomputable def dG:yA D->yA D->D->D->yA D×yA D
 | k'::ks,a::vs,k,v=>if aN k' k then (k'::ks,v::vs) else (k'::(dG ks vs k v).1,a::(dG ks vs k v).2)
 | _,_,k,v=>([k],[v])
theorem rm(a b:CK):bv (bx a) (bx b)=decide (a=b):=
 match a,b with
 | .inl i,.inl j=>(pP i j).symm
 | .inl _,.inr _=>rfl
 | .inr _,.inl _=>rfl
 | .inr i,.inr j=>(pO i j).symm
theorem ph(a b:CK):aN (bx a) (bx b)=decide (a=b):=
 (match a with
 | .inl _=>rfl
 | .inr _=>rfl:aN (bx a) (bx b)=bv (bx a) (bx b)).trans (rm a b)
theorem oo(k v:D)(ks vs:yA D)(x:D):nQ (k::ks) (v::vs) x=if aN k x then ac v else nQ ks vs x:=rfl
theorem lw(c k:CK)(v:yE)(l:yA (CK×yE)):C0 ((c,v)::l) k=if c=k then ac v else C0 l k:=by
 unfold C0
 by_cases h:c=k
 ·rw[yT h,List.find?_cons_of_pos (by simpa using h)];rfl
 ·rw[yV h,List.find?_cons_of_neg (by simpa using h)]
theorem dget_valueAt{P:zH}{h:Heap}{H:yN->Prop}{k:CK}{d:D}{cs:yA CK}{vals:yA yE}{vs:yA D}(r:al P h H vals vs)(e:nQ (cs.map bx) vs (bx k)=ac d):∃ v,C0 (cs.zip vals) k=ac v/\Rep P h H v d:=by
 induction cs generalizing vals vs with
 | nil=>cases e
 | cons c cs b=>
  cases vs with
  | nil=>cases e
  | cons j vs=>
   cases r with
   | mk f i=>
    rw[y8,oo,ph] at e;rw[Ba,lw]
    by_cases a:c=k
    ·rw[yT (Af a)] at e
     rw[yT a];exact⟨_,QQ,yJ e▸f⟩
    ·rw[yV (by simpa using a)] at e
     rw[yV a];exact b i e
theorem any_valueAt{k:CK}{cs:yA CK}{vals:yA yE}(e:cs.length=vals.length):(C0 (cs.zip vals) k).isSome=(cs.map bx).any λx=>aN x (bx k):=by
 induction cs generalizing vals with
 | nil=>rfl
 | cons c cs b=>
  cases vals with
  | nil=>cases e
  | cons v vals=>
   rw[Ba,lw,y8,Ax,ph,<- b (Am e)]
   by_cases a:c=k
   ·rw[yT a,Af a];rfl
   ·rw[yV a,Ad a];rfl
theorem om(a b:D)(ks vs:yA D)(k v:D):dG (a::ks) (b::vs) k v=if aN a k then (a::ks,v::vs) else (a::(dG ks vs k v).1,b::(dG ks vs k v).2):=rfl
theorem stored_dput{P:zH}{h:Heap}{H:yN->Prop}{k:CK}{v:yE}{d:D}(q:Rep P h H v d){cs:yA CK}{vals:yA yE}{vs:yA D}(e:cs.length=vals.length)(s:cs.Nodup)(a:al P h H vals vs) :
  ((stored (cs.zip vals) k v).map λp=>bx p.1)=(dG (cs.map bx) vs (bx k) d).1/\al P h H ((stored (cs.zip vals) k v).map (·.2)) (dG (cs.map bx) vs (bx k) d).2:=by
 induction cs generalizing vals vs with
 | nil=>exact⟨QQ,.cons q QQ⟩
 | cons c cs i=>
  cases vs with
  | nil=>rw[show vals=[] from a] at e;cases e
  | cons y vs=>
   cases a with
   | @mk u vals t a=>
    have j:cs.length=vals.length:=Am e;have b:=AW.mp s;rw[Ba,y8,om,ph]
    by_cases m:c=k
    ·subst m
     have o:stored ((c,u)::cs.zip vals) c v=(c,v)::cs.zip vals:=by
      unfold stored;rw[yT (by simp),y8,yT rfl,map_store_of_not_mem _ _ _ (by rw[nV j];exact b.1)]
     rw[o,yT (Af rfl)];refine⟨y6 (bx c::·) ?_,.cons q (show al P h H ((cs.zip vals).map (·.2)) vs from (zip_snd j).symm▸a)⟩;have:(cs.zip vals).map (λp=>bx p.1)=((cs.zip vals).map (·.1)).map bx:=(zV (f:=λ(p:CK×yE)=>p.1) (g:=bx)).symm
     rw[this,nV j]
    ·have o:stored ((c,u)::cs.zip vals) k v=(c,u)::stored (cs.zip vals) k v:=by
      unfold stored;rw[Ax,Ad (show ¬ (c,u).1=k from m),Eh]
      by_cases n:(cs.zip vals).any (λw=>decide (w.1=k))=yC
      ·rw[yT n,yT n,y8,yV m]
      ·rw[yV n,yV n];rfl
     have i:=i j b.2 a;rw[o,yV (by simpa using m)]
     exact⟨y6 (bx c::·) i.1,.cons t i.2⟩
noncomputable def D.isTK:D->yH
 | .tup ds=>ds.all D.isCell
 | _=>yz
noncomputable def eV(k:yA CK):D:=.tup (k.map bx)
theorem sL{d:D}(h:d.isTK=yC):∃ k,d=eV k:=
 D.casesOn (motive_1:=λd=>d.isTK=yC->∃ k,d=eV k) d (λh=>nomatch h) (λZ h=>nomatch h) (λZ h=>nomatch h) (λZ h=>nomatch h) (λZ h=>(pU h).elim λa e=>⟨a,e▸rfl⟩) (λZ h=>nomatch h) (λZ Z h=>nomatch h) (λZ Z h=>nomatch h)
  (λZ h=>nomatch h)
  h
theorem uv:∀ {ks:yA D},ks.all D.isTK=yC->∃ a:yA (yA CK),ks=a.map eV
 | [],_=>⟨[],QQ⟩
 | k::ks,h=>let h:=zr.mp (show (k.isTK&&ks.all D.isTK)=yC from h);(sL h.1).elim λc e=>(uv h.2).elim λa b=>⟨c::a,e▸b▸rfl⟩
theorem ofTK_inj{a b:yA CK}(h:eV a=eV b):a=b:=(List.map_inj_right λZ Z=>oS).mp (D.tup.inj h)
theorem pW:∀ (a b:yA CK),aA (a.map bx) (b.map bx)=decide (a=b)
 | [],[]=>rfl
 | [],_::_=>rfl
 | _::_,[]=>rfl
 | x::a,y::b=>by
  show (bv (bx x) (bx y)&&aA (a.map bx) (b.map bx))=_;rw[rm,pW a b,<- Bool.decide_and];exact decide_eq_decide.mpr (by rw[Ec.injEq])
theorem lQ(a b:yA CK):aN (eV a) (eV b)=decide (a=b):=pW a b
noncomputable abbrev TKd(E3:zh)(w:zq):=tupleKind (cI E3 w)
section
variable {E3:zh} {w:zq} {h:Heap} {H:yN->Prop}
theorem items_of{vs:yA yE}{ks:yA CK}(r:al w.params h H vs (ks.map bx)):ItemsAre (cI E3 w) ks vs:=by
 induction ks generalizing vs with
 | nil=>rw[show vs=[] from r];exact .nil
 | cons k ks a=>
  cases r with
  | mk b r2=>exact .cons (mq b) (a r2)
theorem rN{v:yE}{k:yA CK}(r:Rep w.params h H v (eV k)):∃ a,v=.ref a/\(TKd E3 w).is h k a:=
 l8.rec (motive:=λv Z=>∃ a,v=.ref a/\(TKd E3 w).is h k a) (λb Z Z c=>⟨_,QQ,_,_,_,b,QQ,QQ,items_of c⟩) r
theorem wl(k:yA CK):(TKd E3 w).hash k=iv w.params (eV k):=by
 show reduceHash (Builtin.Tuple.tupleHashOf (k.map λc=>iv w.params (bx c)))=reduceHash (Builtin.Tuple.tupleHashOf ((k.map bx).map (xS w.params)))
 rw[zV]
 congr 2
 refine AH λc Z=>?_
 cases c <;> rfl
noncomputable abbrev kD(x:yA CK×yN×yE):D:=eV x.1
theorem entries_tk{es:yA Ch}{cs:yA (yA CK)}(r:al w.params h H (es.map (·.key)) (cs.map eV))(b:es.map (·.hash)=(cs.map eV).map (iv w.params)) :
  ∃ xs:yA (yA CK×yN×yE),es=xs.map (entryOfKey (TKd E3 w))/\(∀ x∈xs,(TKd E3 w).is h x.1 x.2.1)/\xs.map (·.1)=cs:=by
 induction cs generalizing es with
 | nil=>
  cases es with
  | nil=>exact⟨[],QQ,(λZ h=>nomatch h),QQ⟩
  | cons _ _=>exact nomatch (show _::_=[] from r)
 | cons c cs f=>
  cases es with
  | nil=>exact r.inv_nil
  | cons e es=>
   obtain⟨i,r2⟩:=r.inv;injection b with q1 q2
   obtain⟨a,j,m⟩:=rN (E3:=E3) i;obtain⟨xs,e1,n,o⟩:=f r2 q2;refine⟨(c,a,e.val)::xs,?_,λx s=>(yX.mp s).elim (λq=>q▸m) (n x),by rw[y8,o]⟩
   rw[y8,<- e1]
   congr 1
   obtain⟨t,u,y⟩:=e;show _=DictEntry.mk _ _ _;rw[wl,<- q1,<- j]
theorem mV{a:yN}{es:zj Ch}{n:Nat}{cs:yA (yA CK)}(c:h.get? a=ac (nP es n))(f:al w.params h H (es.toList.map (·.key)) (cs.map eV))
  (i:es.toList.map (·.hash)=(cs.map eV).map (iv w.params)) (j:(cs.map eV).Nodup) :
  ∃ xs:yA (yA CK×yN×yE),h.DictOfH (TKd E3 w) a xs/\xs.map (·.1)=cs/\es.toList.map (·.key)=xs.map (λx=>Value.ref x.2.1)/\es.toList.map (·.val)=xs.map (·.2.2):=by
 obtain⟨xs,e1,m,b⟩:=entries_tk (E3:=E3) f i;refine⟨xs,⟨_,es,n,c,⟨QQ,QQ,QQ⟩,QQ,e1,m,?_⟩,b,?_,?_⟩
 ·rw[b];exact (AP.mp j).imp λh e=>h (by rw[e])
 ·rw[e1,zV];rfl
 ·rw[e1,zV];rfl
theorem lj(c:yA CK)(b:yN)(u:yE)(xs:yA (yA CK×yN×yE))(k:yA CK):atKey ((c,b,u)::xs) k=if c=k then ac (b,u) else atKey xs k:=by
 unfold atKey
 by_cases a:c=k <;> simp[a]
theorem rq{k:yA CK}:∀ (xs:yA (yA CK×yN×yE)),(atKey xs k).isSome=(xs.map kD).any λx=>aN x (eV k)
 | []=>rfl
 | (c,b,u)::xs=>by
  rw[lj,y8,Ax,lQ,<- rq xs]
  by_cases a:c=k <;> simp[a]
theorem dget_atKey{P:zH}{k:yA CK}{d:D}{xs:yA (yA CK×yN×yE)}{vs:yA D}(r:al P h H (xs.map (·.2.2)) vs)(e:nQ (xs.map kD) vs (eV k)=ac d):∃ p,atKey xs k=ac p/\Rep P h H p.2 d:=by
 induction xs generalizing vs with
 | nil=>cases e
 | cons x xs f=>
  obtain⟨c,b,u⟩:=x;cases vs with
  | nil=>cases e
  | cons m vs=>
   obtain⟨i,r2⟩:=r.inv;rw[y8,oo,lQ] at e;rw[lj]
   by_cases a:c=k
   ·rw[yT (Af a)] at e
    exact⟨_,yT a,yJ e▸i⟩
   ·rw[yV (by simpa using a)] at e
    obtain⟨p,h1,j⟩:=f r2 e;exact⟨p,(yV a).trans h1,j⟩
theorem storedH_cons(c:yA CK)(b:yN)(u:yE)(xs:yA (yA CK×yN×yE))(k:yA CK)(a:yN)(v:yE)(h:c ∉ xs.map (·.1)) :
  storedH ((c,b,u)::xs) k a v=if c=k then (c,b,v)::xs else (c,b,u)::storedH xs k a v:=by
 unfold storedH;rw[lj]
 by_cases f:c=k
 ·subst f
  simp only[D5,Option.isSome_some,y8,putAt];rw[map_putAt_of_not_mem xs c v h]
 ·simp only[f,Co,y8,putAt]
  split <;> rfl
theorem storedH_dput{P:zH}{k:yA CK}{a:yN}{v:yE}{d:D}(q:Rep P h H (.ref a) (eV k))(n:Rep P h H v d){xs:yA (yA CK×yN×yE)}{vs:yA D}(s:(xs.map (·.1)).Nodup)
  (t:al P h H (xs.map λx=>Value.ref x.2.1) (xs.map kD)) (r:al P h H (xs.map (·.2.2)) vs) :
  (storedH xs k a v).map kD=(dG (xs.map kD) vs (eV k) d).1/\al P h H ((storedH xs k a v).map λx=>Value.ref x.2.1) (dG (xs.map kD) vs (eV k) d).1/\al P h H ((storedH xs k a v).map (·.2.2)) (dG (xs.map kD) vs (eV k) d).2:=by
 induction xs generalizing vs with
 | nil=>exact⟨QQ,.cons q .nil,.cons n .nil⟩
 | cons x xs w=>
  obtain⟨c,b,u⟩:=x;cases vs with
  | nil=>exact nomatch (show _::_=[] from r)
  | cons z vs=>
   obtain⟨j,m⟩:=AW.mp s;obtain⟨y,r2⟩:=r.inv;obtain⟨o,k2⟩:=t.inv;rw[storedH_cons _ _ _ _ _ _ _ j,y8,om,lQ]
   by_cases f:c=k
   ·rw[yT f,yT (Af f)]
    exact⟨QQ,.cons o k2,.cons n r2⟩
   ·rw[yV f,yV (by simpa using f)]
    have i:=w m k2 r2;exact⟨y6 (kD (c,b,u)::·) i.1,.cons o i.2.1,.cons y i.2.2⟩
end
end Mine
namespace Mine
open PySem
inductive ME where
 | u (x:yF)
 | glob (x:yF)
 | int (i:Int)
 | str (s:yF)
 | bool (b:yH)
 | none
 | bin (op:AM) (a b:ME)
 | cmp (op:CL) (a b:ME)
 | bop (op:CW) (es:yA ME)
 | not (a:ME)
 | neg (a:ME)
 | tup (es:yA ME)
 | lst (es:yA ME)
 | sub (a i:ME)
 | sl (a lo hi:ME)
 | dct (ks vs:yA ME)
 | comp (elt:ME) (x:yF) (E5:ME) (cs:yA ME)
 | call (f:yF) (args:yA ME)
 | isi (a:ME) (T:yF)
 | blt (f:yF) (args:yA ME)
 | lcp (a:ME)
 | sset (a:ME)
 | srt (a:ME) (f x p:yF) (rev:yH)
 | inn (a:ME)
inductive MS where
 | x0 (x:yF) (e:ME)
 | append (x:yF) (e:ME)
 | setk (x:yF) (k e:ME)
 | ite (c:ME) (t f:yA MS)
 | for_ (x:yF) (E5:ME) (body:yA MS)
 | ret (e:ME)
 | bad
 | grp
 | forr (x:yF) (E5:ME) (body:yA MS)
 | expr (e:ME)
 | while_ (c:ME) (body:yA MS)
noncomputable def D.isList:D->yH
 | .list _=>yC
 | _=>yz
noncomputable def onI{α:Type}(d:D)(f:Int->yK α):yK α:=match d with | .int i=>f i | _=>none
noncomputable def onS{α:Type}(d:D)(f:Str->yK α):yK α:=match d with | .str i=>f i | _=>none
noncomputable def onB{α:Type}(d:D)(f:yH->yK α):yK α:=match d with | .bool i=>f i | _=>none
noncomputable def onT{α:Type}(d:D)(f:yA D->yK α):yK α:=match d with | .tup i=>f i | _=>none
noncomputable def onL{α:Type}(d:D)(f:yA D->yK α):yK α:=match d with | .list i=>f i | _=>none
noncomputable def onC{α:Type}(d:D)(f:Int->yK α)(g:Str->yK α):yK α:=match d with | .int i=>f i | .str x=>g x | _=>none
noncomputable def D.items:D->yK (yA D)
 | .list ds | .tup ds=>ac ds
 | .rng a b=>ac ((zf (b - a).toNat).map λ(i:Nat)=>D.int (a+(i:Int)))
 | .dict ks _=>ac ks
 | _=>Option.none
noncomputable def bU:D->yK yH
 | .bool b=>ac b
 | .none=>ac yz
 | .int i=>ac (i != 0)
 | .list ds | .tup ds=>ac (!ds.isEmpty)
 | _=>none
noncomputable def eqS(a b:D):yK yH:=match a with
 | .bool x=>onB b λy=>ac (x == y)
 | .int x=>onC b (λy=>ac (x == y)) λZ=>ac yz
 | .str x=>onC b (λZ=>ac yz) λy=>ac (x == y)
 | _=>none
noncomputable def jS:yA D->yA D->yK yH
 | [],[]=>ac yC
 | a::r,b::r'=>(eqS a b).bind λx=>(jS r r').map λy=>x&&y
 | _,_=>ac yz
noncomputable def eqD(a b:D):yK yH:=match a with
 | .list ds=>onL b λes=>if ds.length=es.length then jS ds es else ac yz
 | .tup ds=>onT b λes=>if ds.length=es.length then jS ds es else if es.length=0 then ac yz else none
 | a=>eqS a b
noncomputable def fw:yA D->yA D->yH
 | [],[]=>yC
 | a::r,b::r'=>aN a b&&fw r r'
 | _,_=>yz
noncomputable def eqV(a b:D):yK yH:=match a with
 | .list ds=>onL b λes=>if (ds.all D.isTK&&es.all D.isTK)=yC then ac (fw ds es) else none
 | a=>eqS a b
noncomputable def mU:yA D->yA D->yK yH
 | [],[]=>ac yC
 | a::r,b::r'=>(eqV a b).bind λx=>(mU r r').map λy=>x&&y
 | _,_=>ac yz
noncomputable def eqX(a b:D):yK yH:=match a with
 | .dict ks vs=>(match b with | .dict f c=>if (ks.all D.isCell&&aA ks f&&vs.length == c.length)=yC then mU vs c else none | _=>none)
 | a=>eqD a b
noncomputable def lim:Int:=2 ^ 64
noncomputable def fA:Int:=2 ^ 1000
noncomputable def rH:Int:=10 ^ 100
noncomputable def binI(c:AM)(a b:Int):yK D:=match c with
 | .Add=>ac (.int (a+b))
 | .Sub=>ac (.int (a - b))
 | .Mult=>if (-lim<a/\a<lim)\/(-lim<b/\b<lim) then ac (.int (a * b)) else none
 | .FloorDiv=>if 0<b/\b<lim then ac (.int (a / b)) else none
 | .Mod=>if 0<b then ac (.int (a % b)) else none
 | .Pow=>if -fA<a/\a<fA/\0<=b/\b<=100 then ac (.int (a ^ b.toNat)) else none
 | _=>none
noncomputable def binS(c:AM)(a:Str)(d:D):yK D:=match c with
 | .Add=>onS d λb=>if a.length+b.length<=big then ac (.str (a++b)) else none
 | .Mult=>onI d λn=>if 0<=n/\n<=1000/\a.length<=1000 then ac (.str (Txt.mul a n)) else none
 | _=>none
noncomputable def binL(c:AM)(a:yA D)(d:D):yK D:=match c with
 | .Add=>onL d λb=>if a.length+b.length<=big then ac (.list (a++b)) else none
 | _=>none
noncomputable def binT(c:AM)(a:yA D)(d:D):yK D:=match c with
 | .Add=>onT d λb=>if a.length+b.length<=big then ac (.tup (a++b)) else none
 | _=>none
noncomputable def eF(b:AM)(x y:D):yK D:=match x with
 | .int a=>onI y (binI b a)
 | .str a=>binS b a y
 | .list a=>binL b a y
 | .tup a=>binT b a y
 | _=>none
noncomputable def cmpI(c:CL)(a b:Int):yK D:=match c with
 | .Lt=>ac (.bool (decide (a<b)))
 | .LtE=>ac (.bool (decide (a<=b)))
 | .Gt=>ac (.bool (decide (a > b)))
 | .GtE=>ac (.bool (decide (a ≥ b)))
 | _=>none
noncomputable def ordD(c:CL)(x y:D):yK D:=match x with
 | .int a=>onI y (cmpI c a)
 | .str a=>onS y λb=>(match c with | .Lt=>ac (.bool (decide (a.cps.toList<b.cps.toList))) | _=>none)
 | _=>none
noncomputable def dL(k:D)(ks:yA D):yH:=(k.isCell&&ks.all D.isCell)||(k.isTK&&ks.all D.isTK)
noncomputable def mD(k c:D):yK yH:=match c with
 | .dict ks _=>if dL k ks then ac (ks.any λx=>aN x k) else none
 | .tup ds=>if k.isCell&&ds.all D.isCell then ac (ds.any λx=>bv x k) else none
 | .list ds=>if k.isTK&&ds.all D.isTK then ac (ds.any λx=>aN x k) else none
 | _=>none
noncomputable def ec(op:CL)(a b:D):yK D:=match op with
 | .Eq=>(eqX a b).map .bool
 | .NotEq=>(eqX a b).map λx=>.bool (!x)
 | .In=>(mD a b).map .bool
 | .NotIn=>(mD a b).map λx=>.bool (!x)
 | op=>ordD op a b
noncomputable def idx(k:Int)(n:Nat):yK Nat:=if 0<=k/\k<n then ac k.toNat else if -(n:Int)<=k/\k<0 then ac (k+n).toNat else none
noncomputable def cu(x:Str)(j:Nat):Str:=⟨#[x.cps.getD j 0]⟩
noncomputable def aV(d i:D):yK D:=match d with
 | .list ds=>onI i λk=>(idx k ds.length).bind λj=>ds[j]?
 | .tup ds=>onI i λk=>(idx k ds.length).bind λj=>ds[j]?
 | .str x=>onI i λk=>if 0<=k/\k<x.length/\x.length<=big then ac (.str (cu x k.toNat)) else none
 | .dict ks vs=>if dL i ks then nQ ks vs i else none
 | _=>none
noncomputable def bnd(lo:D)(dflt:Nat):yK Nat:=match lo with
 | .none=>ac dflt
 | .int i=>if 0<=i then ac i.toNat else none
 | _=>none
noncomputable def bndS(lo:D):yK (yK Int):=match lo with
 | .none=>ac none
 | .int i=>ac (ac i)
 | _=>none
noncomputable def slD(d lo hi:D):yK D:=match d with
 | .list ds=>(bnd lo 0).bind λa=>(bnd hi ds.length).map λb=>.list ((ds.take b).drop a)
 | .tup ds=>(bnd lo 0).bind λa=>(bnd hi ds.length).map λb=>.tup ((ds.take b).drop a)
 | .str x=>if x.length<=big then (bndS lo).bind λa=>(bndS hi).map λb=>.str (Txt.slice x a b) else none
 | _=>none
noncomputable def pp(d:D)(T:yF):yK yH:=
 if T="str"\/T="bool"\/T="int"\/T="tuple"\/T="list" then (match d with
  | .str _=>ac (T == "str")
  | .int _=>ac (T == "int")
  | .bool _=>ac (T == "int"||T == "bool")
  | .tup _=>ac (T == "tuple")
  | .list _=>ac (T == "list")
  | _=>none) else none
noncomputable def lenD(d:D):yK D:=match d with
 | .list ds=>ac (.int ds.length)
 | .tup ds=>ac (.int ds.length)
 | .str x=>if x.length<=big then ac (.int x.length) else none
 | _=>none
noncomputable def rngD(a n:Int):yK D:=if (-(big:Int)<=n/\n<=big)/\-(big:Int)<=a/\a<=big then ac (.rng a n) else none
noncomputable def bltI(f:yF)(i:Int):yK D:=
 if f="range" then rngD 0 i else if f="str" then (if -rH<i/\i<rH then ac (.str (yB (toString i))) else none) else none
noncomputable def bltI2(f:yF)(a b:Int):yK D:=
 if f="range" then rngD a b else if f="max" then ac (.int (if b > a then b else a)) else if f="min" then ac (.int (if b<a then b else a)) else none
noncomputable def nK:yA D->yK Int
 | []=>ac 0
 | .int i::r=>(nK r).map (i+·)
 | _=>none
noncomputable def hY(f:yF)(as:yA D):yK D:=match as with
 | [d]=>if f="len" then lenD d else (match d with
  | .list ds=>if f="tuple" then ac (.tup ds) else if f="sum" then (nK ds).map .int else none
  | .int i=>bltI f i
  | .bool b=>if f="int" then ac (.int (if b then 1 else 0)) else none
  | .str x=>if f="str" then ac (.str x) else none
  | _=>none)
 | [a,b]=>onI a λi=>onI b λj=>bltI2 f i j
 | _=>none
noncomputable def uI(d:D):yK (yA D):=match d with
 | .list ds=>ac ds
 | .tup ds=>ac ds
 | .dict ks _=>if ks.all D.isCell then ac ks else none
 | _=>none
noncomputable def pv:yA D->yK (yA Int)
 | []=>ac []
 | .int i::r=>(pv r).map (i::·)
 | _=>none
noncomputable def mL(x:Int):yA Int->yA Int
 | []=>[x]
 | y::l=>if x<y then x::y::l else if x=y then y::l else y::mL x l
noncomputable def cL(ns:yA Int):yA Int:=ns.foldr mL []
noncomputable def oH(d:D):yK D:=match d with
 | .list ds=>if ds.length<63 then (pv ds).map λns=>.list ((cL ns).map .int) else none
 | _=>none
noncomputable def dM:D->yH
 | .str _=>yC
 | _=>yz
noncomputable def aL:D->D->yH
 | .int i,.int j=>decide (i<j)
 | .int _,.str _=>yC
 | .str x,.str y=>decide (x.cps.toList<y.cps.toList)
 | _,_=>yz
noncomputable def eB(ds:yA D)(p:Nat):D:=ds.getD p (.int 0)
noncomputable def cA(lt:Nat->Nat->yH){α:Type}:PySem.W.KasT α->α
 | .ret a=>a
 | .ask i j k=>cA lt (k (lt i j))
noncomputable def kix(ks:yA D):yA Nat:=if ks.length<2 then zf ks.length else (cA (λi j=>aL (eB ks i) (eB ks j)) (PySem.W.kas_sort ks.length)).toList
noncomputable def im{α:Type}(z:α)(rev:yH)(ks:yA D)(l:yA α):yA α:=PySem.W.katRev rev ((kix (PySem.W.katRev rev ks)).map λi=>(PySem.W.katRev rev l).getD i z)
noncomputable def uL(k:D):yK D:=match k with
 | .tup [.bool b,c]=>if c.isCell&&b == dM c then ac c else none
 | _=>none
noncomputable def jk(g:D->yK D):yA D->yK (yA D)
 | []=>ac []
 | d::r=>match g d with
  | some k=>(match uL k with
   | some c=>(jk g r).map (c::·)
   | none=>none)
  | none=>none
noncomputable def srtD(g:D->yK D)(rev:yH)(d:D):yK D:=match d with
 | .list ds=>if ds.length<64 then (jk g ds).map λks=>.list (im .none rev ks ds) else none
 | _=>none
noncomputable def sa(x:Str):Int:=if x=yB "group" then 3 else if x=yB "once" then 1 else 2
noncomputable def innD(d:D):yK D:=onS d λx=>ac (.int (sa x))
noncomputable def bS(f:D->yK (yK D)):yA D->yK (yA D)
 | []=>ac []
 | it::r=>match f it with
  | none=>none
  | some o=>match bS f r with
   | none=>none
   | some ds=>ac (match o with | none=>ds | some d=>d::ds)
structure CF where
 call:yF->yA D->yK (D×yH)
 glob:yF->yK D
noncomputable def gR(cf:CF)(f:yF)(i d:D):yK D:=match aV d i with
 | some c=>(cf.call f [c]).map (·.1)
 | none=>none
mutual
noncomputable def evE(cf:CF)(ρ:yA (yF×D))(m:ME):yK D:=match m with
 | .u x=>ρ.lookup x
 | .glob x=>cf.glob x
 | .int i=>ac (.int i)
 | .str s=>ac (.str (yB s))
 | .bool b=>ac (.bool b)
 | .none=>ac .none
 | .bin h a b=>match evE cf ρ a with
  | some x=>(match evE cf ρ b with | some y=>eF h x y | none=>none)
  | none=>none
 | .cmp h a b=>match evE cf ρ a with
  | some x=>(match evE cf ρ b with | some y=>ec h x y | none=>none)
  | none=>none
 | .bop h es=>gJ cf ρ h es
 | .not a=>match evE cf ρ a with
  | some x=>(bU x).map λt=>.bool (!t)
  | none=>none
 | .neg a=>match evE cf ρ a with
  | some x=>onI x λi=>ac (.int (-i))
  | none=>none
 | .tup es=>match cn cf ρ es with
  | some ds=>if ds.length<=big then ac (.tup ds) else none
  | none=>none
 | .lst es=>match cn cf ρ es with
  | some ds=>if ds.length<=big then ac (.list ds) else none
  | none=>none
 | .dct ks vs=>match cn cf ρ ks with
  | some ds=>(match cn cf ρ vs with
   | some es=>if ds.isEmpty&&es.isEmpty then ac (.dict [] []) else none
   | none=>none)
  | none=>none
 | .sub a i=>match evE cf ρ a with
  | some x=>(match evE cf ρ i with | some y=>aV x y | none=>none)
  | none=>none
 | .sl a lo o=>match evE cf ρ a with
  | some x=>(match evE cf ρ lo with
   | some y=>(match evE cf ρ o with | some z=>slD x y z | none=>none)
   | none=>none)
  | none=>none
 | .comp j x E5 q=>match evE cf ρ E5 with
  | some d=>(match d.items with
   | some EX=>if EX.length<=big then (bS (λn=>match nN cf ((x,n)::ρ) q with
     | some yC=>(match evE cf ((x,n)::ρ) j with | some y=>ac (ac y) | none=>none)
     | some yz=>ac none
     | none=>none) EX).map .list else none
   | none=>none)
  | none=>none
 | .call f c=>match cn cf ρ c with
  | some ds=>(cf.call f ds).map (·.1)
  | none=>none
 | .isi a T=>match evE cf ρ a with
  | some x=>(pp x T).map .bool
  | none=>none
 | .blt f c=>match cn cf ρ c with
  | some ds=>hY f ds
  | none=>none
 | .lcp a=>match evE cf ρ a with
  | some x=>(uI x).map .list
  | none=>none
 | .inn a=>match evE cf ρ a with
  | some x=>innD x
  | none=>none
 | .sset a=>match evE cf ρ a with
  | some x=>oH x
  | none=>none
 | .srt a f _ p rev=>match evE cf ρ a with
  | some x=>(match ρ.lookup p with
   | some i=>srtD (gR cf f i) rev x
   | none=>none)
  | none=>none
termination_by structural m
noncomputable def cn(cf:CF)(ρ:yA (yF×D))(a:yA ME):yK (yA D):=match a with
 | []=>ac []
 | e::r=>match evE cf ρ e with
  | some d=>(match cn cf ρ r with | some ds=>ac (d::ds) | none=>none)
  | none=>none
termination_by structural a
noncomputable def gJ(cf:CF)(ρ:yA (yF×D))(a:CW)(b:yA ME):yK D:=match b with
 | []=>none
 | [e]=>evE cf ρ e
 | e::r=>match evE cf ρ e with
  | some d=>(match bU d with
   | some t=>if t=(match a with | .And=>yz | .Or=>yC) then ac d else gJ cf ρ a r
   | none=>none)
  | none=>none
termination_by structural b
noncomputable def nN(cf:CF)(ρ:yA (yF×D))(a:yA ME):yK yH:=match a with
 | []=>ac yC
 | e::r=>match evE cf ρ e with
  | some d=>(match bU d with
   | some t=>if t then nN cf ρ r else ac yz
   | none=>none)
  | none=>none
termination_by structural a
end
noncomputable def oE{b:Type}(a:yK D)(f:D->yK b):yK b:=match a with
 | some x=>f x
 | none=>none
noncomputable def oEs{b:Type}(a:yK (yA D))(f:yA D->yK b):yK b:=match a with
 | some x=>f x
 | none=>none
noncomputable def oT{b:Type}(a:yK yH)(f:yH->yK b):yK b:=match a with
 | some x=>f x
 | none=>none
theorem bH{b:Type}{a:yK D}{f:D->yK b}{r:b}{C:Prop}(h:oE a f=ac r)(k:∀ x,a=ac x->f x=ac r->C):C:=by
 cases a with
 | none=>cases h
 | some x=>exact k x QQ h
theorem fh{b:Type}{a:yK (yA D)}{f:yA D->yK b}{r:b}{C:Prop}(h:oEs a f=ac r)(k:∀ x,a=ac x->f x=ac r->C):C:=by
 cases a with
 | none=>cases h
 | some x=>exact k x QQ h
theorem uH{b:Type}{a:yK yH}{f:yH->yK b}{r:b}{C:Prop}(h:oT a f=ac r)(k:∀ x,a=ac x->f x=ac r->C):C:=by
 cases a with
 | none=>cases h
 | some x=>exact k x QQ h
mutual
noncomputable def ME.names:ME->yA yF
 | .u x=>[x]
 | .bin _ a b | .cmp _ a b | .sub a b=>a.names++b.names
 | .bop _ es | .tup es | .lst es | .call _ es | .blt _ es=>iQ es
 | .not a | .neg a | .isi a _ | .lcp a=>a.names
 | .sset a=>a.names
 | .inn a=>a.names
 | .srt a _ _ p _=>a.names++[p]
 | .dct ks vs=>iQ ks++iQ vs
 | .sl a lo f=>a.names++lo.names++f.names
 | .comp c x E5 h=>E5.names++(c.names++iQ h).filter (· != x)
 | .glob _ | .int _ | .str _ | .bool _ | .none=>[]
noncomputable def iQ:yA ME->yA yF
 | []=>[]
 | e::r=>e.names++iQ r
end
noncomputable def ME.varOf(e:ME):yK yF:=Cb (e.ctorIdx=0) (λh=>ME.u.elim (motive_1:=λZ=>yK yF) e h ac) λZ=>Option.none
theorem varOf_inv{e:ME}{x:yF}{C:ME->Prop}(h:e.varOf=ac x)(k:C (.u x)):C e:=by
 unfold ME.varOf at h
 by_cases a:e.ctorIdx=0
 ·rw[dif_pos a] at h
  exact ME.u.elim (motive_1:=λe=>∀ a,ME.u.elim (motive_1:=λZ=>yK yF) e a ac=ac x->C e) e a (λy Z h=>yJ h▸k) a h
 ·rw[dif_neg a] at h;cases h
noncomputable abbrev St:=yA (yF×(yH×D))
noncomputable def vis(σ:St):yA (yF×D):=σ.map λp=>(p.1,p.2.2)
noncomputable def ay(σ:St)(x:yF)(v:yH×D):St:=match σ with
 | []=>[(x,v)]
 | (y,w)::r=>if y=x then (y,v)::r else (y,w)::ay r x v
noncomputable def freeze(ns:yA yF)(σ:St):St:=σ.map λp=>(p.1,(p.2.1&&!ns.contains p.1,p.2.2))
noncomputable def settle(d:D)(ns:yA yF)(σ:St):St:=if d.scalar then σ else freeze ns σ
inductive Fl where
 | next
 | ret (fr:yH) (d:D)
noncomputable def frF(a:ME)(d:D):yH:=match a with
 | .lst _ | .comp _ _ _ _ | .dct _ _ | .lcp _=>yC
 | .sset _=>yC
 | .srt _ _ _ _ _=>yC
 | .inn _=>yz
 | .sl _ _ _ | .bin _ _ _=>d.isList
 | .u _ | .glob _ | .int _ | .str _ | .bool _ | .none | .cmp _ _ _ | .bop _ _ | .not _ | .neg _ | .tup _ | .sub _ _ | .call _ _ | .isi _ _ | .blt _ _=>yz
noncomputable def og(b:ME):yK (yF×yA ME):=match b with
 | .call f a=>ac (f,a)
 | _=>none
noncomputable def evF(cf:CF)(ρ:yA (yF×D))(b:ME):yK (D×yH):=match og b with
 | some (f,a)=>(match cn cf ρ a with
  | some ds=>cf.call f ds
  | none=>none)
 | none=>(evE cf ρ b).map λd=>(d,frF b d)
section
variable (cf:CF) (ρ:yA (yF×D))
theorem lX(f:yF)(args:yA ME):evF cf ρ (.call f args)=(match cn cf ρ args with | some ds=>cf.call f ds | none=>none):=rfl
end
noncomputable def cF(f:D->St->yK (Fl×St)):yA D->St->yK (Fl×St)
 | [],σ=>ac (.next,σ)
 | it::r,σ=>match f it σ with
  | some (.next,Fd)=>cF f r Fd
  | x=>x
noncomputable def eX(c:St->yK yH)(f:St->yK (Fl×St)):Nat->St->yK (Fl×St)
 | 0,_=>none
 | n+1,σ=>match c σ with
  | some yC=>(match f σ with
   | some (.next,Fd)=>eX c f n Fd
   | x=>x)
  | some yz=>ac (.next,σ)
  | none=>none
noncomputable def wR:Nat:=1000
noncomputable def gK(cf:CF)(c:ME)(σ:St):yK yH:=match evE cf (vis σ) c with
 | some d=>bU d
 | none=>none
noncomputable def wU(k r:D):yA (D×yA D)->yA (D×yA D)
 | []=>[(k,[r])]
 | q::G=>if aN q.1 k=yC then (q.1,q.2++[r])::G else q::wU k r G
noncomputable def nM(cf:CF)(pl:D):yA D->yA (D×yA D)->yK (yA (D×yA D))
 | [],G=>ac G
 | r::a,G=>match cf.call "cells_at" [r,pl] with
  | some p=>if (p.1.isTK&&!p.2)=yC then nM cf pl a (wU p.1 r G) else none
  | none=>none
noncomputable def isNew:yK (yH×D)->yH
 | some (yC,.dict [] [])=>yC
 | _=>yz
noncomputable def jE:yA yF:=["rows","places","sums"]
noncomputable def xU(σ:St)(G:yA (D×yA D)):St:=ay (σ.filter λp=>jE.contains p.1) "groups" (yz,.dict (G.map (·.1)) (G.map λq=>.list q.2))
noncomputable def xT(cf:CF)(σ:St):yK St:=match σ.lookup "rows" with
 | some (yz,.list a)=>(match σ.lookup "places" with
  | some (yz,pl)=>if isNew (σ.lookup "groups") then (nM cf pl a []).map (xU σ) else none
  | _=>none)
 | _=>none
mutual
noncomputable def exS(cf:CF)(st:MS)(σ:St):yK (Fl×St):=match st,σ with
 | .x0 x e,σ=>match evF cf (vis σ) e with
  | some (d,fr)=>ac (.next,ay (settle d e.names σ) x (fr,d))
  | none=>none
 | .append x e,σ=>match evE cf (vis σ) e with
  | some d=>(match (settle d e.names σ).lookup x with
   | some (yC,.list ds)=>if ds.length<big then ac (.next,ay (settle d e.names σ) x (yC,.list (ds++[d]))) else none
   | _=>none)
  | none=>none
 | .setk x k e,σ=>match evE cf (vis σ) e with
  | some d=>(match evE cf (vis σ) k with
   | some a=>(match (settle a k.names (settle d e.names σ)).lookup x with
    | some (yC,.dict ks vs)=>if dL a ks&&decide (ks.length<big) then ac (.next,ay (settle a k.names (settle d e.names σ)) x (yC,.dict (dG ks vs a d).1 (dG ks vs a d).2)) else none
    | _=>none)
   | none=>none)
  | none=>none
 | .ite c t f,σ=>match evE cf (vis σ) c with
  | some d=>(match bU d with
   | some yC=>bk cf t σ
   | some yz=>bk cf f σ
   | none=>none)
  | none=>none
 | .for_ x E5 body,σ=>match evE cf (vis σ) E5 with
  | some d=>(match d.items with
   | some EX=>cF (λb σ=>bk cf body (ay σ x (yz,b))) EX (freeze E5.names σ)
   | none=>none)
  | none=>none
 | .ret e,σ=>match e.varOf with
  | some x=>(match σ.lookup x with | some (fr,d)=>ac (.ret fr d,σ) | none=>none)
  | none=>(match evF cf (vis σ) e with
   | some (d,fr)=>ac (.ret fr d,σ)
   | none=>none)
 | .bad,_=>none
 | .forr x E5 body,σ=>match evE cf (vis σ) E5 with
  | some (.tup ds)=>cF (λb σ=>bk cf body (ay σ x (yz,b))) ds.reverse (freeze E5.names σ)
  | _=>none
 | .expr e,σ=>match evE cf (vis σ) e with
  | some d=>if d.scalar then ac (.next,σ) else none
  | none=>none
 | .while_ c body,σ=>eX (gK cf c) (λσ=>bk cf body σ) wR σ
 | .grp,σ=>match xT cf σ with
  | some Fd=>ac (.next,Fd)
  | none=>none
termination_by structural st
noncomputable def bk(cf:CF)(a:yA MS)(σ:St):yK (Fl×St):=match a,σ with
 | [],σ=>ac (.next,σ)
 | st::r,σ=>match exS cf st σ with
  | some (.next,Fd)=>bk cf r Fd
  | x=>x
termination_by structural a
end
structure Fn where
 params:yA yF
 body:yA MS
noncomputable def af(P:yA (yF×Fn))(X:CF):Nat->CF
 | 0=>⟨λZ Z=>none,X.glob⟩
 | n+1=>⟨λf a=>match P.lookup f with
  | none=>X.call f a
  | some b=>if a.length=b.params.length then
    (match bk (af P X n) b.body ((b.params.zip a).map λp=>(p.1,(yz,p.2))) with
    | some (.ret fr d,_)=>ac (d,fr)
    | some (.next,_)=>ac (.none,yz)
    | _=>none)
   else none,X.glob⟩
set_option autoImplicit true in
theorem gZ(cf:CF)(ρ:yA (yF×D)):evE cf ρ (ME.u x)=(ρ.lookup x):=rfl
set_option autoImplicit true in
theorem ev_cmp(cf:CF)(ρ:yA (yF×D)):evE cf ρ (ME.cmp op a b)=(match evE cf ρ a with
   | some x=>(match evE cf ρ b with | some y=>ec op x y | none=>none)
   | none=>none):=rfl
set_option autoImplicit true in
theorem xY(cf:CF)(ρ:yA (yF×D)):evE cf ρ (ME.sub a i)=(match evE cf ρ a with
   | some x=>(match evE cf ρ i with | some y=>aV x y | none=>none)
   | none=>none):=rfl
set_option autoImplicit true in
theorem ev_comp(cf:CF)(ρ:yA (yF×D)):evE cf ρ (ME.comp elt x E5 cs)=(match evE cf ρ E5 with
   | some d=>(match d.items with
    | some EX=>if EX.length<=big then (bS (λa=>match nN cf ((x,a)::ρ) cs with
      | some yC=>(match evE cf ((x,a)::ρ) elt with | some y=>ac (ac y) | none=>none)
      | some yz=>ac none
      | none=>none) EX).map .list else none
    | none=>none)
   | none=>none):=rfl
set_option autoImplicit true in
theorem evs_nil(cf:CF)(ρ:yA (yF×D)):cn cf ρ ([])=(ac []):=rfl
set_option autoImplicit true in
theorem pL(cf:CF)(ρ:yA (yF×D)):cn cf ρ (e::r)=(match evE cf ρ e with
   | some d=>(match cn cf ρ r with | some ds=>ac (d::ds) | none=>none)
   | none=>none):=rfl
set_option autoImplicit true in
theorem qw(cf:CF)(σ:St):exS cf (MS.x0 x e) σ=(match evF cf (vis σ) e with
   | some (d,fr)=>ac (.next,ay (settle d e.names σ) x (fr,d))
   | none=>none):=rfl
set_option autoImplicit true in
theorem xs_append(cf:CF)(σ:St):exS cf (MS.append x e) σ=(match evE cf (vis σ) e with
   | some d=>(match (settle d e.names σ).lookup x with
    | some (yC,.list ds)=>if ds.length<big then ac (.next,ay (settle d e.names σ) x (yC,.list (ds++[d]))) else none
    | _=>none)
   | none=>none):=rfl
set_option autoImplicit true in
theorem xs_setk(cf:CF)(σ:St):exS cf (MS.setk x k e) σ=(match evE cf (vis σ) e with
   | some d=>(match evE cf (vis σ) k with
    | some a=>(match (settle a k.names (settle d e.names σ)).lookup x with
     | some (yC,.dict ks vs)=>if dL a ks&&decide (ks.length<big) then ac (.next,ay (settle a k.names (settle d e.names σ)) x (yC,.dict (dG ks vs a d).1 (dG ks vs a d).2)) else none
     | _=>none)
    | none=>none)
   | none=>none):=rfl
set_option autoImplicit true in
theorem xs_ite(cf:CF)(σ:St):exS cf (MS.ite c t f) σ=(match evE cf (vis σ) c with
   | some d=>(match bU d with
    | some yC=>bk cf t σ
    | some yz=>bk cf f σ
    | none=>none)
   | none=>none):=rfl
set_option autoImplicit true in
theorem xs_for_(cf:CF)(σ:St):exS cf (MS.for_ x E5 body) σ=(match evE cf (vis σ) E5 with
   | some d=>(match d.items with
    | some EX=>cF (λa σ=>bk cf body (ay σ x (yz,a))) EX (freeze E5.names σ)
    | none=>none)
   | none=>none):=rfl
set_option autoImplicit true in
theorem uo(cf:CF)(σ:St):exS cf (MS.ret e) σ=(match e.varOf with
   | some x=>(match σ.lookup x with | some (fr,d)=>ac (.ret fr d,σ) | none=>none)
   | none=>(match evF cf (vis σ) e with
    | some (d,fr)=>ac (.ret fr d,σ)
    | none=>none)):=rfl
theorem uX(cf:CF)(x:yF)(E5:ME)(body:yA MS)(σ:St):exS cf (MS.forr x E5 body) σ=(match evE cf (vis σ) E5 with
  | some (.tup ds)=>cF (λa σ=>bk cf body (ay σ x (yz,a))) ds.reverse (freeze E5.names σ)
  | _=>none):=rfl
set_option autoImplicit true in
theorem wZ(cf:CF)(σ:St):exS cf (MS.grp) σ=(match xT cf σ with
   | some Fd=>ac (.next,Fd)
   | none=>none):=rfl
theorem xs_expr(cf:CF)(e:ME)(σ:St):exS cf (MS.expr e) σ=(match evE cf (vis σ) e with
  | some d=>if d.scalar then ac (.next,σ) else none
  | none=>none):=rfl
theorem xs_while(cf:CF)(c:ME)(body:yA MS)(σ:St):exS cf (MS.while_ c body) σ=eX (gK cf c) (λσ=>bk cf body σ) wR σ:=rfl
set_option autoImplicit true in
theorem uW(cf:CF)(σ:St):bk cf ([]) σ=(ac (.next,σ)):=rfl
set_option autoImplicit true in
theorem ox(cf:CF)(σ:St):bk cf (st::r) σ=(match exS cf st σ with
   | some (.next,Fd)=>bk cf r Fd
   | x=>x):=rfl
theorem xA(a:ME)(f x p:yF)(rev:yH):(ME.srt a f x p rev).names=a.names++[p]:=rfl
theorem ev_srt(cf:CF)(ρ:yA (yF×D))(a:ME)(f x p:yF)(rev:yH):evE cf ρ (ME.srt a f x p rev)=(match evE cf ρ a with
  | some x=>(match ρ.lookup p with
   | some i=>srtD (gR cf f i) rev x
   | none=>none)
  | none=>none):=rfl
theorem cz(x:yF):∀ (σ:St),(vis σ).lookup x=(σ.lookup x).map (·.2)
 | []=>rfl
 | (y,v)::r=>by
  have a:=cz x r;unfold vis at a ⊢;rw[y8,y7,y7]
  by_cases h:x=y
  ·subst h;simp
  ·have:(x == y)=yz:=by simpa using h
   simp only[this];exact a
theorem aJ(x y:yF)(v:yH×D):∀ (σ:St),(ay σ x v).lookup y=if y=x then ac v else σ.lookup y
 | []=>by
  unfold ay;rw[y7]
  by_cases h:y=x
  ·simp[h]
  ·have:(y == x)=yz:=by simpa using h
   simp[h,this]
 | (z,u)::r=>by
  unfold ay
  split
  ·rename_i h;subst h
   rw[y7,y7]
   by_cases h:y=z
   ·simp[h]
   ·have:(y == z)=yz:=by simpa using h
    simp[h,this]
  ·rename_i a
   rw[y7,y7,aJ x y v r]
   by_cases h:y=x
   ·subst h
    have:(y == z)=yz:=by simpa using Ne.symm a
    simp[this]
   ·simp[h]
theorem bw(ns:yA yF)(x:yF):∀ (σ:St),(freeze ns σ).lookup x=(σ.lookup x).map λp=>(p.1&&!ns.contains x,p.2)
 | []=>rfl
 | (y,v)::r=>by
  have a:=bw ns x r;unfold freeze at a ⊢;rw[y8,y7,y7]
  by_cases h:x=y
  ·subst h;simp
  ·have:(x == y)=yz:=by simpa using h
   simp only[this];exact a
noncomputable abbrev KD:=Str->yK Bv
noncomputable def gI(k:KD)(x:Str):yH:=(k x == ac .local||k x == ac .cell||k x == ac .free)&&x != yB "__debug__"&&x != yB "__classdict__"&&x != yB ".0"
noncomputable def cE(k:KD)(x:Str):yH:=k x == ac .globalImplicit&&x != yB "__debug__"
noncomputable def eK(k:KD)(scope:A8):KD:=λx=>(scope.names.map λp=>if p.2 == .free&&k p.1 == ac .cell then (p.1,NameKind.cell) else p).lookup x
noncomputable def e5(e:y4):yH:=!decide (e.ctorIdx=7)
noncomputable def mA(k:KD):yH:=k (yB "keys") == ac .local&&k (yB "sorted") == ac .globalImplicit&&k (yB "place") == ac .cell
noncomputable def iO(k:KD)(scope:A8)(x:Str):yH:=
 scope.kind == .function&&decide (scope.names.map (·.1)).Nodup&&(scope.names.lookup x == ac .local||scope.names.lookup x == ac .cell) &&
 scope.names.all (λp=>p.2 != .free||k p.1 == ac .cell||k p.1 == ac .free)&&scope.names.all (λp=>p.2 == .free||p.2 == .globalImplicit||p.1 == x||p.1 == yB ".0")&&!mA (eK k scope)
noncomputable def tm(k:KD)(ps:Ci)(sc:A8)(x p:Str):yH:=
 (ps.posonlyargs.isEmpty&&ps.kwonlyargs.isEmpty&&ps.vararg.isNone&&ps.kwarg.isNone&&ps.defaults.isEmpty&&ps.kw_defaults.isEmpty)&&(ps.args.map (·.arg) == [x] &&
 sc.kind == .function&&!sc.isCoroutine&&!sc.isGenerator&&sc.names.lookup x == ac .local) &&
 (sc.names.all (λp=>p.2 != .cell&&(p.2 != .free||k p.1 == ac .cell||k p.1 == ac .free))&&mA k&&!mA (λy=>sc.names.lookup y)&&sc.names.lookup p == ac .free)
noncomputable def ME.isNone(e:ME):yH:=decide (e.ctorIdx=5)
@[elab_as_elim] theorem isNone_inv{e:ME}{C:ME->Prop}(h:e.isNone=yC)(k:C .none):C e:=ME.none.elim (motive_1:=C) e (zG h) k
noncomputable def oU(e:y4):yH:=!decide (e.ctorIdx=26)
theorem bJ{c:Prop}[Decidable c]{f:c->yH}(h:Cb c f (λZ=>yz)=yC):∃ a,f a=yC:=by
 by_cases a:c
 ·rw[dif_pos a] at h;exact⟨a,h⟩
 ·rw[dif_neg a] at h;cases h
noncomputable def c1{α:Type}(l:yA α)(f:α->yH):yH:=match l with | [x]=>f x | _=>yz
@[elab_as_elim] theorem eQ{α:Type}{l:yA α}{f:α->yH}{C:yA α->Prop}(h:c1 l f=yC)(k:∀ x,f x=yC->C [x]):C l:=by
 cases l with
 | nil=>cases h
 | cons x l=>cases l with
  | nil=>exact k x h
  | cons=>cases h
noncomputable def c2{α:Type}(l:yA α)(f:α->α->yH):yH:=match l with | x::l=>c1 l (f x) | _=>yz
section
variable {α:Type}{C:Prop}
@[elab_as_elim] theorem m0{l:yA α}{f:α->α->yH}{C:yA α->Prop}(h:c2 l f=yC)(k:∀ x y,f x y=yC->C [x,y]):C l:=by
 cases l with
 | nil=>cases h
 | cons x l=>exact eQ (C:=λl=>C (x::l)) h (k x)
@[elab_as_elim] theorem pY{l:yK α}{f:α->yH}{C:yK α->Prop}(h:wX l f=yC)(k:∀ x,f x=yC->C (ac x)):C l:=by
 cases l with
 | none=>cases h
 | some x=>exact k x h
theorem bQ{a b:yH}(h:(a&&b)=yC)(k:a=yC->b=yC->C):C:=k (zr.mp h).1 (zr.mp h).2
theorem iI{a b c:yH}(h:(a&&b&&c)=yC)(k:a=yC->b=yC->c=yC->C):C:=bQ h λh f=>bQ h λi j=>k i j f
theorem qs{a b c d:yH}(h:(a&&b&&c&&d)=yC)(k:a=yC->b=yC->c=yC->d=yC->C):C:=bQ h λh f=>iI h λi j m=>k i j m f
theorem qq{a b c d e:yH}(h:(a&&b&&c&&d&&e)=yC)(k:a=yC->b=yC->c=yC->d=yC->e=yC->C):C:=bQ h λh f=>qs h λi j m n=>k i j m n f
theorem and6{a b c d e f:yH}(h:(a&&b&&c&&d&&e&&f)=yC)(k:a=yC->b=yC->c=yC->d=yC->e=yC->f=yC->C):C:=bQ h λh i=>qq h λj m n o q=>k j m n o q i
@[elab_as_elim] theorem eqb[BEq α][LawfulBEq α]{a b:α}{C:α->Prop}(h:(a == b)=yC)(k:C b):C a:=(eq_of_beq h).symm▸k
@[elab_as_elim] theorem eqb'[BEq α][LawfulBEq α]{a b:α}{C:α->Prop}(h:(a == b)=yC)(k:C a):C b:=eq_of_beq h▸k
@[elab_as_elim] theorem kE{l:yA α}{C:yA α->Prop}(h:l.isEmpty=yC)(k:C []):C l:=(z8.mp h).symm▸k
theorem fM{k:KD}{x:Str}(h:cE k x=yC):k x=ac .globalImplicit/\x≠yB "__debug__":=bQ h λh1 a=>⟨eq_of_beq h1,by simpa using a⟩
end
noncomputable def dF(e:y4)(f:Str->Pos->yH):yH:=Cb (e.ctorIdx=23) (λh=>Expr.Name.elim (motive_1:=λZ=>yH) e h f) (λZ=>yz)
@[elab_as_elim] theorem b0{e:y4}{f:Str->Pos->yH}{C:y4->Prop}(h:dF e f=yC)(k:∀ a b,f a b=yC->C (.Name a b)):C e:=
 (bJ h).elim λc h=>Expr.Name.elim (motive_1:=λe=>∀ c,Expr.Name.elim (motive_1:=λZ=>yH) e c f=yC->C e) e c (λa b Z h=>k a b h) c h
noncomputable def jc(e:y4)(f:Const->Nat->Pos->yH):yH:=Cb (e.ctorIdx=19) (λh=>Expr.Constant.elim (motive_1:=λZ=>yH) e h f) (λZ=>yz)
@[elab_as_elim] theorem et{e:y4}{f:Const->Nat->Pos->yH}{C:y4->Prop}(h:jc e f=yC)(k:∀ a b v2,f a b v2=yC->C (.Constant a b v2)):C e:=
 (bJ h).elim λc h=>Expr.Constant.elim (motive_1:=λe=>∀ c,Expr.Constant.elim (motive_1:=λZ=>yH) e c f=yC->C e) e c (λa b v2 Z h=>k a b v2 h) c h
noncomputable def cBin(e:y4)(f:y4->AM->y4->Pos->yH):yH:=Cb (e.ctorIdx=2) (λh=>Expr.BinOp.elim (motive_1:=λZ=>yH) e h f) (λZ=>yz)
@[elab_as_elim] theorem cBin_inv{e:y4}{f:y4->AM->y4->Pos->yH}{C:y4->Prop}(h:cBin e f=yC)(k:∀ a b v2 c,f a b v2 c=yC->C (.BinOp a b v2 c)):C e:=
 (bJ h).elim λi h=>Expr.BinOp.elim (motive_1:=λe=>∀ i,Expr.BinOp.elim (motive_1:=λZ=>yH) e i f=yC->C e) e i (λa b v2 c Z h=>k a b v2 c h) i h
noncomputable def cBool(e:y4)(f:CW->yA y4->Pos->yH):yH:=Cb (e.ctorIdx=0) (λh=>Expr.BoolOp.elim (motive_1:=λZ=>yH) e h f) (λZ=>yz)
@[elab_as_elim] theorem cBool_inv{e:y4}{f:CW->yA y4->Pos->yH}{C:y4->Prop}(h:cBool e f=yC)(k:∀ a b v2,f a b v2=yC->C (.BoolOp a b v2)):C e:=
 (bJ h).elim λc h=>Expr.BoolOp.elim (motive_1:=λe=>∀ c,Expr.BoolOp.elim (motive_1:=λZ=>yH) e c f=yC->C e) e c (λa b v2 Z h=>k a b v2 h) c h
noncomputable def cUn(e:y4)(f:UnaryOp->y4->Pos->yH):yH:=Cb (e.ctorIdx=3) (λh=>Expr.UnaryOp.elim (motive_1:=λZ=>yH) e h f) (λZ=>yz)
@[elab_as_elim] theorem cUn_inv{e:y4}{f:UnaryOp->y4->Pos->yH}{C:y4->Prop}(h:cUn e f=yC)(k:∀ a b v2,f a b v2=yC->C (.UnaryOp a b v2)):C e:=
 (bJ h).elim λc h=>Expr.UnaryOp.elim (motive_1:=λe=>∀ c,Expr.UnaryOp.elim (motive_1:=λZ=>yH) e c f=yC->C e) e c (λa b v2 Z h=>k a b v2 h) c h
noncomputable def cTup(e:y4)(f:yA y4->Nat->Pos->yH):yH:=Cb (e.ctorIdx=25) (λh=>Expr.Tuple.elim (motive_1:=λZ=>yH) e h f) (λZ=>yz)
@[elab_as_elim] theorem cTup_inv{e:y4}{f:yA y4->Nat->Pos->yH}{C:y4->Prop}(h:cTup e f=yC)(k:∀ a b v2,f a b v2=yC->C (.Tuple a b v2)):C e:=
 (bJ h).elim λc h=>Expr.Tuple.elim (motive_1:=λe=>∀ c,Expr.Tuple.elim (motive_1:=λZ=>yH) e c f=yC->C e) e c (λa b v2 Z h=>k a b v2 h) c h
noncomputable def cLst(e:y4)(f:yA y4->Pos->yH):yH:=Cb (e.ctorIdx=24) (λh=>Expr.List.elim (motive_1:=λZ=>yH) e h f) (λZ=>yz)
@[elab_as_elim] theorem cLst_inv{e:y4}{f:yA y4->Pos->yH}{C:y4->Prop}(h:cLst e f=yC)(k:∀ a b,f a b=yC->C (.List a b)):C e:=
 (bJ h).elim λc h=>Expr.List.elim (motive_1:=λe=>∀ c,Expr.List.elim (motive_1:=λZ=>yH) e c f=yC->C e) e c (λa b Z h=>k a b h) c h
noncomputable def wW(e:y4)(f:y4->y4->Pos->yH):yH:=Cb (e.ctorIdx=21) (λh=>Expr.Subscript.elim (motive_1:=λZ=>yH) e h f) (λZ=>yz)
@[elab_as_elim] theorem l4{e:y4}{f:y4->y4->Pos->yH}{C:y4->Prop}(h:wW e f=yC)(k:∀ a b v2,f a b v2=yC->C (.Subscript a b v2)):C e:=
 (bJ h).elim λc h=>Expr.Subscript.elim (motive_1:=λe=>∀ c,Expr.Subscript.elim (motive_1:=λZ=>yH) e c f=yC->C e) e c (λa b v2 Z h=>k a b v2 h) c h
noncomputable def yd(e:y4)(f:yK y4->yK y4->yK y4->Pos->yH):yH:=Cb (e.ctorIdx=26) (λh=>Expr.Slice.elim (motive_1:=λZ=>yH) e h f) (λZ=>yz)
@[elab_as_elim] theorem cSlice_inv{e:y4}{f:yK y4->yK y4->yK y4->Pos->yH}{C:y4->Prop}(h:yd e f=yC)(k:∀ a b v2 c,f a b v2 c=yC->C (.Slice a b v2 c)):C e:=
 (bJ h).elim λi h=>Expr.Slice.elim (motive_1:=λe=>∀ i,Expr.Slice.elim (motive_1:=λZ=>yH) e i f=yC->C e) e i (λa b v2 c Z h=>k a b v2 c h) i h
noncomputable def cCmp(e:y4)(f:y4->yA CL->yA y4->Pos->yH):yH:=Cb (e.ctorIdx=15) (λh=>Expr.Compare.elim (motive_1:=λZ=>yH) e h f) (λZ=>yz)
@[elab_as_elim] theorem cCmp_inv{e:y4}{f:y4->yA CL->yA y4->Pos->yH}{C:y4->Prop}(h:cCmp e f=yC)(k:∀ a b v2 c,f a b v2 c=yC->C (.Compare a b v2 c)):C e:=
 (bJ h).elim λi h=>Expr.Compare.elim (motive_1:=λe=>∀ i,Expr.Compare.elim (motive_1:=λZ=>yH) e i f=yC->C e) e i (λa b v2 c Z h=>k a b v2 c h) i h
noncomputable def gM(e:y4)(f:y4->yA y4->yA Keyword->Pos->yH):yH:=Cb (e.ctorIdx=16) (λh=>Expr.Call.elim (motive_1:=λZ=>yH) e h f) (λZ=>yz)
@[elab_as_elim] theorem eC{e:y4}{f:y4->yA y4->yA Keyword->Pos->yH}{C:y4->Prop}(h:gM e f=yC)(k:∀ a b v2 c,f a b v2 c=yC->C (.Call a b v2 c)):C e:=
 (bJ h).elim λi h=>Expr.Call.elim (motive_1:=λe=>∀ i,Expr.Call.elim (motive_1:=λZ=>yH) e i f=yC->C e) e i (λa b v2 c Z h=>k a b v2 c h) i h
noncomputable def cLC(e:y4)(f:y4->yA Comprehension->A8->Pos->yH):yH:=Cb (e.ctorIdx=8) (λh=>Expr.ListComp.elim (motive_1:=λZ=>yH) e h f) (λZ=>yz)
@[elab_as_elim] theorem cLC_inv{e:y4}{f:y4->yA Comprehension->A8->Pos->yH}{C:y4->Prop}(h:cLC e f=yC)(k:∀ a b v2 c,f a b v2 c=yC->C (.ListComp a b v2 c)):C e:=
 (bJ h).elim λi h=>Expr.ListComp.elim (motive_1:=λe=>∀ i,Expr.ListComp.elim (motive_1:=λZ=>yH) e i f=yC->C e) e i (λa b v2 c Z h=>k a b v2 c h) i h
noncomputable def ye(e:y4)(f:yA (yK y4)->yA y4->Pos->yH):yH:=Cb (e.ctorIdx=6) (λh=>Expr.Dict.elim (motive_1:=λZ=>yH) e h f) (λZ=>yz)
@[elab_as_elim] theorem rn{e:y4}{f:yA (yK y4)->yA y4->Pos->yH}{C:y4->Prop}(h:ye e f=yC)(k:∀ a b v2,f a b v2=yC->C (.Dict a b v2)):C e:=
 (bJ h).elim λc h=>Expr.Dict.elim (motive_1:=λe=>∀ c,Expr.Dict.elim (motive_1:=λZ=>yH) e c f=yC->C e) e c (λa b v2 Z h=>k a b v2 h) c h
noncomputable def wG(e:y4)(f:y4->Str->Pos->yH):yH:=Cb (e.ctorIdx=20) (λh=>Expr.Attribute.elim (motive_1:=λZ=>yH) e h f) (λZ=>yz)
@[elab_as_elim] theorem mZ{e:y4}{f:y4->Str->Pos->yH}{C:y4->Prop}(h:wG e f=yC)(k:∀ a b v2,f a b v2=yC->C (.Attribute a b v2)):C e:=
 (bJ h).elim λc h=>Expr.Attribute.elim (motive_1:=λe=>∀ c,Expr.Attribute.elim (motive_1:=λZ=>yH) e c f=yC->C e) e c (λa b v2 Z h=>k a b v2 h) c h
noncomputable def cLam(e:y4)(f:Ci->y4->A8->Pos->yH):yH:=Cb (e.ctorIdx=4) (λh=>Expr.Lambda.elim (motive_1:=λZ=>yH) e h f) (λZ=>yz)
@[elab_as_elim] theorem ue{e:y4}{f:Ci->y4->A8->Pos->yH}{C:y4->Prop}(h:cLam e f=yC)(k:∀ a b v2 c,f a b v2 c=yC->C (.Lambda a b v2 c)):C e:=
 (bJ h).elim λi h=>Expr.Lambda.elim (motive_1:=λe=>∀ i,Expr.Lambda.elim (motive_1:=λZ=>yH) e i f=yC->C e) e i (λa b v2 c Z h=>k a b v2 c h) i h
noncomputable def pT(k:KD)(b:y4)(f x p:yF):yH:=gM b λg as ks Z=>ks.isEmpty&&dF g λg Z=>g == yB f&&cE k g &&
 (match as with | e::a=>(wW e λv s Z=>oU s&&(dF v λy Z=>y == yB x&&gI k y)&&(dF s λy Z=>y == yB p&&gI k y))&&a.isEmpty | []=>yz)
noncomputable def chkKw(k:KD)(ks:yA Keyword)(f x p:yF)(rev:yH):yH:=match rev with
 | true=>c2 ks λa k2=>a.arg == ac (yB "key")&&k2.arg == ac (yB "reverse")&&(jc k2.value λc Z Z=>c == .bool yC)&&cLam a.value λps b sc Z=>tm k ps sc (yB x) (yB p)&&pT (λy=>sc.names.lookup y) b f x p
 | false=>c1 ks λa=>a.arg == ac (yB "key")&&cLam a.value λps b sc Z=>tm k ps sc (yB x) (yB p)&&pT (λy=>sc.names.lookup y) b f x p
noncomputable def uN(e:y4)(i:Int):yH:=jc e λc Z Z=>c == .int i
noncomputable def xN(e:y4)(x:yF):yH:=jc e λc Z Z=>c == .str (yB x)
noncomputable def innKs(l:yA (yK y4)):yH:=c2 l λa b=>(wX a λa=>xN a "group")&&wX b λb=>xN b "once"
noncomputable def innVs(l:yA y4):yH:=c2 l λa b=>uN a 3&&uN b 1
mutual
noncomputable def aI(k:KD)(e:y4)(B:ME):yH:=match B with
 | .u x=>dF e λy Z=>y == yB x&&gI k y
 | .glob x=>dF e λy Z=>y == yB x&&cE k y
 | .int i=>jc e λc Z Z=>c == .int i
 | .str s=>jc e λc Z Z=>c == .str (yB s)
 | .bool b=>jc e λc Z Z=>c == .bool b
 | .none=>jc e λc Z Z=>c == .none
 | .bin z a b=>cBin e λl q r Z=>z == q&&aI k l a&&aI k r b
 | .cmp z a b=>cCmp e λl os E Z=>os == [z]&&c1 E λr=>e5 r&&aI k l a&&aI k r b
 | .bop z es=>cBool e λq vs Z=>z == q&&cB k vs es
 | .not a=>cUn e λo x Z=>o == .Not&&aI k x a
 | .neg a=>cUn e λo x Z=>o == .USub&&aI k x a
 | .tup es=>cTup e λvs Z Z=>cB k vs es
 | .lst es=>cLst e λvs Z=>cB k vs es
 | .dct ks vs=>ye e λn w Z=>n.all Option.isSome&&cB k (n.filterMap id) ks&&cB k w vs
 | .sub a i=>wW e λv s Z=>oU s&&aI k v a&&aI k s i
 | .sl a lo C=>wW e λv s Z=>yd s λl u t Z=>t.isNone&&aI k v a&&(match l with | none=>lo.isNone | some x=>aI k x lo)&&(match u with | none=>C.isNone | some x=>aI k x C)
 | .comp A x E5 G=>cLC e λt H h Z=>c1 H λg=>g.is_async == 0&&dF g.target λy Z=>y == yB x&&e5 g.iter&&iO k h y&&aI k g.iter E5&&aI (eK k h) t A&&cB (eK k h) g.ifs G
 | .call f m=>gM e λg j ks Z=>ks.isEmpty&&dF g λg Z=>g == yB f&&cE k g&&cB k j m
 | .isi a T=>gM e λg j ks Z=>ks.isEmpty&&c2 j λx t=>dF g λg Z=>dF t λt Z=>g == yB "isinstance"&&cE k g&&t == yB T&&cE k t&&aI k x a
 | .blt f m=>gM e λg j ks Z=>ks.isEmpty&&dF g λg Z=>g == yB f&&cE k g&&cB k j m
 | .sset a=>gM e λg j ks Z=>ks.isEmpty&&dF g λg Z=>g == yB "sorted"&&cE k g&&c1 j λx=>gM x λg j ks Z=>ks.isEmpty&&dF g λg Z=>g == yB "set"&&cE k g&&c1 j λx=>aI k x a
 | .lcp a=>gM e λg j ks Z=>ks.isEmpty&&dF g λg Z=>g == yB "list"&&cE k g&&c1 j λx=>aI k x a
 | .srt a f x p rev=>gM e λg j ks Z=>chkKw k ks f x p rev&&dF g λg Z=>g == yB "sorted"&&cE k g&&c1 j λx=>aI k x a
 | .inn a=>gM e λg j ks p=>ks.isEmpty&&wG g λo I J=>I == yB "get"&&J.endLine == p.line&&(ye o λn w Z=>innKs n&&innVs w)&&c2 j λx y=>uN y 2&&aI k x a
termination_by structural B
noncomputable def cB(k:KD)(es:yA y4)(c:yA ME):yH:=match c with
 | []=>es.isEmpty
 | a::r=>(match es with | e::b=>aI k e a&&cB k b r | []=>yz)
termination_by structural c
end
section
variable {k:KD} {e:y4}
inductive um(k:KD)(x:yF):y4->Prop
 | mk {p} (h:gI k (yB x)=yC):um k x (.Name (yB x) p)
theorem iX{x:yF}(h:aI k e (.u x)=yC):um k x e:=
 b0 h λy p h=>bQ h λh1=>eqb h1 λa=>⟨a⟩
inductive yq(k:KD)(x:yF):y4->Prop
 | mk {p} (h:cE k (yB x)=yC):yq k x (.Name (yB x) p)
theorem tI{x:yF}(h:aI k e (.glob x)=yC):yq k x e:=
 b0 h λy p h=>bQ h λh1=>eqb h1 λa=>⟨a⟩
inductive ie(c:Const):y4->Prop
 | mk {n p}:ie c (.Constant c n p)
theorem kz{c:Const}(h:(jc e λc' Z Z=>c' == c)=yC):ie c e:=
 et h λc n p h=>eqb h ⟨⟩
theorem v7{i:Int}(h:aI k e (.int i)=yC):ie (.int i) e:=kz h
theorem vW{i:yF}(h:aI k e (.str i)=yC):ie (.str (yB i)) e:=kz h
theorem tJ{i:yH}(h:aI k e (.bool i)=yC):ie (.bool i) e:=kz h
theorem tH(h:aI k e .none=yC):ie .none e:=kz h
inductive IBin(k:KD)(op:AM)(a b:ME):y4->Prop
 | mk {l r p} (h1:aI k l a=yC) (h2:aI k r b=yC):IBin k op a b (.BinOp l op r p)
theorem wc{c:AM}{a b:ME}(h:aI k e (.bin c a b)=yC):IBin k c a b e:=
 cBin_inv h λl f r p h=>iI h λh1 i j=>eqb' h1 ⟨i,j⟩
inductive ICmp(k:KD)(op:CL)(a b:ME):y4->Prop
 | mk {l r p} (hs:e5 r=yC) (h1:aI k l a=yC) (h2:aI k r b=yC):ICmp k op a b (.Compare l [op] [r] p)
theorem r8{c:CL}{a b:ME}(h:aI k e (.cmp c a b)=yC):ICmp k c a b e:=
 cCmp_inv h λl os m p h=>bQ h λh1 h=>eqb h1 (eQ h λr h=>iI h λf i j=>⟨f,i,j⟩)
inductive IBop(k:KD)(op:CW)(es:yA ME):y4->Prop
 | mk {vs p} (h:cB k vs es=yC):IBop k op es (.BoolOp op vs p)
theorem r9{a:CW}{es:yA ME}(h:aI k e (.bop a es)=yC):IBop k a es e:=
 cBool_inv h λb vs p h=>bQ h λh1 c=>eqb' h1 ⟨c⟩
inductive IUn(k:KD)(o:UnaryOp)(a:ME):y4->Prop
 | mk {x p} (h:aI k x a=yC):IUn k o a (.UnaryOp o x p)
theorem xO{o:UnaryOp}{a:ME}(h:(cUn e λb x Z=>b == o&&aI k x a)=yC):IUn k o a e:=
 cUn_inv h λb x p h=>bQ h λh1 c=>eqb h1 ⟨c⟩
theorem r7{a:ME}(h:aI k e (.not a)=yC):IUn k .Not a e:=xO h
theorem vY{a:ME}(h:aI k e (.neg a)=yC):IUn k .USub a e:=xO h
inductive ITup(k:KD)(es:yA ME):y4->Prop
 | mk {vs n p} (h:cB k vs es=yC):ITup k es (.Tuple vs n p)
theorem vV{es:yA ME}(h:aI k e (.tup es)=yC):ITup k es e:=
 cTup_inv h λZ Z Z h=>⟨h⟩
inductive ILst(k:KD)(es:yA ME):y4->Prop
 | mk {vs p} (h:cB k vs es=yC):ILst k es (.List vs p)
theorem vZ{es:yA ME}(h:aI k e (.lst es)=yC):ILst k es e:=
 cLst_inv h λZ Z h=>⟨h⟩
theorem somes:∀ {l:yA (yK y4)},l.all Option.isSome=yC->l=(l.filterMap id).map ac
 | [],_=>rfl
 | none::l,h=>by simp at h
 | some x::l,h=>by simp at h;simp;exact somes (by simpa using h)
inductive IDct(k:KD)(ks vs:yA ME):y4->Prop
 | mk {kes ves p} (h1:cB k kes ks=yC) (h2:cB k ves vs=yC):IDct k ks vs (.Dict (kes.map ac) ves p)
theorem v9{ks vs:yA ME}(h:aI k e (.dct ks vs)=yC):IDct k ks vs e:=
 rn h λa b p h=>iI h λh1 c f=>(somes h1).symm▸⟨c,f⟩
theorem notSlice_inv{s:y4}(h:oU s=yC):∀ a b c p,s=.Slice a b c p->False:=by
 rintro a b c p rfl;cases h
inductive ISub(k:KD)(a i:ME):y4->Prop
 | mk {v s p} (hn:∀ a b c p,s=.Slice a b c p->False) (h1:aI k v a=yC) (h2:aI k s i=yC):ISub k a i (.Subscript v s p)
theorem oh{a i:ME}(h:aI k e (.sub a i)=yC):ISub k a i e:=
 l4 h λZ Z Z h=>iI h λh1 b c=>⟨notSlice_inv h1,b,c⟩
noncomputable def chkO(k:KD)(l:yK y4)(lo:ME):yH:=match l with | none=>lo.isNone | some x=>aI k x lo
inductive ISl(k:KD)(a lo hi:ME):y4->Prop
 | mk {v l u p pos} (h1:aI k v a=yC) (h2:chkO k l lo=yC) (h3:chkO k u hi=yC):ISl k a lo hi (.Subscript v (.Slice l u Option.none p) pos)
theorem xP{a lo hi:ME}(h:aI k e (.sl a lo hi)=yC):ISl k a lo hi e:=
 l4 h λv s p h=>cSlice_inv h λl u t p h=>qs h λh1 b c f=>(AX.mp h1).symm▸⟨b,c,f⟩
inductive wQ(k:KD)(elt:ME)(x:yF)(E5:ME)(cs:yA ME):y4->Prop
 | mk {t py it ifs scope lp} (hn:e5 it=yC) (hs:iO k scope (yB x)=yC) (h1:aI k it E5=yC) (h2:aI (eK k scope) t elt=yC) (h3:cB (eK k scope) ifs cs=yC) :
  wQ k elt x E5 cs (.ListComp t [⟨.Name (yB x) py,it,ifs,0⟩] scope lp)
theorem pt{elt E5:ME}{x:yF}{cs:yA ME}(h:aI k e (.comp elt x E5 cs)=yC):wQ k elt x E5 cs e:=
 cLC_inv h λt s b p h=>eQ h λg=>Comprehension.casesOn g λc u f z h=>bQ h λh1 h=>eqb (a:=z) h1 (b0 (e:=c) h λy w h=>and6 h λi=>eqb i λj m n o q=>⟨j,m,n,o,q⟩)
inductive rC(k:KD)(f:yF)(args:yA ME):y4->Prop
 | mk {gp as pos} (hg:cE k (yB f)=yC) (h:cB k as args=yC):rC k f args (.Call (.Name (yB f) gp) as [] pos)
theorem lR{f:yF}{args:yA ME}(h:aI k e (.call f args)=yC):rC k f args e:=
 eC h λg i ks p h=>bQ h λh1 h=>kE h1 (b0 h λy j h=>iI h λa=>eqb a λb c=>⟨b,c⟩)
theorem wa{f:yF}{args:yA ME}(h:aI k e (.blt f args)=yC):rC k f args e:=lR h
inductive j9(k:KD)(f:yF)(P:y4->Prop):y4->Prop
 | mk {gp x pos} (hg:cE k (yB f)=yC) (h:P x):j9 k f P (.Call (.Name (yB f) gp) [x] [] pos)
theorem mK{f:yF}{g:y4->yH}{P:y4->Prop}(b:∀ x,g x=yC->P x)(h:(gM e λn as ks Z=>ks.isEmpty&&dF n λn Z=>n == yB f&&cE k n&&c1 as g)=yC):j9 k f P e:=
 eC h λn as ks p h=>bQ h λh1 h=>kE h1 (b0 h λy j h=>iI h λc=>eqb c λi a=>eQ a λx a=>⟨i,b _ a⟩)
theorem v5{a:ME}(h:aI k e (.lcp a)=yC):j9 k "list" (λx=>aI k x a=yC) e:=mK (λZ h=>h) h
theorem tG{a:ME}(h:aI k e (.sset a)=yC):j9 k "sorted" (j9 k "set" λx=>aI k x a=yC) e:=mK (λZ h=>mK (λZ h=>h) h) h
theorem ub{k:KD}{b:y4}{f x p:yF}(h:pT k b f x p=yC):aI k b (.call f [.sub (.u x) (.u p)])=yC:=h
inductive IKw(k:KD)(f x p:yF):yH->yA Keyword->Prop
 | up {ps b sc lp kp} (h1:tm k ps sc (yB x) (yB p)=yC) (h2:pT (λy=>sc.names.lookup y) b f x p=yC):IKw k f x p yz [⟨ac (yB "key"),.Lambda ps b sc lp,kp⟩]
 | down {ps b sc lp kp n cp kp2} (h1:tm k ps sc (yB x) (yB p)=yC) (h2:pT (λy=>sc.names.lookup y) b f x p=yC):IKw k f x p yC [⟨ac (yB "key"),.Lambda ps b sc lp,kp⟩,⟨ac (yB "reverse"),.Constant (.bool yC) n cp,kp2⟩]
theorem inv_kw{ks:yA Keyword}{f x p:yF}{rev:yH}(h:chkKw k ks f x p rev=yC):IKw k f x p rev ks:=by
 cases rev with
 | true=>exact m0 h λj k2=>Keyword.casesOn j λa1 m s=>Keyword.casesOn k2 λa2 t w h=>qs h λh1 u o i=>eqb (a:=a1) h1 (eqb (a:=a2) u (et (e:=t) o λc n cp o=>eqb (a:=c) o (ue (e:=m) i λps b sc lp i=>bQ i λi q=>.down i q)))
 | false=>exact eQ h λj=>Keyword.casesOn j λa1 m s h=>bQ h λh1 h=>eqb (a:=a1) h1 (ue (e:=m) h λps b sc lp i=>bQ i λi q=>.up i q)
inductive ISrt(k:KD)(a:ME)(f x p:yF)(rev:yH):y4->Prop
 | mk {gp y ks pos} (hg:cE k (yB "sorted")=yC) (h:aI k y a=yC) (hk:IKw k f x p rev ks):ISrt k a f x p rev (.Call (.Name (yB "sorted") gp) [y] ks pos)
theorem vX{a:ME}{f x p:yF}{rev:yH}(h:aI k e (.srt a f x p rev)=yC):ISrt k a f x p rev e:=
 eC h λg j ks p h=>bQ h λh1 h=>b0 (e:=g) h λy m h=>iI h λc=>eqb c λi b=>eQ b λx b=>⟨i,b,inv_kw h1⟩
inductive IInn(k:KD)(a:ME):y4->Prop
 | mk {x n1 n2 n3 n4 n5 p1 p2 p3 p4 p5 dp ap p} (hl:(ap.endLine == p.line)=yC) (h:aI k x a=yC):IInn k a (.Call (.Attribute (.Dict [ac (.Constant (.str (yB "group")) n1 p1),ac (.Constant (.str (yB "once")) n2 p2)] [.Constant (.int 3) n3 p3,.Constant (.int 1) n4 p4] dp) (yB "get") ap) [x,.Constant (.int 2) n5 p5] [] p)
theorem v8{a:ME}(h:aI k e (.inn a)=yC):IInn k a e:=
 eC h λg w ks p h=>bQ h λh1 h=>kE (l:=ks) h1 (mZ (e:=g) h λo z J h=>qs h λA B C f=>eqb (a:=z) A (rn (e:=o) C λi j dp h=>bQ h λm n=>m0 (l:=i) m λa1 q m=>bQ m λb c=>pY (l:=a1) b λa1 b=>pY (l:=q) c λq c=>et (e:=a1) b λc1 Z Z b=>et (e:=q) c λc2 Z Z c=>eqb (a:=c1) b (eqb (a:=c2) c (
  m0 (l:=j) n λa2 E n=>bQ n λs t=>et (e:=a2) s λc3 Z Z s=>et (e:=E) t λG Z Z t=>eqb (a:=c3) s (eqb (a:=G) t (m0 (l:=w) f λx y f=>bQ f λu H=>et (e:=y) u λI Z Z u=>eqb (a:=I) u ⟨B,H⟩))))))
inductive IIsi(k:KD)(a:ME)(T:yF):y4->Prop
 | mk {gp x tp pos} (hg:cE k (yB "isinstance")=yC) (ht:cE k (yB T)=yC) (h:aI k x a=yC):IIsi k a T (.Call (.Name (yB "isinstance") gp) [x,.Name (yB T) tp] [] pos)
theorem v6{a:ME}{T:yF}(h:aI k e (.isi a T)=yC):IIsi k a T e:=
 eC h λg m ks p h=>bQ h λh1 h=>kE h1 (m0 h λx t h=>b0 (e:=g) h λy n h=>b0 (e:=t) h λz o h=>qq h λb=>eqb b λc f=>eqb f λi j=>⟨c,i,j⟩)
end
noncomputable def fin(r:yK (Fl×St)):yK (D×yH):=match r with
 | some (.ret fr d,_)=>ac (d,fr)
 | some (.next,_)=>ac (.none,yz)
 | _=>yS
theorem wE{P:yA (yF×Fn)}{X:CF}{f:yF}{a:Fn}(n:Nat)(args:yA D)(h:P.lookup f=ac a)(b:args.length=a.params.length) :
  (af P X (n+1)).call f args=fin (bk (af P X n) a.body ((a.params.zip args).map λp=>(p.1,(yz,p.2)))):=by
 simp only[af,h,b,D5,fin]
 all_goals (split <;> rename_i q <;> simp[q])
theorem se(P:yA (yF×Fn))(X:CF)(n:Nat)(x:yF):(af P X n).glob x=X.glob x:=by cases n <;> rfl
noncomputable def kF(r:yK (Fl×St))(k:St->yK (Fl×St)):yK (Fl×St):=match r with
 | some (.next,σ)=>k σ
 | x=>x
theorem oF(σ:St)(k):kF (ac (.next,σ)) k=k σ:=rfl
theorem x_nil(cf:CF)(σ:St):bk cf [] σ=ac (.next,σ):=by simp[uW,ox]
theorem ju(cf:CF)(s:MS)(r:yA MS)(σ:St):bk cf (s::r) σ=kF (exS cf s σ) (bk cf r):=by
 simp only[uW,ox,kF]
 all_goals (split <;> rename_i q <;> simp_all)
theorem x_app(cf:CF)(a b:yA MS)(σ:St):bk cf (a++b) σ=kF (bk cf a σ) (bk cf b):=by
 induction a generalizing σ with
 | nil=>simp[x_nil,kF]
 | cons s a c=>
  rw[DB,ju,ju];generalize exS cf s σ=z;unfold kF;cases z with
  | none=>rfl
  | some p=>
   obtain⟨f,Fd⟩:=p;cases f <;> simp[c,kF]
theorem xa{cf:CF}{s:MS}{r:yA MS}{σ Fd:St}(h:exS cf s σ=ac (.next,Fd)):bk cf (s::r) σ=bk cf r Fd:=by rw[ju,h];rfl
theorem qx{cf:CF}{s:MS}{r:yA MS}{σ Fd:St}{fr:yH}{d:D}(h:exS cf s σ=ac (.ret fr d,Fd)):bk cf (s::r) σ=ac (.ret fr d,Fd):=by rw[ju,h];rfl
theorem w9{cf:CF}{c:ME}{t f r:yA MS}{σ:St}{d:D}{k:yH}(h:evE cf (vis σ) c=ac d)(a:bU d=ac k):bk cf (.ite c t f::r) σ=if k=yC then bk cf (t++r) σ else bk cf (f++r) σ:=by
 rw[ju,xs_ite,h];dsimp only;rw[a,x_app,x_app];cases k <;> rfl
noncomputable def dq(cf:CF)(body:yA MS)(x:yF):D->St->yK (Fl×St):=λa σ=>bk cf body (ay σ x (yz,a))
noncomputable def loopS(r:yK (Fl×St))(k:St->yK (Fl×St)):yK (Fl×St):=match r with
 | some (.next,σ)=>k σ
 | x=>x
section
variable {cf:CF}{σ:St}{d:D}
theorem cy(cf:CF)(body:yA MS)(x:yF)(a:D)(r:yA D)(σ:St):cF (dq cf body x) (a::r) σ=loopS (bk cf body (ay σ x (yz,a))) (cF (dq cf body x) r):=by
 show (match bk cf body (ay σ x (yz,a)) with
  | some (.next,Fd)=>cF (dq cf body x) r Fd
  | x=>x)=_
 generalize bk cf body (ay σ x (yz,a))=z;unfold loopS
 split <;> rfl
theorem xb{x:yF}{E5:ME}{body:yA MS}{r:yA MS}{EX:yA D}(h:evE cf (vis σ) E5=ac d)(hi:d.items=ac EX):bk cf (.for_ x E5 body::r) σ=kF (cF (dq cf body x) EX (freeze E5.names σ)) (bk cf r):=by
 rw[ju,xs_for_,h];dsimp only;rw[hi];rfl
theorem x_while(cf:CF)(c:ME)(body:yA MS)(r:yA MS)(σ:St):bk cf (.while_ c body::r) σ=kF (eX (gK cf c) (λσ=>bk cf body σ) wR σ) (bk cf r):=by rw[ju,xs_while]
theorem x_forr(cf:CF)(x:yF)(E5:ME)(body:yA MS)(r:yA MS)(σ:St){ds:yA D}(h:evE cf (vis σ) E5=ac (.tup ds)):bk cf (.forr x E5 body::r) σ=kF (cF (dq cf body x) ds.reverse (freeze E5.names σ)) (bk cf r):=by
 rw[ju,uX,h];rfl
theorem x_rv{e:ME}{fr:yH}(a:e.varOf=yS)(h:evF cf (vis σ) e=ac (d,fr)):exS cf (.ret e) σ=ac (.ret fr d,σ):=by
 rw[uo,a];dsimp only;rw[h]
theorem x_rx{z:yF}{fr:yH}(h:σ.lookup z=ac (fr,d)):exS cf (.ret (.u z)) σ=ac (.ret fr d,σ):=by
 rw[uo];show (match σ.lookup z with | some (fr,d)=>ac (Fl.ret fr d,σ) | none=>yS)=_;rw[h]
theorem vI{ρ:yA (yF×D)}{i:Int}:evE cf ρ (.int i)=ac (.int i):=rfl
theorem vS{ρ:yA (yF×D)}{i:yF}:evE cf ρ (.str i)=ac (.str (yB i)):=rfl
theorem vB{ρ:yA (yF×D)}{i:yH}:evE cf ρ (.bool i)=ac (.bool i):=rfl
theorem vN{ρ:yA (yF×D)}:cn cf ρ []=ac []:=rfl
theorem dtt{p:Prop}[Decidable p](h:decide p=yC):p:=zG h
end
section
variable (cf:CF) (ρ:yA (yF×D))
theorem x4(x:yF):evE cf ρ (.u x)=ρ.lookup x:=rfl
theorem sy(x:yF):evE cf ρ (.glob x)=cf.glob x:=rfl
theorem e_int(i:Int):evE cf ρ (.int i)=ac (.int i):=rfl
theorem e_str(i:yF):evE cf ρ (.str i)=ac (.str (yB i)):=rfl
theorem e_bool(i:yH):evE cf ρ (.bool i)=ac (.bool i):=rfl
theorem gg:evE cf ρ .none=ac .none:=rfl
noncomputable def o2(f:D->D->yK D)(a b:yK D):yK D:=match a with
 | some x=>(match b with | some y=>f x y | none=>yS)
 | none=>yS
theorem e_bin(c:AM)(a b:ME):evE cf ρ (.bin c a b)=o2 (eF c) (evE cf ρ a) (evE cf ρ b):=rfl
theorem e_cmp(c:CL)(a b:ME):evE cf ρ (.cmp c a b)=o2 (ec c) (evE cf ρ a) (evE cf ρ b):=rfl
theorem e_sub(a b:ME):evE cf ρ (.sub a b)=o2 aV (evE cf ρ a) (evE cf ρ b):=rfl
theorem e_bop(a:CW)(es:yA ME):evE cf ρ (.bop a es)=gJ cf ρ a es:=rfl
noncomputable def o1(f:D->yK D)(a:yK D):yK D:=match a with
 | some x=>f x
 | none=>yS
theorem e_not(a:ME):evE cf ρ (.not a)=o1 (λx=>(bU x).map λt=>.bool (!t)) (evE cf ρ a):=rfl
noncomputable def oL(f:yA D->yK D)(a:yK (yA D)):yK D:=match a with
 | some x=>f x
 | none=>yS
theorem e_tup(es:yA ME):evE cf ρ (.tup es)=oL (λds=>if ds.length<=big then ac (.tup ds) else yS) (cn cf ρ es):=rfl
theorem e_lst(es:yA ME):evE cf ρ (.lst es)=oL (λds=>if ds.length<=big then ac (.list ds) else yS) (cn cf ρ es):=rfl
theorem e_blt(f:yF)(es:yA ME):evE cf ρ (.blt f es)=oL (hY f) (cn cf ρ es):=rfl
theorem e_call(f:yF)(es:yA ME):evE cf ρ (.call f es)=oL (λds=>(cf.call f ds).map (·.1)) (cn cf ρ es):=rfl
theorem e_inn(a:ME):evE cf ρ (.inn a)=o1 innD (evE cf ρ a):=rfl
theorem e_sset(a:ME):evE cf ρ (.sset a)=o1 oH (evE cf ρ a):=rfl
theorem e_lcp(a:ME):evE cf ρ (.lcp a)=o1 (λx=>(uI x).map .list) (evE cf ρ a):=rfl
theorem e_isi(a:ME)(T:yF):evE cf ρ (.isi a T)=o1 (λx=>(pp x T).map .bool) (evE cf ρ a):=rfl
theorem e_sl(a l h:ME):evE cf ρ (.sl a l h)=o1 (λx=>o2 (slD x) (evE cf ρ l) (evE cf ρ h)) (evE cf ρ a):=rfl
noncomputable def kO(elt:ME)(x:yF)(cs:yA ME):D->yK (yK D):=λa=>match nN cf ((x,a)::ρ) cs with
 | some yC=>(match evE cf ((x,a)::ρ) elt with | some y=>ac (ac y) | none=>yS)
 | some yz=>ac yS
 | none=>yS
theorem e_comp(elt:ME)(x:yF)(E5:ME)(cs:yA ME):evE cf ρ (.comp elt x E5 cs)=o1 (λd=>(match d.items with
   | some EX=>if EX.length<=big then (bS (kO cf ρ elt x cs) EX).map .list else yS
   | none=>yS)) (evE cf ρ E5):=rfl
theorem es_nil:cn cf ρ []=ac []:=rfl
noncomputable def oC(a:yK D)(b:yK (yA D)):yK (yA D):=match a with
 | some d=>(match b with | some ds=>ac (d::ds) | none=>yS)
 | none=>yS
theorem es_cons(e:ME)(r:yA ME):cn cf ρ (e::r)=oC (evE cf ρ e) (cn cf ρ r):=rfl
noncomputable def oB(s:yH)(r:yK D)(a:yK D):yK D:=match a with
 | some d=>(match bU d with
  | some t=>if t=s then ac d else r
  | none=>yS)
 | none=>yS
theorem vA(s:yH)(r:yK D)(t:yH):oB s r (ac (.bool t))=if t=s then ac (.bool s) else r:=by
 unfold oB bU
 by_cases h:t=s
 ·subst h;rfl
 ·simp[h]
theorem b_and(e a:ME)(r:yA ME):gJ cf ρ .And (e::a::r)=oB yz (gJ cf ρ .And (a::r)) (evE cf ρ e):=rfl
theorem b_or(e a:ME)(r:yA ME):gJ cf ρ .Or (e::a::r)=oB yC (gJ cf ρ .Or (a::r)) (evE cf ρ e):=rfl
theorem c_nil:nN cf ρ []=ac yC:=rfl
end
theorem ua(f:D->yK (yK D))(Q:D->D->Prop):∀ (EX:yA D),(∀ it∈EX,∃ d,Q it d/\f it=ac (ac d))->∃ ds,bS f EX=ac ds/\ds.length=EX.length/\∀ d∈ds,∃ it∈EX,Q it d
 | [],_=>⟨[],QQ,QQ,λZ h=>nomatch h⟩
 | it::r,h=>by
  obtain⟨d,q,e⟩:=h it (by simp)
  obtain⟨ds,b,c,hq⟩:=ua f Q r λi a=>h i (by simp[a])
  refine⟨d::ds,by simp[bS,e,b],by simp[c],?_⟩
  intro j hd
  rcases yX.mp hd with rfl | hd
  ·exact⟨it,by simp,q⟩
  ·obtain⟨i,a,m⟩:=hq j hd
   exact⟨i,by simp[a],m⟩
theorem fN{cf:CF}{ρ:yA (yF×D)}{elt:ME}{x:yF}{a d:D}(h:evE cf ((x,a)::ρ) elt=ac d):kO cf ρ elt x [] a=ac (ac d):=by
 unfold kO;simp[c_nil,h]
theorem dS(n:Nat):D.items (.rng 0 n)=ac ((zf n).map λ(i:Nat)=>D.int (i:Int)):=by
 simp[D.items]
noncomputable def Ex(h:Heap)(H:yN->Prop):Prop:=∀ a,H a->∃ b o,@LE.le Nat _ a b/\gat h b=ac o
theorem Ex.fresh{h:Heap}{H:yN->Prop}(x:Ex h H):¬ H h.objs.size:=λe=>by
 obtain⟨b,o,a,c⟩:=x _ e;exact zY _ (yO a (Heap.gt_lt c))
theorem Ex.keeps{h h':Heap}{H:yN->Prop}(x:Ex h H)(c:KH h h'):Ex h' H:=λa e=>by
 obtain⟨b,o,f,i⟩:=x _ e;exact⟨b,o,f,c _ _ i⟩
inductive bP(s:yL):yL->Prop
 | mk (h tk dr) (k:KH s.heap h):bP s { s with heap:=h,toks:=tk,drawn:=dr }
theorem Kp.refl(s:yL):bP s s:=.mk s.heap s.toks s.drawn λZ Z e=>e
theorem Kp.tok(s:yL)(t:Nat):bP s { s with toks:=t }:=.mk s.heap t s.drawn λZ Z e=>e
theorem Kp.push(s:yL)(o:Obj):bP s { s with heap:=s.heap.push o }:=.mk _ s.toks s.drawn λZ Z e=>Heap.gt_push_of_some _ e
theorem Kp.trans{s s' c:yL}(a:bP s s')(b:bP s' c):bP s c:=bP.rec (motive:=λs' Z=>∀ c,bP s' c->bP s c) (λZ Z Z k Z b=>b.rec λh t d f=>.mk h t d λx o e=>f x o (k x o e)) a c b
theorem Kp.heap{s s':yL}(a:bP s s'):KH s.heap s'.heap:=a.rec λZ Z Z k=>k
inductive bz(w:zq)(s:yL)(H:yN->Prop)(d:D)(v:yE)(s':yL):Prop
 | mk (k:bP s s') (r:Rep w.params s'.heap H v d)
theorem bz.k{w:zq}{s:yL}{H:yN->Prop}{d:D}{v:yE}{s':yL}(q:bz w s H d v s'):bP s s':=q.rec λk Z=>k
theorem bz.r{w:zq}{s:yL}{H:yN->Prop}{d:D}{v:yE}{s':yL}(q:bz w s H d v s'):Rep w.params s'.heap H v d:=q.rec λZ r=>r
theorem bz.tr{w:zq}{s a b:yL}{H:yN->Prop}{d:D}{v:yE}(k:bP s a)(q:bz w a H d v b):bz w s H d v b:=⟨Kp.trans k q.k,q.r⟩
inductive eR(s:yL)(t b:yH)(s':yL):Prop
 | mk (k:bP s s') (e:b=t)
theorem eR.k{s:yL}{t b:yH}{s':yL}(q:eR s t b s'):bP s s':=q.rec λk Z=>k
theorem eR.e{s:yL}{t b:yH}{s':yL}(q:eR s t b s'):b=t:=q.rec λZ e=>e
theorem eR.tr{s a:yL}{t b:yH}{s':yL}(k:bP s a)(q:eR a t b s'):eR s t b s':=⟨Kp.trans k q.k,q.e⟩
inductive jg(P:zH)(h:Heap)(H:yN->Prop)(a:yN)(ds:yA D):Prop
 | mk {vs n} (ho:h.get? a=ac (fT vs n)) (hl:ds.length<=big) (hr:al P h (λb=>H b\/b=a) vs.toList ds)
inductive nS(P:zH)(h:Heap)(H:yN->Prop)(a:yN)(ks vs:yA D):Prop
 | mk {es n} (ho:h.get? a=ac (nP es n)) (hl:ks.length<=big) (h1:al P h (λb=>H b\/b=a) (es.toList.map (·.key)) ks) (h2:al P h (λb=>H b\/b=a) (es.toList.map (·.val)) vs) (hh:es.toList.map (·.hash)=ks.map (iv P)) (hk:ks.all D.isKey=yC) (hd:ks.Nodup) (hs:(a == Dg)=yz)
noncomputable def dH(P:zH)(h:Heap)(H:yN->Prop)(a:yN)(d:D):Prop:=match d with
 | .list ds=>jg P h H a ds
 | .dict ks vs=>nS P h H a ks vs
 | _=>False
section
variable {P:zH} {h h':Heap} {H H':yN->Prop} {a:yN} {d:D} {ds ks vs:yA D}
@[elab_as_elim] theorem dH.cases{C:D->Prop}(o:dH P h H a d)(b:∀ ds,jg P h H a ds->C (.list ds))(c:∀ ks vs,nS P h H a ks vs->C (.dict ks vs)):C d:=
 D.casesOn (motive_1:=λd=>dH P h H a d->C d) d (λo=>o.elim) (λZ o=>o.elim) (λZ o=>o.elim) (λZ o=>o.elim) (λZ o=>o.elim) b c (λZ Z o=>o.elim)
  (λZ o=>o.elim)
  o
theorem jg.rep(o:jg P h H a ds)(b:¬ H a):Rep P h H (.ref a) (.list ds):=o.rec λc f i=>.mk c b f (i.mono (λZ Z Z e=>e) λZ Z Z q=>.inl q)
theorem nS.rep(o:nS P h H a ks vs)(b:¬ H a):Rep P h H (.ref a) (.dict ks vs):=o.rec λc f h1 i j m n s=>.mk c b f (h1.mono (λZ Z Z e=>e) λZ Z Z q=>.inl q) (i.mono (λZ Z Z e=>e) λZ Z Z q=>.inl q) j m n s
theorem dH.rep(o:dH P h H a d)(b:¬ H a):Rep P h H (.ref a) d:=o.cases (λZ o=>o.rep b) λZ Z o=>o.rep b
theorem dH.off{h':Heap}{H':yN->Prop}(o:dH P h H a d):Rep P h' H' (.ref a) d->¬ H' a:=o.cases (C:=λd=>Rep P h' H' (.ref a) d->¬ H' a) (λZ Z r=>l8.off (mkO:=fT) r QQ) λZ Z Z r=>qv.rec (motive:=λv Z=>v=.ref a->¬ H' a) (λZ b Z Z Z Z Z Z Z e=>vk b e) r QQ
theorem dH.obj(o:dH P h H a d):∃ o,h.get? a=ac o/\bI o=yz:=o.cases (C:=λZ=>∃ o,h.get? a=ac o/\bI o=yz) (λZ o=>o.rec λb Z Z=>⟨_,b,QQ⟩) λZ Z o=>o.rec λb Z Z Z Z Z Z Z=>⟨_,b,QQ⟩
theorem dH.ex(o:dH P h H a d):∃ o,gat h a=ac o:=o.obj.elim λo q=>⟨o,Heap.gt_of q.1 q.2⟩
theorem dH.notTab(o:dH P h H a d):∀ o,h.get? a=ac o->bI o=yz:=o.obj.elim λZ q=>bZ q.1 q.2
theorem dH.scalar(o:dH P h H a d):d.scalar=yz:=o.cases (λZ Z=>QQ) λZ Z Z=>QQ
noncomputable abbrev wO(h:Heap)(H H':yN->Prop)(a:yN):Prop:=∀ b o,gat h b=ac o->H' b->H b\/b=a
theorem rO(c:nT h H h')(f:wO h H H' a){l:yA yE}(r:al P h (λb=>H b\/b=a) l ds):al P h' (λb=>H' b\/b=a) l ds:=r.mono (λb o i e=>c b o (λq=>i (.inl q)) e) λb o e q=>q.elim (f b o e) .inr
theorem jg.mono(o:jg P h H a ds)(b:∀ o,gat h a=ac o->gat h' a=ac o)(c:nT h H h')(f:wO h H H' a):jg P h' H' a ds:=o.rec λi j m=>⟨Heap.of_gt (b _ (Heap.gt_of i)),j,rO c f m⟩
theorem nS.mono(o:nS P h H a ks vs)(f:∀ o,gat h a=ac o->gat h' a=ac o)(b:nT h H h')(c:wO h H H' a):nS P h' H' a ks vs:=o.rec λi j h1 m n q s t=>⟨Heap.of_gt (f _ (Heap.gt_of i)),j,rO b c h1,rO b c m,n,q,s,t⟩
theorem dH.mono(o:dH P h H a d)(b:∀ o,gat h a=ac o->gat h' a=ac o)(c:nT h H h')(f:wO h H H' a):dH P h' H' a d:=o.cases (λZ o=>o.mono b c f) λZ Z o=>o.mono b c f
theorem dH.sub(o:dH P h H a d)(c:∀ b,H' b->H b):dH P h H' a d:=o.mono (λZ e=>e) (λZ Z Z e=>e) λb Z Z q=>.inl (c b q)
end
theorem cx{α:Type}{o:yK α}{x:α}{C:Prop}(h:o=ac x)(h':o=yS):C:=by cases h.symm.trans h'
theorem vD{h h':Heap}{a:yN}(c:∀ o,gat h a=ac o->∃ b,gat h' a=ac b)(e:gat h' a=yS):gat h a=yS:=by
 cases q:gat h a with
 | none=>rfl
 | some o=>exact (c o q).elim λb f=>cx f e
theorem lK{h h':Heap}{a:yN}(b:KH h h')(e:gat h' a=yS):gat h a=yS:=vD (λo q=>⟨o,b a o q⟩) e
inductive Fr(P:zH)(h0 h:Heap)(H:yN->Prop)(d:D):yE->Prop
 | mk {a} (e:gat h0 a=yS) (o:dH P h H a d):Fr P h0 h H d (.ref a)
theorem Fr.old{P:zH}{b a h:Heap}{H:yN->Prop}{d:D}{v:yE}(f:Fr P b h H d v)(c:KH a b):Fr P a h H d v:=f.rec λe o=>⟨lK c e,o⟩
theorem Fr.sub{P:zH}{a h:Heap}{H H':yN->Prop}{d:D}{v:yE}(f:Fr P a h H d v)(c:∀ b,H' b->H b):Fr P a h H' d v:=f.rec λe o=>⟨e,o.sub c⟩
inductive cC(w:zq)(s:yL)(H:yN->Prop)(d:D)(fr:yH)(v:yE)(s':yL):Prop
 | mk (k:bP s s') (r:Rep w.params s'.heap H v d) (f:fr=yC->Fr w.params s.heap s'.heap H d v)
section
variable {α:Type}{C c:Prop}{d:D}
theorem cC.post{w:zq}{s s':yL}{H:yN->Prop}{fr:yH}{v:yE}(q:cC w s H d fr v s'):bz w s H d v s':=q.rec λk r Z=>⟨k,r⟩
theorem cC.tr{w:zq}{s a b:yL}{H:yN->Prop}{fr:yH}{v:yE}(k:bP s a)(q:cC w a H d fr v b):cC w s H d fr v b:=q.rec λc r f=>⟨Kp.trans k c,r,λe=>(f e).old (Kp.heap k)⟩
theorem bz.pf{w:zq}{s a:yL}{H:yN->Prop}{fr:yH}{v:yE}(q:bz w s H d v a)(h:fr=yz):cC w s H d fr v a:=⟨q.k,q.r,λe=>nomatch h.symm.trans e⟩
theorem cZ(h:Heap):gat h h.objs.size=yS:=Heap.gt_none_of_le (y0 _)
theorem not_size{h:Heap}{a:yN}{o:Obj}(e:gat h a=ac o)(q:a=h.objs.size):C:=cx e (q▸cZ h)
theorem km{w:zq}{s:yL}{H:yN->Prop}{vs:zj yE}{ds:yA D}{h':Heap}{n tk:Nat}{b:Drawn}(f:Ex s.heap H)(h:ds.length<=big)(i:al w.params s.heap H vs.toList ds)(c:KH s.heap h')
  (j:h'.get? s.heap.objs.size=ac (fT vs n)):cC w s H (.list ds) yC (.ref s.heap.objs.size) { s with heap:=h',toks:=tk,drawn:=b }:=
 have Fb:jg w.params h' H s.heap.objs.size ds:=⟨j,h,i.mono (λa o Z e=>c a o e) λa o e q=>q.elim id (not_size e)⟩
 ⟨.mk h' tk b c,Fb.rep f.fresh,λZ=>⟨cZ _,Fb⟩⟩
theorem aj{x:α}(h:none=ac x):C:=by cases h
theorem bi[Decidable c]{x d:α}(h:(if c then ac x else yS)=ac d)(k:c->x=d->C):C:=by
 by_cases a:c
 ·rw[yT a] at h;exact k a (yJ h)
 ·rw[yV a] at h;exact aj h
theorem cK[Decidable c]{x:yK α}{d:α}(h:(if c then x else yS)=ac d)(k:c->x=ac d->C):C:=by
 by_cases a:c
 ·rw[yT a] at h;exact k a h
 ·rw[yV a] at h;exact aj h
theorem cY[Decidable c]{x y:yK α}{d:α}(h:(if c then x else y)=ac d)(k:c->x=ac d->C)(b:¬ c->y=ac d->C):C:=by
 by_cases a:c
 ·rw[yT a] at h;exact k a h
 ·rw[yV a] at h;exact b a h
theorem iP{c:Type}{o:yK α}{f:α->yK c}{b:c}(h:o.bind f=ac b)(k:∀ a,o=ac a->f a=ac b->C):C:=by
 cases o with
 | none=>exact aj h
 | some a=>exact k a QQ h
theorem bM{c:Type}{o:yK α}{f:α->c}{b:c}(h:o.map f=ac b)(k:∀ a,o=ac a->f a=b->C):C:=by
 cases o with
 | none=>exact aj h
 | some a=>exact k a QQ (yJ h)
end
section
variable {α:Type} {r:α} {d:D} {C:D->Prop}
@[elab_as_elim] theorem ed{f:Int->yK α}(h:onI d f=ac r)(k:∀ i,f i=ac r->C (.int i)):C d:=
 D.casesOn (motive_1:=λd=>onI d f=ac r->C d) d (λh=>aj h) (λZ h=>aj h) k (λZ h=>aj h) (λZ h=>aj h) (λZ h=>aj h) (λZ Z h=>aj h) (λZ Z h=>aj h)
  (λZ h=>aj h)
  h
@[elab_as_elim] theorem od{f:Str->yK α}(h:onS d f=ac r)(k:∀ i,f i=ac r->C (.str i)):C d:=
 D.casesOn (motive_1:=λd=>onS d f=ac r->C d) d (λh=>aj h) (λZ h=>aj h) (λZ h=>aj h) k (λZ h=>aj h) (λZ h=>aj h) (λZ Z h=>aj h) (λZ Z h=>aj h)
  (λZ h=>aj h)
  h
@[elab_as_elim] theorem onB_inv{f:yH->yK α}(h:onB d f=ac r)(k:∀ i,f i=ac r->C (.bool i)):C d:=
 D.casesOn (motive_1:=λd=>onB d f=ac r->C d) d (λh=>aj h) k (λZ h=>aj h) (λZ h=>aj h) (λZ h=>aj h) (λZ h=>aj h) (λZ Z h=>aj h) (λZ Z h=>aj h)
  (λZ h=>aj h)
  h
@[elab_as_elim] theorem rP{f:yA D->yK α}(h:onT d f=ac r)(k:∀ i,f i=ac r->C (.tup i)):C d:=
 D.casesOn (motive_1:=λd=>onT d f=ac r->C d) d (λh=>aj h) (λZ h=>aj h) (λZ h=>aj h) (λZ h=>aj h) k (λZ h=>aj h) (λZ Z h=>aj h) (λZ Z h=>aj h)
  (λZ h=>aj h)
  h
@[elab_as_elim] theorem rQ{f:yA D->yK α}(h:onL d f=ac r)(k:∀ i,f i=ac r->C (.list i)):C d:=
 D.casesOn (motive_1:=λd=>onL d f=ac r->C d) d (λh=>aj h) (λZ h=>aj h) (λZ h=>aj h) (λZ h=>aj h) (λZ h=>aj h) k (λZ Z h=>aj h) (λZ Z h=>aj h)
  (λZ h=>aj h)
  h
@[elab_as_elim] theorem vq{f:Int->yK α}{g:Str->yK α}(h:onC d f g=ac r)(k:∀ i,f i=ac r->C (.int i))(a:∀ x,g x=ac r->C (.str x)):C d:=
 D.casesOn (motive_1:=λd=>onC d f g=ac r->C d) d (λh=>aj h) (λZ h=>aj h) k a (λZ h=>aj h) (λZ h=>aj h) (λZ Z h=>aj h) (λZ Z h=>aj h)
  (λZ h=>aj h)
  h
end
section
variable {P:zH} {h:Heap} {H:yN->Prop} {v:yE} {C:yE->Prop}
@[elab_as_elim] theorem Rep.intE{i:Int}(r:Rep P h H v (.int i))(k:∀ t,C (.int i t)):C v:=ym.rec (motive:=λv Z=>C v) k r
@[elab_as_elim] theorem Rep.strE{x:Str}(r:Rep P h H v (.str x))(k:∀ t,C (.str x t)):C v:=yl.rec (motive:=λv Z=>C v) k r
@[elab_as_elim] theorem Rep.boolE{b:yH}(r:Rep P h H v (.bool b))(k:C (.bool b)):C v:=(show v=.bool b from r)▸k
@[elab_as_elim] theorem Rep.noneE(r:Rep P h H v .none)(k:C .none):C v:=(show v=.none from r)▸k
@[elab_as_elim] theorem Rep.tupE{ds:yA D}(r:Rep P h H v (.tup ds))(k:∀ a vs n,h.get? a=ac (dY vs n)->¬ H a->ds.length<=big->al P h H vs.toList ds->C (.ref a)):C v:=l8.rec (motive:=λv Z=>C v) (λb c f i=>k _ _ _ b c f i) r
@[elab_as_elim] theorem Rep.listE{ds:yA D}(r:Rep P h H v (.list ds))(k:∀ a vs n,h.get? a=ac (fT vs n)->¬ H a->ds.length<=big->al P h H vs.toList ds->C (.ref a)):C v:=l8.rec (motive:=λv Z=>C v) (λb c f i=>k _ _ _ b c f i) r
end
section
variable {E3:zh} {w:zq} {A:zt} {E:yE->yL->Prop} {s:yL} {H:yN->Prop}
section
variable {d b:D}{a i:Int}{k:Nat}{t:Tok}
theorem wI(h:a.natAbs<2 ^ k):Builtin.Int.intBits a<=k:=by
 unfold Builtin.Int.intBits
 split
 ·exact za _
 ·rename_i b
  exact (Nat.log2_lt λe=>b (by simp;omega)).mpr h
theorem sH{n:Int}{m:Nat}(e:(m:Int)=n)(h:-n<a/\a<n):a.natAbs<m:=by subst e;omega
theorem wJ(h:-lim<a/\a<lim):Builtin.Int.intBits a<=64:=wI (sH (DR 2 64) h)
theorem bits_le1000(h:-fA<a/\a<fA):Builtin.Int.intBits a<=1000:=wI (sH (DR 2 1000) h)
theorem al.appendA{P:zH}{h:Heap}{vs ws:zj yE}{ds es:yA D}(r:al P h H vs.toList ds)(k:al P h H ws.toList es):al P h H (vs++ws).toList (ds++es):=by rw[D0];exact r.append k
theorem kX{vs:zj yE}{ds:yA D}(a:Ex s.heap H)(b:ds.length<=big)(c:al w.params s.heap H vs.toList ds) :
  Rep w.params (s.heap.push (dY vs 0)) H (.ref s.heap.objs.size) (.tup ds):=
 .mk (Heap.get?_push_size _ QQ) a.fresh b (c.keeps λZ Z e=>Heap.gt_push_of_some _ e)
theorem ir:bz w s H (.int i) (.int i t) { s with toks:=k }:=⟨Kp.tok _ _,.mk t⟩
theorem qO{i:Str}:bz w s H (.str i) (.str i t) { s with toks:=k }:=⟨Kp.tok _ _,.mk t⟩
theorem cJ{b:yH}:bz w s H (.bool b) (.bool b) { s with toks:=k }:=⟨Kp.tok _ _,QQ⟩
theorem binI_snd{b:AM}{j:Int}{u:Tok}(he:binI b i j=ac d):wpAny (yR E3 w) A (binaryOp b (.int i t) (.int j u)) (bz w s H d) E s:=by
 cases b with
 | Add=>exact yJ he▸PyProof.Rows.add_int ir
 | Sub=>exact yJ he▸PyProof.Rows.sub_int ir
 | Mult=>exact bi he λa e=>e▸PyProof.Rows.mul_int ir (a.elim (λh=>.of_left (wJ h)) λh=>.of_right (wJ h))
 | Mod=>exact bi he λa e=>e▸PyProof.Rows.mod_int (Int.ne_of_gt a) (Int.fmod_eq_emod_of_nonneg i (Bj a)▸ir)
 | Pow=>exact bi he λa e=>e▸PyProof.Rows.pow_int a.2.2.1 (zW (Int.mul_le_mul (Al.mpr (bits_le1000 ⟨a.1,a.2.1⟩)) a.2.2.2 a.2.2.1 (by decide)) (by decide)) ir
 | FloorDiv=>exact bi he λa e=>e▸PyProof.Rows.floordiv_int (Int.ne_of_gt a.1) (Int.fdiv_eq_ediv_of_nonneg i (Bj a.1)▸ir) (.inl (PyProof.noPylong_of_log2 (zM ((Nat.log2_lt (by omega)).mpr (sH (DR 2 64) ⟨AG (by decide) a.1,a.2⟩)) (by decide))))
 | _=>exact aj he
theorem binS_snd{f:AM}{x:Str}{y:yE}(c:Rep w.params s.heap H y b)(he:binS f x b=ac d):wpAny (yR E3 w) A (binaryOp f (.str x t) y) (bz w s H d) E s:=by
 cases f with
 | Add=>exact od (C:=λb=>Rep w.params s.heap H y b->_) he (λz he c=>bi he λa e=>e▸c.strE λu=>PyProof.Rows.add_str (λh tk=>qO) a) c
 | Mult=>
  refine ed (C:=λb=>Rep w.params s.heap H y b->_) he (λn he c=>bi he λa e=>e▸c.intE λu=>SB.mul ⟨by simp;exact om55 a,λg1 Z=>?_,λg1 Z=>?_⟩ λh k=>qO) c
  ·have:(1000:Int)<=(2 ^ 63 - 1) / n:=(Int.le_ediv_iff_mul_le (om56 g1)).mpr (om57 a)
   exact om58 a this
  ·exact Ad (zU.mpr (yD (Dh a.2.2 (Int.toNat_le.mpr a.2.1)) (by decide)))
 | _=>exact aj he
theorem binL_snd{a:AM}{x y:yE}{as:yA D}(i:Rep w.params s.heap H x (.list as))(c:Rep w.params s.heap H y b)(j:Ex s.heap H)(he:binL a as b=ac d) :
  wpAny (yR E3 w) A (binaryOp a x y) (cC w s H d d.isList) E s:=by
 cases a with
 | Add=>exact rQ (C:=λb=>Rep w.params s.heap H y b->_) he (λm he c=>bi he λf e=>e▸i.listE λZ Z Z o1 Z Z h=>c.listE λZ Z Z o2 Z Z r2=>
   P.add_list o1 o2 (km j (yY▸f) (h.appendA r2) (λZ Z e=>Heap.gt_push_of_some _ e) (Heap.get?_push_size _ QQ)) (h.size▸r2.size▸f)) c
 | _=>exact aj he
theorem nu{P:zH}{h:Heap}{vs:zj yE}{ds:yA D}(r:al P h H vs.toList ds)(a:vs.isEmpty=yC):ds=[]:=BI (r.size▸Array.size_eq_zero_iff.mpr (En.mp a))
theorem binT_snd{h:AM}{x y:yE}{as:yA D}(m:Rep w.params s.heap H x (.tup as))(i:Rep w.params s.heap H y b)(n:Ex s.heap H)(he:binT h as b=ac d) :
  wpAny (yR E3 w) A (binaryOp h x y) (bz w s H d) E s:=by
 cases h with
 | Add=>
  refine rP (C:=λb=>Rep w.params s.heap H y b->_) he (λB he i=>bi he λj e=>e▸m.tupE λa1 o n1 o1 q t c=>i.tupE λa2 u n2 o2 q2 z r2=>?_) i
  by_cases f:o.isEmpty=yC
  ·exact concat_meets ⟨_,o1,QQ⟩ ⟨_,o2,QQ⟩ noFill_tuple_add seq_tuple_add PySem.F.slot_tuple_add PySem.F.entry_tuple_add (PySem.F.args_tuple_add_2 _ _) (AutoSeq1.tuple___add___tuple_tuple_0 _ _ _ _ _ _ f) ⟨o1,o2,Kp.refl _,(nu c f).symm▸.mk o2 q2 z r2⟩
  ·by_cases a:u.isEmpty=yC
   ·exact concat_meets ⟨_,o1,QQ⟩ ⟨_,o2,QQ⟩ noFill_tuple_add seq_tuple_add PySem.F.slot_tuple_add PySem.F.entry_tuple_add (PySem.F.args_tuple_add_2 _ _) (AutoSeq1.tuple___add___tuple_tuple_1 _ _ _ _ _ _ f a) ⟨o1,o2,Kp.refl _,(nu r2 a).symm▸(zm as).symm▸.mk o1 q t c⟩
   ·exact P.add_tuple o1 o2 f a ⟨Kp.push _ _,kX n (yY▸j) (c.appendA r2)⟩ (c.size▸r2.size▸j)
 | _=>exact aj he
theorem binI_plain{a:AM}{j:Int}(he:binI a i j=ac d):d.isList=yz:=by
 cases a with
 | Add | Sub=>exact yJ he▸rfl
 | Mult | Mod | Pow | FloorDiv=>exact bi he λZ e=>e▸rfl
 | _=>exact aj he
theorem binS_plain{a:AM}{x:Str}(he:binS a x b=ac d):d.isList=yz:=by
 cases a with
 | Add=>exact od (C:=λZ=>d.isList=yz) he λZ he=>bi he λZ e=>e▸rfl
 | Mult=>exact ed (C:=λZ=>d.isList=yz) he λZ he=>bi he λZ e=>e▸rfl
 | _=>exact aj he
theorem binT_plain{a:AM}{x:yA D}(he:binT a x b=ac d):d.isList=yz:=by
 cases a with
 | Add=>exact rP (C:=λZ=>d.isList=yz) he λZ he=>bi he λZ e=>e▸rfl
 | _=>exact aj he
theorem bG{α:Type}{M:Model}{c:Sem α}{Q a:α->yL->Prop}(h:wpAny M A c Q E s)(k:∀ v s',Q v s'->a v s'):wpAny M A c a E s:=CM h k λZ Z e=>e
theorem bin_snd{h:AM}{x y:yE}{a:D}(f:Rep w.params s.heap H x a)(c:Rep w.params s.heap H y b)(m:Ex s.heap H)(he:eF h a b=ac d) :
  wpAny (yR E3 w) A (binaryOp h x y) (cC w s H d d.isList) E s:=by
 cases a with
 | int i=>exact ed (C:=λb=>Rep w.params s.heap H y b->_) he (λj he c=>bG (f.intE λZ=>c.intE λZ=>binI_snd he) λZ Z q=>q.pf (binI_plain he)) c
 | str x=>exact bG (f.strE λZ=>binS_snd c he) λZ Z q=>q.pf (binS_plain he)
 | tup n=>exact bG (binT_snd f c m he) λZ Z q=>q.pf (binT_plain he)
 | list n=>exact binL_snd f c m he
 | _=>exact aj he
end
end
end Mine
namespace Mine
open PySem PySem.SeqAt
section
variable {E3:zh} {w:zq} {A:zt} {E:yE->yL->Prop} {s:yL} {H H':yN->Prop}
theorem eqS_inv{C:D->D->yH->Prop}{a b:D}{k:yH}(he:eqS a b=ac k)(j:∀ x y,C (.bool x) (.bool y) (x == y))(c:∀ x y,C (.int x) (.int y) (x == y))(f:∀ x y,C (.int x) (.str y) yz)(h:∀ x y,C (.str x) (.int y) yz)(i:∀ x y,C (.str x) (.str y) (x == y)):C a b k:=by
 cases a with
 | bool x=>exact onB_inv (C:=λb=>C (.bool x) b k) he λy e=>yJ e▸j x y
 | int x=>exact vq (C:=λb=>C (.int x) b k) he (λy e=>yJ e▸c x y) λy e=>yJ e▸f x y
 | str x=>exact vq (C:=λb=>C (.str x) b k) he (λy e=>yJ e▸h x y) λy e=>yJ e▸i x y
 | _=>exact aj he
structure Eq3(x y:yE)(k:yH):Prop where
 e:∀ A s,Cd A s x y k
 r:∀ A s,RcAt A s x y k
 n:∀ A s,RcNeAt A s x y (!k)
theorem ol{P:zH}{h:Heap}{x y:yE}{a b:D}{k:yH}(c:Rep P h H x a)(f:Rep P h H' y b)(he:eqS a b=ac k):Eq3 x y k:=
 eqS_inv (C:=λa b k=>Rep P h H x a->Rep P h H' y b->Eq3 x y k) he
  (λZ Z c f=>c.boolE (f.boolE ⟨λZ Z=>EqAt.bool_bool _ _,λZ Z=>RcAt.bool_bool _ _,λZ Z=>RcNeAt.bool_bool _ _⟩))
  (λZ Z c f=>c.intE λZ=>f.intE λZ=>⟨λZ Z=>EqAt.int_int _ _ _ _,λZ Z=>RcAt.int_int _ _ _ _,λZ Z=>RcNeAt.int_int _ _ _ _⟩)
  (λZ Z c f=>c.intE λZ=>f.strE λZ=>⟨λZ Z=>EqAt.int_str _ _ _ _,λZ Z=>RcAt.int_str _ _ _ _,λZ Z=>RcNeAt.int_str _ _ _ _⟩)
  (λZ Z c f=>c.strE λZ=>f.intE λZ=>⟨λZ Z=>EqAt.str_int _ _ _ _,λZ Z=>RcAt.str_int _ _ _ _,λZ Z=>RcNeAt.str_int _ _ _ _⟩)
  (λZ Z c f=>c.strE λZ=>f.strE λZ=>⟨λZ Z=>EqAt.str_str _ _ _ _,λZ Z=>RcAt.str_str _ _ _ _,λZ Z=>RcNeAt.str_str _ _ _ _⟩) c f
theorem aT{h:Heap}{a:yN}{vs:zj yE}{n:Nat}(b:h.get? a=ac (fT vs n)):h.IsList a vs:=⟨_,b,QQ,n,QQ⟩
theorem cX{h:Heap}{a:yN}{vs:zj yE}{n:Nat}(b:h.get? a=ac (dY vs n)):h.IsTuple a vs:=⟨_,b,QQ,n,QQ⟩
theorem fo{h:Heap}{a:yN}{vs:zj yE}{n:Nat}(b:h.get? a=ac (dY vs n)):PyProof.Rows.IsTup h a vs:=⟨_,b,QQ,n,QQ⟩
structure Rc2(A:zt)(s:yL)(x y:yE)(k:yH):Prop where
 r:RcAt A s x y k
 n:RcNeAt A s x y (!k)
theorem Eq3.rc{x y:yE}{k:yH}(q:Eq3 x y k):Rc2 A s x y k:=⟨q.r A s,q.n A s⟩
structure Eq2(E3:zh)(w:zq)(A:zt)(E:yE->yL->Prop)(s:yL)(H:yN->Prop)(x y:yE)(k:yH):Prop where
 e:wpAny (yR E3 w) A (B4 .Eq x y) (bz w s H (.bool k)) E s
 n:wpAny (yR E3 w) A (B4 .NotEq x y) (bz w s H (.bool (!k))) E s
theorem jr{b:yH}:bz w s H (.bool b) (.bool b) s:=⟨Kp.refl _,QQ⟩
theorem Rc2.two{x y:yE}{k:yH}(q:Rc2 A s x y k):Eq2 E3 w A E s H x y k:=⟨q.r E3 w E _ jr,q.n E3 w E _ jr⟩
noncomputable def qj(xs ys:yA yE)(e:Nat->yH):Prop:=∀ j (h1:j<xs.length) (a:j<ys.length) A s,Cd A s xs[j] ys[j] (e j)
section
variable {h:Heap}{n1 n2:Nat}
theorem rf{P:zH}{xs ys:yA yE}{ds es:yA D}{k:yH}(a:al P h H xs ds)(b:al P h H' ys es)(c:ds.length=es.length)(he:jS ds es=ac k) :
  ∃ e:Nat->yH,(zf ds.length).all e=k/\qj xs ys e:=by
 induction ds generalizing xs ys es k with
 | nil=>
  cases es with
  | nil=>exact⟨λZ=>yC,yJ he,λj h1=>by rw[show xs=[] from a] at h1;exact zl h1 (AF _)⟩
  | cons=>cases c
 | cons d ds t=>
  cases es with
  | nil=>cases c
  | cons e es=>
   refine iP he λo h1 he=>bM he λw u he=>dP.rec (motive:=λxs Z=>∃ e:Nat->yH,(zf (d::ds).length).all e=k/\qj xs ys e) (λa f=>dP.rec (motive:=λys Z=>∃ e:Nat->yH,(zf (d::ds).length).all e=k/\qj _ ys e) (λb i=>?_) b) a
   refine (t f i (Am c) u).elim λe q=>⟨λj=>Nat.casesOn j o e,?_,λj m n A s=>?_⟩
   ·rw[Ae,BR,AU,Bw]
    exact (y6 (o&&·) q.1).trans he
   ·cases j with
    | zero=>exact (ol a b h1).e A s
    | succ j=>exact q.2 j (AC m) (AC n) A s
theorem qj.arr{a v2:zj yE}{e:Nat->yH}(q:qj a.toList v2.toList e){A:zt}{s:yL}(j:Nat)(b:j<a.size)(q2:j<v2.size):Cd A s a[j] v2[j] (e j):=q j b q2 A s
theorem eqL_snd{m n:yN}{a v2:zj yE}{j d2:yA D}{k:yH}(h1:s.heap.get? m=ac (fT a n1))(c:s.heap.get? n=ac (fT v2 n2))(f:al w.params s.heap H a.toList j)(r2:al w.params s.heap H' v2.toList d2)
  (h:A.units<A9) (he:(if j.length=d2.length then jS j d2 else ac yz)=ac k):Rc2 A s (.ref m) (.ref n) k:=
 cY he (λi he=>(rf f r2 i he).elim λe q=>
   have o:a.size=v2.size:=f.size.trans (i.trans r2.size.symm)
   have t:(zf a.size).all e=k:=f.size.symm▸q.1
   t▸⟨RcAt.lists (aT h1) (aT c) o h q.2.arr,RcNeAt.lists (aT h1) (aT c) o h q.2.arr⟩)
  λi he=>
   have b:(a.size != v2.size)=yC:=CN.mpr λe=>i (f.size.symm.trans (e.trans r2.size))
   yJ he▸⟨RcAt.lists_lengths (aT h1) (aT c) b h,RcNeAt.lists_lengths (aT h1) (aT c) b h⟩
theorem tX{b c:yN}{a v2:zj yE}{k:yH}{e:Nat->yH}(h1:s.heap.get? b=ac (dY a n1))(f:s.heap.get? c=ac (dY v2 n2))(h:A.units<A9)(q:∀ j (m:j<a.size) (q2:j<v2.size),Cd A.in1 s a[j] v2[j] (e j))(i:((zf (min a.size v2.size)).all e&&a.size == v2.size)=k):Rc2 A s (.ref b) (.ref c) k:=
 i▸⟨RcAt.tuples (cX h1) (cX f) h q,RcNeAt.tuples (cX h1) (cX f) h q⟩
theorem eqT_snd{b c:yN}{f v2:zj yE}{a d2:yA D}{k:yH}(h1:s.heap.get? b=ac (dY f n1))(j:s.heap.get? c=ac (dY v2 n2))(h:al w.params s.heap H f.toList a)(r2:al w.params s.heap H' v2.toList d2)
  (m:A.units<A9) (i:a.length=d2.length) (he:jS a d2=ac k):Rc2 A s (.ref b) (.ref c) k:=
 (rf h r2 i he).elim λe q=>tX h1 j m q.2.arr (by rw[h.size,r2.size,<- i,DP,q.1,zg,CX])
theorem eqT_nil{a b:yN}{c v2:zj yE}{f d2:yA D}(h1:s.heap.get? a=ac (dY c n1))(h:s.heap.get? b=ac (dY v2 n2))(i:al w.params s.heap H c.toList f)(r2:al w.params s.heap H' v2.toList d2)
  (m:A.units<A9) (n:¬ f.length=d2.length) (o:d2.length=0):Rc2 A s (.ref a) (.ref b) yz:=
 tX (e:=λZ=>yC) h1 h m (λj q q2=>zl q2 (by rw[r2.size,o];exact AF _)) (by rw[i.size,r2.size,An.mpr n,CB])
theorem eqD_snd{x y:yE}{a b:D}{k:yH}(i:Rep w.params s.heap H x a)(c:Rep w.params s.heap H' y b)(j:A.units<A9)(he:eqD a b=ac k):Rc2 A s x y k:=by
 cases a with
 | tup ds=>exact rP (C:=λb=>Rep w.params s.heap H' y b->Rc2 A s x y k) he (λes he c=>i.tupE λZ Z Z h1 Z Z f=>c.tupE λZ Z Z h Z Z r2=>cY he (eqT_snd h1 h f r2 j) λm he=>bi he λn e=>e▸eqT_nil h1 h f r2 j m n) c
 | list ds=>exact rQ (C:=λb=>Rep w.params s.heap H' y b->Rc2 A s x y k) he (λes he c=>i.listE λZ Z Z h1 Z Z f=>c.listE λZ Z Z h Z Z r2=>eqL_snd h1 h f r2 j he) c
 | _=>exact (ol i c he).rc
@[elab_as_elim] theorem lY{y:yE}{ks vs:yA D}{C:yE->Prop}(i:Rep w.params h H y (.dict ks vs))(b:ks.all D.isCell=yC)(k:∀ a es n (cs:yA CK),ks=cs.map bx->h.get? a=ac (nP es n)->h.DictOf (cI E3 w) a (cs.zip (es.toList.map (·.val)))->al w.params h H (es.toList.map (·.val)) vs->(a == Dg)=yz->cs.length=(es.toList.map (·.val)).length->cs.Nodup->C (.ref a)):C y:=
 (pU b).elim λcs e=>qv.rec (motive:=λv Z=>C v) (λc q s h1 j m b f o=>k _ _ _ cs e c (pN c (e▸h1) (e▸m) (e▸f)) j o ((yI (as:=cs) bx).symm.trans ((e▸h1.length.symm:(cs.map bx).length=_).trans (by rw[yI,yI]))) ((AP.mp (e▸f)).imp λh e=>h (y6 bx e))) i
@[elab_as_elim] theorem t6{P:zH}{y:yE}{ks vs:yA D}{C:yE->Prop}(c:Rep P h H y (.dict ks vs))(b:ks.all D.isTK=yC)(k:∀ a es n (cs:yA (yA CK)),ks=cs.map eV->h.get? a=ac (nP es n)->al P h H (es.toList.map (·.key)) (cs.map eV)->al P h H (es.toList.map (·.val)) vs ->
  es.toList.map (·.hash)=(cs.map eV).map (iv P)->(cs.map eV).Nodup->(a == Dg)=yz->C (.ref a)):C y:=
 (uv b).elim λcs e=>qv.rec (motive:=λv Z=>C v) (λf q s h1 i j b m o=>k _ _ _ cs e f (e▸h1) i (e▸j) (e▸m) o) c
theorem xM{xs:yA (yA CK×yN×yE)}{cs:yA (yA CK)}(h:xs.map (·.1)=cs):xs.map kD=cs.map eV:=by
 rw[<- h,zV];rfl
theorem notIn_of_in{M:Model}{x c:yE}{j Q:yE->yL->Prop}(h:wpAny M A (B4 .In x c) j E s)(m:∀ b s',j (.bool b) s'->Q (.bool (!b)) s'):wpAny M A (B4 .NotIn x c) Q E s:=by
 intro a p f;have i:=h a p f;change Sem.wp _ a (Sem.bind (contains c x) λr=>Sem.pure (Value.bool r)) _ _ p s at i
 show Sem.wp _ a (Sem.bind (contains c x) λr=>Sem.pure (Value.bool (!r))) _ _ p s
 rw[Sem.wp_bind] at i ⊢;exact Sem.wp_mono _ a _ (λr n s' q=>m r s' q) (λZ Z Z q=>q) p s i
theorem mI{k:D}{ks:yA D}{C:Prop}(h:dL k ks=yC)(h1:k.isCell=yC->ks.all D.isCell=yC->C)(a:k.isTK=yC->ks.all D.isTK=yC->C):C:=(AV.mp h).elim (λh=>bQ h h1) λh=>bQ h a
theorem in_dict{x y:yE}{k:D}{ks vs:yA D}(i:Rep w.params s.heap H x k)(j:Rep w.params s.heap H y (.dict ks vs))(o:A.units+1<A9)(q:dL k ks=yC) :
  wpAny (yR E3 w) A (B4 .In x y) (bz w s H (.bool (ks.any λx=>aN x k))) E s:=by
 refine mI q (λh1 f=>(gL h1).elim λc e=>?_) ?_
 ·subst e
  exact lY (E3:=E3) j f λa es n t e m u z h B Z=>wpAny_in_of (knd:=cI E3 w) (mq i) h u.mapOf (by rw[any_valueAt B,e];exact cJ)
 ·refine λh1 f=>(sL h1).elim λc e=>?_
  subst e;refine t6 j f λa es n t e m C z G I h=>?_
  obtain⟨b,rfl,J⟩:=rN (E3:=E3) i;obtain⟨xs,L,e1,_,_⟩:=mV (E3:=E3) m C G I;refine wpAny_in_heap (knd:=TKd E3 w) o J h L ?_;rw[rq xs,xM e1,e];exact cJ
theorem pX{P:zH}{x y:yE}{a b:D}(f:Rep P h H x a)(i:Rep P h H' y b)(j:a.isCell=yC)(m:b.isCell=yC):∀ A s,Cd A s x y (bv a b):=by
 obtain⟨c,rfl⟩:=gL j;obtain⟨n,rfl⟩:=gL m;exact (ol f i (by cases c <;> cases n <;> rfl)).e
end
noncomputable def fg:yE->D
 | .int i _=>.int i
 | .str x _=>.str x
 | _=>.none
theorem jv{P:zH}{h:Heap}{v:yE}{d:D}(r:Rep P h H v d)(a:d.isCell=yC):fg v=d:=by
 obtain⟨c,rfl⟩:=gL a;cases c
 ·exact Rep.intE (C:=λv=>fg v=_) r λZ=>QQ
 ·exact Rep.strE (C:=λv=>fg v=_) r λZ=>QQ
theorem eqv_any{P:zH}{h:Heap}{b:D}{vs:yA yE}{ds:yA D}(r:al P h H vs ds)(a:ds.all D.isCell=yC):vs.any (λv=>bv (fg v) b)=ds.any λx=>bv x b:=by
 induction ds generalizing vs with
 | nil=>rw[show vs=[] from r];rfl
 | cons d ds c=>exact dP.rec (motive:=λvs Z=>vs.any (λv=>bv (fg v) b)=(d::ds).any λx=>bv x b) (λf i=>bQ a λh1 j=>by rw[Ax,Ax,c i j,jv f h1]) r
theorem mem_eqv{P:zH}{h:Heap}{x:yE}{k:D}(c:Rep P h H x k)(f:k.isCell=yC){A:zt}{s:yL}{vs:yA yE}{ds:yA D}(r:al P h H vs ds)(i:ds.all D.isCell=yC):∀ v∈vs,Cd A s v x (bv (fg v) k):=by
 induction ds generalizing vs with
 | nil=>rw[show vs=[] from r];exact λZ a=>nomatch a
 | cons d ds j=>exact dP.rec (motive:=λvs Z=>∀ v∈vs,Cd A s v x (bv (fg v) k)) (λb m v a=>bQ i λh1 n=>(yX.mp a).elim (λe=>e▸(jv b h1).symm▸pX b c h1 f A s) (j m n v)) r
theorem in_tup{x y:yE}{k:D}{ds:yA D}(f:Rep w.params s.heap H x k)(h:Rep w.params s.heap H y (.tup ds))(i:(k.isCell&&ds.all D.isCell)=yC) :
  wpAny (yR E3 w) A (B4 .In x y) (bz w s H (.bool (ds.any λx=>bv x k))) E s:=
 bQ i λh1 b=>h.tupE λa vs n j o q c=>in_tupleAt (λv=>bv (fg v) k) (cX j) (λv m=>mem_eqv f h1 c b v (CJ.mpr m)) (by rw[<- Array.any_toList,eqv_any c b];exact jr)
theorem ig{P:zH}{h:Heap}{vs:yA yE}{ds:yA D}(r:al P h H vs ds)(a:ds.all D.isCell=yC):vs.map fg=ds:=by
 induction ds generalizing vs with
 | nil=>rw[show vs=[] from r];rfl
 | cons d ds b=>exact dP.rec (motive:=λvs Z=>vs.map fg=d::ds) (λc f=>bQ a λh1 i=>by rw[y8,b f i,jv c h1]) r
theorem nH:∀ a b:yA D,((zf (min a.length b.length)).all (λj=>bv (a.getD j .none) (b.getD j .none))&&a.length == b.length)=aA a b
 | [],[]=>rfl
 | [],_::_=>rfl
 | _::_,[]=>rfl
 | x::a,y::b=>by
  rw[Ae,Ae,Nat.succ_min_succ,BR,AU,Bw];show ((bv x y&&(zf (min a.length b.length)).all λj=>bv (a.getD j .none) (b.getD j .none))&&(a.length+1 == b.length+1))=(bv x y&&aA a b)
  rw[<- nH a b,Bool.and_assoc,show (a.length+1 == b.length+1)=(a.length == b.length) from AY.mpr (by rw[AZ,AZ];exact⟨Am,y6 EA⟩)]
theorem lh:∀ {a:yA D},a.all D.isCell=yC->aA a a=yC
 | [],_=>rfl
 | x::a,h=>bQ h λh1 b=>by
  obtain⟨c,rfl⟩:=gL h1;show (bv (bx c) (bx c)&&aA a a)=yC;rw[lh b,CX];cases c
  ·exact zg _
  ·exact zg _
theorem oA{h:Heap}{l:yN}{a v2:zj yE}{n1 n2:Nat}(h1:h.get? l=ac (dY a n1))(b:h.get? l=ac (dY v2 n2)):a=v2:=by
 rw[h1] at b;have e:=y6 Obj.data (yJ b);exact (Data.seq.inj e).1
theorem xp{x y:yE}{a b:yA D}(C:Rep w.params s.heap H x (.tup a))(E:Rep w.params s.heap H' y (.tup b))(i:a.all D.isCell=yC)(o:b.all D.isCell=yC)(G:A.units<A9):Cd A s x y (aA a b):=
 C.tupE λl vs n t Z Z h=>E.tupE λI J M f Z Z c=>by
  by_cases e:l=I
  ·subst e
   have e:=oA t f;subst e;rw[<- (ig h i).symm.trans (ig c o),lh i];exact EqAt.same _
  ·refine EqAt.of_refs e ?_
   have q:=RcAt.tuples (A:=A) (s:=s) (e:=λj=>bv (a.getD j .none) (b.getD j .none)) (cX t) (cX f) G λj h1 z=>by
    have m:j<a.length:=h.size▸h1;have k2:j<b.length:=c.size▸z
    obtain⟨u,e1,L⟩:=h.get j (yP m);obtain⟨v,B,r2⟩:=c.get j (yP k2);rw[zL,A0 h1] at e1;rw[zL,A0 z] at B;rw[yJ e1,yJ B,yW,yW,yP m,yP k2];exact pX L r2 (zk.mp i _ (Ay m)) (zk.mp o _ (Ay k2)) _ _
   rw[h.size,c.size,nH] at q;exact q
theorem eL{d:D}{C:D->Prop}(h:d.isTK=yC)(k:∀ a,a.all D.isCell=yC->C (.tup a)):C d:=by
 cases d with
 | tup a=>exact k a h
 | _=>cases h
noncomputable def eTK(P:zH)(h:Heap)(H:yN->Prop)(k:D)(v:yE):yH:=@decide (∃ d,Rep P h H v d/\d.isTK=yC/\aN d k=yC) (Classical.propDecidable _)
section
variable {a b d:D}{h:Heap}{n:Nat}
theorem x7{P:zH}{v:yE}{k:D}(r:Rep P h H v d)(m:d.isTK=yC):eTK P h H k v=aN d k:=by
 unfold eTK;cases e:aN d k with
 | true=>exact @Af _ (Classical.propDecidable _) ⟨d,r,m,e⟩
 | false=>
  refine @Ad _ (Classical.propDecidable _) λ⟨c,r',f,n⟩=>?_
  have:d=c:=by
   revert r r';refine eL (C:=λd=>Rep P h H v d->Rep P h H v c->d=c) m λa o=>eL (C:=λc=>Rep P h H v (.tup a)->Rep P h H v c->.tup a=c) f λb q r r'=>?_
   cases r with
   | mk s _ _ t=>cases r' with
    | mk i _ _ j=>
     have e:=oA s i;subst e;rw[(ig t o).symm.trans (ig j q)]
  rw[<- this,e] at n;cases n
theorem in_lst{x y:yE}{k:D}{ds:yA D}(j:Rep w.params s.heap H x k)(z:Rep w.params s.heap H y (.list ds))(B:A.units+1<A9)(m:(k.isTK&&ds.all D.isTK)=yC) :
  wpAny (yR E3 w) A (B4 .In x y) (bz w s H (.bool (ds.any λx=>aN x k))) E s:=
 bQ m λh1 G=>z.listE λa vs n I M N i=>by
  have o:∀ {vs:yA yE} {ds:yA D},al w.params s.heap H vs ds->ds.all D.isTK=yC->vs.any (eTK w.params s.heap H k)=ds.any (λx=>aN x k)/\∀ v∈vs,Cd A.in1 s v x (eTK w.params s.heap H k v):=by
   intro vs ds r m
   induction ds generalizing vs with
   | nil=>rw[show vs=[] from r];exact⟨QQ,λZ t=>nomatch t⟩
   | cons d ds u=>exact dP.rec (motive:=λvs Z=>vs.any (eTK w.params s.heap H k)=(d::ds).any (λx=>aN x k)/\∀ v∈vs,Cd A.in1 s v x (eTK w.params s.heap H k v)) (λc i=>bQ m λf h=>⟨by rw[Ax,Ax,(u i h).1,x7 c f],λv t=>(yX.mp t).elim (λe=>by
     rw[e,x7 c f];revert c j;refine eL (C:=λd=>Rep w.params s.heap H x k->Rep w.params s.heap H _ d->Cd A.in1 s _ x (aN d k)) f λa J=>eL (C:=λk=>Rep w.params s.heap H x k->Rep w.params s.heap H _ (.tup a)->Cd A.in1 s _ x (aN (.tup a) k)) h1 λb L j c=>?_
     exact xp c j J L B) ((u i h).2 v)⟩) r
  have q:=o i G;exact in_listAt (eTK w.params s.heap H k) (aT I) (λv c=>q.2 v (CJ.mpr c)) (by rw[<- Array.any_toList,q.1];exact jr)
theorem vH{x y:yE}{k:yH}(f:Rep w.params s.heap H x a)(h:Rep w.params s.heap H y b)(i:A.units+1<A9)(he:mD a b=ac k) :
  wpAny (yR E3 w) A (B4 .In x y) (bz w s H (.bool k)) E s:=by
 cases b with
 | tup ds=>exact bi he λc e=>e▸in_tup f h c
 | list ds=>exact bi he λc e=>e▸in_lst f h i c
 | dict ks vs=>exact bi he λc e=>e▸in_dict f h i c
 | _=>exact aj he
theorem ord_snd{f:CL}{x y:yE}(h:Rep w.params s.heap H x a)(c:Rep w.params s.heap H y b)(he:ordD f a b=ac d):wpAny (yR E3 w) A (B4 f x y) (bz w s H d) E s:=by
 cases a with
 | int i=>
  refine ed (C:=λb=>Rep w.params s.heap H y b->_) he (λj he c=>h.intE λZ=>c.intE λZ=>?_) c
  cases f with
  | Lt=>exact yJ he▸PyProof.Rows.lt_int jr
  | LtE=>exact yJ he▸PyProof.Rows.le_int jr
  | Gt=>exact yJ he▸PyProof.Rows.gt_int jr
  | GtE=>exact yJ he▸PyProof.Rows.ge_int jr
  | _=>exact aj he
 | str x=>
  refine od (C:=λb=>Rep w.params s.heap H y b->_) he (λj he c=>h.strE λZ=>c.strE λZ=>?_) c
  cases f with
  | Lt=>exact yJ he▸PyProof.Rows.lt_str jr
  | _=>exact aj he
 | _=>exact aj he
theorem nd:∀ {cs:yA CK} {v2:yA yE} {j:Nat} {c:CK} {y:yE},cs.Nodup->cs[j]?=ac c->v2[j]?=ac y->C0 (cs.zip v2) c=ac y
 | [],_,j,_,_,_,h,_=>by simp at h
 | _::_,[],j,_,_,_,_,h=>by simp at h
 | c'::cs,m::v2,0,c,y,_,h1,a=>by
  cases h1;cases a;simp[C0]
 | c'::cs,m::v2,j+1,c,y,b,h1,a=>by
  rw[AW] at b;have h1:cs[j]?=ac c:=h1;have f:c'≠c:=λe=>b.1 (e▸List.mem_of_getElem? h1)
  have i:=nd (v2:=v2) b.2 h1 a;unfold C0 at i ⊢;rw[Ba,List.find?_cons_of_neg (by simpa using f)]
  exact i
theorem wk{kb:yA (CK×yE)}:∀ {cs:yA CK} {f v2:yA yE} {e:Nat->yH},cs.length=f.length->cs.length=v2.length->(∀ (j:Nat) (c:CK) (y:yE),cs[j]?=ac c->v2[j]?=ac y->C0 kb c=ac y) ->
  (∀ j (h1:j<f.length) (i:j<v2.length),Cd A s f[j] v2[j] (e j))->PySem.W.KeqHits A s kb (cs.zip f) ((zf cs.length).all e)
 | [],_,_,_,_,_,_,_=>.nil
 | _::_,[],_,_,h,_,_,_=>by cases h
 | _::_,_::_,[],_,_,h,_,_=>by cases h
 | c::cs,v::f,y::v2,e,h1,i,m,n=>by
  have q:(zf (c::cs).length).all e=(e 0&&(zf cs.length).all (λj=>e (j+1))):=by
   rw[Ae,BR,AU,Bw];rfl
  rw[q];exact .hit (m 0 c y QQ QQ) (n 0 (Nat.zero_lt_succ _) (Nat.zero_lt_succ _)) (wk (Am h1) (Am i) (λj o t a b=>m (j+1) o t a b) λj a b=>n (j+1) (CO a) (CO b))
theorem pV:∀ {cs cs':yA CK} {ks:yA D},aA (cs.map bx) ks=yC->ks=cs.map bx
 | [],_,[],_=>rfl
 | [],_,_::_,h=>by cases h
 | _::_,_,[],h=>by cases h
 | c::cs,cs',k::ks,h=>by
  have h:(bv (bx c) k&&aA (cs.map bx) ks)=yC:=h;rw[Bb] at h;rw[pV (cs':=cs') h.2,y8]
  congr 1
  have h1:=h.1;cases c <;> cases k <;> first | (cases h1;done) | (have h1:(_ == _)=yC:=h1;rw[eq_of_beq h1];rfl)
theorem ofCK_maps{l a:yA CK}(h:l.map bx=a.map bx):l=a:=by
 induction l generalizing a with
 | nil=>cases a with
  | nil=>rfl
  | cons=>cases h
 | cons c l b=>cases a with
  | nil=>cases h
  | cons f a=>exact congr (y6 Ec (oS (CV h).1)) (b (CV h).2)
theorem tk_inj{P:zH}{v:yE}{c:D}(r:Rep P h H v d)(r':Rep P h H' v c)(m:d.isTK=yC)(f:c.isTK=yC):d=c:=by
 revert r r';refine eL (C:=λd=>Rep P h H v d->Rep P h H' v c->d=c) m λa n=>eL (C:=λc=>Rep P h H v (.tup a)->Rep P h H' v c->.tup a=c) f λb o r r'=>?_
 cases r with
 | mk q _ _ s=>cases r' with
  | mk i _ _ j=>
   have e:=oA q i;subst e;rw[(ig s n).symm.trans (ig j o)]
theorem u5{P:zH}:∀ {vs:yA yE} {ds es:yA D},al P h H vs ds->al P h H' vs es->ds.all D.isTK=yC->es.all D.isTK=yC->ds=es
 | [],ds,es,r,r',_,_=>by
  have e1:=r.length;have a:=r'.length;rw[AJ.mp e1.symm,AJ.mp a.symm]
 | v::vs,ds,es,r,r',h1,b=>by
  cases ds with
  | nil=>cases r
  | cons d ds=>cases es with
   | nil=>cases r'
   | cons e es=>exact bQ h1 λa1 a2=>bQ b λc f=>by rw[tk_inj r.inv.1 r'.inv.1 a1 c,u5 r.inv.2 r'.inv.2 a2 f]
theorem oK:∀ {a b:yA D},a.length=b.length->(zf a.length).all (λj=>aN (a.getD j .none) (b.getD j .none))=fw a b
 | [],[],_=>rfl
 | x::a,y::b,h=>by
  rw[Ae,BR,AU,Bw];show (aN x y&&(zf a.length).all λj=>aN (a.getD j .none) (b.getD j .none))=(aN x y&&fw a b)
  rw[oK (Am h)]
theorem vj:∀ {a b:yA D},a.length≠b.length->fw a b=yz
 | [],[],h=>zl QQ h
 | [],_::_,_=>rfl
 | _::_,[],_=>rfl
 | x::a,y::b,h=>by
  show (aN x y&&fw a b)=yz;rw[vj λe=>h (y6 EA e),CB]
theorem qL:∀ {a:yA D},a.all D.isTK=yC->fw a a=yC
 | [],_=>rfl
 | x::a,h=>bQ h λh1 b=>by
  show (aN x x&&fw a a)=yC;rw[qL b,CX];exact eL (C:=λx=>aN x x=yC) h1 λa c=>lh c
theorem lst_same{l:yN}{a v2:zj yE}{n1 n2:Nat}(h1:h.get? l=ac (fT a n1))(b:h.get? l=ac (fT v2 n2)):a=v2:=by
 rw[h1] at b;have e:=y6 Obj.data (yJ b);exact (Data.seq.inj e).1
theorem tab_eq{x y:yE}{a b:yA D}(N:Rep w.params s.heap H x (.list a))(O:Rep w.params s.heap H' y (.list b))(m:a.all D.isTK=yC)(J:b.all D.isTK=yC)(o:A.units+1<A9):Cd A s x y (fw a b):=
 N.listE λl vs n t Z Z h=>O.listE λT U Y f Z Z c=>by
  by_cases e:l=T
  ·subst e
   have e:=lst_same t f;subst e;rw[<- u5 h c m J,qL m];exact EqAt.same _
  ·refine EqAt.of_refs e ?_
   by_cases i:a.length=b.length
   ·have q:=RcAt.lists (A:=A) (s:=s) (e:=λj=>aN (a.getD j .none) (b.getD j .none)) (aT t) (aT f) (h.size.trans (i.trans c.size.symm)) (zS o) λj h1 L=>by
     have z:j<a.length:=h.size▸h1;have k2:j<b.length:=c.size▸L
     obtain⟨u,e1,B⟩:=h.get j (yP z);obtain⟨v,M,r2⟩:=c.get j (yP k2);rw[zL,A0 h1] at e1;rw[zL,A0 L] at M;rw[yJ e1,yJ M,yW,yW,yP z,yP k2];have V:=zk.mp m _ (Ay z);have X:=zk.mp J _ (Ay k2);show Cd A.in1 s u v (aN a[j] b[j]);generalize a[j]=E at *;generalize b[j]=d2 at *;revert B r2;exact eL (C:=λE=>Rep w.params s.heap H u E->Rep w.params s.heap H' v d2->Cd A.in1 s u v (aN E d2)) V λc1 G=>eL (C:=λd2=>Rep w.params s.heap H u (.tup c1)->Rep w.params s.heap H' v d2->Cd A.in1 s u v (aN (.tup c1) d2)) X λc2 I B r2=>xp B r2 G I o
    rw[h.size,oK i] at q;exact q
   ·rw[vj i]
    exact RcAt.lists_lengths (aT t) (aT f) (by rw[h.size,c.size];exact CN.mpr i) (zS o)
theorem eqV_snd{x y:yE}{k:yH}(f:Rep w.params s.heap H x a)(c:Rep w.params s.heap H' y b)(h:A.units+1<A9)(he:eqV a b=ac k):Cd A s x y k:=by
 cases a with
 | list ds=>exact rQ (C:=λb=>Rep w.params s.heap H' y b->Cd A s x y k) he (λes he c=>bi he λi e=>e▸bQ i λh1 j=>tab_eq f c h1 j h) c
 | _=>exact (ol f c he).e A s
theorem eqAllV_snd{xs ys:yA yE}{ds es:yA D}{k:yH}(a:al w.params s.heap H xs ds)(c:al w.params s.heap H' ys es)(f:ds.length=es.length)(t:A.units+1<A9)(he:mU ds es=ac k) :
  ∃ e:Nat->yH,(zf ds.length).all e=k/\∀ j (h1:j<xs.length) (b:j<ys.length),Cd A s xs[j] ys[j] (e j):=by
 induction ds generalizing xs ys es k with
 | nil=>
  cases es with
  | nil=>exact⟨λZ=>yC,yJ he,λj h1=>by rw[show xs=[] from a] at h1;exact zl h1 (AF _)⟩
  | cons=>cases f
 | cons d ds u=>
  cases es with
  | nil=>cases f
  | cons e es=>
   refine iP he λo h1 he=>bM he λy b he=>dP.rec (motive:=λxs Z=>∃ e:Nat->yH,(zf (d::ds).length).all e=k/\∀ j (h1:j<xs.length) (b:j<ys.length),Cd A s xs[j] ys[j] (e j)) (λa h=>dP.rec (motive:=λys Z=>∃ e:Nat->yH,(zf (d::ds).length).all e=k/\∀ j (h1:j<CZ (_::_)) (b:j<ys.length),Cd A s (_::_)[j] ys[j] (e j)) (λc i=>?_) c) a
   refine (u h i (Am f) b).elim λe q=>⟨λj=>Nat.casesOn j o e,?_,λj m n=>?_⟩
   ·rw[Ae,BR,AU,Bw]
    exact (y6 (o&&·) q.1).trans he
   ·cases j with
    | zero=>exact eqV_snd a c t h1
    | succ j=>exact q.2 j (AC m) (AC n)
theorem eqDict_snd{x y:yE}{ks vs u i:yA D}{k:yH}(U:Rep w.params s.heap H x (.dict ks vs))(V:Rep w.params s.heap H y (.dict u i))(B:A.units+2<A9)(I:ks.all D.isCell=yC)(C:aA ks u=yC)(X:vs.length=i.length)(he:mU vs i=ac k):Eq2 E3 w A E s H x y k:=by
 refine lY (E3:=E3) U I λa es n t e h1 J L M m Y=>?_
 subst e;have e:=pV (cs':=t) C;subst e;refine lY (E3:=E3) V I λb o Fh Z e g1 N Fg O z EP=>?_
 have G:=ofCK_maps e;subst G;refine (eqAllV_snd (A:=A.in1) L Fg X B he).elim λe q=>?_
 have f:PySem.W.KeqHits A.in1 s (t.zip (o.toList.map (·.val))) (t.zip (es.toList.map (·.val))) k:=by
  have T:=wk (A:=A.in1) (s:=s) (kb:=t.zip (o.toList.map (·.val))) (e:=e) m z (λj c y a b=>nd Y a b) q.2
  rw[m,L.length,q.1] at T;exact T
 have h:((t.zip (es.toList.map (·.val))).length == (t.zip (o.toList.map (·.val))).length&&k)=k:=by
  rw[C5,C5,<- m,<- z,zg,Bool.true_and]
 exact⟨PySem.W.keq_eq M O J N (yO (y9 _ 2) B) (λEP=>f) (by rw[h];exact jr),PySem.W.keq_ne M O J N (yO (y9 _ 2) B) (λEP=>f) (by rw[h];exact jr)⟩
theorem wz{x y:yE}{k:yH}(c:Rep w.params s.heap H x a)(f:Rep w.params s.heap H y b)(h:A.units+2<A9)(he:eqX a b=ac k):Eq2 E3 w A E s H x y k:=by
 cases a with
 | dict ks vs=>
  cases b with
  | dict i j=>exact cK he λm he=>iI m λh1 n o=>eqDict_snd c f h h1 n (eq_of_beq o) he
  | _=>exact aj he
 | _=>exact (eqD_snd c f (yO (y9 _ 2) h) he).two
theorem wD{j:CL}{x y:yE}(f:Rep w.params s.heap H x a)(h:Rep w.params s.heap H y b)(i:A.units+2<A9)(he:ec j a b=ac d) :
  wpAny (yR E3 w) A (B4 j x y) (bz w s H d) E s:=by
 cases j with
 | Eq=>exact bM he λk c e=>e▸(wz f h i c).e
 | NotEq=>exact bM he λk c e=>e▸(wz f h i c).n
 | In=>exact bM he λk c e=>e▸vH f h (zS i) c
 | NotIn=>exact bM he λk c e=>e▸notIn_of_in (vH f h (zS i) c) λb s' q=>⟨q.k,by cases q.r;rfl⟩
 | _=>exact ord_snd f h he
theorem rV(h:n<=big):(n:Int)<2 ^ 63:=Ar (Al.mpr h) (by decide)
theorem tY{P:zH}{vs:zj yE}{ds:yA D}(r:al P h H vs.toList ds):vs.isEmpty=ds.isEmpty:=by
 rw[AY,En,z8,<- Array.size_eq_zero_iff,<- AJ,r.size]
theorem ij{x:yE}{t:yH}(c:Rep w.params s.heap H x a)(he:bU a=ac t) :
  wpAny (yR E3 w) A (truthy x) (eR s t) E s:=by
 cases a with
 | none=>exact c.noneE (PyProof.Rows.truthy_none ⟨Kp.refl _,yJ he⟩)
 | bool b=>exact c.boolE (wpAny_truthy_bool ⟨Kp.refl _,yJ he⟩)
 | int i=>exact c.intE λZ=>PyProof.Rows.truthy_int ⟨Kp.refl _,yJ he⟩
 | tup ds=>exact c.tupE λa vs n h Z j f=>PyProof.Rows.truthy_tuple (fo h) (f.size.symm▸rV j) ⟨Kp.tok _ _,(y6 _ (tY f)).trans (yJ he)⟩
 | list ds=>exact c.listE λa vs n h Z j f=>wpAny_truthy_list (aT h) (f.size.symm▸rV j) ⟨Kp.tok _ _,(y6 _ (tY f)).trans (yJ he)⟩
 | _=>exact aj he
theorem wg{k:Int}{j:Nat}{C:Prop}(h:idx k n=ac j)(b:0<=k->k<n->k.toNat=j->C)(k2:-(n:Int)<=k->k<0->(k+n).toNat=j->C):C:=
 cY h (λa e=>b a.1 a.2 (yJ e)) λZ h=>bi h λa e=>k2 a.1 a.2 e
theorem sd{k:Int}{j:Nat}(h:idx k n=ac j):seqIndex? k n=ac j/\-(n:Int)<=k/\k<n:=by
 unfold seqIndex?;refine wg h (λh1 a e=>?_) λh1 a e=>?_
 ·subst e
  have e:¬ k<0:=Bl.mpr h1;simp only[e,Co];simp[h1,a];exact om59 h1
 ·subst e
  simp only[a,D5];have b:0<=k+n:=by exact om60 h1
  have c:k+n<n:=by exact om61 a
  simp[b,c];exact om62 h1 a
end
noncomputable def yu(s:yL)(x:yE):Prop:=∃ T id,s.TypeIs x T/\typeLookup (.type T) "__getitem__"=pure (ac (.builtin id))
theorem get_str{x:Str}{t u:Tok}{k:Int}(a:0<=k/\k<x.length/\x.length<=big):wpAny (yR E3 w) A (DH (.str x t) (.int k u)) (bz w s H (.str (cu x k.toNat))) E s:=by
 refine PyProof.Rows.getItem_str (c:=x.cps.getD k.toNat 0) ?_ ?_ qO
 ·have:=rV a.2.2
  simp;exact om63 a this
 ·have h1:idx k x.length=ac k.toNat:=yT ⟨a.1,a.2.1⟩
  rw[(sd h1).1];have b:k.toNat<x.cps.size:=(Int.toNat_lt a.1).mpr a.2.1;simp[Array.getD,b]
theorem get_seq{l:yN}{vs:zj yE}{n j:Nat}{ds:yA D}{k:Int}{u:Tok}{v:yE}{d:D}(c:s.heap.get? l=ac (fT vs n))(i:ds.length<=big)(f:al w.params s.heap H vs.toList ds)(m:idx k ds.length=ac j)(a:vs.toList[j]?=ac v)(r:Rep w.params s.heap H v d) :
  wpAny (yR E3 w) A (DH (.ref l) (.int k u)) (bz w s H d) E s:=by
 have h:=rV i;have a:vs[j]?=ac v:=zL.symm.trans a;refine wg m (λh1 b e=>?_) λh1 b e=>?_
 ·exact wpAny_getItem_list (aT c) h1 (AG b h) (e▸a) ⟨Kp.refl _,r⟩
 ·exact wpAny_getItem_list_neg (aT c) b (f.size.symm▸h1) (om64 h h1) (f.size.symm▸e▸a) ⟨Kp.refl _,r⟩
theorem getItem_snd{x i:yE}{a b d:D}(L:A.units+1<A9)(m:Rep w.params s.heap H x a)(hi:Rep w.params s.heap H i b)(he:aV a b=ac d) :
  wpAny (yR E3 w) A (DH x i) (bz w s H d) E s/\yu s x:=by
 cases a with
 | str x=>exact ed (C:=λb=>Rep w.params s.heap H i b->_) he (λk he hi=>bi he λu e=>e▸m.strE λEP=>hi.intE λEP=>⟨get_str u,"str",_,typeIs_str _ _ _,F.slot_str_getitem.lookup⟩) hi
 | tup ds=>exact ed (C:=λb=>Rep w.params s.heap H i b->_) he (λk he hi=>iP he λj y he=>m.tupE λa vs n f M t o=>hi.intE λEP=>(o.get j he).elim λv q=>
   have h:=sd y
   have G:=rV t
   ⟨PyProof.Rows.getItem_tuple (fo f) (zW (om65 G) h.2.1) (AG h.2.2 G) (o.size.symm▸h.1) (zL.symm.trans q.1) ⟨Kp.refl _,q.2⟩,"tuple",_,(fo f).typeIs,F.slot_tuple_getitem.lookup⟩) hi
 | list ds=>exact ed (C:=λb=>Rep w.params s.heap H i b->_) he (λk he hi=>iP he λj y he=>m.listE λa vs n f M t o=>hi.intE λEP=>(o.get j he).elim λv q=>
   ⟨get_seq f t o y q.1 q.2,"list",_,(aT f).typeIs,F.slot_list_getitem.lookup⟩) hi
 | dict ks vs=>
  refine cK he λu he=>mI u (λh1 z=>(gL h1).elim λc e=>?_) ?_
  ·subst e
   exact lY (E3:=E3) m z λa es n N e f I B O t EP=>(dget_valueAt B (e▸he)).elim λv q=>⟨wpAny_getItem_of (knd:=cI E3 w) (mq hi) I.mapOf q.1 ⟨Kp.tok _ _,q.2⟩,"dict",_,I.mapOf.typeIs,slot_dict_getitem.lookup⟩
  ·refine λh1 z=>(sL h1).elim λc e=>?_
   subst e;refine t6 m z λa es n N e f T B U V O=>?_
   obtain⟨b,rfl,X⟩:=rN (E3:=E3) hi;obtain⟨xs,J,e1,_,Y⟩:=mV (E3:=E3) f T U V;rw[e,<- xM e1] at he;obtain⟨p,Z,Fg⟩:=dget_atKey (Y▸B) he;exact⟨wpAny_getItem_heap (knd:=TKd E3 w) L X J Z ⟨Kp.tok _ _,Fg⟩,"dict",_,J.typeIs,slot_dict_getitem.lookup⟩
 | _=>exact aj he
end
section
variable {E3:zh} {w:zq} {A:zt} {E:yE->yL->Prop} {s:yL} {H H':yN->Prop}
theorem qW{T:yF}{C:yF->Prop}(h:T="str"\/T="bool"\/T="int"\/T="tuple"\/T="list")(h1:C "str")(a:C "bool")(b:C "int")(c:C "tuple")(f:C "list"):C T:=
 h.elim (λe=>e▸h1) λh=>h.elim (λe=>e▸a) λh=>h.elim (λe=>e▸b) λh=>h.elim (λe=>e▸c) λe=>e▸f
theorem isi_snd{x:yE}{a:D}{T:yF}{t:yH}(f:Rep w.params s.heap H x a)(he:pp a T=ac t) :
  wpAny (yR E3 w) A (call (.builtin "isinstance") [x,.type T]) (bz w s H (.bool t)) E s:=by
 unfold pp at he;refine cK he λh he=>?_
 cases a with
 | bool b=>exact yJ he▸f.boolE (qW (C:=λT=>wpAny (yR E3 w) A (call (.builtin "isinstance") [.bool b,.type T]) (bz w s H (.bool (T == "int"||T == "bool"))) E s) h (IsiPair.bool_str cJ) (IsiPair.bool_bool jr) (IsiPair.bool_int jr) (IsiPair.bool_tuple cJ) (IsiPair.bool_list cJ))
 | int i=>exact yJ he▸f.intE λu=>qW (C:=λT=>wpAny (yR E3 w) A (call (.builtin "isinstance") [.int i u,.type T]) (bz w s H (.bool (T == "int"))) E s) h (IsiPair.int_str cJ) (IsiPair.int_bool cJ) (IsiPair.int_int jr) (IsiPair.int_tuple cJ) (IsiPair.int_list cJ)
 | str x=>exact yJ he▸f.strE λu=>qW (C:=λT=>wpAny (yR E3 w) A (call (.builtin "isinstance") [.str x u,.type T]) (bz w s H (.bool (T == "str"))) E s) h (IsiPair.str_str jr) (IsiPair.str_bool cJ) (IsiPair.str_int cJ) (IsiPair.str_tuple cJ) (IsiPair.str_list cJ)
 | tup ds=>exact yJ he▸f.tupE λa vs n c Z Z Z=>qW (C:=λT=>wpAny (yR E3 w) A (call (.builtin "isinstance") [.ref a,.type T]) (bz w s H (.bool (T == "tuple"))) E s) h (IsiPair.tuple_str c QQ cJ) (IsiPair.tuple_bool c QQ cJ) (IsiPair.tuple_int c QQ cJ) (IsiPair.tuple_tuple c QQ jr) (IsiPair.tuple_list c QQ cJ)
 | list ds=>exact yJ he▸f.listE λa vs n c Z Z Z=>qW (C:=λT=>wpAny (yR E3 w) A (call (.builtin "isinstance") [.ref a,.type T]) (bz w s H (.bool (T == "list"))) E s) h (IsiPair.list_str c QQ cJ) (IsiPair.list_bool c QQ cJ) (IsiPair.list_int c QQ cJ) (IsiPair.list_tuple c QQ cJ) (IsiPair.list_list c QQ jr)
 | _=>exact aj he
noncomputable def yi:yA yF:=["len","isinstance","sum","max","min","sorted"]
noncomputable def dX(f:yF):yE:=cond (yi.contains f) (.builtin f) (.type f)
theorem natAbs_log2{i:Int}(h:-rH<i/\i<rH):i.natAbs.log2<1920:=by
 have b:=sH (DR 10 100) h
 by_cases a:i.natAbs=0
 ·rw[a];decide
 ·exact (Nat.log2_lt a).mpr (zM b (by decide +kernel))
theorem len_snd{x:yE}{a d:D}(c:Rep w.params s.heap H x a)(he:lenD a=ac d):wpAny (yR E3 w) A (call (.builtin "len") [x]) (bz w s H d) E s:=by
 cases a with
 | str x=>exact bi he λi e=>e▸c.strE λZ=>PyProof.Rows.len_str (Et.mpr (rV i)) ir
 | tup ds=>exact yJ he▸c.tupE λa vs n f Z h b=>b.size▸PyProof.Rows.len_tuple (fo f) (b.size.symm▸rV h) ir
 | list ds=>exact yJ he▸c.listE λa vs n f Z h b=>b.size▸PyProof.Rows.len_list (aT f) (b.size.symm▸rV h) ir
 | _=>exact aj he
theorem vL(s:yL)(o:Obj)(t:Nat)(d:Drawn):bP s { s with heap:=s.heap.push o,toks:=t,drawn:=d }:=.mk _ _ _ λZ Z e=>Heap.gt_push_of_some _ e
theorem bltI_snd{f:yF}{i:Int}{t:Tok}{d:D}(c:Ex s.heap H)(he:bltI f i=ac d):wpAny (yR E3 w) A (call (dX f) [.int i t]) (bz w s H d) E s:=
 cY he (λb he=>bi he λa e=>b▸e▸call_range_1 ⟨vL _ _ _ _,.mk (IsRange.new _ _ _ _ _ _ _) c.fresh ⟨a.2.1,a.2.2,a.1⟩⟩)
  λZ he=>cK he λb he=>bi he λa e=>b▸e▸P.str_of_int (natAbs_log2 a) qO
theorem bltI2_snd{f:yF}{i j:Int}{t u:Tok}{d:D}(h:A.handled=yS)(m:Ex s.heap H)(he:bltI2 f i j=ac d):wpAny (yR E3 w) A (call (dX f) [.int i t,.int j u]) (bz w s H d) E s:=by
 refine cY he (λa he=>bi he λb e=>a▸e▸call_range_2 ⟨vL _ _ _ _,.mk (IsRange.new _ _ _ _ _ _ _) m.fresh ⟨b.2.1,b.2.2,b.1⟩⟩)
  λZ he=>cY he (λa he=>a▸yJ he▸max_two_ints h λh' tk c=>?_) λZ he=>bi he λa e=>a▸e▸min_two_ints h λh' tk c=>?_
 ·split <;> exact⟨.mk h' tk _ (Heap.gt_up c),.mk _⟩
 ·split <;> exact⟨.mk h' tk _ (Heap.gt_up c),.mk _⟩
theorem ints_rep{P:zH}{h:Heap}{vs:yA yE}{ds:yA D}{k:Int}(r:al P h H vs ds)(e:nK ds=ac k):∃ xs:yA (Int×Tok),vs=xs.map (λp=>.int p.1 p.2)/\(xs.map (·.1)).sum=k:=by
 induction ds generalizing vs k with
 | nil=>exact⟨[],r,yJ e⟩
 | cons d ds a=>
  refine dP.rec (motive:=λvs Z=>∃ xs:yA (Int×Tok),vs=xs.map (λp=>.int p.1 p.2)/\(xs.map (·.1)).sum=k) (λ{v vs} b c=>?_) r
  cases d with
  | int i=>exact Rep.intE (C:=λv=>∃ xs:yA (Int×Tok),v::vs=xs.map (λp=>.int p.1 p.2)/\(xs.map (·.1)).sum=k) b λt=>bM e λj f q=>(a c f).elim λxs z=>⟨(i,t)::xs,y6 _ z.1,by rw[y8,List.sum_cons,z.2];exact q⟩
  | _=>exact aj e
theorem preSum_sum(xs:yA (Int×Tok)):preSum (numAt xs.toArray) xs.toArray.size=(xs.map (·.1)).sum:=by
 rw[preSum_eq,Cp (by simp)]
theorem sum_snd{a:yN}{vs:zj yE}{n:Nat}{ds:yA D}{k:Int}(b:A.handled=yS)(c:s.heap.get? a=ac (fT vs n))(f:al w.params s.heap H vs.toList ds)(he:nK ds=ac k):wpAny (yR E3 w) A (call (.builtin "sum") [.ref a]) (bz w s H (.int k)) E s:=by
 refine (ints_rep f he).elim λxs q=>?_
 have h:vs=intItems xs.toArray:=by
  apply Array.toList_inj.mp;rw[q.1];simp[intItems]
 refine sum_intListG (xs:=xs.toArray) b (h▸aT c) λh' tk j i=>?_
 rw[preSum_sum,q.2];exact⟨.mk h' tk _ (Heap.gt_up i),.mk _⟩
theorem tupL_snd{x:yE}{ds:yA D}(h:Rep w.params s.heap H x (.list ds))(i:Ex s.heap H):wpAny (yR E3 w) A (call (.type "tuple") [x]) (bz w s H (.tup ds)) E s:=
 h.listE λa vs n j m c f=>call_tuple_list (aT j) (λh' b=>have b:=Heap.gt_up b;⟨.mk _ _ _ λZ Z q=>Heap.gt_push_of_some _ (b _ _ q),.mk (Heap.get?_push_size _ QQ) (i.keeps b).fresh c (f.keeps λZ Z q=>Heap.gt_push_of_some _ (b _ _ q))⟩) (f.size.symm▸c)
theorem blt1_snd{f:yF}{x:yE}{a d:D}(o:A.handled=yS)(j:Rep w.params s.heap H x a)(m:Ex s.heap H)(he:hY f [a]=ac d):wpAny (yR E3 w) A (call (dX f) [x]) (bz w s H d) E s:=by
 refine cY (c:=f="len") he (λh he=>h▸len_snd j he) λZ he=>?_
 cases a with
 | int i=>exact j.intE λZ=>bltI_snd m he
 | bool b=>exact bi he λh e=>h▸e▸j.boolE (call_int_bool ir)
 | str x=>exact bi he λh e=>h▸e▸j.strE λZ=>P.str_of_str ⟨Kp.refl _,.mk _⟩
 | list ds=>exact cY he (λh e=>h▸yJ e▸tupL_snd j m) λZ he=>cK he λh he=>bM he λk q e=>h▸e▸j.listE λa vs n t y z u=>sum_snd o t u q
 | _=>exact aj he
theorem blt_snd{f:yF}{xs:yA yE}{as:yA D}{d:D}(h:A.handled=yS)(o:al w.params s.heap H xs as)(m:Ex s.heap H)(he:hY f as=ac d) :
  wpAny (yR E3 w) A (call (dX f) xs) (bz w s H d) E s:=by
 cases as with
 | nil=>exact aj he
 | cons a as=>exact dP.rec (motive:=λxs Z=>wpAny (yR E3 w) A (call (dX f) xs) (bz w s H d) E s) (λ{v vs} h1 n=>by
   cases as with
   | nil=>rw[show vs=[] from n];exact blt1_snd h h1 m he
   | cons b as=>exact dP.rec (motive:=λvs Z=>wpAny (yR E3 w) A (call (dX f) (v::vs)) (bz w s H d) E s) (λ{u q} c t=>by
     cases as with
     | nil=>rw[show q=[] from t];exact ed (C:=λa=>Rep w.params s.heap H v a->_) he (λi he h1=>ed (C:=λb=>Rep w.params s.heap H u b->_) he (λj he c=>h1.intE λZ=>c.intE λZ=>bltI2_snd h m he) c) h1
     | cons=>exact aj he) n) o
theorem reps_keys{P:zH}{h:Heap}{vs:yA yE}{cs:yA CK}(a:vs.length=cs.length)(b:∀ (j:Nat) (v:yE),vs[j]?=ac v->∃ k,cs[j]?=ac k/\CK.is k v=yC):al P h H vs (cs.map bx):=by
 induction cs generalizing vs with
 | nil=>exact BI a
 | cons c cs f=>cases vs with
  | nil=>cases a
  | cons v vs=>exact .mk ((b 0 v QQ).elim λk q=>yb (yJ q.1▸q.2)) (f (Am a) λj i e=>b (j+1) i e)
theorem lst_snd{x:yE}{a:D}{ds:yA D}(J:A.handled=yS)(o:Rep w.params s.heap H x a)(u:Ex s.heap H)(he:uI a=ac ds) :
  wpAny (yR E3 w) A (call (.type "list") [x]) (cC w s H (.list ds) yC) E s:=by
 cases a with
 | tup es=>exact yJ he▸o.tupE λa vs n t L b h=>call_list_seq _ (.inr QQ) t QQ QQ (λh' B i f=>km u b h (Heap.gt_up i) f) (h.size.symm▸b)
 | list es=>exact yJ he▸o.listE λa vs n t L b h=>call_list_seq _ (.inl QQ) t QQ QQ (λh' B i f=>km u b h (Heap.gt_up i) f) (h.size.symm▸b)
 | dict ks vs=>
  refine bi he λM e=>e▸?_
  have m:ks.length<=big:=qv.rec (motive:=λZ Z=>ks.length<=big) (λZ Z b Z Z Z Z Z Z=>b) o
  refine lY (E3:=E3) o M λa es n y C t f T N b Z=>?_
  obtain⟨ep,O⟩:=f.dictAt;have G:(y.zip (es.toList.map (·.val))).length=y.length:=by rw[C5,<- b,DP]
  have z:ks.length=y.length:=by rw[C,yI]
  refine PySem.W.kdl_call (PySem.W.kdl_dict N) J O (by rw[G,<- z];exact yD m (by decide)) λh' tk I B i f c=>?_
  exact km u m (C▸reps_keys (by rw[zD,c.1,G]) λj v e=>(c.2 j v (by rw[<- zL];exact e)).elim λk q=>q.elim λx q=>⟨k,(List.getElem?_zip_eq_some.mp q.1).1,q.2⟩) (Heap.gt_up i) f
 | _=>exact aj he
end
section
variable {E3:zh} {w:zq} {A:zt} {E:yE->yL->Prop} {s:yL}
theorem iter_keys{d:yN}{es:zj Ch}{ep:Nat}{Q:yE->yL->Prop}(c:(d == Dg)=yz)(a:s.heap.get? d=ac (nP es ep))
  (f:Q (.ref s.heap.objs.size) { s with heap:=s.heap.push { cls:=.type "dict_keyiterator",data:=.fields #[.ref d,.int 0 0,.int es.size 0,.int ep 0] } }):wpAny (yR E3 w) A (Dw (.ref d)) Q E s:=by
 have b:s.TypeIs (.ref d) "dict":=⟨_,a,QQ⟩;refine Do b F.slot_dict_iter (AN F.slot_dict_iter b F.entry_dict_iter ?_ (F.args_dict_iter_1 _));unfold Bq.«dict.__iter__» Builtin.Dict.dictSlotNone Builtin.Dict.showsAll;refine yG (yG (wpAny_notOrdered_dict b (yU ?_)));refine yG (yU ?_);dsimp only;rw[yV (by rw[c];exact yQ)]
 refine yG (yU (yG (wpAny_dictEntries a QQ (yG (wpAny_dictEpoch a QQ ?_)))));exact yG (z4 (yU ⟨_,QQ,"dict_keyiterator",_,⟨_,Heap.get?_push_size _ QQ,QQ⟩,F.slot_dict_keyiterator_next.lookup,f⟩))
theorem qS{c d:yN}{i ep:Nat}{es:zj Ch}{Q:yK yE->yL->Prop}(y:A.handled=yS)(hit:s.heap.IsKeyIter c d i es.size ep)(j:s.heap.get? d=ac (nP es ep))
  (h1:∀ (hi:i<es.size) h',h'.IsKeyIter c d (i+1) es.size ep->Heap.SameBut c s.heap h'->Q (ac es[i].key) { s with heap:=h' })
  (z:es.size<=i->∀ h',Heap.ExtBut c s.heap h'->Q yS { s with heap:=h' }):wpAny (yR E3 w) A (BZ (.ref c)) Q E s:=by
 obtain⟨o,u,B,n⟩:=id hit;unfold BZ;refine yG (CY (BJ (name:=yB "__next__") hit.typeIs F.slot_dict_keyiterator_next
  (AN F.slot_dict_keyiterator_next hit.typeIs F.entry_dict_keyiterator_next ?_ (F.args_dict_keyiterator_next_1 _))))
 refine yG (yU (yG (yG ?_)))
 first | refine yG (Cu hit.typeIs (yU ?_)) | refine yG (C7 hit.typeIs (yU ?_))
 refine yG (wpAny_fieldsOf u n ?_);have q:Builtin.Dict_items.ownsTuple "dict_keyiterator"=yz:=by decide
 simp only[q,BS,Co];show wpAny _ _ (if (Value.ref d == Value.none)=yC then _ else _) _ _ s
 rw[yV (show ¬ ((Value.ref d == Value.none)=yC) from yQ)];refine yG (yU (yG (wpAny_dictEntries j QQ ?_)));rw[yV (by simp)]
 refine yG (yU (yG (wpAny_dictEpoch j QQ ?_)));rw[yV (by simp)]
 refine yU ?_
 by_cases h:i<es.size
 ·simp only[show ¬ ((i:Int)<0) from by exact uF,Co,Be,A0 h]
  refine yG ?_
  first | refine yG (Cu hit.typeIs (yU ?_)) | refine yG (C7 hit.typeIs (yU ?_))
  refine yG (wpAny_isOneOf_keyiter hit.typeIs ?_);show wpAny _ _ (C8 (.ref c) 1 (Bk ((i:Int)+1)) >>= _) _ _ s;refine yG (Di u n (by simp) ?_)
  have f:(s.heap.update c (Obj.mapFields (·.setIfInBounds 1 (Bk ((i:Int)+1))))).IsKeyIter c d (i+1) es.size ep:=
   ⟨_,Heap.get?_update_self _ u (Obj.isFreed_of_fields (Obj.data_mapFields n _)),(Obj.cls_mapFields ..).trans B,by rw[Obj.data_mapFields n];simp[Bk]⟩
  refine yG (Bn ?_);refine yG (wpAny_isOneOf_keyiter (s:={ s with heap:=s.heap.update c (Obj.mapFields (·.setIfInBounds 1 (Bk ((i:Int)+1)))) }) f.typeIs ?_)
  show wpAny _ _ (pure es[i].key) _ _ _;exact yU (yU ⟨_,QQ,yU (h1 h _ f (Heap.SameBut.update ..))⟩)
 ·have t:es.size<=i:=by exact om66 h
  simp only[show ¬ ((i:Int)<0) from by exact uF,Co,Be,Dx t]
  refine yG ?_
  first | refine yG (Cu hit.typeIs (yU ?_)) | refine yG (C7 hit.typeIs (yU ?_))
  show wpAny _ _ (C8 (.ref c) 0 .none >>= _) _ _ s;refine yG (Di u n (by simp) ?_)
  show wpAny _ _ (Ed (.type "StopIteration") [] >>= _) _ _ _;refine yG ?_;simp only[Ed,newTuple];refine yG (z4 ?_ (by size_fits))
  refine yG (m:=CC _ _) (Bt (a:=Value.none) (by first | rfl | (simp only[CC];rfl)) ?_)
  refine z4 ?_ (by size_fits)
  simp only[EB];refine yG (wpAny_handled ?_);rw[show A.in1.handled=yS from y];refine yG (yU (wpAny_throw ?_));refine yG (CP (T:="StopIteration") (b:=yC) ⟨_,Heap.get?_push_size _ QQ,QQ⟩ isSubtype_stop ?_);exact yU (z t _ (((Heap.SameBut.update ..).extBut.push _).push _))
theorem walks_keys(t:A.handled=yS)(I d:yN)(n:d≠I)(es:zj Ch)(ep:Nat) :
  CQ E3 w A I [I,d] [I] es.size (λi v=>(es.toList.map (·.key))[i]?=ac v) (λi h=>h.IsKeyIter I d i es.size ep/\h.get? d=ac (nP es ep)) where
 sub:=λb a=>by simp at a;simp[a]
 frame:=λZ Z Z st u=>⟨st.1.at λo e=>u I (by simp) o e,u d (by simp) _ st.2⟩
 item:=λi s Q E m st c=>qS t st.1 st.2 (λZ h' f j=>c _ h' s.toks (by simp[m]) ⟨f,(j.2 d n).trans st.2⟩ λb o a e=>j.extBut b o (λh=>a (by simp[h])) e) λh=>zl m (om67 h)
 done:=λs Q E st c=>qS t st.1 st.2 (λm=>zl m (zY _)) λZ h' q=>c h' s.toks λb o a e=>q b o (λh=>a (by simp[h])) e
 self:=λZ Z Z Z st c=>wpAny_pyIter_keyiter st.1 c
end
section
variable {E3:zh} {w:zq} {A:zt} {E:yE->yL->Prop} {s:yL} {H H':yN->Prop}
inductive rB(E3:zh)(w:zq)(A:zt)(h:Heap)(H:yN->Prop)(EX:yA D)(I:yN)(E7:Heap):Prop
 | mk {fp P St} (W:CQ E3 w A I fp [I] EX.length P St) (st:St 0 E7) (fpo:∀ b∈fp,b=I\/(¬ H b/\∃ o,gat h b=ac o)) (item:∀ i v,i<EX.length->P i v->∃ d,EX[i]?=ac d/\Rep w.params h H v d) (live:∀ i h,St i h->∃ o,gat h I=ac o) (tab:∀ b∈fp,∀ i h o,St i h->h.get? b=ac o->bI o=yz)
structure IterAt(E3:zh)(w:zq)(A:zt)(s₁:yL)(H:yN->Prop)(EX:yA D)(I:yN)(s₂:yL):Prop where
 keeps:bP s₁ s₂
 fresh:gat s₁.heap I=yS
 ex:∃ o,gat s₂.heap I=ac o
 walk:rB E3 w A s₁.heap H EX I s₂.heap
inductive qh(E3:zh)(w:zq)(A:zt)(s:yL)(H:yN->Prop)(EX:yA D):yE->yL->Prop
 | mk {I s₂} (q:IterAt E3 w A s H EX I s₂):qh E3 w A s H EX (.ref I) s₂
section
variable {n:Nat}{St:Nat->Heap->Prop}{h:Heap}
theorem ew{I:yN}{fp f:yA yN}{P:Nat->yE->Prop}(W:CQ E3 w A I fp f n P St)(c:∀ b∈fp,∀ i h o,St i h->h.get? b=ac o->bI o=yz)
  (i:Nat) (h h':Heap) (st:St i h) (j:∀ b∈fp,∀ o,gat h b=ac o->gat h' b=ac o):St i h':=
 W.frame i h h' st λb a o e=>Heap.of_gt (j b a o (Heap.gt_of e (c b a i h o st e))) (c b a i h o st e)
theorem kc{I:yN}{fp:yA yN}{P:Nat->yE->Prop}(W:CQ E3 w A I fp [I] n P St)(c:∀ b∈fp,∀ i h o,St i h->h.get? b=ac o->bI o=yz)
  {i:Nat} {h h':Heap} (st:St i h) (f:∀ b o,b ∉ [I]->h.get? b=ac o->h'.get? b=ac o):∀ b o,b ∉ [I]->gat h b=ac o->gat h' b=ac o:=
 Heap.gt_lift (λb o e a q=>by rw[c b (W.sub b q) i h o st e] at a;cases a) f
theorem fI{α:Type}{a b x:α}{C:Prop}(h:x∈[a,b])(h1:x=a->C)(c:x=b->C):C:=(yX.mp h).elim h1 λh=>c (y3.mp h)
theorem eA{o:Obj}{T:yF}(h:o.cls=.type T)(a:T≠"code"):bI o=yz:=notTab_cls (by rw[h];nofun) λe=>a (Value.type.inj (h.symm.trans e))
theorem fR{a:yN}{o b:Obj}(e:h.get? a=ac o)(c:h.get? a=ac b)(f:bI o=yz):bI b=yz:=yJ (e.symm.trans c)▸f
theorem vT{P:zH}{vs:zj yE}{ds:yA D}(a:al P h H vs.toList ds){i:Nat}{v:yE}(hi:i<ds.length)(b:vs[i]?=ac v):∃ d,ds[i]?=ac d/\Rep P h H v d:=
 (a.get i (yP hi)).elim λc q=>⟨_,yP hi,yJ (q.1.symm.trans (zL.trans b))▸q.2⟩
theorem tB{T T':yF}{a I:yN}{mkO:zj yE->Nat->Obj}{vs:zj yE}{ds:yA D}{E7:Heap}{P:Nat->yE->Prop}(W:CQ E3 w A I [I,a] [I] vs.size P St)(st:St 0 E7)(j:al w.params h H vs.toList ds)(s:h.get? a=ac (mkO vs n))(t:bI (mkO vs n)=yz)(u:¬ H a)
  (y:∀ i v,P i v->vs[i]?=ac v) (h1:∀ i h,St i h->∃ o,h.get? I=ac o/\o.cls=.type T) (B:∀ i h,St i h->∃ o,h.get? a=ac o/\o.cls=.type T') (m:T≠"code") (c:T'≠"code"):rB E3 w A h H ds I E7:=
 ⟨j.size▸W,st,λb f=>fI f .inl λe=>.inr (e▸⟨u,_,Heap.gt_of s t⟩),λi v C E=>vT j C (y i v E),λi h st=>(h1 i h st).elim λo q=>⟨o,Heap.gt_of q.1 (eA q.2 m)⟩,
  λb f i h o st e=>fI f (λq=>(h1 i h st).elim λG z=>fR (q▸z.1) e (eA z.2 m)) λq=>(B i h st).elim λG z=>fR (q▸z.1) e (eA z.2 c)⟩
theorem iter_rng{lo hi:Int}{x:yE}(y:Rep w.params s.heap H x (.rng lo hi))(z:A.handled=yS):wpAny (yR E3 w) A (Dw x) (qh E3 w A s H ((zf (hi - lo).toNat).map λ(i:Nat)=>D.int (lo+(i:Int)))) E s:=
 RRng.rec (motive:=λx Z=>wpAny (yR E3 w) A (Dw x) (qh E3 w A s H ((zf (hi - lo).toNat).map λ(i:Nat)=>D.int (lo+(i:Int)))) E s) (λ{a t u v} B C f=>by
  have j:Builtin.Range.small lo hi 1=yC:=by
   unfold big at f;exact small_one (om68 f) (om69 f) (om70 f) (om71 f)
  have m:Builtin.Range.rangeSize lo hi 1=((hi - lo).toNat:Int):=by
   rw[rangeSize_one];split <;> omega
  have c:((zf (hi - lo).toNat).map λ(i:Nat)=>D.int (lo+(i:Int))).length=(hi - lo).toNat:=by rw[yI,zJ]
  refine wpAny_pyIter_range B j ⟨Kp.push _ _,cZ _,⟨_,Heap.gt_push_size _ QQ⟩,c.symm▸Walks.range z s.heap.objs.size lo 1 (hi - lo).toNat,?ga,λb n=>.inl (y3.mp n),λi v hi q=>q.elim λt e=>⟨.int (lo+i),?gb,?gc⟩,λi h e=>⟨_,Heap.gt_of e⟩,λb n i h o e1 e=>?gd⟩
  case ga=>
   show Heap.get? _ _=_;rw[Heap.get?_push_size _ rfl,m];simp[Bk]
  case gb=>
   rw[c] at hi;rw[Ag,D1 hi];rfl
  case gc=>
   rw[e,Int.mul_one];exact .mk _
  case gd=>
   rw[y3.mp n] at e;exact fR e1 e QQ) y
theorem pj{x:yE}{d:D}{EX:yA D}(j:Rep w.params s.heap H x d)(m:A.handled=yS)(he:d.items=ac EX) :
  wpAny (yR E3 w) A (Dw x) (qh E3 w A s H EX) E s:=by
 cases d with
 | tup ds=>exact yJ he▸j.tupE λa vs n c f B t=>wpAny_pyIter_tuple (cX c) ⟨Kp.push _ _,cZ _,⟨_,Heap.gt_push_size _ QQ⟩,tB (T:="tuple_iterator") (T':="tuple") (mkO:=dY) (Walks.tuple m s.heap.objs.size a (zC (Heap.lt_size c)) vs) ⟨⟨_,Heap.get?_push_size _ QQ,QQ,QQ⟩,(cX c).push _⟩ t c QQ f (λZ Z h=>h)
   (λi h st=>st.1.elim λo q=>⟨o,q.1,q.2.1⟩) (λi h st=>st.2.elim λo q=>⟨o,q.1,q.2.1⟩) (by decide) (by decide)⟩
 | list ds=>exact yJ he▸j.listE λa vs n c f B t=>wpAny_pyIter_list (aT c) ⟨Kp.push _ _,cZ _,⟨_,Heap.gt_push_size _ QQ⟩,tB (T:="list_iterator") (T':="list") (mkO:=fT) (Walks.list m s.heap.objs.size a (zC (Heap.lt_size c)) vs) ⟨⟨_,Heap.get?_push_size _ QQ,QQ,QQ⟩,(aT c).push _⟩ t c QQ f (λZ Z h=>h)
   (λi h st=>st.1.elim λo q=>⟨o,q.1,q.2.1⟩) (λi h st=>st.2.elim λo q=>⟨o,q.1,q.2.1⟩) (by decide) (by decide)⟩
 | dict ks vs=>
  refine yJ he▸qv.rec (motive:=λx Z=>wpAny (yR E3 w) A (Dw x) (qh E3 w A s H ks) E s) (λ{a es n} c f B h1 J C L M G=>?_) j
  have e:es.size=ks.length:=by have:=h1.length;rwa [yI,zD] at this
  refine iter_keys G c ⟨Kp.push _ _,cZ _,⟨_,Heap.gt_push_size _ QQ⟩,e▸walks_keys m s.heap.objs.size a (zC (Heap.lt_size c)) es n,⟨⟨_,Heap.get?_push_size _ QQ,QQ,by rw[<- e];rfl⟩,Heap.get?_push_of_some _ c⟩,
   λb u=>fI u .inl λe=>.inr (e▸⟨f,_,Heap.gt_of c⟩),λi v y I=>(h1.get i (yP y)).elim λN q=>⟨_,yP y,yJ (q.1.symm.trans (show (es.toList.map (·.key))[i]?=ac v from I))▸q.2⟩,
   λi h st=>st.1.elim λo q=>⟨o,Heap.gt_of q.1 (eA q.2.1 (by decide))⟩,λb u i h o st e=>fI u (λq=>st.1.elim λO z=>fR (q▸z.1) e (eA z.2.1 (by decide))) λq=>fR (q▸st.2) e QQ⟩
 | rng lo y=>exact yJ he▸iter_rng j m
 | _=>exact aj he
end
end
structure AOk(A:zt)(n:Nat):Prop where
 handled:A.handled=yS
 depth:A.depth+2 * n+20<BO
 units:A.units+13 * n+100<A9
structure uk(A A':zt):Prop where
 handled:A'.handled=A.handled
 depth:A'.depth<=A.depth+1
 units:A'.units<=A.units+10
structure qf(A:zt):Prop where
 units:A.units+20<A9
 depth:A.depth+2<BO
theorem qf.u2{A:zt}(r:qf A):A.units+2<A9:=yO (zu (by decide) _) r.units
theorem qf.u1{A:zt}(r:qf A):A.units+1<A9:=yO (zu (by decide) _) r.units
theorem uk.refl(A:zt):uk A A:=⟨QQ,AB _,y9 _ _⟩
structure bK(h:Heap)(EW:Env)(m:Str->yK yE):Prop where
 kind:EW.scope.kind=.function
 glob:EW.globals=Ao
 blt:EW.builtins=Es
 loc:∃ ml,h.Ns EW.locals ml/\∀ x,EW.kindOf x=ac .local->ml x=m x
 cell:∀ x,EW.kindOf x=ac .cell\/EW.kindOf x=ac .free->∃ c,EW.cells.lookup x=ac c/\h.IsCell c (m x)
 inj:∀ x y c,EW.cells.lookup x=ac c->EW.cells.lookup y=ac c->x=y
 off:∀ x c,EW.cells.lookup x=ac c->c≠EW.locals
 ex:∀ x c,EW.cells.lookup x=ac c->∃ o,gat h c=ac o
 lam:mA EW.kindOf=yC->EW.code=.ref oc/\EW.qual=lamP
theorem Ns.keepAt{h h':Heap}{a:yN}{m:Str->yK yE}(c:h.Ns a m)(f:∀ o,gat h a=ac o->gat h' a=ac o):h'.Ns a m:=
 let ⟨o,es,ep,ho,hd,r⟩:=c
 have b:bI o=yz:=cG (by rw[hd];nofun)
 ⟨o,es,ep,Heap.of_gt (f _ (Heap.gt_of ho b)) b,hd,r⟩
theorem Cell.keepAt{h h':Heap}{a:yN}{v:yK yE}(c:h.IsCell a v)(f:∀ o,gat h a=ac o->gat h' a=ac o):h'.IsCell a v:=
 let ⟨o,ho,hd⟩:=c
 have b:bI o=yz:=cG (by rw[hd];nofun)
 ⟨o,Heap.of_gt (f _ (Heap.gt_of ho b)) b,hd⟩
theorem bK.keeps{h h':Heap}{EW:Env}{m:Str->yK yE}(R:bK h EW m)(a:KH h h'):bK h' EW m where
 kind:=R.kind
 glob:=R.glob
 blt:=R.blt
 loc:=let ⟨ml,h1,h2⟩:=R.loc;⟨ml,Ns.keepAt h1 (a _),h2⟩
 cell:=λx b=>let ⟨c,h1,h2⟩:=R.cell x b;⟨c,h1,Cell.keepAt h2 (a _)⟩
 inj:=R.inj
 off:=R.off
 ex:=λx c f=>let ⟨o,ho⟩:=R.ex x c f;⟨o,a _ _ ho⟩
 lam:=R.lam
theorem bK.keepsAt{h h':Heap}{EW:Env}{m:Str->yK yE}(R:bK h EW m)(b:∀ a o,(a=EW.locals\/∃ x,EW.cells.lookup x=ac a)->gat h a=ac o->gat h' a=ac o):bK h' EW m where
 kind:=R.kind
 glob:=R.glob
 blt:=R.blt
 loc:=let ⟨ml,h1,h2⟩:=R.loc;⟨ml,Ns.keepAt h1 λo e=>b _ o (.inl QQ) e,h2⟩
 cell:=λx i=>let ⟨c,h1,h2⟩:=R.cell x i;⟨c,h1,Cell.keepAt h2 λo e=>b _ o (.inr ⟨x,h1⟩) e⟩
 inj:=R.inj
 off:=R.off
 ex:=λx c f=>let ⟨o,ho⟩:=R.ex x c f;⟨o,b _ _ (.inr ⟨x,f⟩) ho⟩
 lam:=R.lam
section
variable {M:Model} {A:zt} {E:yE->yL->Prop} {s:yL}
theorem fV{EW:Env}{m:Str->yK yE}{x:Str}{v:yE}{b:Pos}{Q:yE->yL->Prop}(R:bK s.heap EW m)(f:gI EW.kindOf x=yC)(i:m x=ac v)(h:Q v s) :
  wpAny M A (zF (.Name x b) EW) Q E s:=by
 unfold gI at f;simp only[Bb,DS,AZ,CN] at f;obtain⟨⟨⟨hk,o⟩,q⟩,_⟩:=f;have j:(x == ("__debug__":Str))=yz:=by simpa using o
 have n:(x == ("__classdict__":Str))=yz:=by simpa using q
 refine wpAny_Name ?_ j
 rcases hk with (hk | hk) | hk
 ·obtain⟨t,h1,a⟩:=R.loc
  exact wpAny_loadName_local R.kind hk h1 ((a x hk).trans i) h
 ·obtain⟨c,h1,a⟩:=R.cell x (.inl hk)
  exact wpAny_loadName_cell R.kind hk h1 (i▸a) h
 ·obtain⟨c,h1,a⟩:=R.cell x (.inr hk)
  exact wpAny_loadName_free R.kind hk h1 (i▸a) h n
noncomputable def upd(m:Str->yK yE)(x:Str)(v:yE):Str->yK yE:=λy=>if y=x then ac v else m y
theorem ki{EW:Env}{m:Str->yK yE}{x:Str}{v:yE}{Q:Unit->yL->Prop}(R:bK s.heap EW m)(J:EW.kindOf x=ac .local\/EW.kindOf x=ac .cell)
  (h:∀ h' tk dw a,bK h' EW (upd m x v)->(a=EW.locals\/EW.cells.lookup x=ac a)->Heap.SB a s.heap h'->Q () { s with heap:=h',toks:=tk,drawn:=dw }) :
  wpAny M A (storeName EW x v) Q E s:=by
 rcases J with hk | hk
 ·obtain⟨H,h1,C⟩:=R.loc
  refine wpAny_storeName_local hk h1 (λh' I j=>have i:Heap.SB EW.locals s.heap h':=⟨j,fL h1,fL I⟩;h h' _ s.drawn EW.locals ⟨R.kind,R.glob,R.blt,⟨_,I,λy b=>?_⟩,λy b=>?_,R.inj,R.off,λy c t=>let ⟨o,w⟩:=R.ex y c t;⟨o,(i.g c (R.off y c t)).trans w⟩,R.lam⟩ (.inl QQ) i) (by rw[R.kind];rfl)
  ·unfold upd;by_cases e:y=x
   ·simp[e]
   ·simp[e,C y b]
  ·obtain⟨c,f,z⟩:=R.cell y b
   have n:y≠x:=by rintro rfl;rw[hk] at b;simp at b
   refine⟨c,f,?_⟩;unfold upd;rw[yV n];exact z.sameBut i.s (R.off y c f)
 ·obtain⟨c,f,z⟩:=R.cell x (.inl hk)
  refine wpAny_storeName_cell R.kind hk f z λh' t j=>have i:Heap.SB c s.heap h':=⟨j,jD z,jD t⟩;h h' s.toks s.drawn c ⟨R.kind,R.glob,R.blt,?_,λy b=>?_,R.inj,R.off,λy u G=>?_,R.lam⟩ (.inr f) i
  ·obtain⟨H,h1,C⟩:=R.loc
   refine⟨H,h1.sameBut i.s (λe=>R.off x c f e.symm),λy b=>?_⟩
   have n:y≠x:=by rintro rfl;rw[hk] at b;simp at b
   unfold upd;rw[yV n];exact C y b
  ·obtain⟨u,B,L⟩:=R.cell y b
   by_cases e:y=x
   ·subst e
    rw[f] at B;cases B;exact⟨c,f,by simpa [upd] using t⟩
   ·refine⟨u,B,?_⟩
    unfold upd;rw[yV e];exact L.sameBut i.s λq=>e (R.inj y x u B (q▸f))
  ·by_cases e:u=c
   ·obtain⟨o,w⟩:=oj t;exact⟨_,e▸w⟩
   ·obtain⟨o,w⟩:=R.ex y u G;exact⟨o,(i.g u e).trans w⟩
noncomputable def gu(cells:yA (Str×yN)):yA (Str×Bv)->yA (Str×yN)->yA (Str×yN)
 | [],a=>a
 | (n,k)::r,a=>if k == .free then (match cells.lookup n with | some c=>gu cells r ((n,c)::a) | none=>gu cells r a) else gu cells r a
theorem ld{EW:Env}(f:Str×Bv->yA (Str×yN)->Sem (ForInStep (yA (Str×yN))))
  (b:∀ n k i,f (n,k) i=if k == .free then (do let c <- cellOf EW n;pure (.yield ((n,c)::i))) else pure (.yield i)) :
  ∀ (names:yA (Str×Bv)) (acc:yA (Str×yN)),(∀ p∈names,p.2=.free->∃ c,EW.cells.lookup p.1=ac c)->forIn names acc f=pure (gu EW.cells names acc)
 | [],acc,_=>rfl
 | (n,k)::r,acc,h=>by
  have j:∀ p∈r,p.2=.free->∃ c,EW.cells.lookup p.1=ac c:=λp o=>h p (zX _ o)
  rw[EM,b];unfold gu
  by_cases a:(k == NameKind.free)=yC
  ·obtain⟨c,m⟩:=h (n,k) zv (by simpa using a)
   rw[yT a,yT a];unfold cellOf;simp only at m;rw[m];simp only[pure_bind];exact ld f b r _ j
  ·rw[yV a,yV a,pure_bind]
   exact ld f b r _ j
theorem kP{EW:Env}{scope:A8}(h:∀ p∈scope.names,p.2=.free->∃ c,EW.cells.lookup p.1=ac c):closureFor scope EW=pure (gu EW.cells scope.names []):=by
 unfold closureFor;simp only[];rw[ld (EW:=EW) _ (λn k b=>by
  by_cases a:(k == NameKind.free)=yC <;> simp[a]) scope.names [] h]
 rfl
theorem aU{α:Type}(x n:Str)(c:α)(l:yA (Str×α)):((n,c)::l).lookup x=if x=n then ac c else l.lookup x:=by
 rw[y7]
 by_cases h:x=n
 ·simp[h]
 ·have:(x == n)=yz:=by simpa using h
  simp[h,this]
theorem gt{cells:yA (Str×yN)}:∀ (names:yA (Str×Bv)) (acc:yA (Str×yN)),(∀ x c,acc.lookup x=ac c->cells.lookup x=ac c) ->
  ∀ x c,(gu cells names acc).lookup x=ac c->cells.lookup x=ac c
 | [],acc,h=>h
 | (n,k)::r,acc,h=>by
  unfold gu
  split
  ·cases a:cells.lookup n with
   | none=>exact gt r acc h
   | some c=>
    refine gt r _ λx b e=>?_
    rw[aU] at e;split at e
    ·rename_i q;cases e;rw[q];exact a
    ·exact h x b e
  ·exact gt r acc h
theorem lZ{cells:yA (Str×yN)}:∀ (names:yA (Str×Bv)) (acc:yA (Str×yN)) (x:Str) (c:yN),(gu cells names acc).lookup x=ac c->(x,NameKind.free)∈names\/acc.lookup x=ac c
 | [],acc,x,c,h=>.inr h
 | (n,k)::r,acc,x,c,h=>by
  unfold gu at h;split at h
  ·rename_i f
   have a:k=.free:=by simpa using f
   subst a;cases b:cells.lookup n with
   | none=>rw[b] at h;exact (lZ r acc x c h).imp (.tail _) id
   | some i=>
    rw[b] at h
    rcases lZ r _ x c h with e | e
    ·exact .inl (.tail _ e)
    ·rw[aU] at e
     split at e
     ·rename_i q;exact .inl (q▸.head _)
     ·exact .inr e
  ·exact (lZ r acc x c h).imp (.tail _) id
theorem iD{cells:yA (Str×yN)}{x:Str}{c:yN}(a:cells.lookup x=ac c):∀ (names:yA (Str×Bv)) (acc:yA (Str×yN)),
  ((x,NameKind.free)∈names\/acc.lookup x=ac c)->(gu cells names acc).lookup x=ac c
 | [],acc,h=>h.elim (λe=>nomatch e) id
 | (n,k)::r,acc,h=>by
  unfold gu
  split
  ·cases b:cells.lookup n with
   | none=>
    refine iD a r acc (h.imp (λe=>?_) id)
    rcases yX.mp e with e | e
    ·cases e;rw[a] at b;cases b
    ·exact e
   | some i=>
    refine iD a r _ ?_
    rcases h with e | e
    ·rcases yX.mp e with e | e
     ·cases e;rw[a] at b;cases b
      exact .inr (by rw[aU,yT rfl])
     ·exact .inl e
    ·rw[aU]
     split
     ·rename_i q;rw[<- q,a] at b;cases b;exact .inr QQ
     ·exact .inr e
  ·rename_i f
   refine iD a r acc (h.imp (λe=>?_) id)
   rcases yX.mp e with e | e
   ·cases e;simp at f
   ·exact e
theorem ce:∀ (names:yA (Str×Bv)) (n:Nat) (acc:yA (Str×yN)),As n names acc=As n names []++acc
 | [],_,_=>rfl
 | (x,k)::r,n,acc=>by
  unfold As
  split
  ·rw[ce r (n+1) ((x,n)::acc),ce r (n+1) [(x,n)]];simp
  ·exact ce r n acc
theorem hM:∀ (names:yA (Str×Bv)) (n:Nat) (x:Str) (c:yN),(x,c)∈As n names []->(x,NameKind.cell)∈names/\n<=c
 | [],_,_,_,h=>nomatch h
 | (y,k)::r,n,x,c,h=>by
  unfold As at h;split at h
  ·rename_i b
   rw[ce] at h
   rcases zA.mp h with h | h
   ·obtain⟨h1,a⟩:=hM r (n+1) x c h
    exact⟨.tail _ h1,by exact om72 a⟩
   ·simp only[yX,zK,Bf,Prod.mk.injEq] at h
    obtain⟨rfl,rfl⟩:=h;have:k=.cell:=by simpa using b
    subst this;exact⟨.head _,y0 _⟩
  ·obtain⟨h1,a⟩:=hM r n x c h
   exact⟨.tail _ h1,a⟩
theorem fk:∀ (names:yA (Str×Bv)) (n:Nat) (x:Str),(x,NameKind.cell)∈names->∃ c,(x,c)∈As n names []
 | (y,k)::r,n,x,h=>by
  unfold As
  rcases yX.mp h with e | e
  ·cases e
   simp only[zg,D5];rw[ce];exact⟨n,zQ _ (y3.mpr QQ)⟩
  ·split
   ·obtain⟨c,a⟩:=fk r (n+1) x e
    rw[ce];exact⟨c,Ap _ a⟩
   ·exact fk r n x e
theorem ej{α:Type}:∀ {l:yA (Str×α)} {x:Str} {c:α},(x,c)∈l->∃ b,l.lookup x=ac b
 | (y,d)::r,x,c,h=>by
  rw[aU]
  split
  ·exact⟨_,QQ⟩
  ·rename_i a
   rcases yX.mp h with e | e
   ·cases e;exact zl QQ a
   ·exact ej e
theorem iS{α:Type}(x:Str):∀ (l a:yA (Str×α)),(l++a).lookup x=(l.lookup x).or (a.lookup x)
 | [],a=>by simp
 | (y,c)::r,a=>by
  rw[DB,aU,aU,iS x r a]
  split <;> simp
end
theorem oY{α a:Type}(g:Str->α->a)(x:Str):∀ (l:yA (Str×α)),(l.map λp=>(p.1,g p.1 p.2)).lookup x=(l.lookup x).map (g x)
 | []=>rfl
 | (y,c)::r=>by
  rw[y8,aU,aU,oY g x r]
  split
  ·rename_i h;subst h;rfl
  ·rfl
theorem lP(k:KD)(scope:A8)(x:Str):eK k scope x=(scope.names.lookup x).map λq=>if q == .free&&k x == ac .cell then .cell else q:=by
 unfold eK;rw[<- oY (λn q=>if q == NameKind.free&&k n == ac .cell then NameKind.cell else q) x scope.names]
 congr 1
 refine AH λp Z=>?_
 by_cases h:(p.2 == NameKind.free&&k p.1 == ac .cell)=yC
 ·simp[h]
 ·simp[h]
theorem iM{EW:Env}{scope:A8}(c:EW.scope.kind=.function):(λx=>(Dj scope EW).names.lookup x)=eK EW.kindOf scope:=by
 funext x
 unfold Dj eK;simp only[c]
 congr 1
 refine AH λp Z=>?_
 obtain⟨a,b⟩:=p;simp
section
variable {M:Model} {A:zt} {E:yE->yL->Prop} {s:yL}
theorem newEnvA{scope:A8}{globals:yN}{cl:yA (Str×yN)}{qual:Str}{EW:Env}{Q:Env->yL->Prop}
  (h:Q { scope,locals:=s.heap.objs.size,globals,cells:=As (s.heap.objs.size+1) scope.names cl,qual,func:=yS,code:=EW.code,frame:=EW.frame,builtins:=EW.builtins }
   {s with heap:=Ee (s.heap.push { cls:=.type "dict",data:=.dict #[] }) scope.names }) :
  wpAny M A (newFunctionEnv scope globals cl [] qual yS .none (ac EW)) Q E s:=by
 simp only[newFunctionEnv,Option.isSome_some,D5];refine yG (wpAny_alloc ?_);refine yG (wpAny_layCells _ (λname kind cells=>by cases a:kind == NameKind.cell <;> simp[a]) _ _ _ _ ?_)
 rw[show ({ s with heap:=s.heap.push { cls:=.type "dict",data:=.dict #[] } }:yL).heap.objs.size=s.heap.objs.size+1 from Heap.size_push ..]
 exact yU h
end
theorem nJ(h:Heap)(scope:A8)(o:Obj) :
  CellsOk (Ee (h.push o) scope.names) (h.objs.size+1) (As (h.objs.size+1) scope.names []):=by
 have ok:=cellsFrom_ok scope.names (h.push o) (h.objs.size+1) [] ⟨λZ Z a=>(nomatch a),List.Pairwise.nil⟩ (by rw[Heap.size_push];exact y0 _)
 rwa [Heap.size_push] at ok
theorem kZ{l:yA (Str×Bv)}(a:(l.map (·.1)).Nodup){x:Str}{k:Bv}(h:(x,k)∈l):l.lookup x=ac k:=by
 induction l with
 | nil=>nomatch h
 | cons q l b=>
  have a:=AW.mp a;refine (aU x q.1 q.2 l).trans ((yX.mp h).elim (λe=>by rw[<- e,yT rfl]) λe=>?_)
  rw[yV (show ¬ x=q.1 from λz=>a.1 (show q.1∈l.map (·.1) from z▸D2 (f:=(·.1)) e))]
  exact b a.2 e
theorem fc{names:yA (Str×Bv)}{cells:yA (Str×yN)}{n:Nat}{x:Str}{c:yN}(b:(names.map (·.1)).Nodup)(a:(As n names (gu cells names [])).lookup x=ac c):(x,c)∈As n names []\/(names.lookup x=ac .free/\cells.lookup x=ac c):=by
 rw[ce,iS] at a;cases hq:(As n names []).lookup x with
 | some f=>rw[hq] at a;exact .inl (yJ a▸mem_of_lookup hq)
 | none=>
  rw[hq,Option.none_or] at a;exact .inr ⟨kZ b ((lZ names [] _ _ a).elim id λq=>aj q),gt names [] (λZ Z e=>aj e) x c a⟩
theorem jC{k:KD}{scope:A8}{x:Str}{C:Prop}(h:iO k scope x=yC)(c:scope.kind=.function->(scope.names.map (·.1)).Nodup->(scope.names.lookup x=ac .local\/scope.names.lookup x=ac .cell)->(∀ p∈scope.names,p.2=.free->k p.1=ac .cell\/k p.1=ac .free)->(∀ p∈scope.names,((p.2=.free\/p.2=.globalImplicit)\/p.1=x)\/p.1=yB ".0")->mA (eK k scope)=yz->C):C:=by
 refine and6 h λh1 b f i j m=>c (eq_of_beq h1) (zG b) ((AV.mp f).imp eq_of_beq eq_of_beq) (λp a e=>?_) (λp a=>?_) (by simpa using m)
 ·have q:=zk.mp i p a
  rw[e,bne_self_eq_false,Eh] at q;exact (AV.mp q).imp eq_of_beq eq_of_beq
 ·have q:=zk.mp j p a
  simpa only [DS,AZ] using q
theorem own_none{names:yA (Str×Bv)}{n:Nat}{x:Str}(a:(names.map (·.1)).Nodup)(b:names.lookup x=ac .free):(As n names []).lookup x=yS:=by
 cases f:(As n names []).lookup x with
 | none=>rfl
 | some c=>exact nomatch b.symm.trans (kZ a (hM _ _ _ _ (mem_of_lookup f)).1)
theorem kindC_free{k:KD}{scope:A8}{x:Str}(h:scope.names.lookup x=ac .free):eK k scope x≠ac .local:=by
 rw[lP,h];show ac (if _ then _ else _)≠_
 split <;> nofun
theorem kindC_inv{k:KD}{scope:A8}{x:Str}(h:eK k scope x=ac .cell\/eK k scope x=ac .free):scope.names.lookup x=ac .free\/scope.names.lookup x=ac .cell:=by
 rw[lP] at h;cases hq:scope.names.lookup x with
 | none=>rw[hq] at h;exact h.elim (λh=>nomatch h) λh=>nomatch h
 | some q=>
  rw[hq] at h;have h:ac (if (q == .free&&k x == ac .cell)=yC then NameKind.cell else q)=ac .cell\/ac (if (q == .free&&k x == ac .cell)=yC then NameKind.cell else q)=ac .free:=h
  by_cases a:(q == .free&&k x == ac .cell)=yC
  ·exact .inl (y6 ac (eq_of_beq (zr.mp a).1))
  ·rw[yV a] at h;exact h.symm
theorem compEnv_rep{h:Heap}{EW:Env}{m:Str->yK yE}{scope:A8}{y:Str}(R:bK h EW m)(H:iO EW.kindOf scope y=yC) :
  bK (Ee (h.push { cls:=.type "dict",data:=.dict #[] }) scope.names)
   {scope:=Dj scope EW,locals:=h.objs.size,globals:=EW.globals,cells:=As (h.objs.size+1) scope.names (gu EW.cells scope.names []),qual:=EW.qual,func:=yS,code:=EW.code,frame:=EW.frame,builtins:=EW.builtins }
   (λx=>if scope.names.lookup x=ac .free then m x else yS):=by
 refine jC H λt i N u Z A=>?_
 have ok:=nJ h scope { cls:=.type "dict",data:=.dict #[] };have n:KH h (Ee (h.push { cls:=.type "dict",data:=.dict #[] }) scope.names):=λb o e=>Heap.gt_up (pushCells_keeps _ _) b o (Heap.gt_push_of_some _ e)
 have I:∀ x k,(Dj scope EW).names.lookup x=k->eK EW.kindOf scope x=k:=λx k e=>(congrFun (iM (scope:=scope) R.kind) x).symm.trans e
 have a:∀ x c,EW.cells.lookup x=ac c->@LT.lt Nat _ c h.objs.size:=λx c B=>(R.ex x c B).elim λo s=>Heap.gt_lt s
 have f:∀ x c,(x,c)∈As (h.objs.size+1) scope.names []->@LT.lt Nat _ h.objs.size c:=λx c B=>(ok.empty x c B).2
 have j:∀ {x z c} {C:Prop},(x,c)∈As (h.objs.size+1) scope.names []->EW.cells.lookup z=ac c->C:=λh1 G=>zl (zM (f _ _ h1) (a _ _ G)) (zY _)
 refine⟨t,R.glob,R.blt,⟨λZ=>yS,(Heap.Ns.new h (.type "dict")).keeps (pushCells_keeps _ _),λx J=>?_⟩,λx J=>?_,λx z c h1 G=>?_,λx c h1 e=>?_,λx c h1=>?_,λs=>?_⟩
 ·exact (yV λe=>kindC_free e (I x _ J)).symm
 ·refine (kindC_inv (J.imp (I x _) (I x _))).elim (λe=>?_) λe=>?_
  ·have M:=mem_of_lookup e
   refine (R.cell x (u _ M QQ)).elim λc q=>⟨c,?_,?_⟩
   ·show (As _ _ _).lookup x=ac c
    rw[ce,iS,own_none i e];exact iD q.1 scope.names [] (.inl M)
   ·rw[yT e];exact Cell.keepAt q.2 (n _)
  ·refine (fk scope.names (h.objs.size+1) x (mem_of_lookup e)).elim λc B=>(ej B).elim λL E=>⟨L,?_,?_⟩
   ·show (As _ _ _).lookup x=ac L
    rw[ce,iS,E];rfl
   ·rw[yV (by rw[e];nofun)]
    exact (ok.empty x L (mem_of_lookup E)).1
 ·exact (fc i h1).elim (λe1=>(fc i G).elim (λw=>name_of_addr ok.apart e1 w) λw=>j e1 w.2) λe1=>(fc i G).elim (λw=>j w e1.2) λw=>R.inj x z c e1.2 w.2
 ·exact (fc i h1).elim (λe1=>zY _ (e▸f x c e1)) λe1=>zY _ (e▸a x c e1.2)
 ·exact (fc i h1).elim (λe1=>oj (ok.empty x c e1).1) λe1=>(R.ex x c e1.2).elim λo s=>⟨o,n _ _ s⟩
 ·have s:mA (λx=>(Dj scope EW).names.lookup x)=yC:=s
  rw[iM R.kind,A] at s;cases s
theorem fb(f:D->yK (yK D))(x:D)(l:yA D):bS f (x::l)=(f x).bind λo=>(bS f l).map λds=>match o with | none=>ds | some d=>d::ds:=by
 show (match f x with | none=>none | some o=>match bS f l with | none=>none | some ds=>_)=_
 cases f x with
 | none=>rfl
 | some o=>cases bS f l <;> rfl
theorem compM_snoc(f:D->yK (yK D))(l:yA D)(x:D):bS f (l++[x])=(bS f l).bind λds=>(f x).map λo=>match o with | none=>ds | some d=>ds++[d]:=by
 induction l with
 | nil=>
  rw[AR,fb];cases f x with
  | none=>rfl
  | some o=>cases o <;> rfl
 | cons y l a=>
  rw[DB,fb,fb,a];cases f y with
  | none=>rfl
  | some o=>
   cases bS f l with
   | none=>rfl
   | some ds=>
    cases f x with
    | none=>rfl
    | some b=>cases b <;> cases o <;> rfl
theorem compM_pre{f:D->yK (yK D)}{a b:yA D}{out:yA D}(h:bS f (a++b)=ac out):∃ o,bS f a=ac o:=by
 induction a generalizing out with
 | nil=>exact⟨[],QQ⟩
 | cons x a i=>
  rw[DB,fb] at h;rw[fb];exact iP h λo j h=>bM h λds c Z=>(i c).elim λm e=>by rw[j,e];exact⟨_,QQ⟩
theorem rh{f:D->yK (yK D)}{a:yA D}{out:yA D}(h:bS f a=ac out):out.length<=a.length:=by
 induction a generalizing out with
 | nil=>cases h;exact y0 _
 | cons x a c=>
  rw[fb] at h;refine iP h λo i h=>bM h λds b e=>?_
  subst e;cases o with
  | none=>exact zO (c b)
  | some d=>exact zb (c b)
theorem compM_next{f:D->yK (yK D)}{done E2 out o:yA D}{d:D}(h:bS f (done++d::E2)=ac out)(b:bS f done=ac o):∃ r,f d=ac r/\bS f (done++[d])=ac (match r with | some x=>o++[x] | none=>o):=by
 rw[show done++d::E2=(done++[d])++E2 from B7 ..] at h;refine (compM_pre h).elim λc e=>?_
 rw[compM_snoc,b] at e ⊢;refine bM e λr a Z=>⟨r,a,?_⟩
 rw[a];cases r <;> rfl
theorem kK{e:y4}{EW:Env}(h:e5 e=yC):∀ x,foldedSetIterable e EW x=pure x:=by
 intro x;cases e with
 | Set=>cases h
 | _=>rfl
theorem lJ{e:y4}{a:CL}(h:e5 e=yC):behindInMarks a e=yz:=by
 cases e with
 | Set=>cases h
 | _=>rfl
noncomputable abbrev Mv(c:yN)(h h':Heap):Prop:=∀ b o,b≠c->gat h b=ac o->gat h' b=ac o
section
variable {P:zH} {h1 h h':Heap} {H F:yN->Prop} {c I L:yN}
theorem vG(a:∀ b,F b->gat h1 b=yS)(f:F c)(k:KH h1 h)(m:Mv c h h'):KH h1 h':=λb o e=>m b o (λq=>cx e (q▸a c f)) (k b o e)
theorem rT(a:F c)(m:Mv c h h'){l:yA yE}{ds:yA D}(r:al P h (λb=>H b\/F b) l ds):al P h' (λb=>H b\/F b) l ds:=r.mono (λb o f e=>m b o (λq=>f (.inr (q▸a))) e) λZ Z Z q=>q
noncomputable abbrev FX(F:yN->Prop)(I:yN)(h:Heap):Prop:=∀ b,F b->b≠I->∃ o,gat h b=ac o
theorem xC(m:Mv c h h')(f:c≠I->∃ o,gat h' c=ac o)(i:FX F I h):FX F I h':=λb j a=>(Classical.em (b=c)).elim (λe=>e▸f (e▸a)) λe=>(i b j a).elim λo q=>⟨o,m b o e q⟩
theorem xB(m:Mv c h h')(b:L≠c){ys:zj yE}(a:h.PlainList L ys):h'.PlainList L ys:=a.elim λn e=>⟨n,Heap.of_gt (m L _ b (Heap.gt_of e))⟩
theorem kh_mv(k:KH h h'):Mv c h h':=λb o Z e=>k b o e
theorem xn(s:Heap.SB c h h'):Mv c h h':=λb Z n e=>(s.g b n).trans e
end
section
variable {E3:zh} {w:zq} {A:zt} {E:yE->yL->Prop} {s:yL} {H:yN->Prop}
inductive un(P:zH)(h1:Heap)(H F:yN->Prop)(I L:yN)(EX:yA D)(St:Nat->Heap->Prop)(f:D->yK (yK D))(cenv:Env)(m:Str->yK yE)(free:Str->Prop)(s:yL)(k:Nat):yL->Prop
 | mk {h tk dw done E2 o ys mC} (dr:EX=done++E2) (st:St done.length h) (acc:h.PlainList L ys) (out:bS f done=ac o) (rep:al P h (λb=>H b\/F b) ys.toList o) (EW:bK h cenv mC) (fv:∀ x,free x->mC x=m x) (kh:KH h1 h)
  (fx:FX F I h) (kn:k=E2.length+1):un P h1 H F I L EX St f cenv m free s k { s with heap:=h,toks:=tk,drawn:=dw }
theorem wp_kp{α:Type}{M:Model}{c:Sem α}{b:α}{X:yL->Prop}{Q:α->yL->Prop}(hq:wpAny M A c (λok s'=>bP s s'/\ok=b/\X s') E s)(k:∀ h tk dw,KH s.heap h->X { s with heap:=h,toks:=tk,drawn:=dw }->Q b { s with heap:=h,toks:=tk,drawn:=dw }):wpAny M A c Q E s:=
 bG hq λok s' q=>bP.rec (motive:=λs' Z=>X s'->Q ok s') (λh tk dw a x=>q.2.1▸k h tk dw a x) q.1 q.2.2
theorem rE{M:Model}{c:Sem yE}{d:D}{Q:yE->yL->Prop}(hq:wpAny M A c (bz w s H d) E s)(k:∀ v h tk dw,KH s.heap h->Rep w.params h H v d->Q v { s with heap:=h,toks:=tk,drawn:=dw }):wpAny M A c Q E s:=
 bG hq λv s' q=>bP.rec (motive:=λs' Z=>Rep w.params s'.heap H v d->Q v s') (λh tk dw a x=>k v h tk dw a x) q.k q.r
noncomputable def yw(E3:zh)(w:zq)(A:zt)(s:yL)(H:yN->Prop)(EX:yA D)(f:D->yK (yK D))(m:Str->yK yE)(free:Str->Prop)(y:Str)(elt:y4)(j:yA y4)(b:Env):Prop:=
 ∀ (a:yL) (n:Str->yK yE) (h:yN->Prop) (v:yE) (dv:D) (r:yK D),dv∈EX->f dv=ac r->bK a.heap b n->n y=ac v->Rep w.params a.heap h v dv ->
  (∀ x,free x->n x=m x)->Ex a.heap h->bP s a->sI s.heap H h->∀ o:yE->yL->Prop,
  wpAny (yR E3 w) A (forIn j yC λc r=>if r=yC then do let ok <- B8 c b (zF c b);pure (ForInStep.yield ok) else pure (ForInStep.yield r))
   (λok i=>bP a i/\ok=r.isSome/\∀ q,r=ac q->wpAny (yR E3 w) A (zF elt b) (bz w i h q) o i) o a
structure yx(h1:Heap)(H F:yN->Prop)(I L:yN)(cenv:Env)(y:Str):Prop where
 FI:F I
 FL:F L
 FC:F cenv.locals
 Fy:∀ c,cenv.cells.lookup y=ac c->F c
 nIL:I≠L
 nIC:I≠cenv.locals
 nLC:L≠cenv.locals
 ncell:∀ x c,cenv.cells.lookup x=ac c->c≠L/\c≠I
 Ff:∀ b,F b->gat h1 b=yS
 IC:@LE.le Nat _ I cenv.locals
 hH:Ex h1 H
theorem st_mv{h1 h h':Heap}{F:yN->Prop}{I c:yN}{EX:yA D}{fp:yA yN}{P:Nat->yE->Prop}{St:Nat->Heap->Prop}(W:CQ E3 w A I fp [I] EX.length P St)(a:∀ b∈fp,b=I\/(¬ H b/\∃ o,gat h1 b=ac o))(j:∀ b∈fp,∀ i h o,St i h->h.get? b=ac o->bI o=yz)
  (n:∀ b,F b->gat h1 b=yS) (s:F c) (f:c≠I) (m:Mv c h h') {i:Nat} (st:St i h):St i h':=
 ew W j i h h' st λb t o e=>m b o (λq=>(a b t).elim (λz=>f (q▸z)) λz=>z.2.elim λy u=>cx u (q▸n c s)) e
theorem comp_turn{j:Env}{m:Str->yK yE}{free:Str->Prop}{y:Str}{Go:Pos}{elt:y4}{FH:yA y4}{EX out:yA D}{f:D->yK (yK D)}
  {I L:yN} {fp:yA yN} {P:Nat->yE->Prop} {St:Nat->Heap->Prop} {F:yN->Prop} {h1 h:Heap} {tk:Nat} {dw:Drawn} {FJ:yE->yL->Prop}
  (W:CQ E3 w A I fp [I] EX.length P St) (FK:∀ b∈fp,b=I\/(¬ H b/\∃ o,gat h1 b=ac o)) (Gp:∀ i v,i<EX.length->P i v->∃ d,EX[i]?=ac d/\Rep w.params h1 H v d)
  (FM:∀ b∈fp,∀ i h o,St i h->h.get? b=ac o->bI o=yz) (F8:j.kindOf y=ac .local\/j.kindOf y=ac .cell) (F9:¬ free y) (Z:yx h1 H F I L j y) (FN:KH s.heap h1)
  (FO:EX.length<=big) (Fj:bS f EX=ac out) (FP:yw E3 w A s H EX f m free y elt FH j)
  {done E2 o:yA D} {dv:D} {ys:zj yE} {F7:Str->yK yE} {k:Nat} (FQ:EX=done++dv::E2) (st:St done.length h) (acc:h.PlainList L ys) (Gi:bS f done=ac o) (rep:al w.params h (λb=>H b\/F b) ys.toList o) (EW:bK h j F7) (Gq:∀ x,free x->F7 x=m x) (Gr:KH h1 h) (Gs:FX F I h) (kn:k=(dv::E2).length+1)
  {R:yL->Prop} :
  wpAny (yR E3 w) A (BZ (.ref I)) (λr Fk=>match r with
   | none=>R Fk
   | some v=>wpAny (yR E3 w) A (assign (.Name y Go) j v) (λEP FR=>
     wpAny (yR E3 w) A (forIn FH yC λc r=>if r=yC then do let ok <- B8 c j (zF c j);pure (ForInStep.yield ok) else pure (ForInStep.yield r)) (λok Fm=>
      if ok=yC then wpAny (yR E3 w) A (zF elt j) (λx FS=>
       wpAny (yR E3 w) A (call (.builtin "list.append") [.ref L,x]) (λEP FT=>∃ m',m'<k/\un w.params h1 H F I L EX St f j m free s m' FT) FJ FS) FJ Fm
      else ∃ m',m'<k/\un w.params h1 H F I L EX St f j m free s m' Fm) FJ FR) FJ Fk) FJ { s with heap:=h,toks:=tk,drawn:=dw }:=by
 refine Z.rec λGj Ga Gk Gu FU FV Gb Y FG Gv Gw=>?_
 clear Z;have Fo:done.length<EX.length:=by rw[FQ,yY];exact Ak (Ac _)
 refine W.item done.length _ _ _ Fo st λv EU Fp Gc Fq Fs=>?_
 have FW:Mv I h EU:=λb o Fg e=>kc W FM st Fs b o (λq=>Fg (y3.mp q)) e
 have Ft:∀ b,(b=j.locals\/∃ x,j.cells.lookup x=ac b)->b≠I/\b≠L:=λb Fg=>Fg.elim (λe=>e▸⟨FV.symm,Gb.symm⟩) λq=>q.elim λx e=>⟨(Y x b e).2,(Y x b e).1⟩
 refine Eo (ki (s:={ s with heap:=EU,toks:=Fp,drawn:=dw }) (EW.keepsAt λa t FY e=>FW a t (Ft a FY).1 e) F8 λE7 G J a u FY Fu=>?_)
 have Gl:=Ft a (FY.imp id λe=>⟨y,e⟩)
 have Gd:F a:=FY.elim (λe=>e▸Gk) (Gu a)
 have FZ:=xn Fu;have k2:KH h1 E7:=vG FG Gd (vG FG Gj Gr FW) FZ;have Fh:St (done.length+1) E7:=st_mv W FK FM FG Gd Gl.1 FZ Fq;have B:FX F I E7:=xC FZ (λEP=>FY.elim (λe=>u.loc.elim λEP q=>e▸tN q.1) λe=>u.ex y a e) (xC FW (λq=>zl QQ q) Gs)
 have F0:dv∈EX:=by rw[FQ];exact zQ _ (.head _)
 have O:=rT Gd FZ (rT Gj FW rep);have T:=xB FZ Gl.2.symm (xB FW FU.symm acc);have M:∀ x,free x->upd F7 y v x=m x:=λx Gm=>(yV (show ¬ x=y from λe=>F9 (e▸Gm))).trans (Gq x Gm)
 have Fv:Ex E7 (λb=>H b\/F b):=λb Fg=>Fg.elim (λq=>(Gw b q).elim λGx z=>z.elim λt z=>⟨Gx,t,z.1,k2 _ _ z.2⟩) λq=>(Classical.em (b=I)).elim (λe=>(B _ Gk FV.symm).elim λt z=>⟨_,t,e▸Gv,z⟩) λe=>(B b q e).elim λt z=>⟨b,t,y0 _,z⟩
 have F3:sI h1 H λb=>H b\/F b:=λb t e q=>q.elim id λq=>cx e (FG b q)
 have Gy:Rep w.params E7 (λb=>H b\/F b) v dv:=(Gp _ v Fo Gc).elim λd q=>by
  have e:d=dv:=by
   have e1:=q.1;rw[FQ,Ai (y0 _),CD] at e1;exact (yJ e1).symm
  exact e▸q.2.mono (λb t EP e=>k2 b t e) F3
 have lt:E2.length+1<k:=by rw[kn];exact Ab _
 have F4:EX=(done++[dv])++E2:=FQ.trans (B7 ..);have Gn:(done++[dv]).length=done.length+1:=yY;rw[FQ] at Fj;refine (compM_next Fj Gi).elim λr q=>wp_kp (s:={ s with heap:=E7,toks:=G,drawn:=J }) (FP { s with heap:=E7,toks:=G,drawn:=J } (upd F7 y v) (λb=>H b\/F b) v dv r F0 q.1 u (yT QQ) Gy M Fv (.mk E7 G J λb t e=>k2 b t (FN b t e)) (λb t e=>F3 b t (FN b t e)) _) λU Fw Fz C Ge=>?_
 have GA:Mv L E7 U:=kh_mv C;have FA:St (done.length+1) U:=ew W FM _ _ U Fh λb EP t e=>C b t e
 cases r with
 | none=>exact⟨E2.length+1,lt,.mk F4 (Gn▸FA) (T.elim λn e=>⟨n,Heap.of_gt (C _ _ (Heap.gt_of e))⟩) q.2 (O.keeps C) (u.keeps C) M (λb t e=>C _ _ (k2 b t e)) (λb Fg FE=>(B b Fg FE).elim λt e=>⟨t,C _ _ e⟩) QQ⟩
 | some FF=>
  refine rE (s:={ s with heap:=U,toks:=Fw,drawn:=Fz }) (Ge FF QQ) λx V Gf Gg Gh Gz=>?_
  have X:KH E7 V:=λb t e=>Gh b t (C b t e)
  have E:V.PlainList L ys:=T.elim λn e=>⟨n,Heap.of_gt (X _ _ (Heap.gt_of e))⟩
  refine Dl E (λF5 N Fi=>?_) (by
   rw[rep.size];exact zy (yO (rh Gi) (yZ Fo FO)))
  have F6:Mv L V F5:=xn ⟨Fi,E.elim λEP e=>bZ e,N.elim λEP e=>bZ e⟩
  refine⟨E2.length+1,lt,.mk F4 (Gn▸st_mv W FK FM FG Ga FU.symm F6 (ew W FM _ _ V Fh λb EP t e=>X b t e)) N q.2 ?_ ((u.keeps X).keepsAt λb t Fg e=>F6 b t (Ft b Fg).2 e) M (vG FG Ga (λb t e=>X b t (k2 b t e)) F6) (xC F6 (λEP=>N.elim λEP e=>⟨_,Heap.gt_of e⟩) λb Fg FE=>(B b Fg FE).elim λt e=>⟨t,X _ _ e⟩) QQ⟩
  rw[Cv];exact rT Ga F6 ((O.keeps X).append (.cons Gz QQ))
theorem comp_loop{c:Env}{m z:Str->yK yE}{free:Str->Prop}{y:Str}{Fu T:Pos}{Fv elt:y4}{B:yA y4}{scope:A8}{R:Result->yL->Prop}{EX out:yA D}{f:D->yK (yK D)}
  {I L:yN} {F:yN->Prop} {h1 u:Heap} {U:Nat} {V:Drawn}
  (Fo:rB E3 w A h1 H EX I u) (X:c.kindOf y=ac .local\/c.kindOf y=ac .cell) (Y:¬ free y) (Z:yx h1 H F I L c y)
  (j:u.PlainList L #[]) (Fp:bK u c z) (C:∀ x,free x->z x=m x) (Fq:FX F I u) (E:KH s.heap h1) (G:KH h1 u)
  (t:EX.length<=big) (i:bS f EX=ac out) (J:yw E3 w A s H EX f m free y elt B c)
  (Fw:∀ h' tk dw m',h'.Ns c.locals m'->jg w.params h' (λb=>H b\/F b) L out->(KH s.heap h')->R (.ok .next) { s with heap:=h',toks:=tk,drawn:=dw }) :
  Eu (yR E3 w) A (.compLoop (.ListComp elt [⟨.Name y Fu,Fv,B,0⟩] scope T) 0 (.ref I) (.ref L) c) R { s with heap:=u,toks:=U,drawn:=V }:=by
 refine Fo.rec λ{fp P St} W M Fg Fz _ Fs=>?_
 refine codeAny_compLoop_tests (un w.params h1 H F I L EX St f c m free s) (λk s' q=>?_) (EX.length+1) (.mk (done:=[]) (E2:=EX) (o:=[]) (ys:=#[]) QQ M j QQ QQ Fp C G Fq QQ)
 clear M j Fp C G Fq Fo;refine un.rec (motive:=λs' EP=>wpAny (yR E3 w) A (BZ (.ref I)) _ _ s') (λ{h tk dw done E2 o ys FJ} Fh st N Fi rep EW FA Ft FE FF=>?_) q
 cases E2 with
 | cons dv E2=>exact comp_turn W Fg Fz Fs X Y Z E t i J Fh st N Fi rep EW FA Ft FE FF
 | nil=>
  rw[zm] at Fh;subst Fh;refine W.done _ _ _ st λh' Fj Fk=>?_
  have O:Mv I h h':=λb o FG e=>kc W Fs st Fk b o (λq=>FG (y3.mp q)) e
  refine EW.loc.elim λFH Fm=>Fw h' Fj dw FH (Ns.keepAt Fm.1 λo e=>O _ o Z.nIC.symm e) ?_ λb o e=>vG Z.Ff Z.FI Ft O b o (E b o e)
  rw[i] at Fi;cases Fi;exact (xB O Z.nIL.symm N).elim λn e=>⟨e,yD (rh i) t,(rT Z.FI O rep).mono (λEP EP EP e=>e) λa FK EP q=>q.elim id λq=>.inr (q▸Z.FL)⟩
theorem nW{M:Model}{c:Sem yE}{EX:yA D}{Q:yE->yL->Prop}{a:yL}(hq:wpAny M A c (qh E3 w A s H EX) E a)
  (k:∀ I h tk dw,KH s.heap h->gat s.heap I=yS->(∃ o,gat h I=ac o)->rB E3 w A s.heap H EX I h->Q (.ref I) { s with heap:=h,toks:=tk,drawn:=dw }):wpAny M A c Q E a:=
 bG hq λv s' q=>q.rec λ{I b} q=>bP.rec (motive:=λs' Z=>(∃ o,gat s'.heap I=ac o)->rB E3 w A s.heap H EX I s'.heap->Q (.ref I) s') (λh tk dw f x y=>k I h tk dw f q.fresh x y) q.keeps q.ex q.walk
theorem comp_core{EW:Env}{m:Str->yK yE}{scope:A8}{y:Str}{FO Fh Fi:Pos}{Fj elt:y4}{U:yA y4}{use:yK (yE->Sem Unit)}{Q:yE->yL->Prop}{d:D}{EX out:yA D}{f:D->yK (yK D)}
  (R:bK s.heap EW m) (Fk:iO EW.kindOf scope y=yC) (Fm:e5 Fj=yC) (FR:A.handled=yS) (FS:Ex s.heap H)
  (hit:wpAny (yR E3 w) A (zF Fj EW) (bz w s H d) E s) (Fo:d.items=ac EX) (Fp:EX.length<=big) (Fq:bS f EX=ac out)
  (Fs:∀ O:Env,O.kindOf=eK EW.kindOf scope->yw E3 w A s H EX f m (λx=>scope.names.lookup x=ac .free) y elt U O)
  (FT:∀ L C h' tk dw m',(∀ b o,gat s.heap b=ac o->@LT.lt Nat _ b L)->gat s.heap C=yS->L≠C->h'.Ns C m'->jg w.params h' (λb=>H b\/b=C) L out->(KH s.heap h') ->
   compPost (yR E3 w) A E use Q (.ref L) C (.ok .next) { s with heap:=h',toks:=tk,drawn:=dw }) :
  wpAny (yR E3 w) A (comprehension (.ListComp elt [⟨.Name y FO,Fj,U,0⟩] scope Fh) scope EW Fi (newList []) yz (zF Fj EW) use) Q E s:=by
 refine jC Fk λV i FG X EP EP=>?_
 refine wpAny_comprehension_free (cl:=gu EW.cells scope.names []) QQ (kK Fm) (kP λp FU FV=>(R.cell p.1 (X p FU FV)).elim λc q=>⟨c,q.1⟩) V (λx Y FW=>by rw[kZ i (k:=x.2) Y,FW]) ?_
 refine rE hit λF3 h1 FH FJ B Ft=>nW (pj (s:={ s with heap:=h1,toks:=FH,drawn:=FJ }) (E3:=E3) (E:=E) Ft FR Fo) λI z FY FZ J fresh ex FK=>z4 (newEnvA ?_)
 dsimp only at fresh FK J ⊢;generalize M:z.push { cls:=.type "list",dict:=yS,data:=.seq ([]:yA yE).toArray }=n;have N:KH z n:=λb o e=>M▸Heap.gt_push_of_some _ e
 have FP:=R.keeps B;have FQ:=compEnv_rep (y:=y) ((FP.keeps J).keeps N) Fk;have Fg:@Eq Nat n.objs.size (z.objs.size+1):=by rw[<- M,Heap.size_push]
 have Fu:n.get? z.objs.size=ac (fT #[] 0):=by rw[<- M];exact Heap.get?_push_size _ QQ
 clear M;have u:@LT.lt Nat _ I z.objs.size:=ex.elim λEP q=>Heap.gt_lt q
 have ok:=nJ n scope { cls:=.type "dict",data:=.dict #[] };have G:KH n (Ee (n.push { cls:=.type "dict",data:=.dict #[] }) scope.names):=λb o e=>Heap.gt_up (pushCells_keeps _ _) b o (Heap.gt_push_of_some _ e)
 have ES:∀ b o,gat h1 b=ac o->@LT.lt Nat _ b z.objs.size:=λb o e=>Heap.gt_lt (J b o e)
 have j:∀ x c,(x,c)∈As (n.objs.size+1) scope.names []->@LT.lt Nat _ n.objs.size c:=λx c Fv=>(ok.empty x c Fv).2
 have h:@LT.lt Nat _ z.objs.size n.objs.size:=Fg▸Ab _;have Fw:∀ b o,gat h1 b=ac o->b≠I:=λb o e q=>cx e (q▸fresh)
 have Z:yx h1 H (λb=>b=I\/b=z.objs.size\/b=n.objs.size\/∃ x,(x,b)∈As (n.objs.size+1) scope.names []) I z.objs.size
   {scope:=Dj scope EW,locals:=n.objs.size,globals:=EW.globals,cells:=As (n.objs.size+1) scope.names (gu EW.cells scope.names []),qual:=EW.qual,func:=yS,code:=EW.code,frame:=EW.frame,builtins:=EW.builtins } y:=by
  refine⟨.inl QQ,.inr (.inl QQ),.inr (.inr (.inl QQ)),λc Fv=>?_,zC u,zC (zM u h),zC h,λx c Fv=>?_,λb t=>?_,zy (zM u h),FS.keeps B⟩
  ·exact (fc i Fv).elim (λe=>.inr (.inr (.inr ⟨y,e⟩))) λq=>zl q.1 (FG.elim (λe=>e▸nofun) λe=>e▸nofun)
  ·exact (fc i Fv).elim (λe=>⟨(zC (zM h (j x c e))).symm,(zC (zM (zM u h) (j x c e))).symm⟩) λq=>(FP.ex x c q.2).elim λo e=>⟨zC (ES c o e),Fw c o e⟩
  ·cases e:gat h1 b with
   | none=>rfl
   | some o=>
    have l:=ES b o e;exact t.elim (λq=>zl q (Fw b o e)) λt=>t.elim (λq=>zl (q▸l) (zY _)) λt=>t.elim (λq=>zl (zM (q▸l) h) (zY _)) λt=>t.elim λx Y=>zl (zM (j x b Y) (zM l h)) (zY _)
 have Fz:(λx=>(Dj scope EW).names.lookup x)=eK EW.kindOf scope:=iM R.kind
 have T:∀ FA FE,Eu (yR E3 w) A (.compLoop (.ListComp elt [⟨.Name y FO,Fj,U,0⟩] scope Fh) 0 (.ref I) (.ref z.objs.size)
   {scope:=Dj scope EW,locals:=n.objs.size,globals:=EW.globals,cells:=As (n.objs.size+1) scope.names (gu EW.cells scope.names []),qual:=EW.qual,func:=yS,code:=EW.code,frame:=EW.frame,builtins:=EW.builtins })
   (compPost (yR E3 w) A E use Q (.ref z.objs.size) n.objs.size) { s with heap:=Ee (n.push { cls:=.type "dict",data:=.dict #[] }) scope.names,toks:=FA,drawn:=FE }:=λFA FE=>by
  refine comp_loop (s:=s) (H:=H) (m:=m) (free:=λx=>scope.names.lookup x=ac .free) (FK.rec λW st a b c d=>⟨W,ew W d _ _ _ st λb EP o e=>G b o (N b o e),a,b,c,d⟩) ?_ (FG.elim (λe=>e▸nofun) λe=>e▸nofun) Z ⟨0,Heap.of_gt (G _ _ (Heap.gt_of Fu))⟩ FQ (λx Y=>yT Y) (λb t FM=>?_) B (λb o e=>G b o (N b o (J b o e))) Fp Fq (Fs _ Fz) λh' tk dw m' FN FF F0=>?_
  ·show (λx=>(Dj scope EW).names.lookup x) y=_\/(λx=>(Dj scope EW).names.lookup x) y=_
   rw[Fz,lP];exact FG.imp (λe=>by rw[e];rfl) λe=>by rw[e];rfl
  ·exact t.elim (λq=>zl q FM) λt=>t.elim (λq=>⟨_,q▸G _ _ (Heap.gt_of Fu)⟩) λt=>t.elim (λq=>FQ.loc.elim λEP e=>q▸tN e.1) λt=>t.elim λx Y=>oj (ok.empty x b Y).1
  ·exact FT z.objs.size n.objs.size h' tk dw m' (λb o e=>ES _ o (B _ o e)) (lK B (Z.Ff _ Z.FC)) (zC h) FN (FF.mono (λEP e=>e) (λEP EP EP e=>e) λa o EP q=>.inl (q.imp id λq=>.inr (.inr (.inl q)))) F0
 exact codeAny_compStart_list (T _ _) (FK.rec λW st a b c d=>W.self 0 _ _ _ (ew W d _ _ _ st λb EP o e=>G b o (N b o e)) (T _ _))
end
noncomputable def du:yA yF:=["len","isinstance","range","tuple","int","str","list","bool","set","sum","max","min","sorted","reversed"]
structure GOk(mg mb:Str->yK yE)(h:Heap):Prop where
 g:h.Ns Ao mg
 b:h.Ns Es mb
 lim:h.NoLimit
 blt:∀ f∈du,mg (yB f)=yS/\mb (yB f)=ac (dX f)
 lam:h.IsCode oc tb #[]/\h.TableAt oc tb #[]/\h.BuiltinsAt mg tb
structure HOk(E6 h:Heap)(H:yN->Prop):Prop where
 keep:KH E6 h
 ex:Ex h H
 off:∀ b o,gat E6 b=ac o->¬ H b
theorem HOk.keeps{E6 h h':Heap}{H:yN->Prop}(x:HOk E6 h H)(a:KH h h'):HOk E6 h' H:=
 ⟨λb o e=>a b o (x.keep b o e),x.ex.keeps a,x.off⟩
theorem NoLimit.keepG{h h':Heap}(x:h.NoLimit)(a:KH h h'):h'.NoLimit:=let ⟨mc,h1,h2⟩:=x;⟨mc,Ns.keepAt h1 (a _),h2⟩
structure eU(E3:zh)(w:zq)(E6:Heap)(mg:Str->yK yE)(cf:CF)(A:zt):Prop where
 call:∀ f ds d fr,cf.call f ds=ac (d,fr)->∃ a o fd,mg (yB f)=ac (.ref a)/\gat E6 a=ac o/\o.data=.func fd /\
  ∀ A',uk A A'->∀ (s:yL) (H:yN->Prop) (vs:yA yE) (E:yE->yL->Prop),HOk E6 s.heap H->al w.params s.heap H vs ds ->
   wpAny (yR E3 w) A' (PySem.call (.ref a) vs) (cC w s H d fr) E s
 glob:∀ x d,cf.glob x=ac d->∃ v,mg (yB x)=ac v/\Rep w.params E6 (λZ=>False) v d
noncomputable def CS0(E3:zh)(w:zq)(E6:Heap)(mg:Str->yK yE)(cf:CF)(A:zt):Prop:=∀ f ds d fr,cf.call f ds=ac (d,fr)->∃ a o fd,mg (yB f)=ac (.ref a)/\gat E6 a=ac o/\o.data=.func fd /\
  ∀ (s:yL) (H:yN->Prop) (vs:yA yE) (E:yE->yL->Prop),HOk E6 s.heap H->al w.params s.heap H vs ds ->
   wpAny (yR E3 w) A (PySem.call (.ref a) vs) (cC w s H d fr) E s
theorem eU.at{E3:zh}{w:zq}{E6:Heap}{mg:Str->yK yE}{cf:CF}{A b:zt}(C:eU E3 w E6 mg cf A)(c:uk A b):CS0 E3 w E6 mg cf b:=
 λf ds d fr h=>(C.call f ds d fr h).elim λa q=>q.elim λo q=>q.elim λi q=>⟨a,o,i,q.1,q.2.1,q.2.2.1,q.2.2.2 b c⟩
noncomputable def NV(P:zH)(k:KD)(ns:yA yF)(ρ:yA (yF×D))(m:Str->yK yE)(h:Heap)(H:yN->Prop):Prop:=
 ∀ x∈ns,gI k (yB x)=yC->∀ d,ρ.lookup x=ac d->∃ v,m (yB x)=ac v/\Rep P h H v d
structure Cc(w:zq)(E6:Heap)(s:yL)(EW:Env)(H:yN->Prop)(ρ:yA (yF×D))(m:Str->yK yE)(ns:yA yF):Prop where
 R:bK s.heap EW m
 hw:HOk E6 s.heap H
 hn:NV w.params EW.kindOf ns ρ m s.heap H
section
variable {E3:zh} {w:zq} {A:zt} {s s':yL} {E6:Heap} {mg mb:Str->yK yE} {cf:CF} {EW:Env} {H:yN->Prop} {ρ:yA (yF×D)} {m:Str->yK yE} {ns E4:yA yF} {e:y4} {E:yE->yL->Prop} {a b:ME} {d:D} {C:Prop}
theorem Cc.k(c:Cc w E6 s EW H ρ m ns)(k:bP s s'):Cc w E6 s' EW H ρ m ns:=⟨c.R.keeps (Kp.heap k),c.hw.keeps (Kp.heap k),λx a b d f=>(c.hn x a b d f).elim λv q=>⟨v,q.1,q.2.keeps (Kp.heap k)⟩⟩
theorem Cc.sub(c:Cc w E6 s EW H ρ m ns)(a:∀ x∈E4,x∈ns):Cc w E6 s EW H ρ m E4:=⟨c.R,c.hw,λx b=>c.hn x (a x b)⟩
theorem Cc.l(c:Cc w E6 s EW H ρ m (ns++E4)):Cc w E6 s EW H ρ m ns:=c.sub λZ=>Ap _
theorem Cc.r(c:Cc w E6 s EW H ρ m (ns++E4)):Cc w E6 s EW H ρ m E4:=c.sub λZ=>zQ _
theorem Cc.x(c:Cc w E6 s EW H ρ m ns):Ex s.heap H:=c.hw.ex
noncomputable def SE(E3:zh)(w:zq)(A:zt)(E6:Heap)(cf:CF)(a:ME):Prop:=
 ∀ (s:yL) (EW:Env) (e:y4) (H:yN->Prop) (ρ:yA (yF×D)) (m:Str->yK yE) (d:D) (E:yE->yL->Prop),aI EW.kindOf e a=yC->Cc w E6 s EW H ρ m a.names->evE cf ρ a=ac d->wpAny (yR E3 w) A (zF e EW) (bz w s H d) E s
inductive yn(w:zq)(s:yL)(H:yN->Prop)(ds:yA D)(vs:yA yE)(s':yL):Prop
 | mk (k:bP s s') (r:al w.params s'.heap H vs ds)
noncomputable def SEs(E3:zh)(w:zq)(A:zt)(E6:Heap)(cf:CF)(a:yA ME):Prop:=
 ∀ (s:yL) (EW:Env) (es:yA y4) (H:yN->Prop) (ρ:yA (yF×D)) (m:Str->yK yE) (ds:yA D) (E:yE->yL->Prop),cB EW.kindOf es a=yC->Cc w E6 s EW H ρ m (iQ a)->cn cf ρ a=ac ds ->
  wpAny (yR E3 w) A (spliced (es.map λe=>(yz,zF e EW))) (yn w s H ds) E s
noncomputable def ST(E3:zh)(w:zq)(A:zt)(E6:Heap)(cf:CF)(a:ME):Prop:=
 ∀ (s:yL) (EW:Env) (e:y4) (H:yN->Prop) (ρ:yA (yF×D)) (m:Str->yK yE) (d:D) (t:yH) (E:yE->yL->Prop),aI EW.kindOf e a=yC->Cc w E6 s EW H ρ m a.names->evE cf ρ a=ac d->bU d=ac t ->
  wpAny (yR E3 w) A (B8 e EW (zF e EW)) (eR s t) E s
noncomputable def SB(E3:zh)(w:zq)(A:zt)(E6:Heap)(cf:CF)(c:yA ME):Prop:=
 ∀ (s:yL) (EW:Env) (es:yA y4) (f:CW) (b:Pos) (H:yN->Prop) (ρ:yA (yF×D)) (m:Str->yK yE) (d:D) (E:yE->yL->Prop),cB EW.kindOf es c=yC->Cc w E6 s EW H ρ m (iQ c)->gJ cf ρ f c=ac d ->
  wpAny (yR E3 w) A (zF (.BoolOp f es b) EW) (bz w s H d) E s/\∀ t a,bU d=ac t->wpAny (yR E3 w) A (B8 (.BoolOp f es b) EW a) (eR s t) E s
noncomputable def SC(E3:zh)(w:zq)(A:zt)(E6:Heap)(cf:CF)(a:yA ME):Prop:=
 ∀ (s:yL) (EW:Env) (es:yA y4) (H:yN->Prop) (ρ:yA (yF×D)) (m:Str->yK yE) (t:yH) (E:yE->yL->Prop),cB EW.kindOf es a=yC->Cc w E6 s EW H ρ m (iQ a)->nN cf ρ a=ac t ->
  wpAny (yR E3 w) A (forIn es yC λc r=>if r=yC then do let ok <- B8 c EW (zF c EW);pure (ForInStep.yield ok) else pure (ForInStep.yield r)) (eR s t) E s
noncomputable def SF(E3:zh)(w:zq)(A:zt)(E6:Heap)(cf:CF)(a:ME):Prop:=
 ∀ (s:yL) (EW:Env) (e:y4) (H:yN->Prop) (ρ:yA (yF×D)) (m:Str->yK yE) (d:D) (fr:yH) (E:yE->yL->Prop),aI EW.kindOf e a=yC->Cc w E6 s EW H ρ m a.names->evF cf ρ a=ac (d,fr)->wpAny (yR E3 w) A (zF e EW) (cC w s H d fr) E s
theorem SE.go{Q:yE->yL->Prop}(f:SE E3 w A E6 cf a)(h:aI EW.kindOf e a=yC)(c:Cc w E6 s EW H ρ m a.names)(he:evE cf ρ a=ac d)(k:∀ v b,bz w s H d v b->Q v b):wpAny (yR E3 w) A (zF e EW) Q E s:=bG (f s EW e H ρ m d E h c he) k
theorem evi_bin{c:AM}(h:evE cf ρ (.bin c a b)=ac d)(k:∀ x y,evE cf ρ a=ac x->evE cf ρ b=ac y->eF c x y=ac d->C):C:=bH (a:=evE cf ρ a) (f:=λx=>oE (evE cf ρ b) (eF c x)) h λx i h=>bH h λy j h=>k x y i j h
theorem wx{c:CL}(h:evE cf ρ (.cmp c a b)=ac d)(k:∀ x y,evE cf ρ a=ac x->evE cf ρ b=ac y->ec c x y=ac d->C):C:=bH (a:=evE cf ρ a) (f:=λx=>oE (evE cf ρ b) (ec c x)) h λx i h=>bH h λy j h=>k x y i j h
theorem evi_sub(h:evE cf ρ (.sub a b)=ac d)(k:∀ x y,evE cf ρ a=ac x->evE cf ρ b=ac y->aV x y=ac d->C):C:=bH (a:=evE cf ρ a) (f:=λx=>oE (evE cf ρ b) (aV x)) h λx c h=>bH h λy i h=>k x y c i h
theorem ww(h:evE cf ρ (.not a)=ac d)(k:∀ x t,evE cf ρ a=ac x->bU x=ac t->.bool (!t)=d->C):C:=bH (a:=evE cf ρ a) (f:=λx=>(bU x).map λt=>D.bool (!t)) h λx b h=>bM h λt c e=>k x t b c e
theorem evi_neg(h:evE cf ρ (.neg a)=ac d)(k:∀ i,evE cf ρ a=ac (.int i)->.int (-i)=d->C):C:=bH (a:=evE cf ρ a) (f:=λx=>onI x λi=>ac (D.int (-i))) h λx b h=>ed (C:=λx=>evE cf ρ a=ac x->C) h (λi e b=>k i b (yJ e)) b
theorem evi_tup{es:yA ME}(h:evE cf ρ (.tup es)=ac d)(k:∀ ds,cn cf ρ es=ac ds->ds.length<=big->.tup ds=d->C):C:=fh (a:=cn cf ρ es) (f:=λds=>if ds.length<=big then ac (D.tup ds) else none) h λx b h=>bi h λc e=>k x b c e
theorem evi_lst{es:yA ME}(h:evE cf ρ (.lst es)=ac d)(k:∀ ds,cn cf ρ es=ac ds->ds.length<=big->.list ds=d->C):C:=fh (a:=cn cf ρ es) (f:=λds=>if ds.length<=big then ac (D.list ds) else none) h λx b h=>bi h λc e=>k x b c e
theorem evi_sl{l u:ME}(h:evE cf ρ (.sl a l u)=ac d)(k:∀ x y z,evE cf ρ a=ac x->evE cf ρ l=ac y->evE cf ρ u=ac z->slD x y z=ac d->C):C:=bH (a:=evE cf ρ a) (f:=λx=>oE (evE cf ρ l) λy=>oE (evE cf ρ u) λz=>slD x y z) h λx b h=>bH h λy c h=>bH h λz i h=>k x y z b c i h
theorem evi_isi{T:yF}(h:evE cf ρ (.isi a T)=ac d)(k:∀ x t,evE cf ρ a=ac x->pp x T=ac t->.bool t=d->C):C:=bH (a:=evE cf ρ a) (f:=λx=>(pp x T).map D.bool) h λx b h=>bM h λt c e=>k x t b c e
theorem evi_lcp(h:evE cf ρ (.lcp a)=ac d)(k:∀ x ds,evE cf ρ a=ac x->uI x=ac ds->.list ds=d->C):C:=bH (a:=evE cf ρ a) (f:=λx=>(uI x).map D.list) h λx b h=>bM h λt c e=>k x t b c e
theorem evi_inn(h:evE cf ρ (.inn a)=ac d)(k:∀ x,evE cf ρ a=ac (.str x)->.int (sa x)=d->C):C:=bH (a:=evE cf ρ a) (f:=innD) h λy b h=>od (C:=λy=>evE cf ρ a=ac y->C) h (λx e b=>k x b (yJ e)) b
theorem evi_sset(h:evE cf ρ (.sset a)=ac d)(k:∀ x,evE cf ρ a=ac x->oH x=ac d->C):C:=bH (a:=evE cf ρ a) (f:=oH) h k
theorem wy{f:yF}{es:yA ME}(h:evE cf ρ (.blt f es)=ac d)(k:∀ ds,cn cf ρ es=ac ds->hY f ds=ac d->C):C:=fh (a:=cn cf ρ es) (f:=hY f) h k
theorem evi_callF{f:yF}{es:yA ME}{r:D×yH}(h:evF cf ρ (.call f es)=ac r)(k:∀ ds,cn cf ρ es=ac ds->cf.call f ds=ac r->C):C:=fh (a:=cn cf ρ es) (f:=cf.call f) h k
theorem evi_call{f:yF}{es:yA ME}(h:evE cf ρ (.call f es)=ac d)(k:∀ ds r,cn cf ρ es=ac ds->cf.call f ds=ac r->r.1=d->C):C:=fh (a:=cn cf ρ es) (f:=λds=>(cf.call f ds).map λ(r:D×yH)=>r.1) h λx b h=>bM h λr c e=>k x r b c e
theorem tW{es:yA ME}{ds:yA D}(h:cn cf ρ (a::es)=ac ds)(k:∀ x xs,evE cf ρ a=ac x->cn cf ρ es=ac xs->x::xs=ds->C):C:=bH (a:=evE cf ρ a) (f:=λx=>oEs (cn cf ρ es) λxs=>ac (x::xs)) h λx b h=>fh h λy c h=>k x y b c (yJ h)
noncomputable def sN(a:CW):yH:=match a with | .And=>yz | .Or=>yC
theorem evi_bop{c:CW}{es:yA ME}(h:gJ cf ρ c (a::b::es)=ac d)(k:∀ x t,evE cf ρ a=ac x->bU x=ac t->(if t=sN c then ac x else gJ cf ρ c (b::es))=ac d->C):C:=bH (a:=evE cf ρ a) (f:=λx=>oT (bU x) λt=>if t=sN c then ac x else gJ cf ρ c (b::es)) h λx i h=>uH h λy j h=>k x y i j h
theorem evi_cs{es:yA ME}{t:yH}(h:nN cf ρ (a::es)=ac t)(k:∀ x u,evE cf ρ a=ac x->bU x=ac u->(if u=yC then nN cf ρ es else ac yz)=ac t->C):C:=bH (a:=evE cf ρ a) (f:=λx=>oT (bU x) λu=>if u=yC then nN cf ρ es else ac yz) h λx b h=>uH h λy c h=>k x y b c h
theorem fJ{fr:yH}(h:evF cf ρ a=ac (d,fr))(b:og a=yS)(k:evE cf ρ a=ac d->frF a d=fr->C):C:=by
 unfold evF at h;rw[b] at h;exact bM h λc e q=>k (e.trans (y6 ac (zR q).1)) ((zR q).1▸(zR q).2)
theorem uB(x:yF):SE E3 w A E6 cf (.u x):=λs EW e H ρ m d E b c f=>
 um.rec (motive:=λe Z=>wpAny (yR E3 w) A (zF e EW) (bz w s H d) E s) (λa=>(c.hn x (.head _) a d f).elim λv q=>fV c.R a q.1 ⟨Kp.refl _,q.2⟩) (iX b)
theorem se_glob(G:GOk mg mb E6)(C:eU E3 w E6 mg cf A)(x:yF):SE E3 w A E6 cf (.glob x):=λs EW e H ρ m d E f c h=>
 yq.rec (motive:=λe Z=>wpAny (yR E3 w) A (zF e EW) (bz w s H d) E s) (λb=>(C.glob x d h).elim λv q=>Calls.Name_function_global c.R.kind (fM b).1 (Calls.loadGlobal_global (mg:=mg) (c.R.glob▸Ns.keepAt G.g (c.hw.keep _)) q.1 ⟨Kp.refl _,q.2.mono (λa o Z e=>c.hw.keep a o e) λa o e q=>zl q (c.hw.off a o e)⟩) (by simpa using (fM b).2)) (tI f)
theorem se_int(i:Int):SE E3 w A E6 cf (.int i):=λs EW e H ρ m d E a c b=>
 ie.rec (motive:=λe Z=>wpAny (yR E3 w) A (zF e EW) (bz w s H d) E s) (yJ b▸C9 ir) (v7 a)
theorem se_str(i:yF):SE E3 w A E6 cf (.str i):=λs EW e H ρ m d E a c b=>
 ie.rec (motive:=λe Z=>wpAny (yR E3 w) A (zF e EW) (bz w s H d) E s) (yJ b▸Calls.Constant_str qO) (vW a)
theorem se_bool(i:yH):SE E3 w A E6 cf (.bool i):=λs EW e H ρ m d E a c b=>
 ie.rec (motive:=λe Z=>wpAny (yR E3 w) A (zF e EW) (bz w s H d) E s) (yJ b▸PyProof.Rows.Constant_bool jr) (tJ a)
theorem se_none:SE E3 w A E6 cf .none:=λs EW e H ρ m d E a c b=>
 ie.rec (motive:=λe Z=>wpAny (yR E3 w) A (zF e EW) (bz w s H d) E s) (yJ b▸PyProof.Rows.Constant_none ⟨Kp.refl _,QQ⟩) (tH a)
noncomputable def ME.plain:ME->yH
 | .not _ | .bop _ _ | .cmp _ _ _=>yz
 | _=>yC
noncomputable def ME.isComp(e:ME):yH:=decide (e.ctorIdx=16)
structure Looks(me:ME)(e:y4):Prop where
 star:∀ es EW,BY (e::es) EW=(yz,zF e EW)::BY es EW
 test:me.plain=yC->∀ EW whole,B8 e EW whole=(do let v <- whole;standAt e.pos;holding [v] (truthy v))
 swap:me.isComp=yz->∀ t l EW,Ef e t l EW=pure yz
theorem tx{k:KD}{e:y4}{a:ME}(h:aI k e a=yC):Looks a e:=by
 cases a with
 | u=>exact (iX h).rec λZ=>⟨λZ Z=>QQ,λZ Z Z=>QQ,λZ Z Z Z=>QQ⟩
 | glob=>exact (tI h).rec λZ=>⟨λZ Z=>QQ,λZ Z Z=>QQ,λZ Z Z Z=>QQ⟩
 | int=>exact (v7 h).rec ⟨λZ Z=>QQ,λZ Z Z=>QQ,λZ Z Z Z=>QQ⟩
 | str=>exact (vW h).rec ⟨λZ Z=>QQ,λZ Z Z=>QQ,λZ Z Z Z=>QQ⟩
 | bool=>exact (tJ h).rec ⟨λZ Z=>QQ,λZ Z Z=>QQ,λZ Z Z Z=>QQ⟩
 | none=>exact (tH h).rec ⟨λZ Z=>QQ,λZ Z Z=>QQ,λZ Z Z Z=>QQ⟩
 | bin=>exact (wc h).rec λZ Z=>⟨λZ Z=>QQ,λZ Z Z=>QQ,λZ Z Z Z=>QQ⟩
 | cmp=>exact (r8 h).rec λZ Z Z=>⟨λZ Z=>QQ,nofun,λZ Z Z Z=>QQ⟩
 | bop=>exact (r9 h).rec λZ=>⟨λZ Z=>QQ,nofun,λZ Z Z Z=>QQ⟩
 | not=>exact (r7 h).rec λZ=>⟨λZ Z=>QQ,nofun,λZ Z Z Z=>QQ⟩
 | neg=>exact (vY h).rec λZ=>⟨λZ Z=>QQ,λZ Z Z=>QQ,λZ Z Z Z=>QQ⟩
 | tup=>exact (vV h).rec λZ=>⟨λZ Z=>QQ,λZ Z Z=>QQ,λZ Z Z Z=>QQ⟩
 | lst=>exact (vZ h).rec λZ=>⟨λZ Z=>QQ,λZ Z Z=>QQ,λZ Z Z Z=>QQ⟩
 | dct=>exact (v9 h).rec λZ Z=>⟨λZ Z=>QQ,λZ Z Z=>QQ,λZ Z Z Z=>QQ⟩
 | sub=>exact (oh h).rec λZ Z Z=>⟨λZ Z=>QQ,λZ Z Z=>QQ,λZ Z Z Z=>QQ⟩
 | sl=>exact (xP h).rec λZ Z Z=>⟨λZ Z=>QQ,λZ Z Z=>QQ,λZ Z Z Z=>QQ⟩
 | comp=>exact (pt h).rec λZ Z Z Z Z=>⟨λZ Z=>QQ,λZ Z Z=>QQ,nofun⟩
 | call=>exact (lR h).rec λZ Z=>⟨λZ Z=>QQ,λZ Z Z=>QQ,λZ Z Z Z=>QQ⟩
 | blt=>exact (wa h).rec λZ Z=>⟨λZ Z=>QQ,λZ Z Z=>QQ,λZ Z Z Z=>QQ⟩
 | isi=>exact (v6 h).rec λZ Z Z=>⟨λZ Z=>QQ,λZ Z Z=>QQ,λZ Z Z Z=>QQ⟩
 | lcp=>exact (v5 h).rec λZ Z=>⟨λZ Z=>QQ,λZ Z Z=>QQ,λZ Z Z Z=>QQ⟩
 | sset=>exact (tG h).rec λZ Z=>⟨λZ Z=>QQ,λZ Z Z=>QQ,λZ Z Z Z=>QQ⟩
 | srt=>exact (vX h).rec λZ Z Z=>⟨λZ Z=>QQ,λZ Z Z=>QQ,λZ Z Z Z=>QQ⟩
 | inn=>exact (v8 h).rec λZ Z=>⟨λZ Z=>QQ,λZ Z Z=>QQ,λZ Z Z Z=>QQ⟩
theorem iE{k:KD}{es:yA y4}{b:yA ME}{C:yA y4->Prop}(h:cB k es (a::b)=yC)(c:∀ e es,aI k e a=yC->cB k es b=yC->C (e::es)):C es:=by
 cases es with
 | nil=>cases h
 | cons e es=>exact bQ h (c e es)
theorem pS{k:KD}{es:yA y4}{C:yA y4->Prop}(h:cB k es []=yC)(c:C []):C es:=kE h c
theorem ik{k:KD}{e:y4}{a:ME}(h:aI k e a=yC){es:yA y4}{EW:Env}:BY (e::es) EW=(yz,zF e EW)::BY es EW:=(tx h).star es EW
theorem fQ{es:yA y4}{b:yA ME}{k:KD}(c:cB k es b=yC)(EW:Env):BY es EW=es.map λe=>(yz,zF e EW):=by
 induction b generalizing es with
 | nil=>exact pS (C:=λes=>BY es EW=es.map λe=>(yz,zF e EW)) c QQ
 | cons a r f=>exact iE (C:=λes=>BY es EW=es.map λe=>(yz,zF e EW)) c λe es h1 h=>(ik h1).trans (y6 _ (f h))
theorem iG(a:Pos)(es:yA y4)(EW:Env):backTo a (es.map λe=>(yz,zF e EW))=es.map λe=>(yz,zF e EW):=zV
theorem sf_bin{z:AM}(B:SE E3 w A E6 cf a)(C:SE E3 w A E6 cf b):SF E3 w A E6 cf (.bin z a b):=λs EW e H ρ m d fr E G c j=>
 fJ j QQ λj I=>evi_bin j λx y J L M=>IBin.rec (motive:=λe Z=>wpAny (yR E3 w) A (zF e EW) (cC w s H d fr) E s) (λh1 N=>wpAny_BinOp (B.go h1 c.l J λv n f=>C.go N (c.r.k f.k) L λo q h=>
  have k:=Kp.trans f.k h.k
  bG (bin_snd (f.r.keeps (Kp.heap h.k)) h.r (c.k k).x M) λt u i=>I▸i.tr k)) (wc G)
theorem xk{u:CL}(z:A.units+2<A9)(B:SE E3 w A E6 cf a)(C:SE E3 w A E6 cf b):SE E3 w A E6 cf (.cmp u a b):=λs EW e H ρ m d E G c I=>
 wx I λx y J L M=>ICmp.rec (motive:=λe Z=>wpAny (yR E3 w) A (zF e EW) (bz w s H d) E s) (λN h1 O=>wpAny_Compare1 (B.go h1 c.l J λv j f=>C.go O (c.r.k f.k) L λn o h=>
  bG (wD (f.r.keeps (Kp.heap h.k)) h.r z M) λq t i=>i.tr (Kp.trans f.k h.k)) (lJ N)) (r8 G)
theorem st_cmp{G:CL}(I:A.units+2<A9)(J:SE E3 w A E6 cf a)(L:SE E3 w A E6 cf b):ST E3 w A E6 cf (.cmp G a b):=λs EW e H ρ m d t E M c N O=>
 wx N λx y T U V=>ICmp.rec (motive:=λe Z=>wpAny (yR E3 w) A (B8 e EW (zF e EW)) (eR s t) E s) (λX h1 Y=>wpAny_isTrue_Compare1 (J.go h1 c.l T λv n f=>L.go Y (c.r.k f.k) U λo q h=>
  bG (wD (f.r.keeps (Kp.heap h.k)) h.r I V) λu z i=>bG (ij i.r O) λB C j=>j.tr (Kp.trans (Kp.trans f.k h.k) i.k)) (lJ X)) (r8 M)
theorem xj(o:SE E3 w A E6 cf a):SE E3 w A E6 cf (.not a):=λs EW e H ρ m d E q c u=>
 ww u λx t y z B=>IUn.rec (motive:=λe Z=>wpAny (yR E3 w) A (zF e EW) (bz w s H d) E s) (λh=>PyProof.Rows.UnaryOp_ (o.go h c y λv j f=>PyProof.Rows.not_of (bG (ij f.r z) λb n i=>⟨Kp.trans f.k i.k,B▸i.e▸rfl⟩))) (r7 q)
theorem st_not(n:ST E3 w A E6 cf a):ST E3 w A E6 cf (.not a):=λs EW e H ρ m d t E o c q u=>
 ww q λx y z i B=>IUn.rec (motive:=λe Z=>wpAny (yR E3 w) A (B8 e EW (zF e EW)) (eR s t) E s) (λh=>PyProof.Rows.isTrue_not (bG (n s EW _ H ρ m x y E h c z i) λb j f=>⟨f.k,(y6 _ f.e).trans (yJ ((y6 bU B).trans u))⟩)) (r7 o)
theorem se_neg(j:SE E3 w A E6 cf a):SE E3 w A E6 cf (.neg a):=λs EW e H ρ m d E n c o=>
 evi_neg o λi q t=>IUn.rec (motive:=λe Z=>wpAny (yR E3 w) A (zF e EW) (bz w s H d) E s) (λh=>PyProof.Rows.UnaryOp_ (j.go h c q λv f b=>b.r.intE λZ=>PyProof.Rows.neg_int (t▸ir.tr b.k))) (vY n)
theorem vf:SEs E3 w A E6 cf []:=λs EW es H ρ m ds E a c b=>
 pS (C:=λes=>wpAny (yR E3 w) A (spliced (es.map λe=>(yz,zF e EW))) (yn w s H ds) E s) a (Calls.spliced_nil ⟨Kp.refl _,yJ b▸rfl⟩)
theorem sY{r:yA ME}(q:SE E3 w A E6 cf a)(t:SEs E3 w A E6 cf r):SEs E3 w A E6 cf (a::r):=λs EW es H ρ m ds E u c y=>
 tW y λx xs z j e=>iE (C:=λes=>wpAny (yR E3 w) A (spliced (es.map λe=>(yz,zF e EW))) (yn w s H ds) E s) u λn f h1 B=>Calls.spliced_cons (q.go h1 c.l z λv h b=>bG (t h EW f H ρ m xs E B (c.r.k b.k) j) λvs o i=>i.rec λk r=>⟨Kp.trans b.k k,e▸.cons (b.r.keeps (Kp.heap k)) r⟩)
theorem se_tup{f:yA ME}(o:SEs E3 w A E6 cf f):SE E3 w A E6 cf (.tup f):=λs EW e H ρ m d E q c t=>
 evi_tup t λds b i u=>ITup.rec (motive:=λe Z=>wpAny (yR E3 w) A (zF e EW) (bz w s H d) E s) (λ{vs n p} h=>PyProof.Rows.Tuple_ (by
  rw[fQ h,iG];exact bG (o s EW _ H ρ m ds E h c b) λvs j a=>a.rec λk r=>z4 ⟨Kp.trans k (Kp.push _ _),u▸kX (c.k k).x i r⟩ (show vs.toArray.size<=sizeLine from yD (y5 (Cw.trans r.length)) i))) (vV q)
theorem sf_lst{i:yA ME}(o:SEs E3 w A E6 cf i):SF E3 w A E6 cf (.lst i):=λs EW e H ρ m d fr E q c b=>
 fJ b QQ λb t=>evi_lst b λds f j u=>ILst.rec (motive:=λe Z=>wpAny (yR E3 w) A (zF e EW) (cC w s H d fr) E s) (λ{vs p} h=>PyProof.Rows.List_ (by
  rw[fQ h,iG];exact bG (o s EW _ H ρ m ds E h c f) λvs n a=>a.rec λk r=>z4 (u▸t▸(km (vs:=vs.toArray) (c.k k).x j r (λZ Z e=>Heap.gt_push_of_some _ e) (Heap.get?_push_size _ QQ)).tr k) (show vs.toArray.size<=sizeLine from yD (y5 (Cw.trans r.length)) j))) (vZ q)
end
section
variable {E3:zh} {w:zq} {A:zt} {s:yL} {E6:Heap} {mg mb:Str->yK yE} {cf:CF} {H:yN->Prop} {E:yE->yL->Prop} {a b:ME} {d:D}
theorem se_of_sf{a:ME}(h:SF E3 w A E6 cf a)(f:∀ ρ d,evE cf ρ a=ac d->∃ fr,evF cf ρ a=ac (d,fr)):SE E3 w A E6 cf a:=λs EW e H ρ m d E i c j=>
 (f ρ d j).elim λfr b=>bG (h s EW e H ρ m d fr E i c b) λZ Z q=>q.post
theorem subscripted_plain{f:y4}{o i:yE}(h:∀ a b c d,f=.Slice a b c d->False):subscripted f yz o i=operate [o,i] (DH o i):=by
 cases f with
 | Slice a b c d=>exact (h a b c d QQ).elim
 | _=>rfl
theorem xi(B:A.units+1<A9)(C:SE E3 w A E6 cf a)(G:SE E3 w A E6 cf b):SE E3 w A E6 cf (.sub a b):=λs EW e H ρ m d E I c J=>
 evi_sub J λx y L M N=>ISub.rec (motive:=λe Z=>wpAny (yR E3 w) A (zF e EW) (bz w s H d) E s) (λj h1 O=>PyProof.Rows.Subscript_ (C.go h1 c.l L λv n f=>G.go O (c.r.k f.k) M λo t h=>
  have g:=getItem_snd B (E3:=E3) (w:=w) (A:=A) (E:=E) (f.r.keeps (Kp.heap h.k)) h.r N
  g.2.elim λT q=>q.elim λid q=>PyProof.Rows.tail_any q.1 q.2 (bG g.1 λu z i=>i.tr (Kp.trans f.k h.k)) (subscripted_plain j))) (oh I)
theorem tc(h:SE E3 w A E6 cf a){s:yL}{EW:Env}{l:yK y4}{H:yN->Prop}{ρ:yA (yF×D)}{m:Str->yK yE}{d:D}{Q:yE->yL->Prop}
  (f:chkO EW.kindOf l a=yC) (c:Cc w E6 s EW H ρ m a.names) (he:evE cf ρ a=ac d) (k:∀ v b,bz w s H d v b->Q v b):wpAny (yR E3 w) A (evalPart l EW) Q E s:=by
 cases l with
 | none=>exact yU (k _ _ ⟨Kp.refl _,isNone_inv (C:=λa=>evE cf ρ a=ac d->Rep w.params s.heap H .none d) f (λhe=>yJ he▸rfl) he⟩)
 | some x=>exact h.go f c he k
theorem qD{α:Type}(l:yA α)(a b:Nat):(l.drop (min a l.length)).take (min b l.length - min a l.length)=(l.take b).drop a:=by
 rw[List.drop_take]
 by_cases c:a<=l.length
 ·rw[Cj c]
  by_cases f:b<=l.length
  ·rw[Cj f]
  ·have f:=Nat.le_of_not_le f
   rw[DC f,Cp (y5 B9),Cp (by rw[B9];exact Nat.sub_le_sub_right f a)]
 ·have c:=Nat.le_of_not_le c
  rw[DC c,List.drop_of_length_le (y0 _),List.drop_of_length_le c,Eg,Eg]
structure ll(v:yE)(n dflt:Nat)(k:yK Int):Prop where
 p:IsPart v k
 e:(k=yS/\n=dflt)\/k=ac (n:Int)
theorem lH{P:zH}{h:Heap}{v:yE}{x:D}{n:Nat}(dflt:Nat)(b:Rep P h H v x)(a:bnd x dflt=ac n):∃ k,ll v n dflt k:=by
 cases x with
 | none=>exact b.noneE ⟨yS,.none,.inl ⟨QQ,(yJ a).symm⟩⟩
 | int i=>exact b.intE λt=>bi a λc e=>⟨ac i,.int _ _,.inr (by rw[<- e,Bi c])⟩
 | _=>exact aj a
theorem ll.clip{v:yE}{n dflt k:Nat}{o:yK Int}(h:ll v k dflt o)(a:dflt<=n):o.elim dflt (clipAt n)=min k n:=h.e.elim (λq=>by rw[q.1,q.2,Cj a];rfl) λq=>by rw[q];exact clipAt_nat n k
theorem sl_list{x:yE}{ds:yA D}{f h:yE}{lo hi:D}(q:Ex s.heap H)(t:Rep w.params s.heap H x (.list ds))(u:Rep w.params s.heap H f lo)(y:Rep w.params s.heap H h hi)(he:slD (.list ds) lo hi=ac d){a:yN}
  (z:s.heap.get? a=ac { cls:=.type "slice",data:=.fields #[f,h,.none] }):wpAny (yR E3 w) A (DH x (.ref a)) (cC w s H d d.isList) E s:=
 iP he λi h1 he=>bM he λj B e=>e▸t.listE λl vs n C G b c=>(lH 0 u h1).elim λI m=>(lH vs.size y (c.size.symm▸B)).elim λJ o=>
  wpAny_getItem_list_slice (aT C) ⟨_,z,QQ,QQ⟩ m.p o.p .none nofun (km q (by rw[B9,CR];exact yD (De _ _) (yD (DD _ _) b)) (by
   rw[slicePick_plain,m.clip (za _),o.clip (y0 _)];exact (qD vs.toList i j).symm▸(c.take j).drop i) (λZ Z e=>Heap.gt_push_of_some _ e) (Heap.get?_push_size _ QQ)) (c.size.symm▸b)
theorem s9{P:zH}{h:Heap}{v:yE}{d:D}{a:yK Int}(r:Rep P h H v d)(b:bndS d=ac a):∃ l:yK (Int×Tok),v=partValue l/\l.map (·.1)=a:=by
 cases d with
 | none=>exact r.noneE ⟨yS,QQ,yJ b⟩
 | int i=>exact r.intE λt=>⟨ac (i,t),QQ,yJ b⟩
 | _=>exact aj b
theorem sl_str{x:Str}{t:Tok}{c f:yE}{lo hi:D}(h:Rep w.params s.heap H c lo)(i:Rep w.params s.heap H f hi)(he:slD (.str x) lo hi=ac d){a:yN}
  (j:s.heap.get? a=ac { cls:=.type "slice",data:=.fields #[c,f,.none] }):wpAny (yR E3 w) A (DH (.str x t) (.ref a)) (cC w s H d d.isList) E s:=
 cK he λb he=>iP he λq h1 he=>bM he λy m e=>(s9 h h1).elim λl n=>(s9 i m).elim λu o=>by
  obtain⟨rfl,rfl⟩:=n;obtain⟨rfl,rfl⟩:=o;exact e▸wpAny_getItem_str_slice (st:=yS) ⟨_,j,QQ,QQ⟩ QQ (post_val_or_str ⟨yD (Txt.slice_le _ _ _) b,λz k=>qO.pf QQ⟩)
theorem kI{v:yE}{k:yK Int}{Q:yK Int->yL->Prop}(a:IsPart v k)(h:Q k s):wpAny (yR E3 w) A (Builtin.Slice.slicePartIndex v) Q E s:=by
 cases a with
 | none=>exact PyProof.Rows.slicePart_none h
 | int i t=>exact PyProof.Rows.slicePart_int h
theorem adjust_nat{f h:yE}{c kb:yK Int}{a b n:Nat}(i:ll f a 0 c)(j:ll h b n kb):Builtin.Slice.sliceAdjust c kb 1 (n:Int)=(((min a n:Nat):Int),((min b n:Nat):Int)):=by
 unfold Builtin.Slice.sliceAdjust;have h1:¬ ((1:Int)<0):=by decide
 simp only[h1,Co]
 congr 1
 ·rcases i.e with⟨rfl,rfl⟩ | rfl
  ·show (0:Int)=_;exact om44
  ·show (if (a:Int)<0 then _ else _)=_
   rw[yV (uF)];exact om46
 ·rcases j.e with⟨rfl,rfl⟩ | rfl
  ·show (b:Int)=_;exact om47
  ·show (if (b:Int)<0 then _ else _)=_
   rw[yV (uF)];exact om46
theorem places_nat(a b:Nat):Builtin.Slice.slicePlaces (a:Int) (b:Int) 1=b - a:=by
 unfold Builtin.Slice.slicePlaces;have h1:(1:Int) > 0:=by decide
 simp only[h1,D5,Int.ediv_one]
 split
 ·rw[Int.sub_add_cancel];exact Int.toNat_sub b a
 ·next h=>exact (Nat.sub_eq_zero_of_le (Al.mp (Bl.mp h))).symm
theorem pick_nat(xs:zj yE)(a k:Nat):((zf k).filterMap λ(j:Nat)=>xs[((a:Int)+(j:Int) * 1).toNat]?)=(xs.toList.drop a).take k:=by
 have e:(λ(j:Nat)=>xs[((a:Int)+(j:Int) * 1).toNat]?)=λj=>xs[a+j]?:=by
  funext j
  have:((a:Int)+(j:Int) * 1).toNat=a+j:=by exact om48
  rw[this]
 rw[e];have:=pick_run xs a k;rw[List.filterMap_map] at this;exact this
theorem sliceApplied_nat{j:yN}{c f:yE}{m kb:yK Int}{a b n:Nat}{Q:Int×Int×Nat->yL->Prop}(i:s.heap.get? j=ac { cls:=.type "slice",data:=.fields #[c,f,.none] })(o:ll c a 0 m)(q:ll f b n kb)(h:Q (((min a n:Nat):Int),1,min b n - min a n) s):wpAny (yR E3 w) A (Builtin.Slice.sliceApplied (.ref j) (pure (n:Int))) Q E s:=by
 unfold Builtin.Slice.sliceApplied Builtin.Slice.sliceFields;refine yG (yG (Cq i QQ (x:=c) QQ (yG (Cq i QQ (x:=f) QQ (yG (Cq i QQ (x:=.none) QQ (yU ?_)))))));refine yG (PyProof.Rows.slicePart_none ?_);show wpAny _ _ (if ((1:Int) == 0)=yC then _ else _) _ _ s
 rw[yV (by decide)]
 refine yG (kI o.p (yG (kI q.p (yG (yU ?_)))));show wpAny _ _ (match Builtin.Slice.sliceAdjust m kb 1 (n:Int) with | (lo,t)=>pure (lo,(1:Int),Builtin.Slice.slicePlaces lo t 1)) _ _ s
 rw[adjust_nat o q];show wpAny _ _ (pure (((min a n:Nat):Int),(1:Int),Builtin.Slice.slicePlaces ((min a n:Nat):Int) ((min b n:Nat):Int) 1)) _ _ s;rw[places_nat];exact yU h
theorem sl_tup{x:yE}{ds:yA D}{q u:yE}{lo hi:D}(I:Ex s.heap H)(J:Rep w.params s.heap H x (.tup ds))(L:Rep w.params s.heap H q lo)(M:Rep w.params s.heap H u hi)(he:slD (.tup ds) lo hi=ac d){i:yN}
  (y:s.heap.get? i=ac { cls:=.type "slice",data:=.fields #[q,u,.none] }):wpAny (yR E3 w) A (DH x (.ref i)) (cC w s H d d.isList) E s:=by
 refine iP he λa h1 he=>bM he λb N e=>e▸J.tupE λt items n z j o B=>(lH 0 L h1).elim λV O=>(lH items.size M (B.size.symm▸N)).elim λX T=>?_
 have h:=fo z;have f:((ds.take b).drop a).length<=big:=by rw[B9,CR];exact yD (De _ _) (yD (DD _ _) o)
 have c:al w.params s.heap H ((items.toList.drop (min a items.size)).take (min b items.size - min a items.size)) ((ds.take b).drop a):=(qD items.toList a b).symm▸(B.take b).drop a;unfold DH
 try with_reducible refine Bn ?_
 first | refine yG (yU ?_) | skip
 refine yG (wpAny_sequenceKey h.typeIs (by decide) ?_)
 refine yG (BJ (name:=yB "__getitem__") h.typeIs PyProof.Rows.slot_tuple_getitem
  (AN PyProof.Rows.slot_tuple_getitem h.typeIs PyProof.Rows.entry_tuple_getitem ?_ (PyProof.Rows.args_tuple_getitem _ _)))
 show wpAny _ _ (Builtin.Tuple.tupleItemsOf (.ref t) >>= _) _ _ s;refine yG (PyProof.Rows.tupleItemsOf_ h (yG (EC (show s.TypeIs (.ref i) "slice" from⟨_,y,QQ⟩) ?_)));rw[yT (by decide)]
 refine yG (sliceApplied_nat y O T ?_);show wpAny _ _ (if (((min a items.size:Nat):Int) == 0&&(1:Int) == 1&&(min b items.size - min a items.size) == items.size)=yC then _ else _) _ _ s
 split
 ·rename_i U
  refine iI U λc1 Z c2=>?_
  have C:min a items.size=0:=AQ (eq_of_beq c1);have G:=eq_of_beq c2;rw[C,Nat.sub_zero] at G;rw[C,Nat.sub_zero,G,List.drop_zero,Cp (y5 zD)] at c;refine yG (m:=Builtin.Tuple.tupleIsExact _) (yG (EC h.typeIs (yU ?_)));rw[yT (by decide)]
  exact yG (Dk (yU ⟨_,QQ,yU ⟨Kp.refl _,.mk z j f c,nofun⟩⟩))
 ·rw[pick_nat]
  exact yG (m:=Builtin.Tuple.tupleExact _) (z4 (yU ⟨_,QQ,yU ⟨Kp.push _ _,kX I f c,nofun⟩⟩) (show ((items.toList.drop (min a items.size)).take (min b items.size - min a items.size)).toArray.size<=sizeLine from yD (y5 (Cw.trans c.length)) (yD f (by decide))))
theorem slice_snd{v:yE}{x:D}{j m:yE}{lo hi:D}(n:Ex s.heap H)(b:Rep w.params s.heap H v x)(c:Rep w.params s.heap H j lo)(f:Rep w.params s.heap H m hi)(he:slD x lo hi=ac d){a:yN}
  (h:s.heap.get? a=ac { cls:=.type "slice",data:=.fields #[j,m,.none] }):wpAny (yR E3 w) A (DH v (.ref a)) (cC w s H d d.isList) E s/\yu s v:=by
 cases x with
 | str x=>exact b.strE λt=>⟨sl_str c f he h,"str",_,typeIs_str _ _ _,F.slot_str_getitem.lookup⟩
 | tup ds=>exact⟨sl_tup n b c f he h,b.tupE λZ Z Z i Z Z Z=>⟨"tuple",_,(fo i).typeIs,F.slot_tuple_getitem.lookup⟩⟩
 | list ds=>exact⟨sl_list n b c f he h,b.listE λZ Z Z i Z Z Z=>⟨"list",_,(aT i).typeIs,F.slot_list_getitem.lookup⟩⟩
 | _=>exact aj he
theorem sf_sl{lo hi:ME}(G:SE E3 w A E6 cf a)(I:SE E3 w A E6 cf lo)(J:SE E3 w A E6 cf hi):SF E3 w A E6 cf (.sl a lo hi):=λs EW e H ρ m d fr E L c n=>
 fJ n QQ λn M=>evi_sl n λx y z N O U V=>ISl.rec (motive:=λe Z=>wpAny (yR E3 w) A (zF e EW) (cC w s H d fr) E s) (λh1 X Y=>PyProof.Rows.Subscript_ (G.go h1 c.l.l N λv o h=>wpAny_Slice (tc I X (c.l.r.k h.k) O λt u i=>
  have k2:=Kp.trans h.k i.k
  tc J Y (c.r.k k2) U λB b f=>yU (
   have j:=Kp.push b { cls:=.type "slice",data:=.fields #[t,B,.none] }
   have C:=Kp.trans (Kp.trans k2 f.k) j
   have g:=slice_snd (E3:=E3) (A:=A) (E:=E) (s:={ b with heap:=b.heap.push { cls:=.type "slice",data:=.fields #[t,B,.none] } }) (c.k C).x (h.r.keeps (Kp.heap (Kp.trans (Kp.trans i.k f.k) j))) (i.r.keeps (Kp.heap (Kp.trans f.k j))) (f.r.keeps (Kp.heap j)) V (Heap.get?_push_size b.heap QQ)
   g.2.elim λT q=>q.elim λid q=>PyProof.Rows.tail_any (ops:=[_,_]) q.1 q.2 (bG g.1 λZ Z q=>M▸q.tr C) QQ)))) (xP L)
end
section
variable {E3:zh} {w:zq} {A:zt} {s:yL} {E6:Heap} {mg mb:Str->yK yE} {cf:CF}
theorem ja{f:yE}{es:yA y4}{b:yA ME}{EW:Env}{a:Pos}{Q:Args->yL->Prop}{E:yE->yL->Prop}(c:cB EW.kindOf es b=yC)
  (h:wpAny (yR E3 w) A (spliced (es.map λe=>(yz,zF e EW))) (λvs s'=>Q ⟨vs,[]⟩ s') E s) :
  wpAny (yR E3 w) A (evalArgs f yC (backTo a (BY es EW)) []) Q E s:=by
 rw[fQ c,iG];cases es with
 | nil=>
  unfold evalArgs;show wpAny _ A (spliced [] >>= _) Q E s;exact yG (bG h λvs s' h'=>yG (yU (Bn (yG (yU (yG (yU (yU h'))))))))
 | cons e es=>exact Calls.evalArgs_plain h
theorem any_false(es:yA y4)(EW:Env):((es.map λe=>(yz,zF e EW)).any (·.1))=yz:=by
 induction es with
 | nil=>rfl
 | cons _ _ a=>simpa using a
theorem ve(G:GOk mg mb E6)(C:CS0 E3 w E6 mg cf A){f:yF}{u:yA ME}(B:SEs E3 w A E6 cf u):SF E3 w A E6 cf (.call f u):=λs EW e H ρ m d fr E I c J=>
 evi_callF J λds n t=>rC.rec (motive:=λe Z=>wpAny (yR E3 w) A (zF e EW) (cC w s H d fr) E s) (λ{N L M} y h=>(C f ds d fr t).elim λa q=>q.elim λo q=>q.elim λfd q=>
  PyProof.Rows.Call_Name QQ (Calls.Name_function_global c.R.kind (fM y).1 (Calls.loadGlobal_global (mg:=mg) (c.R.glob▸Ns.keepAt G.g (c.hw.keep _)) q.1 (Calls.callWith_function (o:=o) (fd:=fd) (ja h (
   bG (B s EW L H ρ m ds E h c n) λvs b i=>i.rec λk r=>⟨⟨Heap.of_gt ((c.k k).hw.keep _ _ q.2.1) (cG (by rw[q.2.2.1];nofun)),q.2.2.1⟩,bG (q.2.2.2 b H vs E (c.k k).hw r) λv z j=>j.tr k⟩)))) (by simpa using (fM y).2))) (lR I)
theorem fm(G:GOk mg mb E6){EW:Env}{m:Str->yK yE}{H:yN->Prop}{f:yF}{p:Pos}{E:yE->yL->Prop}{Q:yE->yL->Prop}(a:f∈du)(R:bK s.heap EW m)(c:HOk E6 s.heap H)
  (i:cE EW.kindOf (yB f)=yC) (h:Q (dX f) s):wpAny (yR E3 w) A (zF (.Name (yB f) p) EW) Q E s:=
 Calls.Name_function_global R.kind (fM i).1 (Calls.loadGlobal_builtin (mg:=mg) (mb:=mb) (R.glob▸Ns.keepAt G.g (c.keep _)) (G.blt f a).1 (R.blt▸Ns.keepAt G.b (c.keep _)) (G.blt f a).2 h) (by simpa using (fM i).2)
theorem bltVal_is(f:yF):(∃ id,dX f=.builtin id)\/∃ T,dX f=.type T:=by
 unfold dX;cases yi.contains f with
 | true=>exact .inl ⟨_,QQ⟩
 | false=>exact .inr ⟨_,QQ⟩
theorem eP{f:yF}{a:Pos}{es:yA y4}{i:yA ME}{EW:Env}{Q:yE->yL->Prop}{E:yE->yL->Prop}(b:cB EW.kindOf es i=yC)
  (h:wpAny (yR E3 w) A (spliced (es.map λe=>(yz,zF e EW))) (λvs s'=>wpAny (yR E3 w) A (call (dX f) vs) Q E s') E s) :
  wpAny (yR E3 w) A (callWith a (dX f) [] (backTo a (BY es EW)) []) Q E s:=by
 have c:(backTo a (BY es EW)).any (·.1)=yz:=by rw[fQ b,iG];exact any_false _ _
 rcases bltVal_is f with⟨id,e⟩ | ⟨T,e⟩
 ·rw[e] at h ⊢;exact Calls.callWith_builtin c (ja b h)
 ·rw[e] at h ⊢;exact PyProof.Rows.callWith_type c (ja b h)
theorem se_blt(G:GOk mg mb E6)(q:A.handled=yS){f:yF}{j:yA ME}(t:f∈du)(u:SEs E3 w A E6 cf j):SE E3 w A E6 cf (.blt f j):=λs EW e H ρ m d E y c z=>
 wy z λds i B=>rC.rec (motive:=λe Z=>wpAny (yR E3 w) A (zF e EW) (bz w s H d) E s) (λ{L C I} J h=>PyProof.Rows.Call_Name QQ (fm G t c.R c.hw J (eP h (
  bG (u s EW C H ρ m ds E h c i) λvs n a=>a.rec λk r=>bG (blt_snd q r (c.k k).x B) λv o b=>b.tr k)))) (wa y)
theorem wV{k:KD}{x:y4}{a:ME}(h:aI k x a=yC):cB k [x] [a]=yC:=zr.mpr ⟨h,QQ⟩
theorem sf_lcp(G:GOk mg mb E6)(t:A.handled=yS){a:ME}(u:SE E3 w A E6 cf a):SF E3 w A E6 cf (.lcp a):=λs EW e H ρ m d fr E y c j=>
 fJ j QQ λj z=>evi_lcp j λx ds B n C=>j9.rec (motive:=λe Z=>wpAny (yR E3 w) A (zF e EW) (cC w s H d fr) E s) (λI h=>PyProof.Rows.Call_Name QQ (fm G (f:="list") (by decide) c.R c.hw I (eP (wV h) (Calls.spliced_cons (
  u.go h c B λv o b=>Calls.spliced_nil (bG (lst_snd t b.r (c.k b.k).x n) λv q i=>C▸z▸i.tr b.k)))))) (v5 y)
theorem tD{d:D}{T:yF}{t:yH}(h:pp d T=ac t):T∈du/\dX T=.type T:=
 cK h λa Z=>qW (C:=λT=>T∈du/\dX T=.type T) a ⟨by decide,QQ⟩ ⟨by decide,QQ⟩ ⟨by decide,QQ⟩ ⟨by decide,QQ⟩ ⟨by decide,QQ⟩
theorem se_isi(G:GOk mg mb E6){a:ME}{T:yF}(u:SE E3 w A E6 cf a):SE E3 w A E6 cf (.isi a T):=λs EW e H ρ m d E y c z=>
 evi_isi z λx t B j C=>IIsi.rec (motive:=λe Z=>wpAny (yR E3 w) A (zF e EW) (bz w s H d) E s) (λ{M x I J} L n h=>PyProof.Rows.Call_Name (trees:=[(yz,zF x EW),(yz,zF (.Name (yB T) I) EW)]) (by rw[ik h];rfl) (fm G (f:="isinstance") (by decide) c.R c.hw L
  (Calls.callWith_builtin QQ (Calls.evalArgs_plain (Calls.spliced_cons (u.go h c B λv o b=>Calls.spliced_cons (fm G (tD j).1 (c.k b.k).R (c.k b.k).hw n (Calls.spliced_nil ((tD j).2.symm▸bG (isi_snd b.r j) λv q i=>C▸i.tr b.k))))))))) (v6 y)
end
end Mine
namespace Mine
open PySem PyProof.Rows
theorem xD{lo hi:Nat}(h:lo<hi):lo<=(lo+hi) / 2/\(lo+hi) / 2<hi:=
 ⟨(Nat.le_div_iff_mul_le (Ac 1)).mpr (Nat.mul_two lo▸zu (zy h) lo),Nat.div_lt_of_lt_mul (Nat.two_mul hi▸Nat.add_lt_add_right h hi)⟩
theorem mid_less{lo hi m n x:Nat}(h1:lo<=m)(b:m<hi)(a:hi - lo<=n - x)(c:x<n):hi - (m+1)<=n - (x+1)/\m - lo<=n - (x+1):=
 ⟨yD (Nat.sub_le_sub_left (zb h1) hi) (Nat.pred_le_pred a),Cy (yZ (Nat.sub_lt_sub_right h1 b) a)⟩
structure Wk(kl:Nat->Nat->yH):Prop where
 irr:∀ p,kl p p=yz
 tr:∀ {p q r},kl p q=yC->kl q r=yC->kl p r=yC
 neg:∀ {p q r},kl p q=yz->kl q r=yz->kl p r=yz
noncomputable def Rk(kl:Nat->Nat->yH)(p q:Nat):Prop:=kl p q=yC\/(kl q p=yz/\p<q)
section
variable {kl:Nat->Nat->yH}
section
variable {p q r:Nat}
theorem Wk.asym(W:Wk kl)(h:kl p q=yC):kl q p=yz:=by
 cases e:kl q p with
 | false=>rfl
 | true=>have:=W.tr h e;rw[W.irr] at this;cases this
theorem Wk.lt_le(W:Wk kl)(h:kl p q=yC)(a:kl r q=yz):kl p r=yC:=by
 cases e:kl p r with
 | true=>rfl
 | false=>have:=W.neg e a;rw[h] at this;cases this
theorem Wk.le_lt(W:Wk kl)(h:kl q p=yz)(a:kl q r=yC):kl p r=yC:=by
 cases e:kl p r with
 | true=>rfl
 | false=>have:=W.neg h e;rw[a] at this;cases this
theorem Rk.le(W:Wk kl)(h:Rk kl p q):kl q p=yz:=h.elim W.asym (·.1)
theorem Rk.tr(W:Wk kl)(h:Rk kl p q)(a:Rk kl q r):Rk kl p r:=by
 rcases h with h | ⟨h,l⟩
 ·exact .inl (W.lt_le h (a.le W))
 ·rcases a with a | ⟨a,l2⟩
  ·exact .inl (W.le_lt h a)
  ·exact .inr ⟨W.neg a h,zM l l2⟩
end
structure Mg(R:Nat->Nat->Prop)(T G xs ys:yA Nat):Prop where
 perm:(G++(xs++ys)).Perm T
 srt:G.Pairwise R
 le:∀ g∈G,∀ y,y∈xs\/y∈ys->R g y
variable {R:Nat->Nat->Prop} {T G xs ys:yA Nat}
end
end Mine
namespace Mine
open PySem
noncomputable abbrev Ris(xs:zj Nat):Prop:=xs.toList.Pairwise (·<·)
theorem p8{xs:zj Nat}(w:Ris xs)(j:Nat):∀ (fuel lo hi:Nat),hi - lo<=fuel->lo<=hi->hi<=xs.size->(∀ i (h:i<xs.size),i<lo->xs[i]<j)->(∀ i (h:i<xs.size),hi<=i->j<=xs[i]) ->
  ∃ k,SetTable.below.go xs j fuel lo hi=k/\k<=xs.size/\(∀ i (h:i<xs.size),i<k->xs[i]<j)/\(∀ i (h:i<xs.size),k<=i->j<=xs[i])
 | 0,lo,hi,h1,y,f,s,t=>by
  have e:lo=hi:=Bx y (DI (D9.mp h1));subst e;exact⟨lo,QQ,f,s,t⟩
 | fuel+1,lo,hi,h1,y,f,s,t=>by
  have mono:∀ i n (h:i<xs.size) (h':n<xs.size),i<n->xs[i]<xs[n]:=λi n h h' l=>by
   have:=Bs.mp w i n (by simpa using h) (by simpa using h') l
   simpa using this
  show ∃ k,(if lo<hi then (if xs.getD ((lo+hi) / 2) j<j then SetTable.below.go xs j fuel ((lo+hi) / 2+1) hi else SetTable.below.go xs j fuel lo ((lo+hi) / 2)) else lo)=k/\_
  by_cases u:lo<hi
  ·rw[yT u]
   have o:=xD u;have b:lo<=(lo+hi) / 2/\(lo+hi) / 2<hi/\hi - ((lo+hi) / 2+1)<=fuel/\(lo+hi) / 2 - lo<=fuel:=⟨o.1,o.2,mid_less (x:=0) o.1 o.2 h1 (Ac fuel)⟩;clear o;generalize (lo+hi) / 2=m at b ⊢;have a:m<xs.size:=yZ b.2.1 f;have z:xs.getD m j=xs[m]:=by rw[Array.getD_eq_getD_getElem?,Bc xs m a];rfl
   rw[z]
   by_cases c:xs[m]<j
   ·rw[yT c]
    refine p8 w j fuel (m+1) hi b.2.2.1 b.2.1 f (λi h q=>?_) t
    rcases zI (zx q) with q | rfl
    ·exact zM (mono i m h a q) c
    ·exact c
   ·rw[yV c]
    refine p8 w j fuel lo m b.2.2.2 b.1 (zy a) s λi h q=>?_
    rcases zI q with q | rfl
    ·exact zy (yO (BM c) (mono m i a h q))
    ·exact BM c
  ·rw[yV u]
   have e:lo=hi:=Bx y (BM u);subst e;exact⟨lo,QQ,f,s,t⟩
theorem uf{xs:zj Nat}(a:Ris xs)(j:Nat):SetTable.below xs j<=xs.size/\(∀ i (h:i<xs.size),i<SetTable.below xs j->xs[i]<j)/\(∀ i (h:i<xs.size),SetTable.below xs j<=i->j<=xs[i]):=by
 obtain⟨k,e,h⟩:=p8 a j xs.size 0 xs.size (y5 (Nat.sub_zero _)) (za _) (y0 _) (λZ Z h=>zl h (AF _)) λi h q=>zl h (DE q)
 unfold SetTable.below;rw[e];exact h
structure eD(bt:yH)(t:Bd):Prop where
 dum:t.dummies=#[]
 ris:Ris t.place
 led:t.led=!bt
theorem wm(j:Nat):SetTable.has #[] j=yz:=rfl
theorem eD.put{bt:yH}{t:Bd}(h:eD bt t){j:Nat}(s:t.slot j=.empty):eD bt (t.put j).1:=by
 have o:=uf h.ris j;have m:t.place[SetTable.below t.place j]?≠ac j:=λe=>by
  unfold SetTable.slot at s;rw[yT (by rw[e];exact zg _)] at s;cases s
 refine⟨?_,?_,h.led⟩
 ·show (if SetTable.has t.dummies j=yC then _ else t.dummies)=#[]
  rw[h.dum,wm];rfl
 ·show (SetTable.insertAt t.place (SetTable.below t.place j) j).toList.Pairwise (·<·)
  rw[SetTable.toList_insertAt];generalize SetTable.below t.place j=k at o m;have n:t.place.toList.Pairwise (·<·):=h.ris;have b:=CS.mp ((CA k t.place.toList).symm▸n);have lo:∀ x∈t.place.toList.take k,x<j:=λx c=>by
   obtain⟨i,f,rfl⟩:=BK c;have a:i<k:=yZ f (List.length_take_le _ _);have:=o.2.1 i (yZ a o.1) a;rw[List.getElem_take];simpa using this
  have f:∀ x∈t.place.toList.drop k,j<x:=λx c=>by
   obtain⟨i,f,rfl⟩:=BK c;rw[B9] at f;have a:k+i<t.place.size:=by simpa using Nat.add_lt_of_lt_sub' f
   have u:k<t.place.size:=yO (y9 _ _) a;have w:=o.2.2 k u (y0 _);have h1:t.place[k]≠j:=λe=>m (by rw[Bc _ k u,e])
   have z:t.place[k]<=t.place[k+i]:=by
    rcases Nat.eq_zero_or_pos i with rfl | q
    ·exact y0 _
    ·have:=Bs.mp h.ris k (k+i) (by simpa using u) (by simpa using a) (Ak q)
     exact zy (by simpa using this)
   rw[List.getElem_drop];have:j<t.place[k+i]:=yZ (Ck w (Ne.symm h1)) z;simpa using this
  refine CS.mpr ⟨b.1,At.mpr ⟨f,b.2.1⟩,λx c y hy=>?_⟩
  rcases yX.mp hy with rfl | hy
  ·exact lo x c
  ·exact b.2.2 x c y hy
theorem ris_range(n:Nat):Ris (Array.range n):=by
 show (Array.range n).toList.Pairwise _;rw[Array.toList_range];exact Dy
theorem eD.standIn{bt:yH}{t:Bd}(h:eD bt t)(n:Nat):eD bt (t.standIn n):=⟨QQ,ris_range n,h.led⟩
theorem eD.orStandIn{bt:yH}{t:Bd}(h:eD bt t)(n:Nat):eD bt (t.orStandIn n):=by
 unfold SetTable.orStandIn;split
 ·exact h
 ·exact h.standIn n
theorem s7{t:Bd}(m:t.dummies=#[]){f:Nat->Int}{h:Int}:∀ (fuel:Nat) (p:SetTable.Probe) {j:Nat} {d:yK Nat},p.dummy=yS->SetTable.probe.go t f h fuel p=ac (.empty j d)->t.slot j=.empty/\d=yS
 | 0,p,j,d,b,e=>by cases e
 | fuel+1,p,j,d,b,e=>by
  have c:∀ q:SetTable.Probe,q.dummy=yS->(t.advance q).dummy=yS:=λq hq=>by unfold SetTable.advance;split <;> exact hq
  unfold SetTable.probe.go at e;cases a:t.slot p.j with
  | empty=>rw[a] at e;cases e;exact⟨a,b⟩
  | dummy=>
   exfalso;unfold SetTable.slot at a;rw[m,wm] at a;dsimp only at a;split at a <;> cases a
  | live i=>
   rw[a] at e;dsimp only at e;split at e
   ·cases e
   ·exact s7 m fuel _ (c p b) e
theorem free_ok{bt:yH}{t:Bd}(h:eD bt t){x:Int}{j:Nat}{b:yH}(e:t.freeSlot x=ac (j,b)):t.slot j=.empty:=by
 unfold SetTable.freeSlot at e;split at e
 ·rename_i c d a
  have:=s7 h.dum _ _ QQ a;rw[this.2] at e;cases e;exact this.1
 ·cases e
theorem eD.layNew{bt:yH}{t:Bd}(h:eD bt t)(es:zj (Int×yE))(x:Int)(v:yE):eD bt (layNew t es x v).2.1:=by
 unfold PySem.layNew
 split
 ·rename_i b a e
  exact (h.put (free_ok h e)).orStandIn _
 ·exact h.standIn _
theorem oZ{g:Nat->yK Nat}:∀ l:yA Nat,((l.filterMap λj=>(g j).map (j,·)).map (·.1))=l.filter λj=>(g j).isSome
 | []=>rfl
 | j::l=>by
  rw[C2,Az];cases e:g j with
  | none=>exact oZ l
  | some y=>exact y6 (j::·) (oZ l)
theorem eD.relay{bt:yH}{t:Bd}(h:eD bt t)(es:zj (Int×yE))(n:Nat):eD bt (ED t es n).2.1:=by
 unfold ED
 split
 ·rename_i i b e
  dsimp only
  split
  ·unfold SetTable.relaid SetTable.laid at e
   cases c:SetTable.layClean (SetTable.sizeAbove n - 1) (es.map (·.1)) with
   | none=>rw[c] at e;cases e
   | some a=>
    rw[c] at e;have f:=(zR (yJ e)).1;rw[<- f];refine⟨QQ,?_,h.led⟩;show ((((zf (SetTable.sizeAbove n - 1+1)).filterMap λj=>(a.getD j yS).map (j,·)).map (·.1)).toArray).toList.Pairwise (·<·)
    rw[oZ];exact Dy.sublist List.filter_sublist
  ·exact h.standIn _
 ·exact h.standIn _
noncomputable abbrev jq(es:zj (Int×yE))(ep:Nat)(t:Bd):Obj:={ cls:=.type "set",dict:=none,data:=.set es ep t,slots:=#[] }
noncomputable def bX(es:zj (Int×yE)):yA Int:=es.toList.map λe=>PyProof.Rows.numOf e.2
structure lk(bt:yH)(h:Heap)(a:yN)(es:zj (Int×yE)):Prop where
 obj:∃ ep t,h.get? a=ac (jq es ep t)/\t.fits es.size=yC/\eD bt t
 el:∀ e∈es.toList,∃ k tok,e=(Df k,.int k tok)
 nod:(bX es).Nodup
section
variable {E3:zh} {w:zq} {A:zt} {E:yE->yL->Prop} {s:yL} {bt:yH} {a:yN} {es:zj (Int×yE)}
theorem els_of(h:∀ e∈es.toList,∃ k tok,e=(Df k,.int k tok)):ElemsOf (Ev E3 w) es.toList:=λe a=>by
 obtain⟨k,tok,rfl⟩:=h e a;exact⟨⟨k,e8 k tok,QQ⟩,QQ⟩
theorem lu{b:zj (Int×yE)}{ep:Nat}{t c:Bd}{Q:Unit->yL->Prop}(f:s.heap.get? a=ac (jq es ep t))(hz:b.size<CH)
  (h:∀ h',Heap.SameBut a s.heap h'->h'.get? a=ac (jq b (ep+1) c)->Q () { s with heap:=h' }):wpAny (yR E3 w) A (storeSet a b c) Q E s:=by
 refine wpAny_storeSet_of f QQ (h _ (Heap.SameBut.update _ _ _) ?_) (Ep hz);exact Heap.get?_update_self (Obj.putSet b c) f QQ
theorem wpAny_addI{k:Int}{tok:Tok}{Q:yH->yL->Prop}(FK:lk bt s.heap a es)(B:es.size+1<CH)
  (h:∀ h' i,Heap.SameBut a s.heap h'->lk bt h' a i->(bX i).Perm (if k∈bX es then bX es else bX es++[k])->∀ b,Q b { s with heap:=h' }) :
  wpAny (yR E3 w) A (setAddHashed a (.int k tok) (Df k)) Q E s:=by
 obtain⟨⟨ep,t,Fq,Fs,FF⟩,C,M⟩:=FK;have N:=els_of (E3:=E3) (w:=w) C;have Fh:(Ev E3 w).is k (.int k tok)=yC:=e8 k tok;unfold setAddHashed setAddHashedIn;refine Bn (yG (B0 Fq QQ Fs ?_));dsimp only;rw[byScan_of (knd:=Ev E3 w) rfl (zS B) N,yT rfl];unfold setAddByScan;refine yG (yG (Dk (yG (wpAny_setScan_of Fh Fq QQ Fs N ?_))));have Fi:∀ e∈es.toList,(Ev E3 w).is k e.2=yC->k∈bX es:=λe he q=>by
  obtain⟨O,n,rfl⟩:=C e he;have:=Value.isInt_inj (.int O n) k O q (e8 O n);subst this;exact zn.mpr ⟨_,he,QQ⟩
 cases FG:List.findIdx? (λe=>(Ev E3 w).is k e.2) es.toList with
 | some j=>
  obtain⟨FM,Ft,_⟩:=List.findIdx?_eq_some_iff_getElem.mp FG;have Fu:=Fi _ (Ay FM) Ft;refine yU (yU ?_);exact h s.heap es (Heap.SameBut.refl a s.heap) ⟨⟨ep,t,Fq,Fs,FF⟩,C,M⟩ (by rw[yT Fu]) yz
 | none=>
  have T:k ∉ bX es:=λq=>by
   obtain⟨e,he,q⟩:=zn.mp q;obtain⟨O,n,rfl⟩:=C e he;have FN:O=k:=q;subst FN;have:=List.findIdx?_eq_none_iff.mp FG _ he;rw[show (Ev E3 w).is O (.int O n)=yC from e8 O n] at this;cases this
  rw[yV T] at h;have f:=layNew_perm t es (Df k) (.int k tok);have m:=layNew_fits t es (Df k) (.int k tok);have J:=FF.layNew es (Df k) (.int k tok);dsimp only;generalize layNew t es (Df k) (.int k tok)=L at f m J ⊢;obtain⟨c,FW,u,FH⟩:=L;dsimp only at f m J ⊢;rw[Cv] at f;have U:∀ e∈c.toList,∃ k tok,e=(Df k,.int k tok):=λe he=>by
   rcases zA.mp (f.mem_iff.mp he) with he | he
   ·exact C e he
   ·rw[y3.mp he];exact⟨k,tok,QQ⟩
  have X:(bX c).Perm (bX es++[k]):=by
   have:=f.map λ(e:Int×yE)=>PyProof.Rows.numOf e.2
   rwa [zd] at this
  have V:c.size<CH:=by
   have:=f.length_eq;rw[yY,zD,zD] at this;rw[this];exact B
  have G:∀ o,(bX o).Perm (bX es++[k])->(bX o).Nodup:=λo FO=>FO.nodup_iff.mpr (List.nodup_append.mpr ⟨M,AW.mpr ⟨zK,List.nodup_nil⟩,λx FP y FQ e=>T (by
   rw[y3.mp FQ] at e;exact e▸FP)⟩)
  have FJ:∀ (b:yH) {H:yL} {Fv:Unit->yL->Prop},Fv () H->wpAny (yR E3 w) A (match b with | true=>rule "set.scan.the-table-gave-way" | false=>pure ()) Fv E H:=
   λb H Fv hq=>by cases b <;> first | exact yU hq | exact Dk hq
  have fin:∀ z:Bd,z.fits c.size=yC->eD bt z->wpAny (yR E3 w) A (do
    storeSet a c z
    if (!u&&z.tooFull)=yC then do
      (match (ED z c (SetTable.grown c.size)).2.2 with | true=>rule "set.scan.the-table-gave-way" | false=>pure ())
      storeSet a (ED z c (SetTable.grown c.size)).1 (ED z c (SetTable.grown c.size)).2.1
      pure (ac yC)
     else pure (ac yC)) (λr s'=>∃ h' i,s'={ s with heap:=h' }/\r=ac yC/\Heap.SameBut a s.heap h'/\lk bt h' a i/\(bX i).Perm (bX es++[k])) E s:=λz Fw Fj=>by
   refine yG (lu Fq V λh1 Fk Fm=>?_)
   split
   ·have I:=relayAll_perm z c (SetTable.grown c.size)
    have Y:=relayAll_fits z c (SetTable.grown c.size);have Z:=Fj.relay c (SetTable.grown c.size);generalize ED z c (SetTable.grown c.size)=FR at I Y Z ⊢;obtain⟨o,FS,Fz⟩:=FR;dsimp only at I Y Z ⊢;have Fo:(bX o).Perm (bX es++[k]):=(I.map λ(e:Int×yE)=>PyProof.Rows.numOf e.2).trans X
    have Fp:o.size<CH:=by
     have:=I.length_eq;rw[zD,zD] at this;rw[this];exact V
    refine yG (FJ _ (yG (lu (s:={ s with heap:=h1 }) Fm Fp λFT FA FE=>yU ?_)))
    exact⟨FT,o,QQ,QQ,Fk.trans FA,⟨⟨_,FS,FE,Y,Z⟩,λe he=>U e (I.mem_iff.mp he),G o Fo⟩,Fo⟩
   ·exact yU ⟨h1,c,QQ,QQ,Fk,⟨⟨_,z,Fm,Fw,Fj⟩,U,G c X⟩,X⟩
  have done:∀ r s',(∃ h' i,s'={ s with heap:=h' }/\r=ac yC/\Heap.SameBut a s.heap h'/\lk bt h' a i/\(bX i).Perm (bX es++[k])) ->
    wpAny (yR E3 w) A (match r with | some Fg=>pure Fg | none=>setAddHashedIn a (.int k tok) (Df k) 99999) Q E s':=λr s' q=>by
   obtain⟨h',i,rfl,rfl,FU,q2,FV⟩:=q;exact yU (h h' i FU q2 FV yC)
  refine yG (FJ _ ?_)
  split
  ·refine yG ?_
   rw[hashByValue_scannable 8 rfl];exact yU (CM (fin _ m J) (λr s' q=>done r s' q) λEP EP e=>e)
  ·exact yG (yU (CM (fin _ m J) (λr s' q=>done r s' q) λEP EP e=>e))
end
noncomputable def dO(w:zq):yH:=w.params.followText "set-order"
section
variable {E3:zh} {w:zq} {A:zt} {E:yE->yL->Prop} {s:yL}
theorem fH{Q:yH->yL->Prop}(h:Q (dO w) s):wpAny (yR E3 w) A setsByText Q E s:=by
 unfold setsByText;exact yG (wpAny_askSetting (yU h))
theorem code_set_new'(a:yE){Q₁:yE->yL->Prop}
  (h:Q₁ (.ref s.heap.objs.size) { s with heap:=s.heap.push (jq #[] 0 (.fresh 0 0 (!dO w))) }) :
  Eu (yR E3 w) A (.call (.builtin "set.__new__") ⟨[.type "set",a],[]⟩) (wants Q₁ E) s:=by
 refine codeAny_of_tree ?_;show wpAny _ A.in1 (do checkBuiltinCall "set.__new__" ⟨[.type "set",a],[]⟩;again (.builtin "set.__new__" ⟨[.type "set",a],[]⟩)) _ _ s
 refine yG (Bt (F.newCall_set_1 a) (yU ⟨DA F.plain_set_new _,BV F.entry_set_new ?_⟩));rw[Around.under_plainId F.plain_set_new _];unfold Bq.«set.__new__» Builtin.Frozenset.newClass;have b:=sub_set_self;obtain⟨c,g,d,tk,os⟩:=s;dsimp only
 wp_walk
 refine wpAny_askSetting (yU ?_);dsimp only;simp only[newObj];refine yG (wpAny_alloc (yU ?_));exact yU h
theorem lk.move{bt:yH}{h h':Heap}{a:yN}{es:zj (Int×yE)}(S:lk bt h a es)(k:∀ o,h.get? a=ac o->h'.get? a=ac o):lk bt h' a es:=by
 obtain⟨ep,t,b,c,f⟩:=S.obj;exact⟨⟨ep,t,k _ b,c,f⟩,S.el,S.nod⟩
theorem fill_loop{R:Result->yL->Prop}{I:yN}{fp O:yA yN}{n:Nat}{P:Nat->yE->Prop}{St:Nat->Heap->Prop}(W:CQ E3 w A.in1 I fp O n P St)(S:yN)(H:S ∉ fp){bt:yH}
  {ns:yA Int} (J:∀ i v,P i v->∃ k t,ns[i]?=ac k/\v=.int k t) (Fh:ns.length=n) (u:n+1<CH)
  (Fi:∀ (h':Heap) (tk:Nat) es,(∀ b o,b ∉ S::O->s.heap.get? b=ac o->h'.get? b=ac o)->lk bt h' S es->(∀ k,k∈bX es↔k∈ns)->R (.ok (.ret .none)) { s with heap:=h',toks:=tk }) :
  ∀ (k i:Nat) (h:Heap) (tk:Nat) (es:zj (Int×yE)),n - i=k->i<=n->St i h->(∀ b o,b ∉ S::O->s.heap.get? b=ac o->h.get? b=ac o)->lk bt h S es->(∀ k,k∈bX es↔k∈ns.take i)->es.size<=i ->
   Eu (yR E3 w) A (.builtin "set.update.loop" ⟨[.ref S,.ref I],[]⟩) R { s with heap:=h,toks:=tk }:=by
 have L:S ∉ O:=λh=>H (W.sub _ h)
 intro k
 induction k with
 | zero=>
  intro i h tk es T U B a V X _;have Y:i=n:=Bx U (DI T);subst Y;refine BV PyProof.Rows.F.entry_set_update_loop ?_;rw[Around.under_plainId PyProof.Rows.F.plain_set_update_loop _];show wpAny _ A.in1 (BZ (.ref I) >>= _) _ _ _;refine yG (W.done _ _ _ B λh' Z M=>?_)
  show wpAny _ A.in1 (ret Value.none) _ _ _;refine yU (Fi h' Z es (λb o u e=>M b o (λq=>u (zX _ q)) (a b o u e)) (V.move λo e=>M S o L e) λk=>?_)
  rw[X k,<- Fh,DF]
 | succ k Fj=>
  intro i h tk es T U B a V X C;have N:i<n:=Nat.lt_of_sub_pos (T▸Ac k);refine BV PyProof.Rows.F.entry_set_update_loop ?_;rw[Around.under_plainId PyProof.Rows.F.plain_set_update_loop _];show wpAny _ A.in1 (BZ (.ref I) >>= _) _ _ _;refine yG (W.item i _ _ _ N B λv EU c Fk y f=>?_)
  obtain⟨z,t,Fm,rfl⟩:=J i v Fk;show wpAny _ A.in1 (holding [Value.int z t] (setAdd S (.int z t)) >>= _) _ _ _;refine yG (Bn ?_);unfold setAdd;refine Bn (yG ((Ev E3 w).pyHash (k:=z) (e8 z t) ?_));refine wpAny_addI (s:={ s with heap:=EU,toks:=c+1 }) (V.move λo e=>f S o L e) (yO (zb (yD C U)) u) λE7 E j G m b=>?_
  refine yU ⟨DA PyProof.Rows.F.plain_set_update_loop _,Fj (i+1) E7 (c+1) E (by rw[Nat.sub_add_eq,T];rfl) N (W.frame _ _ _ y λb u o e=>?_) (λb o u e=>?_) G (λFo=>?_) ?_⟩
  ·rw[j.2 b λq=>H (q▸u)];exact e
  ·rw[j.2 b λq=>u (q▸zv)]
   exact f b o (λq=>u (zX _ q)) (a b o u e)
  ·rw[m.mem_iff,List.take_add_one,Fm,Option.toList_some,zA,<- X Fo]
   split
   ·next q=>exact⟨.inl,λFg=>Fg.elim id λFg=>(y3.mp Fg).symm▸q⟩
   ·rw[zA]
  ·have:=m.length_eq
   unfold bX at this;rw[yI,zD] at this;rw[this]
   split
   ·rw[yI,zD];exact zO C
   ·rw[yY,yI,zD];exact zb C
end
section
variable {E3:zh} {w:zq} {A:zt} {E:yE->yL->Prop} {s:yL}
theorem setI_fresh{h:Heap}{a:yN}{b:yH}(c:h.get? a=ac (jq #[] 0 (.fresh 0 0 (!b)))):lk b h a #[]:=
 ⟨⟨_,_,c,QQ,⟨QQ,.nil,QQ⟩⟩,λZ f=>by simp at f,.nil⟩
set_option maxRecDepth 100000 in
set_option maxHeartbeats 3200000 in
theorem call_setI{l:yN}{items:zj yE}{n:Nat}{ns:yA Int}{Q:yE->yL->Prop}(Fh:A.handled=yS)(V:s.heap.get? l=ac (fT items n))(hi:∀ (i:Nat) (v:yE),items[i]?=ac v->∃ (k:Int) (t:Tok),ns[i]?=ac k/\v=Value.int k t)
  (Fi:ns.length=items.size) (J:items.size+1<CH)
  (h:∀ (h':Heap) (tk:Nat) es,(∀ b o,s.heap.get? b=ac o->h'.get? b=ac o)->lk (dO w) h' s.heap.objs.size es->(∀ k,k∈bX es↔k∈ns)->Q (.ref s.heap.objs.size) { s with heap:=h',toks:=tk }) :
  wpAny (yR E3 w) A (call (.type "set") [.ref l]) Q E s:=by
 obtain⟨c,Fu,X⟩:=F.called_set.mro;have L:=F.called_set.made;have Y:=F.called_set.sub;refine wpAny_call (codeAny_of_tree ?_);show wpAny _ _ (callAny (.type "set") _) _ _ _;refine yU ⟨Code.quiet_builtin _ (by decide +kernel),BV F.entry_type_call ?_⟩
 rw[Around.under_plain (weight_type_call_type "set" [.ref l] []) QQ];have h1:=F.called_set.notType;have Fv:=F.called_set.canCreate;have Fj:=F.typeCall_set_1 (.ref l)
 repeat (any_goals (first | assumption | wp_step))
 generalize f:s.heap.push (jq #[] 0 (.fresh 0 0 (!dO w)))=y;have j:y.get? s.heap.objs.size=ac (jq #[] 0 (.fresh 0 0 (!dO w))):=f▸Heap.get?_push_size _ QQ;have z:y.objs.size=s.heap.objs.size+1:=f▸Heap.size_push ..;have m:∀ b o,s.heap.get? b=ac o->y.get? b=ac o:=λb o e=>f▸Heap.get?_push_of_some _ e
 refine codeAny_mono (code_set_new' (.ref l) (E:=E) (Q₁:=λobj q=>obj=.ref s.heap.objs.size/\q={ s with heap:=y }) ⟨QQ,by rw[f]⟩) λr q M=>?_
 cases r with
 | error e=>exact M
 | ok Fk=>
  cases Fk with
  | ret obj=>
   obtain⟨rfl,rfl⟩:=M;have Fm:Shared.TypeIs { s with heap:=y } (.ref s.heap.objs.size) "set":=⟨_,j,QQ⟩
   have Fo:=F.called_set.init.lookup;have Fp:=F.called_set.init.bind (.ref s.heap.objs.size)
   repeat (any_goals (first | assumption | wp_step))
   refine codeAny_mono (codeAny_call_builtin (R:=wants (λr u=>r=.none/\Q (.ref s.heap.objs.size) u) E) F.called_set.init.plain F.entry_set_init (check_set_init_1 Fm ?_)) λC u a=>?_
   ·have N:=m l _ V
    have Z:=F.sub_list_set;have Fg:=F.sub_list_frozenset;have Fq:(Value.type "list" == Value.type "dict")=yz:=by decide
    have G:y.IsList l items:=⟨_,N,QQ,n,QQ⟩;unfold Bq.«set.__init__» noKeywords Builtin.Frozenset.updateFrom;generalize O:Dw=Fw
    wp_walk
    subst O;refine wpAny_pyIter_list G ?_;refine yG (wpAny_runValue ?_);have H:l<s.heap.objs.size:=Heap.lt_size V;have I:l≠y.objs.size:=by rw[z];exact zC (zT H)
    have T:A.in1.in1.in1.handled=yS:=Fh;refine fill_loop (s:={ s with heap:=s.heap }) (Walks.list T _ l I items) s.heap.objs.size ?_ (bt:=dO w) hi Fi J (λh' tk es Fs U Ft=>?_) (items.size - 0) 0 _ _ #[] QQ (za _)
     ⟨⟨_,Heap.get?_push_size _ QQ,QQ,QQ⟩,G.push _⟩ (λb o EP e=>Heap.get?_push_of_some _ (m b o e)) (setI_fresh (Heap.get?_push_of_some _ j)) (λk=>by simp[bX]) (y0 _)
    ·rw[z];simp only[yX,zK,Bf,not_or]
     exact⟨zC (Ab _),Dc H⟩
    ·refine yU ?_
     show wpAny _ _ (ret Value.none) _ _ _;refine yU ⟨QQ,h h' tk es (λb o e=>Fs b o ?_ e) U Ft⟩
     have J:=Heap.lt_size e;rw[z];simp only[yX,zK,Bf,not_or];exact⟨zC J,zC (zT J)⟩
   ·cases C with
    | error e=>exact a
    | ok B=>
     cases B with
     | ret r=>
      obtain⟨rfl,hq⟩:=a
      repeat (any_goals (first | assumption | wp_step))
     | _=>exact a.elim
  | _=>exact M.elim
end
theorem dm:Slot "set_iterator" "__next__" "set_iterator.__next__":=
 .of (owner:="set_iterator") (n:="__next__") (by rw[Cm,Br];kernel_rfl) (by decide +kernel) (by decide +kernel) (by decide +kernel)
  (by first | exact .inl (by decide +kernel) | exact .inr (by decide +kernel)) (by rw[B6];kernel_rfl)
theorem jj:Slot "set_iterator" "__iter__" "set_iterator.__iter__":=
 .of (owner:="set_iterator") (n:="__iter__") (by rw[Cm,Br];kernel_rfl) (by decide +kernel) (by decide +kernel) (by decide +kernel)
  (by first | exact .inl (by decide +kernel) | exact .inr (by decide +kernel)) (by rw[B6];kernel_rfl)
theorem entry_setit_next:entryFor table "set_iterator.__next__"=ac Bq.«set_iterator.__next__»:=entryFor_of_tree (by kernel_rfl)
theorem entry_set_iter:entryFor table "set.__iter__"=ac Bq.«frozenset.__iter__»:=
 entryFor_alias (id':="frozenset.__iter__") (by kernel_rfl) QQ (by decide +kernel) (by kernel_rfl)
theorem entry_setit_iter:entryFor table "set_iterator.__iter__"=ac Bq.«dict_keyiterator.__iter__»:=
 entryFor_alias (id':="dict_keyiterator.__iter__") (by kernel_rfl) QQ (by decide +kernel) (by kernel_rfl)
theorem args_setit_iter(a:yE):Dd "set_iterator.__iter__" ⟨[a],[]⟩:=by unfold Dd;kernel_rfl
theorem args_setit_next(a:yE):Dd "set_iterator.__next__" ⟨[a],[]⟩:=by unfold Dd;kernel_rfl
noncomputable abbrev eY(first:yE)(a:yN)(i n ep:Nat):Obj:={ cls:=.type "set_iterator",dict:=none,data:=.fields #[first,.int i 0,.ref a,.int n 0,.int ep 0],slots:=#[] }
section
variable {E3:zh} {w:zq} {A:zt} {E:yE->yL->Prop} {s:yL} {I a:yN} {first:yE} {i ep:Nat} {es:zj (Int×yE)} {t:Bd} {Q:yK yE->yL->Prop}
theorem kr(hit:s.heap.get? I=ac (eY first a i es.size ep))(f:s.heap.get? a=ac (jq es ep t))(j:t.fits es.size=yC)
  (h:wpAny (yR E3 w) A.in1 (if let .int slot _:=first then do
    match <- Ew a slot.toNat (i:Int).toNat (ep:Int).toNat with
    | some (x,next)=>
     C8 (.ref I) 0 (Bk next)
     C8 (.ref I) 1 (Bk ((i:Int)+1))
     ret x
    | none=>C8 (.ref I) 2 .none;EB (<- Ed (.type "StopIteration") [])
   else do
    let ac places <- seqItems? first | Dz "internal:set_iterator"
    match places[(i:Int).toNat]? with
    | some (.int b _)=>
     let x <- setNextDrawn a b.toNat (ep:Int).toNat
     C8 (.ref I) 1 (Bk ((i:Int)+1))
     ret x
    | some _=>Dz "internal:set_iterator"
    | none=>C8 (.ref I) 0 (Bk 0);C8 (.ref I) 2 .none;EB (<- Ed (.type "StopIteration") []))
   (λfin s'=>∃ v,fin=.done (.ret v)/\Q (ac v) s') (λe s'=>wpAny (yR E3 w) A (do if <- isInstance e (.type "StopIteration") then pure yS else throw e) Q E s') s) :
  wpAny (yR E3 w) A (BZ (.ref I)) Q E s:=by
 have c:s.TypeIs (.ref I) "set_iterator":=⟨_,hit,QQ⟩;unfold BZ;refine yG (CY (BJ (name:=yB "__next__") c dm (AN dm c entry_setit_next ?_ (args_setit_next _))));refine yG (yU (yG (wpAny_fieldsOf hit QQ ?_)));refine yG (wpAny_setEntries_of f QQ j ?_);show wpAny _ _ (if (((es.size:Nat):Int) != ((es.size:Nat):Int))=yC then _ else _) _ _ _
 rw[yV (by simp)]
 exact CM h (λfin s' q=>by obtain⟨v,e,q⟩:=q;exact⟨v,e,yU q⟩) λe s' q=>q
theorem qF(c:A.handled=yS){EU:Heap}(h:∀ h',(∀ b o,EU.get? b=ac o->h'.get? b=ac o)->Q yS { s with heap:=h' }){f:Fin->yL->Prop} :
  wpAny (yR E3 w) A.in1 (do EB (<- Ed (.type "StopIteration") [])) f
   (λe s'=>wpAny (yR E3 w) A (do if <- isInstance e (.type "StopIteration") then pure yS else throw e) Q E s') { s with heap:=EU }:=by
 refine yG ?_;simp only[Ed,newTuple];refine yG (z4 ?_ (by size_fits))
 refine yG (m:=CC _ _) (Bt (a:=Value.none) (by first | rfl | (simp only[CC];rfl)) ?_)
 refine z4 ?_ (by size_fits)
 simp only[EB];refine yG (wpAny_handled ?_);rw[show A.in1.handled=yS from c];refine yG (yU (wpAny_throw ?_));refine yG (CP (T:="StopIteration") (b:=yC) ⟨_,Heap.get?_push_size _ QQ,QQ⟩ isSubtype_stop ?_);exact yU (h _ λb o e=>Heap.get?_push_of_some _ (Heap.get?_push_of_some _ e))
theorem tv{b j:Nat}{x:yE}(hit:s.heap.get? I=ac (eY (.int b 0) a i es.size ep))(o:s.heap.get? a=ac (jq es ep t))(q:t.fits es.size=yC)
  (u:∀ (y:yE->yL->Prop) (n:yK (yE×Nat)->yL->Prop),n (ac (x,j)) s->wpAny (yR E3 w) A.in1 (Ew a b i ep) n y s)
  (z:∀ h',h'.get? I=ac (eY (.int j 0) a (i+1) es.size ep)->Heap.SameBut I s.heap h'->Q (ac x) { s with heap:=h' }):wpAny (yR E3 w) A (BZ (.ref I)) Q E s:=by
 refine kr hit o q (yG (u _ _ ?_));refine yG (BU hit (by simp) λEU c f=>yG (BU (s:={ s with heap:=EU }) c (by simp) λE7 h m=>?_))
 exact yU ⟨x,QQ,z E7 h (f.trans m)⟩
theorem lL(m:A.handled=yS){c:Nat}(hit:s.heap.get? I=ac (eY (.int c 0) a i es.size ep))(n:s.heap.get? a=ac (jq es ep t))(q:t.fits es.size=yC)
  (u:∀ (y:yE->yL->Prop) (h:yK (yE×Nat)->yL->Prop),h yS s->wpAny (yR E3 w) A.in1 (Ew a c i ep) h y s)
  (z:∀ h',(∀ b o,b≠I->s.heap.get? b=ac o->h'.get? b=ac o)->Q yS { s with heap:=h' }):wpAny (yR E3 w) A (BZ (.ref I)) Q E s:=by
 refine kr hit n q (yG (u _ _ ?_));refine yG (BU hit (by simp) λEU j f=>qF m λh' B=>z h' λb o C e=>B b o ((f.2 b C).trans e))
theorem next_dr{T:yN}{ps:zj yE}{n' pl:Nat}{tok:Tok}{x:Int×yE}(hit:s.heap.get? I=ac (eY (.ref T) a i es.size ep))(h:s.heap.get? a=ac (jq es ep t))(j:t.fits es.size=yC)
  (m:s.heap.get? T=ac (dY ps n')) (n:ps[i]?=ac (.int pl tok)) (o:es[pl]?=ac x)
  (q:∀ h',h'.get? I=ac (eY (.ref T) a (i+1) es.size ep)->Heap.SameBut I s.heap h'->Q (ac x.2) { s with heap:=h' }):wpAny (yR E3 w) A (BZ (.ref I)) Q E s:=by
 refine kr hit h j (yG (wpAny_seqItems m QQ ?_));show wpAny _ _ (match ps[i]? with | some (Value.int f tok)=>_ | some u=>_ | none=>_) _ _ _
 rw[n];refine yG ?_;unfold setNextDrawn;refine yG (B0 h QQ j ?_);show wpAny _ _ (if (ep != ep)=yC then _ else _) _ _ _
 rw[yV (by simp)]
 show wpAny _ _ (match es[pl]? with | some (_,x)=>_ | _=>_) _ _ _
 rw[o];refine yU (yG (BU hit (by simp) λEU b c=>?_))
 exact yU ⟨x.2,QQ,q EU b c⟩
theorem next_dr_end(n:A.handled=yS){T:yN}{ps:zj yE}{n':Nat}(hit:s.heap.get? I=ac (eY (.ref T) a i es.size ep))(q:s.heap.get? a=ac (jq es ep t))(u:t.fits es.size=yC)
  (y:s.heap.get? T=ac (dY ps n')) (z:ps[i]?=yS)
  (B:∀ h',(∀ b o,b≠I->s.heap.get? b=ac o->h'.get? b=ac o)->Q yS { s with heap:=h' }):wpAny (yR E3 w) A (BZ (.ref I)) Q E s:=by
 refine kr hit q u (yG (wpAny_seqItems y QQ ?_));show wpAny _ _ (match ps[i]? with | some (Value.int j tok)=>_ | some C=>_ | none=>_) _ _ _
 rw[z];refine yG (BU hit (by simp) λEU c f=>yG (BU (s:={ s with heap:=EU }) c (by simp) λE7 m h=>?_))
 exact qF n λh' G=>B h' λb o H e=>G b o (((f.trans h).2 b H).trans e)
end
section
variable {E3:zh} {w:zq} {A:zt} {E:yE->yL->Prop} {s:yL}
theorem wpAny_chooseI{E5:Source}{n:Nat}{Q:Nat->yL->Prop}(a:0<n)(h:∀ i dw,i<n->Q i { s with drawn:=dw }):wpAny (yR E3 w) A (choose E5 n) Q E s:=λZ Z Z=>by
 unfold choose;rw[Sem.wp_choose];exact⟨Dc a,h _ _ (Nat.mod_lt _ a)⟩
theorem lc{α:Type}{x:α}:∀ {l:yA α} {i:Nat},l[i]?=ac x->(x::l.eraseIdx i).Perm l
 | [],_,h=>by simp at h
 | y::l,0,h=>by cases h;exact B5.refl _
 | y::l,i+1,h=>(B5.swap y x (l.eraseIdx i)).trans (B5.cons y (lc h))
theorem wA{α:Type}{Q:yA α->yL->Prop}:∀ (n:Nat) (xs:yA α) (dw:Drawn),xs.length=n->(∀ ys f,ys.Perm xs->Q ys { s with drawn:=f })->wpAny (yR E3 w) A (drawOrder n xs) Q E { s with drawn:=dw }
 | 0,xs,dw,c,h=>yU (h [] dw (by rw[BI c]))
 | n+1,[],dw,c,h=>nomatch c
 | n+1,x::xs,dw,c,h=>by
  unfold drawOrder;refine yG (wpAny_chooseI (s:={ s with drawn:=dw }) (Ac _) λi a j=>?_)
  have e:(x::xs)[i]?=ac (x::xs)[i]:=yP j;rw[e];refine yG (wA n _ a ?_ λys b m=>yU (h _ b ((B5.cons _ m).trans (lc e))))
  rw[List.length_eraseIdx,yT j,c];rfl
theorem vo{α:Type}(next:Nat->Nat):∀ (fuel k:Nat) (left:yA α) (out:zj α),left.length=fuel->(pickOrder.go next fuel k left out).toList.Perm (out.toList++left)
 | 0,k,left,out,h=>by rw[BI h,zm];exact B5.refl _
 | fuel+1,k,left,out,h=>by
  have a:next k % left.length<left.length:=Nat.mod_lt _ (h▸Ac _);have e:left[next k % left.length]?=ac left[next k % left.length]:=yP a;unfold pickOrder.go;rw[e];refine (vo next fuel (k+1) _ _ (by rw[List.length_eraseIdx,yT a,h];rfl)).trans ?_
  rw[Cv,B1];exact B5.append_left _ (lc e)
theorem mw{α:Type}(next:Nat->Nat)(xs:zj α):(DJ next xs).toList.Perm xs.toList:=vo next _ 0 xs.toList #[] (zD ..)
noncomputable def fu(t:Bd)(i:Nat):Nat:=match i with | 0=>0 | i+1=>t.place.getD i 0+1
theorem below_slot{t:Bd}(m:Ris t.place){i:Nat}(hi:i<=t.place.size):SetTable.below t.place (fu t i)=i:=by
 have f:=uf m (fu t i)
 have mono:∀ i b (h:i<t.place.size) (h':b<t.place.size),i<b->t.place[i]<t.place[b]:=λi b h h' l=>by
  have:=Bs.mp m i b (by simpa using h) (by simpa using h') l
  simpa using this
 rcases Nat.lt_trichotomy (SetTable.below t.place (fu t i)) i with h | h | h
 ·exfalso
  cases i with
  | zero=>exact AF _ h
  | succ j=>
   have c:j<t.place.size:=hi;have e:fu t (j+1)=t.place[j]+1:=by unfold fu;dsimp only;rw[Array.getD_eq_getD_getElem?,Bc _ j c];rfl
   have:=f.2.2 j c (zx h);rw[e] at this;exact DT _ this
 ·exact h
 ·exfalso
  have a:i<t.place.size:=yZ h f.1;have:=f.2.1 i a h;cases i with
  | zero=>exact AF _ this
  | succ j=>
   have c:j<t.place.size:=zS a;have e:fu t (j+1)=t.place[j]+1:=by unfold fu;dsimp only;rw[Array.getD_eq_getD_getElem?,Bc _ j c];rfl
   rw[e] at this;exact zY _ (yZ (mono j (j+1) c a (Ab _)) (zx this))
section
variable {a:yN} {es:zj (Int×yE)} {ep i:Nat} {t:Bd}
theorem qR(b:dO w=yC)(c:s.heap.get? a=ac (jq es ep t))(f:t.fits es.size=yC){Q:yK (yE×Nat)->yL->Prop}
  (h:Q (((DJ (w.params.setOrder a ep) es)[i]?).map λe=>(e.2,0)) s):wpAny (yR E3 w) A (Ew a 0 i ep) Q E s:=by
 unfold Ew;refine yG (B0 c QQ f (yG (fH ?_)));rw[b];show wpAny _ _ (if (ep != ep)=yC then _ else _) _ _ _
 rw[yV (by simp)]
 refine yG ?_;unfold setWalk;refine yG (B0 c QQ f (yG (fH ?_)));rw[b];exact yG (wpAny_askSetting (yU (yU h)))
theorem tq(m:dO w=yz)(n:(!t.plain&&decide (es.size > 1))=yz)(o:s.heap.get? a=ac (jq es ep t))(c:t.fits es.size=yC)(f:eD yz t)(hi:i<=es.size){Q:yK (yE×Nat)->yL->Prop}
  (h:Q (es[i]?.map λe=>(e.2,fu t (i+1))) s):wpAny (yR E3 w) A (Ew a (fu t i) i ep) Q E s:=by
 have b:t.place.size=es.size:=by
  simp only[SetTable.fits,Bb,AZ] at c;exact c.1
 unfold Ew;refine yG (B0 o QQ c (yG (fH ?_)));rw[m];refine Cn (λq=>zl q yQ) λZ=>?_
 refine Cn (λq=>zl (n▸q:yz=yC) yQ) λZ=>?_
 refine yG ?_;show wpAny _ _ (if (!t.led&&!es.isEmpty)=yC then Dz "set:maker-not-led" else pure ()) _ _ _
 rw[f.led,yV (by simp)]
 refine yU (yU ?_);rw[below_slot f.ris (b▸hi)]
 rcases zI hi with hl | rfl
 ·have h1:es[i]?=ac es[i]:=Bc es i hl
  have j:t.place[i]?=ac t.place[i]:=Bc _ i (b▸hl);rw[h1] at h;rw[h1,j];have e:fu t (i+1)=t.place[i]'(b▸hl)+1:=by unfold fu;dsimp only;rw[Array.getD_eq_getD_getElem?,j];rfl
  rw[e] at h;exact h
 ·have h1:es[es.size]?=yS:=Array.getElem?_size
  rw[h1] at h ⊢;exact h
end
end
section
variable {E3:zh} {w:zq} {A:zt} {E:yE->yL->Prop} {s:yL}
theorem kU{I a:yN}{first:yE}{i n ep:Nat}{Q:yE->yL->Prop}(hit:s.heap.get? I=ac (eY first a i n ep))(h:Q (.ref I) s):wpAny (yR E3 w) A (Dw (.ref I)) Q E s:=by
 have b:s.TypeIs (.ref I) "set_iterator":=⟨_,hit,QQ⟩;refine Do b jj (AN jj b entry_setit_iter ?_ (args_setit_iter _));show wpAny _ _ (ret (.ref I)) _ _ s;exact yU ⟨_,QQ,"set_iterator",_,b,dm.lookup,h⟩
theorem walks_text(C:A.handled=yS){I a:yN}(z:a≠I){es:zj (Int×yE)}{ep:Nat}{t:Bd}(c:dO w=yC)(u:t.fits es.size=yC) :
  CQ E3 w A I [I,a] [I] es.size (λi v=>((DJ (w.params.setOrder a ep) es).toList.map (·.2))[i]?=ac v) (λi h=>h.get? I=ac (eY (.int 0 0) a i es.size ep)/\h.get? a=ac (jq es ep t)) where
 sub:=λb c=>by rw[y3.mp c];exact zv
 frame:=λZ Z Z st y=>⟨y I zv _ st.1,y a (zX _ zv) _ st.2⟩
 item:=λi s Q E G st f=>by
  have B:(DJ (w.params.setOrder a ep) es).size=es.size:=by have:=(mw (w.params.setOrder a ep) es).length_eq;rwa [zD,zD] at this
  have e:(DJ (w.params.setOrder a ep) es)[i]?=ac ((DJ (w.params.setOrder a ep) es)[i]'(B.symm▸G)):=Bc _ i _;refine tv (j:=0) st.1 st.2 u (λH J q=>qR c st.2 u (by rw[e];exact q)) λh' m n=>f _ h' s.toks ?_ ⟨m,(n.2 a z).trans st.2⟩ λb o c e=>(n.2 b λq=>c (q▸zv)).trans e
  rw[Ag,zL,e];rfl
 done:=λs Q E st f=>by
  have B:(DJ (w.params.setOrder a ep) es).size=es.size:=by have:=(mw (w.params.setOrder a ep) es).length_eq;rwa [zD,zD] at this
  refine lL C st.1 st.2 u (λH J q=>qR c st.2 u (by rw[Dx (y5 B)];exact q)) λh' y=>f h' s.toks λb o c e=>y b o (λq=>c (q▸zv)) e
 self:=λZ Z Z Z st f=>kU st.1 f
theorem walks_tab(G:A.handled=yS){I a:yN}(y:a≠I){es:zj (Int×yE)}{ep:Nat}{t:Bd}(c:dO w=yz)(z:(!t.plain&&decide (es.size > 1))=yz)(n:t.fits es.size=yC)(B:eD yz t) :
  CQ E3 w A I [I,a] [I] es.size (λi v=>(es.toList.map (·.2))[i]?=ac v) (λi h=>i<=es.size/\h.get? I=ac (eY (.int (fu t i) 0) a i es.size ep)/\h.get? a=ac (jq es ep t)) where
 sub:=λb c=>by rw[y3.mp c];exact zv
 frame:=λZ Z Z st u=>⟨st.1,u I zv _ st.2.1,u a (zX _ zv) _ st.2.2⟩
 item:=λi s Q E C st f=>by
  have e:es[i]?=ac es[i]:=Bc _ i C;refine tv st.2.1 st.2.2 n (λH J q=>tq c z st.2.2 n B st.1 (by rw[e];exact q)) λh' j m=>f _ h' s.toks ?_ ⟨C,j,(m.2 a y).trans st.2.2⟩ λb o c e=>(m.2 b λq=>c (q▸zv)).trans e
  rw[Ag,zL,e];rfl
 done:=λs Q E st f=>
  lL G st.2.1 st.2.2 n (λH J q=>tq c z st.2.2 n B st.1 (by rw[Array.getElem?_size];exact q)) λh' u=>f h' s.toks λb o c e=>u b o (λq=>c (q▸zv)) e
 self:=λZ Z Z Z st f=>kU st.2.1 f
theorem walks_dr(M:A.handled=yS){I a T:yN}(z:a≠I)(B:T≠I){es:zj (Int×yE)}{ep n':Nat}{t:Bd}{ys:yA Nat}(C:ys.Perm (zf es.size))(H:t.fits es.size=yC) :
  CQ E3 w A I [I,a,T] [I] es.size (λi v=>((ys.map λj=>es.getD j (0,.none)).map (·.2))[i]?=ac v)
   (λi h=>h.get? I=ac (eY (.ref T) a i es.size ep)/\h.get? a=ac (jq es ep t)/\h.get? T=ac (dY (ys.map λ(i:Nat)=>Bk i).toArray n')) where
 sub:=λb f=>by rw[y3.mp f];exact zv
 frame:=λZ Z Z st m=>⟨m I zv _ st.1,m a (zX _ zv) _ st.2.1,m T (zX _ (zX _ zv)) _ st.2.2⟩
 item:=λi s Q E N st n=>by
  have G:ys.length=es.size:=C.length_eq.trans zJ;obtain⟨y,e⟩:∃ y,ys[i]?=ac y:=⟨_,yP (G.symm▸N)⟩;have J:y<es.size:=AK.mp (C.mem_iff.mp (List.mem_of_getElem? e));have L:es[y]?=ac (es[y]'J):=Bc es y J;refine next_dr st.1 st.2.1 H st.2.2 (by rw[DK,Ag,e];rfl) L λh' u c=>n _ h' s.toks ?_ ⟨u,(c.2 a z).trans st.2.1,(c.2 T B).trans st.2.2⟩ λb o f e=>(c.2 b λq=>f (q▸zv)).trans e
  rw[Ag,Ag,e];show ac (es.getD _ _).2=_;rw[Array.getD_eq_getD_getElem?,L];rfl
 done:=λs Q E st n=>by
  have G:ys.length=es.size:=C.length_eq.trans zJ;refine next_dr_end M st.1 st.2.1 H st.2.2 ?_ λh' m=>n h' s.toks λb o f e=>m b o (λq=>f (q▸zv)) e
  rw[DK];exact DL (by rw[yI,G];exact y0 _)
 self:=λZ Z Z Z st n=>kU st.1 n
theorem perm_get{es:zj (Int×yE)}{ys:yA Nat}(a:ys.Perm (zf es.size)):((ys.map λj=>es.getD j (0,.none)).map (·.2)).Perm (es.toList.map (·.2)):=by
 refine B5.map _ ((a.map _).trans (B5.of_eq ?_));apply List.ext_getElem
 ·simp
 ·intro i h1 b
  have c:i<es.size:=by simpa using b
  rw[List.getElem_map,List.getElem_range,Array.getD_eq_getD_getElem?,Bc es i c,Array.getElem_toList];rfl
theorem iter_setI{a:yN}{es:zj (Int×yE)}{Q:yE->yL->Prop}(L:lk (dO w) s.heap a es)(hz:es.size<CH)
  (h:∀ (h':Heap) (dw:Drawn) (I:yN) (fp:yA yN) (xs:yA yE) (St:Nat->Heap->Prop),(∀ b o,s.heap.get? b=ac o->h'.get? b=ac o)->s.heap.objs.size<=I->(∀ b∈fp,b=a\/s.heap.objs.size<=b)->xs.Perm (es.toList.map (·.2)) ->
   (∀ m:zt,m.handled=yS->CQ E3 w m I fp [I] es.size (λi v=>xs[i]?=ac v) St)->St 0 h'->Q (.ref I) { s with heap:=h',drawn:=dw }):wpAny (yR E3 w) A (Dw (.ref a)) Q E s:=by
 obtain⟨⟨ep,t,c,j,J⟩,_,_⟩:=L;have n:s.TypeIs (.ref a) "set":=⟨_,c,QQ⟩;have u:a<s.heap.objs.size:=Heap.lt_size c;refine Do n F.slot_set_iter (AN F.slot_set_iter n entry_set_iter ?_ (F.args_set_iter_1 _));unfold Bq.«frozenset.__iter__» Builtin.Frozenset.slot0;refine yG (yG (yU (yU ?_)));refine yG ?_;unfold Builtin.Frozenset.sizeOf;refine yG (wpAny_setEntries_of c QQ j (yU ?_));refine yG ?_;unfold setDrawn;refine yG (B0 c QQ j (yG (fH (yU ?_))));refine Cn (λq=>?_) λq=>?_
 ·replace q:(!dO w&&(!t.plain&&decide (es.size > 1)))=yC:=q
  refine yG (wA es.size (zf es.size) s.drawn zJ λys dw C=>yG (wpAny_newTuple ?_ (by
   rw[yI,C.length_eq,zJ];exact Ep hz)))
  refine yG (wpAny_setEpoch_of (o:=jq es ep t) (Heap.get?_push_of_some _ c) QQ j ?_);refine yG ?_;unfold newFields;refine z4 (yU ⟨_,QQ,"set_iterator",_,⟨_,Heap.get?_push_size _ QQ,QQ⟩,dm.lookup,?_⟩);generalize hh1:s.heap.push { cls:=.type "tuple",data:=.seq (ys.map λ(i:Nat)=>Bk i).toArray }=EU
  have G:EU.get? s.heap.objs.size=ac (dY (ys.map λ(i:Nat)=>Bk i).toArray 0):=hh1▸Heap.get?_push_size _ QQ
  have f:EU.objs.size=s.heap.objs.size+1:=hh1▸Heap.size_push ..;have y:∀ b o,s.heap.get? b=ac o->EU.get? b=ac o:=λb o e=>hh1▸Heap.get?_push_of_some _ e
  refine h (EU.push (eY (.ref s.heap.objs.size) a 0 es.size ep)) dw EU.objs.size [EU.objs.size,a,s.heap.objs.size] _ _ (λb o e=>Heap.get?_push_of_some _ (y b o e)) (f.symm▸AB _) (λb hb=>?_) (perm_get C)
   (λm z=>walks_dr (n':=0) (t:=t) (ep:=ep) z (f.symm▸zC (zT u)) (f.symm▸zC (Ab _)) C j) ⟨Heap.get?_push_size _ QQ,Heap.get?_push_of_some _ (y _ _ c),Heap.get?_push_of_some _ G⟩
  rcases yX.mp hb with rfl | hb
  ·exact .inr (f.symm▸AB _)
  ·rcases yX.mp hb with rfl | hb
   ·exact .inl QQ
   ·rw[y3.mp hb];exact .inr (y0 _)
 ·replace q:¬ (!dO w&&(!t.plain&&decide (es.size > 1)))=yC:=q
  refine yG (yU (yG (wpAny_setEpoch_of c QQ j ?_)));refine yG ?_;unfold newFields;refine z4 (yU ⟨_,QQ,"set_iterator",_,⟨_,Heap.get?_push_size _ QQ,QQ⟩,dm.lookup,?_⟩);have H:∀ b∈[s.heap.objs.size,a],b=a\/s.heap.objs.size<=b:=λb hb=>by
   rcases yX.mp hb with rfl | hb
   ·exact .inr (y0 _)
   ·exact .inl (y3.mp hb)
  have B:a≠s.heap.objs.size:=zC u;have go:=λxs St=>h (s.heap.push (eY (.int 0 0) a 0 es.size ep)) s.drawn s.heap.objs.size [s.heap.objs.size,a] xs St (λb o e=>Heap.get?_push_of_some _ e) (y0 _) H
  cases hb:dO w with
  | true=>exact go _ _ ((mw (w.params.setOrder a ep) es).map _) (λm z=>walks_text (t:=t) z B hb j) ⟨Heap.get?_push_size _ QQ,Heap.get?_push_of_some _ c⟩
  | false=>
   rw[hb] at q J;have M:(!t.plain&&decide (es.size > 1))=yz:=by simpa using q
   exact go _ _ (B5.refl _) (λm z=>walks_tab (t:=t) (ep:=ep) z B hb M j J) ⟨za _,Heap.get?_push_size _ QQ,Heap.get?_push_of_some _ c⟩
end
section
variable {E3:zh} {w:zq} {A:zt} {E:yE->yL->Prop} {s:yL}
set_option maxRecDepth 100000 in
theorem hint_set{r:yN}{Q:yH->yL->Prop}(f:s.TypeIs (.ref r) "set")(h:Q yz s):wpAny (yR E3 w) A (Builtin.List.listLengthHint (.ref r)) Q E s:=by
 unfold Builtin.List.listLengthHint;refine yG (DU f F.slot_set_len.lookup ?_);generalize c:("set.__len__":yF)=i
 wp_delta
 rw[show splitId i=ac ("set","__len__") from by subst c;decide +kernel]
 subst c;refine yG (CP (T:="set") (b:=yC) f (by rw[B6];kernel_rfl) ?_)
 refine Cn (λa=>zl a (by decide)) (λZ=>?_)
 refine Cn (λZ=>?_) (λa=>zl (by decide +kernel) a)
 refine yG (EC f ?_);exact yU h
theorem items_list{xs:yA yE}{acc:zj yE}(h:ItemsOf (λi v=>xs[i]?=ac v) acc xs.length):acc.toList=xs:=by
 apply List.ext_getElem?;intro i
 rcases Ez i xs.length with hi | hi
 ·have a:i<acc.size:=h.1.symm▸hi
  rw[zL,Bc acc i a,h.2 i _ (Bc acc i a)]
 ·rw[zL,Dx (h.1.symm▸hi),DL hi]
theorem extend_setI{R:Result->yL->Prop}{a S:yN}{es:zj (Int×yE)}(V:A.handled=yS)(M:lk (dO w) s.heap a es)(hz:es.size<CH)(G:S≠a)(n:yE)(X:s.heap.get? S=ac (fT #[] 0))
  (Fh:∀ h' tk dw i C,(∀ b o,b≠S->s.heap.get? b=ac o->h'.get? b=ac o)->h'.get? S=ac (fT i C)->i.toList.Perm (es.toList.map (·.2))->R (.ok (.ret n)) { s with heap:=h',toks:=tk,drawn:=dw }) :
  wpAny (yR E3 w) A.in1 (Builtin.List.listExtendWith (.ref S) (.ref a) n)
   (λfin s'=>match fin with | .done f=>R (.ok f) s' | .again C=>C.quiet=yC/\Eu (yR E3 w) A C R s') (λe s'=>R (.error e) s') s:=by
 have Fi:s.TypeIs (.ref a) "set":=by obtain⟨ep,t,N,_⟩:=M.obj;exact⟨_,N,QQ⟩
 have u:S<s.heap.objs.size:=Heap.lt_size X;unfold Builtin.List.listExtendWith;refine yG (EC Fi ?_);have h1:Builtin.List.listSameRef (.ref S) (.ref a)=yz:=by simp[Builtin.List.listSameRef,G]
 have Fj:(Value.type "set" == Value.type "list")=yz:=by decide
 have Fk:(Value.type "set" == Value.type "tuple")=yz:=by decide
 rw[h1,Fj,Fk];simp only[Bool.or_false,BS,Co];refine yG (iter_setI M hz λEU dw I fp xs St E Y O Z W st=>?_)
 have Fm:S≠I:=zC (yZ u Y);have H:S ∉ fp:=λq=>(O S q).elim G λq=>zY _ (yZ u q)
 have Fo:xs.length=es.size:=by rw[Z.length_eq,yI,zD]
 have J:∀ (h:Heap) (j tk:Nat),St 0 h->(∀ b o,b≠S->s.heap.get? b=ac o->h.get? b=ac o)->h.get? S=ac (fT #[] j) ->
   Eu (yR E3 w) A (.builtin "list.extend.loop" ⟨[.ref S,.ref I,n],[]⟩) R { s with heap:=h,toks:=tk,drawn:=dw }:=by
  intro h j tk T E c;refine codeAny_extend_loopS (W A.in1 V).toS (Ep hz) S H n es.size 0 _ #[] j QQ (za _) T c (ItemsOf.nil _) λs' i C Fg U y=>?_
  rw[Moved.eq_with Fg];refine Fh s'.heap s'.toks dw i C (λb o z e=>Fg.heap b o (λhmem=>?_) (E b o z e)) U ?_
  ·rcases yX.mp hmem with e' | hmem
   ·exact z e'
   ·exact zl (Heap.lt_size e) (by rw[y3.mp hmem];exact DE Y)
  ·rw[<- Fo] at y;rw[items_list y];exact Z
 have c:=E _ _ X;refine yG (Bn (hint_set (s:={ s with heap:=EU,drawn:=dw }) (by obtain⟨ep,t,N,_⟩:=M.obj;exact⟨_,E _ _ N,QQ⟩) ?_))
 refine Cn (λEP=>?_) (λEP=>yU ⟨DA PySem.F.plain_extend_loop _,J _ 0 _ st (λb o EP e=>E b o e) c⟩)
 refine yG (Dk (yG ?_));show wpAny _ _ (updateSeq S (·.push .none) >>= λEP=>updateSeq S (·.pop)) _ _ _
 refine yG (wpAny_updateSeq c QQ ?_);have m:=Heap.get?_update_self (Obj.mapSeq (·.push Value.none)) c QQ;refine wpAny_updateSeq (hz:=by seq_fits) m QQ ?_
 have B:=Heap.get?_update_self (Obj.mapSeq (·.pop)) m QQ;refine yU ⟨DA PySem.F.plain_extend_loop _,J _ _ _ ?_ (λb o z e=>?_) B⟩
 ·refine (W A.in1 V).frame 0 _ _ st λb z o e=>?_
  have L:b≠S:=λh=>H (h▸z)
  exact (Heap.get?_update_other _ _ (Ne.symm L)).trans ((Heap.get?_update_other _ _ (Ne.symm L)).trans e)
 ·exact (Heap.get?_update_other _ _ (Ne.symm z)).trans ((Heap.get?_update_other _ _ (Ne.symm z)).trans (E b o e))
theorem collect_setI{a:yN}{es:zj (Int×yE)}{Q:yA yE->yL->Prop}(j:A.handled=yS)(f:lk (dO w) s.heap a es)(hz:es.size<CH)
  (h:∀ h' tk dw xs,(∀ b o,s.heap.get? b=ac o->h'.get? b=ac o)->xs.Perm (es.toList.map (·.2))->Q xs { s with heap:=h',toks:=tk,drawn:=dw }):wpAny (yR E3 w) A (collect (.ref a)) Q E s:=by
 have c:a<s.heap.objs.size:=by obtain⟨ep,t,m,_⟩:=f.obj;exact Heap.lt_size m
 unfold collect;refine yG (wpAny_runValue (BV PyProof.Rows.entry_proto_collect' ?_));show wpAny _ _ (do again (.builtin "list.__iadd__" ⟨[<- newList [],.ref a],[]⟩)) _ _ s
 refine yG (Ei (yU ⟨Code.quiet_builtin _ (by decide +kernel),BV PyProof.Rows.entry_list_iadd' ?_⟩))
 rw[Around.under_plainId (show plainId "list.__iadd__"=yC by decide +kernel) _]
 show wpAny _ _ (Builtin.List.listExtendWith (.ref s.heap.objs.size) (.ref a) (.ref s.heap.objs.size)) _ _ _;refine extend_setI (R:=λr s'=>match r with
  | .ok (.ret v)=>wpAny (yR E3 w) A (match v with
   | .ref a=>do
    match (<- load a).data with
    | .seq xs _=>pure xs.toList
    | _=>Dz "internal:collect"
   | _=>Dz "internal:collect") Q E s'
  | .ok _=>False
  | .error e=>E e s') (A:=A) (s:={ s with heap:=s.heap.push (fT #[] 0) }) j (f.move λo e=>Heap.get?_push_of_some _ e) hz (Dc c) _ (Heap.get?_push_size _ QQ) λh' tk dw i y n q u=>?_
 show wpAny (yR E3 w) A (do
   let o <- load s.heap.objs.size
   match o.data with
   | .seq xs _=>pure xs.toList
   | _=>Dz "internal:collect") Q E { s with heap:=h',toks:=tk,drawn:=dw }
 refine yG (wpAny_load q (yU (h h' tk dw _ (λb o e=>n b o (zC (Heap.lt_size e)) (Heap.get?_push_of_some _ e)) u)))
end
end Mine
namespace Mine
open PySem PyProof.Rows
section
variable {E3:zh} {w:zq} {A:zt} {E:yE->yL->Prop} {s:yL}
theorem sorted_setI{a:yN}{es:zj (Int×yE)}{Q:yE->yL->Prop}(z:A.handled=yS)(u:lk (dO w) s.heap a es)(hz:es.size<64)
  (h:∀ h' tk dw L c (out:zj yE) E4,(∀ b o,s.heap.get? b=ac o->h'.get? b=ac o)->(∀ b o,s.heap.get? b=ac o->@LT.lt Nat _ b L)->h'.get? L=ac (fT out c)->IntsAre out.toList E4->E4.Perm (bX es)->E4.Pairwise (·<=·) ->
   Q (.ref L) { s with heap:=h',toks:=tk,drawn:=dw }):wpAny (yR E3 w) A (call (.builtin "sorted") [.ref a]) Q E s:=by
 refine Calls.call_function_entry kind_sorted plain_sorted entry_sorted (args_sorted1 _) ?_;unfold Bq.«sorted»;refine yG (m:=checkCount "sorted" 1 1 _) (yU ?_);refine yG (collect_setI (A:=A.in1) z u (zM hz (by decide)) λEU tk dw xs j n=>?_)
 have B:IntsAre xs (xs.map numOf):=intsAre_map xs λv C=>by
  obtain⟨e,G,rfl⟩:=zn.mp (n.mem_iff.mp C);obtain⟨k,tok,rfl⟩:=u.el e G;exact⟨k,tok,QQ⟩
 have q:(xs.map numOf).Perm (bX es):=by
  have:=n.map numOf
  rwa [zV] at this
 have f:xs.length<64:=by rw[n.length_eq,yI,zD];exact hz
 refine yG (Ei ?_ (by rw[sizeLine_eq];exact yD (zy f) (by decide)))
 have i:(EU.push (AD "list" xs.toArray 0)).get? EU.objs.size=ac (AD "list" xs.toArray 0):=Heap.get?_push_size _ QQ;refine yG (Bn (AN slot_list_sort ⟨_,i,QQ⟩ entry_list_sort (list_sort_tree i B f λout E4 a1 a2 a3=>⟨_,QQ,?_⟩) (args_list_sort _)))
 obtain⟨c,H⟩:=sortedHeap_at (out:=out) (vs:=xs) i;refine yU ⟨_,QQ,h _ tk dw EU.objs.size c out E4 (λb o e=>?_) (λb o e=>Heap.lt_size (j b o e)) H a1 (a2.trans q) a3⟩
 ·have y:=Heap.lt_size (j b o e)
  have t:b<(EU.push (AD "list" xs.toArray 0)).objs.size:=by rw[size_push'];exact zT y
  rw[sortedHeap_old (zC y) t];exact Heap.get?_push_of_some _ (j b o e)
end
end Mine
namespace Mine
open PySem PySem.SeqAt
theorem px(x z:Int):∀ l,z∈mL x l↔z=x\/z∈l
 | []=>y3.trans ⟨.inl,λh=>h.elim id λh=>nomatch h⟩
 | y::l=>by
  unfold mL
  split
  ·exact yX
  ·split
   ·next h=>subst h;exact⟨.inr,λh=>h.elim (λh=>h▸zv) id⟩
   ·rw[yX,px x z l,yX]
    exact⟨λh=>h.elim (λh=>.inr (.inl h)) λh=>h.elim .inl λh=>.inr (.inr h),λh=>h.elim (λh=>.inr (.inl h)) λh=>h.elim .inl λh=>.inr (.inr h)⟩
theorem tK(x:Int):∀ {l:yA Int},l.Pairwise (·<·)->(mL x l).Pairwise (·<·)
 | [],_=>List.pairwise_singleton _ _
 | y::l,h=>by
  have h':=At.mp h;unfold mL
  split
  ·next hl=>exact At.mpr ⟨λz a=>(yX.mp a).elim (λe=>e▸hl) λa=>AG hl (h'.1 z a),h⟩
  ·split
   ·exact h
   ·next h1 h2=>exact At.mpr ⟨λz a=>((px x z l).mp a).elim (λe=>e▸Int.lt_iff_le_and_ne.mpr ⟨Bl.mp h1,Ne.symm h2⟩) (h'.1 z),tK x h'.2⟩
theorem kf:∀ ns:yA Int,(cL ns).Pairwise (·<·)
 | []=>.nil
 | x::ns=>tK x (kf ns)
theorem ii(z:Int):∀ ns:yA Int,z∈cL ns↔z∈ns
 | []=>Iff.rfl
 | x::ns=>by
  show z∈mL x (cL ns)↔_;rw[px,ii z ns,yX]
theorem xI:∀ {l m:yA Int},l.Nodup->(∀ z∈l,z∈m)->l.length<=m.length
 | [],_,_,_=>za _
 | x::l,m,i,h=>by
  have a:=AW.mp i;have b:x∈m:=h x zv;have c:=xI (m:=m.erase x) a.2 λz f=>(List.mem_erase_of_ne (λe:z=x=>a.1 (e▸f))).mpr (h z (zX _ f))
  rw[List.length_erase_of_mem b] at c;exact yD (zb c) (y5 (Cg (List.length_pos_of_mem b)))
theorem sU:∀ {l m:yA Int},l.Pairwise (·<·)->m.Pairwise (·<·)->(∀ z,z∈l↔z∈m)->l=m
 | [],[],_,_,_=>rfl
 | [],y::m,_,_,h=>zl ((h y).mpr zv) zK
 | x::l,[],_,_,h=>zl ((h x).mp zv) zK
 | x::l,y::m,f,i,h=>by
  have a:=At.mp f;have b:=At.mp i;have e:x=y:=by
   rcases yX.mp ((h x).mp zv) with e | h1
   ·exact e
   ·rcases yX.mp ((h y).mpr zv) with e | h2
    ·exact e.symm
    ·exact zl (AG (a.1 y h2) (b.1 x h1)) (Ej _)
  subst e;rw[sU a.2 b.2 λz=>?_]
  constructor
  ·intro c
   rcases yX.mp ((h z).mp (zX _ c)) with e | hz'
   ·exact zl (a.1 z c) (e▸Ej _)
   ·exact hz'
  ·intro c
   rcases yX.mp ((h z).mpr (zX _ c)) with e | hz'
   ·exact zl (b.1 z c) (e▸Ej _)
   ·exact hz'
section
variable {E3:zh} {w:zq} {A:zt} {E:yE->yL->Prop} {s:yL} {H:yN->Prop}
theorem intsD_at{ds:yA D}{ns:yA Int}{vs:yA yE}(h:pv ds=ac ns)(a:al w.params s.heap H vs ds):vs.length=ns.length/\∀ (i:Nat) (v:yE),vs[i]?=ac v->∃ (k:Int) (t:Tok),ns[i]?=ac k/\v=Value.int k t:=by
 induction ds generalizing ns vs with
 | nil=>
  rw[show vs=[] from a];cases h;exact⟨QQ,λi v e=>by rw[Dm] at e;cases e⟩
 | cons d ds b=>
  cases d with
  | int k=>exact bM (o:=pv ds) (f:=λl=>k::l) h λE4 h e=>e▸dP.rec (motive:=λvs Z=>vs.length=(k::E4).length/\∀ (i:Nat) (v:yE),vs[i]?=ac v->∃ (c:Int) (t:Tok),(k::E4)[i]?=ac c/\v=Value.int c t) (λj a=>⟨y6 EA (b h a).1,λi v e=>by
    cases i with
    | zero=>exact yJ e▸j.intE λt=>⟨k,t,QQ,QQ⟩
    | succ i=>exact (b h a).2 i v e⟩) a
  | _=>exact aj h
theorem ints_reps{h:Heap}{P:zH}{vs:yA yE}{ns:yA Int}(r:PyProof.Rows.IntsAre vs ns):al P h H vs (ns.map .int):=r.rec QQ λn t Z Z Z a=>.mk (.mk t) a
theorem sset_snd{x:yE}{a d:D}(T:A.handled=yS)(X:Rep w.params s.heap H x a)(Y:Ex s.heap H)(he:oH a=ac d) :
  wpAny (yR E3 w) A (call (.type "set") [x]) (λv s'=>wpAny (yR E3 w) A (call (.builtin "sorted") [v]) (cC w s H d yC) E s') E s:=by
 cases a with
 | list ds=>
  refine cK he λB he=>bM he λns J e=>e▸X.listE λl vs n Z Fp Fq U=>?_
  have f:=intsD_at J U;have C:vs.size<63:=U.size.symm▸B
  refine call_setI (ns:=ns) T Z (λi v e=>f.2 i v (by rw[zL];exact e)) f.1.symm (zM (CO C) (by decide)) λh' tk es Fg M V=>?_
  have G:es.size<64:=by
   have h1:(bX es).length<=ns.length:=xI M.nod λz Fh=>(V z).mp Fh
   unfold bX at h1;rw[yI,zD,<- f.1] at h1;exact yO h1 (zT C)
  refine sorted_setI (s:={ s with heap:=h',toks:=tk }) T M G λE7 j dw L c Fi E4 m Fj N Fk O Fm=>?_
  have Fo:E4=cL ns:=sU ((Fm.and (O.nodup_iff.mpr M.nod)).imp λh=>Int.lt_iff_le_and_ne.mpr h) (kf ns) λz=>by rw[O.mem_iff,V z,ii]
  subst Fo;have t:((cL ns).map D.int).length<=big:=by
   rw[yI,O.length_eq];unfold bX;rw[yI,zD];exact yD (zy G) (by decide)
  have u:=Heap.gt_up Fg;have I:∀ b o,gat h' b=ac o->@LT.lt Nat _ b L:=λb o e=>(Heap.gt_some e).elim λEP q=>Fj b _ q.1
  have Fb:jg w.params E7 H L ((cL ns).map .int):=⟨N,t,ints_reps Fk⟩;have y:gat s.heap L=none:=by
   cases e:gat s.heap L with
   | none=>rfl
   | some o=>exact zl (I L o (u _ _ e)) (zY _)
  exact⟨.mk E7 j dw λb o e=>Heap.gt_up m b o (u b o e),Fb.rep λq=>(Y L q).elim λb q=>q.elim λo q=>zl (I b o (u b o q.2)) (DE q.1),λEP=>⟨y,Fb⟩⟩
 | _=>exact aj he
end
section
variable {E3:zh} {w:zq} {A:zt} {s:yL} {E6:Heap} {mg mb:Str->yK yE} {cf:CF}
theorem sf_sset(G:GOk mg mb E6)(J:A.handled=yS){a:ME}(L:SE E3 w A E6 cf a):SF E3 w A E6 cf (.sset a):=λs EW e H ρ m d fr E M c o=>
 fJ o QQ λo N=>evi_sset o λY O T=>j9.rec (motive:=λe Z=>wpAny (yR E3 w) A (zF e EW) (cC w s H d fr) E s) (λ{U y q} V X=>j9.rec (motive:=λy Z=>wpAny (yR E3 w) A (zF (.Call (.Name (yB "sorted") U) [y] [] q) EW) (cC w s H d fr) E s) (λ{t x p} i h=>by
  have z:cB EW.kindOf [.Call (.Name (yB "set") t) [x] [] p] [.blt "set" [a]]=yC:=wV (show (yB "set" == yB "set"&&cE EW.kindOf (yB "set")&&cB EW.kindOf [x] [a])=yC from by rw[i,wV h];decide)
  refine PyProof.Rows.Call_Name QQ (fm G (f:="sorted") (by decide) c.R c.hw V (eP z (Calls.spliced_cons ?_)))
  refine PyProof.Rows.Call_Name QQ (fm G (f:="set") (by decide) c.R c.hw i (eP (wV h) (Calls.spliced_cons ?_)))
  refine L.go h c O λv B b=>Calls.spliced_nil (bG (sset_snd J b.r (c.k b.k).x T) λu C j=>Calls.spliced_nil (bG j λv I n=>?_))
  exact N▸n.tr b.k) X) (tG M)
end
end Mine
namespace Mine
open PySem PyProof.Rows PySem.SeqAt PySem.W
noncomputable def InT(n:Nat){α:Type}(R:α->Prop):KasT α->Prop
 | .ret a=>R a
 | .ask i j k=>i<n/\j<n/\∀ b,InT n R (k b)
theorem InT.bind{n:Nat}{α c:Type}{R:α->Prop}{T:c->Prop}{f:α->KasT c}(i:∀ a,R a->InT n T (f a)):∀ {t:KasT α},InT n R t->InT n T (t.bind f)
 | .ret a,h=>i a h
 | .ask _ _ _,h=>⟨h.1,h.2.1,λb=>InT.bind i (h.2.2 b)⟩
theorem InT.run{n:Nat}{α:Type}{R:α->Prop}(lt:Nat->Nat->yH):∀ {t:KasT α},InT n R t->R (cA lt t)
 | .ret _,h=>h
 | .ask i j k,h=>InT.run (t:=k (lt i j)) lt (h.2.2 _)
theorem InT.wp{n:Nat}{α:Type}{R:α->Prop}{lt:Nat->Nat->yH}{a:Nat->Nat->(yH->yL->Prop)->yL->Prop}{s:yL}{Q:α->yL->Prop}(b:∀ i j C,i<n->j<n->C (lt i j) s->a i j C s):∀ {t:KasT α},InT n R t->Q (cA lt t) s->t.kasWp a Q s
 | .ret _,_,h=>h
 | .ask i j _,k,h=>b i j _ k.1 k.2.1 (InT.wp b (k.2.2 _) h)
noncomputable def Pm(n:Nat)(p:zj Nat):Prop:=p.Perm (zf n).toArray
section
variable {n:Nat}
theorem Pm.lt{p:zj Nat}(h:Pm n p)(a:0<n)(k:Nat):p.getD k 0<n:=by
 unfold Array.getD
 split
 ·exact AK.mp (h.mem_iff.mp (Array.getElem_mem _) |> λq=>by simpa using q)
 ·exact a
theorem Pm.rev{p:zj Nat}(h:Pm n p)(i j:Nat):Pm n (C1 p i j):=(mirror_perm _ _ _ _).trans h
theorem uO{p:zj Nat}(a:Pm n p)(c:0<n):∀ f m,InT n (λZ=>True) (kas_asc p f m)
 | 0,_=>trivial
 | f+1,m=>⟨a.lt c _,a.lt c _,λb=>by cases b;exact uO a c f (m+1);exact trivial⟩
theorem oi(c:0<n):∀ f (p:zj Nat) m q,Pm n p->InT n (λr=>Pm n r.1) (D6 f p m q)
 | 0,_,_,_,a=>a
 | f+1,p,m,q,a=>⟨a.lt c _,a.lt c _,λb=>by
  cases b with
  | true=>
   show InT n _ (if q > 0 then _ else _)
   split
   ·exact oi c f _ _ _ (a.rev _ _)
   ·exact oi c f _ _ _ a
  | false=>exact⟨a.lt c _,a.lt c _,λb=>by cases b;exact oi c f _ _ _ a;exact a⟩⟩
theorem tL{p:zj Nat}(b:0<n)(m k:Nat)(a:Pm n p):InT n (λr=>Pm n r.2) (kas_tail3 m k p):=InT.bind (n:=n) (T:=λr:Nat×zj Nat=>Pm n r.2) (f:=λk=>.ret (k,C1 p 0 m)) (λZ Z=>a.rev 0 m) (uO (a.rev 0 m) b _ _)
theorem nA{p:zj Nat}(a:0<n)(m k:Nat)(c:Pm n p):InT n (λr=>Pm n r.2) (EE m k p):=(oi a _ _ _ _ c).bind λr b=>by
 show InT n _ (if _ then _ else _)
 split
 ·exact tL a _ _ (b.rev _ _)
 ·exact tL a _ _ b
theorem in_count{p:zj Nat}(c:0<n)(k:Nat)(a:Pm n p):InT n (λr=>Pm n r.2) (kas_count k p):=(uO a c _ _).bind λm Z=>by
 show InT n _ (if _ then _ else _)
 split
 ·exact a
 ·split
  ·exact⟨a.lt c _,a.lt c _,λb=>by cases b;exact nA c _ _ (a.rev _ _);exact a⟩
  ·exact nA c _ _ a
theorem pA{p:zj Nat}(a:Pm n p)(c:0<n)(k:Nat):∀ f l r,InT n (λZ=>True) (kas_place p k f l r)
 | 0,_,_=>trivial
 | f+1,l,r=>by
  show InT n _ (if _ then _ else _)
  split
  ·exact trivial
  ·exact⟨a.lt c _,a.lt c _,λb=>by cases b;exact pA a c k f _ _;exact pA a c k f _ _⟩
theorem xQ(b:0<n):∀ f (p:zj Nat) k,Pm n p->InT n (Pm n) (kas_bin f p k)
 | 0,_,_,a=>a
 | f+1,_,k,a=>(pA a b k _ _ _).bind λZ Z=>xQ b f _ _ ((bubble_perm _ _ _).trans a)
theorem wf(a:0<n):InT n (Pm n) (kas_sort n):=(in_count a n (Array.Perm.refl _)).bind λr b=>by
 show InT n _ (if _ then _ else _)
 split
 ·exact xQ a _ _ _ b
 ·exact b
end
theorem lO(ks:yA D):(kix ks).Perm (zf ks.length):=by
 unfold kix
 split
 ·exact B5.refl _
 ·next h=>exact ((wf (yZ D8 (zU.mp h))).run _).toList
inductive eT(h:Heap):yE->D->Prop where
 | int {a:yN} {i:Int} {t:Tok} {n:Nat} (e:h.get? a=ac (dY #[.bool yz,.int i t] n)):eT h (.ref a) (.int i)
 | str {a:yN} {x:Str} {t:Tok} {n:Nat} (e:h.get? a=ac (dY #[.bool yC,.str x t] n)):eT h (.ref a) (.str x)
theorem eT.keeps{h h':Heap}{k:yE}{d:D}(q:eT h k d)(b:∀ a xs n,h.get? a=ac (dY xs n)->h'.get? a=ac (dY xs n)):eT h' k d:=q.rec (λe=>.int (b _ _ _ e)) λe=>.str (b _ _ _ e)
theorem eT.first{h:Heap}{k:yE}{d:D}(q:eT h k d):∃ a b v n,k=.ref a/\h.get? a=ac (dY #[.bool b,v] n):=q.rec (λe=>⟨_,_,_,_,QQ,e⟩) λe=>⟨_,_,_,_,QQ,e⟩
section
variable {E3:zh} {w:zq} {A:zt} {E:yE->yL->Prop} {s:yL}
theorem oQ{a b:yH}{Q:yH->yL->Prop}(h:Q (!a&&b) s):wpAny (yR E3 w) A (oneLt' yC (.bool a) (.bool b)) Q E s:=by
 rw[oneLt'_eq,yT rfl];refine yG (wpAny_cRoomFor_byValue QQ ?_);refine yG (wpAny_callSpecialIfBound?_slot (typeIs_bool' s a) PySem.F.slot_bool_lt (AN PySem.F.slot_bool_lt (typeIs_bool' s a) PySem.F.entry_int_lt ?_ (PySem.F.args_int_lt_2 _ _)));have e:Bq.«int.__lt__» ⟨[.bool a,.bool b],[]⟩=ret (.bool (!a&&b)):=by cases a <;> cases b <;> rfl
 rw[e];exact yU ⟨_,QQ,wpAny_truthy_bool h⟩
theorem vM{a b:yN}{k:yH}{v u:yE}{n m:Nat}{Q:yH->yL->Prop}{e c:yH}(f:s.heap.get? a=ac (dY #[.bool k,v] n))(i:s.heap.get? b=ac (dY #[.bool k,u] m))(he:Cd A s v u e)(h:Q c s)(h1:e=yC->c=yz)(j:wpAny (yR E3 w) A (B4 .Lt v u) (W.BoolBack Q) (λZ Z=>False) s) :
  wpAny (yR E3 w) A (keyLt' (tuples' yC) (.ref a) (.ref b)) Q E s:=by
 refine kat_lt f QQ i QQ (kat_cons (EqAt.bool_bool _ _ E3 w _ _ ?_));rw[zg];refine kat_yes (kat_cons (he E3 w _ _ ?_));cases e with
 | true=>exact kat_yes (kat_nil (show Q yz s from h1 QQ▸h))
 | false=>exact kat_no (kat_one _ _ j)
theorem key_lt{x y:yE}{c d:D}{Q:yH->yL->Prop}(i:eT s.heap x c)(f:eT s.heap y d)(h:Q (aL c d) s):wpAny (yR E3 w) A (keyLt' (tuples' yC) x y) Q E s:=by
 cases i with
 | int b=>cases f with
  | int a=>exact vM b a (EqAt.int_int _ _ _ _) h (λe=>Ad λq=>zl (eq_of_beq e) (Int.ne_of_lt q)) (PyProof.Rows.lt_int h)
  | str a=>exact kat_lt b QQ a QQ (kat_cons (EqAt.bool_bool _ _ E3 w _ _ (kat_no (oQ h))))
 | str b=>cases f with
  | int a=>exact kat_lt b QQ a QQ (kat_cons (EqAt.bool_bool _ _ E3 w _ _ (kat_no (oQ h))))
  | str a=>exact vM b a (EqAt.str_str _ _ _ _) h (λe=>Ad λq=>zl (y6 (·.cps.toList) (eq_of_beq e)) λr=>List.lt_irrefl _ (r▸q)) (PyProof.Rows.lt_str h)
noncomputable def eS(h:Heap)(E9:yA yE)(ds:yA D):Prop:=E9.length=ds.length/\∀ p∈E9.zip ds,eT h p.1 p.2
theorem eS.snoc{h:Heap}{E9:yA yE}{ds:yA D}{k:yE}{d:D}(K:eS h E9 ds)(b:eT h k d):eS h (E9++[k]) (ds++[d]):=
 ⟨by rw[yY,yY,K.1];rfl,λp a=>by
  rw[List.zip_append K.1] at a;exact (zA.mp a).elim (K.2 p) λq=>y3.mp q▸b⟩
theorem eS.keeps{h h':Heap}{E9:yA yE}{ds:yA D}(K:eS h E9 ds)(b:∀ a xs n,h.get? a=ac (dY xs n)->h'.get? a=ac (dY xs n)):eS h' E9 ds:=⟨K.1,λp c=>(K.2 p c).keeps b⟩
theorem eS.rev{h:Heap}{E9:yA yE}{ds:yA D}(K:eS h E9 ds)(b:yH):eS h (AL b E9) (AL b ds):=by
 cases b with
 | false=>exact K
 | true=>exact⟨by show E9.reverse.length=ds.reverse.length;rw[C3,C3,K.1],λp a=>K.2 p (DG.mp ((List.reverse_zipWith (f:=Prod.mk) K.1)▸a))⟩
theorem eS.at{h:Heap}{E9:yA yE}{ds:yA D}(K:eS h E9 ds){i:Nat}(hi:i<ds.length):eT h (E9.getD i .none) (eB ds i):=by
 have a:i<E9.length:=K.1.symm▸hi;unfold eB;rw[yW,yW,yP a,yP hi];have b:i<(E9.zip ds).length:=by rw[C5,K.1,DP];exact hi
 have q:=K.2 _ (Ay b);rw[List.getElem_zip] at q;exact q
theorem keys_kind{E9:yA yE}{ds:yA D}{Q:SortKind->yL->Prop}(K:eS s.heap E9 ds)(j:2<=ds.length)(h:Q (tuples' yC) s):wpAny (yR E3 w) A (keyKind' E9.toArray) Q E s:=by
 have go:∀ (ks:yA yE),(∀ k∈ks,∃ a b v n,k=.ref a/\s.heap.get? a=ac (dY #[.bool b,v] n))->∃ c:yA yE,KatTups s.heap ks c/\c.length=ks.length/\∀ v∈c,∃ b,v=.bool b:=by
  intro ks
  induction ks with
  | nil=>exact λZ=>⟨[],.nil,QQ,λZ q=>nomatch q⟩
  | cons k ks t=>
   intro f;obtain⟨c,h1,j,m⟩:=t λy q=>f y (zX _ q)
   obtain⟨a,b,v,n,rfl,z⟩:=f k zv;exact⟨.bool b::c,.cons z QQ QQ QQ h1,y6 EA j,λu q=>(yX.mp q).elim (λe=>⟨_,e⟩) (m u)⟩
 obtain⟨c,h1,m,B⟩:=go E9 λk f=>by
  obtain⟨i,o,e⟩:=BK f;have q:=K.at (K.1▸o);rw[yW,yP o,Option.getD_some,e] at q;exact q.first
 refine kat_kind (T:=.type "bool") h1 (by rw[m,K.1];exact yZ D8 j) (λv C=>?_) QQ h
 obtain⟨b,rfl⟩:=B v C;exact .now
end
section
variable {E3:zh} {w:zq} {A:zt} {E:yE->yL->Prop} {s:yL} {a kS:yN} {rev:yH} {vs:yA yE} {ds:yA D} {E9:yA yE} {f:yE} {e e1:Nat} {P:PySem.Fin->yL->Prop}
theorem gE{n m:Nat}(h:n<64)(a:n=m):m<=sizeLine:=by rw[<- a,sizeLine_eq];exact yD (zy h) (by decide)
noncomputable abbrev Kp2(a b:yN)(h h':Heap):Prop:=∀ c o,c≠a->c≠b->gat h c=ac o->gat h' c=ac o
theorem key_tail{st:SortSt}{out:yA yE}(t:(arrOf st).map (·.2)=(AL rev out).toArray)(n:s.heap.get? kS=ac (AD "list" E9.toArray e))(u:s.heap.get? a=ac (AD "list" #[] e1))(i:kS≠a)(hz:E9.length<64)(j:out.length=E9.length)(y:failedOf st=yS)
  (h:∀ h' c,Kp2 a kS s.heap h'->h'.get? a=ac (AD "list" out.toArray c)->P (.done (.ret .none)) { s with heap:=h' }) :
  wpAny (yR E3 w) A (ksk_tail a rev e1 (.ref kS) st) P E s:=by
 have s1:=Heap.SameBut.update s.heap kS (Obj.mapSeq λZ=>(#[]:zj yE))
 have f:(s.heap.update kS (Obj.mapSeq λZ=>(#[]:zj yE))).get? a=ac (AD "list" #[] e1):=(s1.2 a i.symm).trans u
 have z:=Heap.SameBut.update (s.heap.update kS (Obj.mapSeq λZ=>(#[]:zj yE))) a (Obj.mapSeq λZ=>out.toArray)
 have m:=get?_update_seq f λZ=>out.toArray
 delta ksk_tail
 dsimp only;rw[t,kat_outs,show AL rev (AL rev out)=out from by cases rev;rfl;exact DV _,y]
 refine yG (Ek n QQ ?_ (gE hz QQ) (za _));refine yG (wpAny_letGo ?_);refine yG (seqEpoch_at f QQ ?_);refine yG (Ek f QQ ?_ (za _) (zO (gE hz j.symm)));rw[bne_self_eq_false,yV yQ];exact yU (h _ _ (λb o h1 B q=>g1 z (bZ f) b h1 (g1 s1 (bZ n) b B q)) m)
theorem tw{α:Type}{z:α}(l:yA α):(zf l.length).map (λi=>l.getD i z)=l:=by
 apply List.ext_getElem
 ·rw[yI,zJ]
 ·intro i h1 a
  rw[List.getElem_map,List.getElem_range,yW,yP a];rfl
theorem oI{α:Type}{z:α}{b:yH}{ks:yA D}{l:yA α}:(im z b ks l).length=ks.length:=by
 unfold im;rw[BF,yI,(lO _).length_eq,zJ,BF]
theorem key_end(N:s.heap.get? kS=ac (AD "list" E9.toArray e))(O:s.heap.get? a=ac (AD "list" #[] e1))(z:kS≠a)(K:eS s.heap E9 ds)(o:vs.length=ds.length)(hz:ds.length<64)
  (h:∀ h' c,Kp2 a kS s.heap h'->h'.get? a=ac (AD "list" (im .none rev ds vs).toArray c)->P (.done (.ret .none)) { s with heap:=h' }) :
  wpAny (yR E3 w) A (ksk_end a rev vs.toArray e1 (.ref kS) E9.toArray) P E s:=by
 have u:E9.length=vs.length:=K.1.trans o.symm;have n:(AL rev E9).length=(AL rev vs).length:=by rw[BF,BF,u]
 have f:∀ (st:SortSt),failedOf st=yS->(arrOf st).map (·.2)=((kix (AL rev ds)).map λi=>(AL rev vs).getD i Value.none).toArray->wpAny (yR E3 w) A (ksk_tail a rev e1 (.ref kS) st) P E s:=λst B H=>
  key_tail (out:=im .none rev ds vs) (by rw[H];unfold im;cases rev;rfl;exact y6 _ (DV _).symm) N O z (K.1.symm▸hz) (oI.trans K.1.symm) B h
 have step:∀ t:Sem PySem.Fin,wpAny (yR E3 w) A t P E s->wpAny (yR E3 w) A (if rev=yC then (do let _ <- rule "list.sort.reverse";t) else t) P E s:=by
  intro t I
  split
  ·exact yG (Dk I)
  ·exact I
 delta ksk_end
 dsimp only;refine step _ ?_;rw[kat_pairs rev u]
 by_cases m:vs.toArray.size<2
 ·rw[yT m,yT m]
  refine yG (yU ?_);rw[StateT.run_pure];refine yG (yU (f _ QQ ?_));unfold kix;rw[yT (by rw[BF,<- o];exact m),BF,<- o,<- BF rev vs,tw]
  show Array.map (·.2) ((AL rev E9).toArray.zip (AL rev vs).toArray)=_;apply Array.ext';rw[Array.toList_map,ksk_zip];exact List.map_snd_zip (y5 n.symm)
 ·rw[yV m,yV m]
  have b:2<=ds.length:=o▸zU.mp m;refine yG (keys_kind K b ?_);have y:(AL rev vs).length=(AL rev ds).length:=by rw[BF,BF,o]
  refine yG (CM (kat_run (Q:=λst s'=>s'=s/\failedOf st=yS/\(arrOf st).map (·.2)=((kix (AL rev ds)).map λi=>(AL rev vs).getD i Value.none).toArray) (G:=λp s'=>s'=s/\p.toList=kix (AL rev ds)) n (by rw[y,BF];exact b) (by rw[y,BF];exact hz)
   (λp st s' Z m T J=>⟨J.1,T,(kat_snds n m).trans (J.2▸rfl)⟩) ?_) (λr s' q=>?_) λZ Z x=>x)
  ·refine InT.wp (lt:=λi j=>aL (eB (AL rev ds) i) (eB (AL rev ds) j)) (λi j C L M U=>?_) (wf (by rw[y,BF];exact yZ D8 b)) ⟨QQ,?_⟩
   ·rw[y] at L M
    exact key_lt ((K.rev rev).at L) ((K.rev rev).at M) U
   ·unfold kix
    rw[yV (by rw[BF];exact zU.mpr b),y]
  ·obtain⟨⟨⟩,st⟩:=r
   obtain⟨rfl,B,H⟩:=q;exact f st B H
theorem key_rest(T:s.heap.get? kS=ac (AD "list" #[] 0))(U:s.heap.get? a=ac (AD "list" #[] e1))(z:kS≠a)(I:vs.length=ds.length)(hz:ds.length<64)
  (turn:∀ (i:Nat) (v:yE) (d:D),vs[i]?=ac v->ds[i]?=ac d->∀ h tk dw,Kp2 a kS s.heap h ->
   wpAny (yR E3 w) A (call f [v]) (λk s'=>bP { s with heap:=h,toks:=tk,drawn:=dw } s'/\eT s'.heap k d) (λZ Z=>False) { s with heap:=h,toks:=tk,drawn:=dw })
  (h:∀ h' tk dw c,Kp2 a kS s.heap h'->h'.get? a=ac (AD "list" (im .none rev ds vs).toArray c)->P (.done (.ret .none)) { s with heap:=h',toks:=tk,drawn:=dw }) :
  wpAny (yR E3 w) A (ksk_rest a f rev vs.toArray e1 (.ref kS)) P E s:=by
 delta ksk_rest
 refine yG (Dk ?_);rw[List.forIn_toArray];refine yG (ksk_fold (λi s'=>∃ h' tk dw ks e,s'={ s with heap:=h',toks:=tk,drawn:=dw }/\Kp2 a kS s.heap h'/\h'.get? kS=ac (AD "list" (EF ks) e)/\h'.get? a=ac (AD "list" #[] e1)/\eS h' ks (ds.take i)) vs 0 s
  ⟨s.heap,s.toks,s.drawn,[],0,QQ,λZ Z Z Z q=>q,T,U,by rw[List.take_zero];exact⟨QQ,λZ q=>nomatch q⟩⟩ ?step ?done)
 case step=>
  rintro j x s' O ⟨h',tk,dw,ks,e,rfl,m,t,y,K⟩;rw[z6] at K ⊢;have C:j<ds.length:=I▸(List.getElem?_eq_some_iff.mp O).1;have B:ks.length+1<64:=by rw[K.1,CR,Cj (zy C)];exact yO C hz
  refine yG (CY (CM (turn j x ds[j] O (yP C) h' tk dw m) (λv V q=>?_) λZ Z X=>X.elim))
  obtain⟨⟨g,J,L,G⟩,Y⟩:=q;have u:=Heap.of_gt (G _ _ (Heap.gt_of t));have s1:=Heap.SameBut.update g kS (Obj.mapSeq (·.push v));have M:=get?_update_seq u (·.push v);refine yG (Ek u QQ ?_ (gE (zS B) QQ) (zO (gE B (Array.size_push v).symm)));refine yU ⟨QQ,_,J,L,ks++[v],_,QQ,λb o h1 H q=>g1 s1 (bZ u) b H (G b o (m b o h1 H q)),by rw[<- List.push_toArray];exact M,(s1.2 a z.symm).trans (Heap.of_gt (G _ _ (Heap.gt_of y))),?_⟩
  rw[List.take_add_one,yP C];refine ((K.keeps λb xs n q=>Heap.of_gt (G _ _ (Heap.gt_of q))).snoc Y).keeps λb xs n q=>(s1.2 b λr=>?_).trans q
  rw[r,u] at q;exact zl (y6 Obj.cls (yJ q)) (show ¬ Value.type "list"=Value.type "tuple" by decide)
 case done=>
  rintro s' ⟨h',tk,dw,ks,e,rfl,m,t,y,K⟩;rw[z6,I,DF] at K;refine yG (listItems_at t QQ ?_);exact key_end (s:={ s with heap:=h',toks:=tk,drawn:=dw }) t y z K I hz λN c h1 H=>h N tk dw c (λb o n1 n2 q=>h1 b o n1 n2 (m b o n1 n2 q)) H
theorem key_tree{n:Nat}(u:s.heap.get? a=ac (AD "list" vs.toArray n))(z:vs.length=ds.length)(hz:ds.length<64)
  (turn:∀ (i:Nat) (v:yE) (d:D),vs[i]?=ac v->ds[i]?=ac d->∀ h tk dw,(∀ b o,b≠a->gat s.heap b=ac o->gat h b=ac o) ->
   wpAny (yR E3 w) A (call f [v]) (λk s'=>bP { s with heap:=h,toks:=tk,drawn:=dw } s'/\eT s'.heap k d) (λZ Z=>False) { s with heap:=h,toks:=tk,drawn:=dw })
  (h:∀ h' tk dw c,(∀ b o,b≠a->gat s.heap b=ac o->gat h' b=ac o)->h'.get? a=ac (AD "list" (im .none rev ds vs).toArray c)->P (.done (.ret .none)) { s with heap:=h',toks:=tk,drawn:=dw }) :
  wpAny (yR E3 w) A (ksk_tree a f rev) P E s:=by
 have C:a<s.heap.objs.size:=Heap.lt_size u;have s1:=Heap.SameBut.update s.heap a (Obj.mapSeq λZ=>(#[]:zj yE))
 have y:=get?_update_seq u λZ=>(#[]:zj yE)
 have t:((s.heap.update a (Obj.mapSeq λZ=>(#[]:zj yE))).push (AD "tuple" vs.toArray 0)).objs.size=s.heap.objs.size+1:=by rw[size_push',Heap.size_update]
 have j:∀ b o,b≠a->gat s.heap b=ac o->(gat (((s.heap.update a (Obj.mapSeq λZ=>(#[]:zj yE))).push (AD "tuple" vs.toArray 0)).push (AD "list" #[] 0)) b=ac o/\b≠s.heap.objs.size+1):=λb o m q=>
  ⟨Heap.gt_push_of_some _ (Heap.gt_push_of_some _ (g1 s1 (bZ u) b m q)),zC (zT (Heap.gt_lt q))⟩
 delta ksk_tree
 refine yG (listItems_at u QQ ?_);refine yG (Ek u QQ ?_ (gE hz z.symm) (za _));refine yG (seqEpoch_at y QQ ?_);refine yG (wpAny_newTuple ?_ (gE hz z.symm));refine yG (Ei ?_ (za _));refine Bn ?_;exact key_rest (s:={ s with heap:=((s.heap.update a (Obj.mapSeq λZ=>(#[]:zj yE))).push (AD "tuple" vs.toArray 0)).push (AD "list" #[] 0) }) (kS:=((s.heap.update a (Obj.mapSeq λZ=>(#[]:zj yE))).push (AD "tuple" vs.toArray 0)).objs.size)
  (Heap.get?_push_size _ QQ) (Heap.get?_push_of_some _ (Heap.get?_push_of_some _ y)) (by rw[t];exact Dc (zT C)) z hz
  (λi v d G H h tk dw B=>turn i v d G H h tk dw λb o m q=>B b o m (by rw[t];exact (j b o m q).2) (j b o m q).1)
  λh' tk dw c B I=>h h' tk dw c (λb o m q=>B b o m (by rw[t];exact (j b o m q).2) (j b o m q).1) I
end
section
variable {E3:zh} {w:zq} {A:zt} {E:yE->yL->Prop} {s:yL} {l:yN} {rev:yH} {vs:yA yE} {ds:yA D} {f:yE} {Q:yE->yL->Prop}
theorem sorted_key{n:yA (Str×yE)}(G:s.heap.IsList l vs.toArray)(j:vs.length=ds.length)(hz:ds.length<64)
  (z:Dd "sorted" ⟨[.ref l],n⟩) (B:∀ x,Dd "list.sort" ⟨[.ref x],n⟩) (H:∀ x,Bq.«list.sort» ⟨[.ref x],n⟩=ksk_tree x f rev)
  (turn:∀ (i:Nat) (v:yE) (d:D),vs[i]?=ac v->ds[i]?=ac d->∀ h tk dw,KH s.heap h ->
   wpAny (yR E3 w) A.in1.in1 (call f [v]) (λk s'=>bP { s with heap:=h,toks:=tk,drawn:=dw } s'/\eT s'.heap k d) (λZ Z=>False) { s with heap:=h,toks:=tk,drawn:=dw })
  (h:∀ h' tk dw S c,KH s.heap h'->gat s.heap S=yS->(∀ b o,gat s.heap b=ac o->@LT.lt Nat _ b S)->h'.get? S=ac (fT (im .none rev ds vs).toArray c)->Q (.ref S) { s with heap:=h',toks:=tk,drawn:=dw }) :
  wpAny (yR E3 w) A (call (.builtin "sorted") [.ref l] n) Q E s:=by
 refine call_function_entry_kw kind_sorted plain_sorted entry_sorted z ?_;unfold Bq.«sorted»;refine yG (m:=checkCount "sorted" 1 1 _) (yU ?_);refine yG (collect_list G ?_ (gE hz j.symm));refine yG (Ei ?_ (gE hz j.symm));have t:((s.heap.push (AD "list" #[] 0)).update s.heap.objs.size (Obj.mapSeq (·++vs.toArray))).objs.size=s.heap.objs.size+1:=by
  rw[Heap.size_update,size_push']
 have u:(((s.heap.push (AD "list" #[] 0)).update s.heap.objs.size (Obj.mapSeq (·++vs.toArray))).push (AD "list" vs.toArray 0)).get? (s.heap.objs.size+1)=ac (AD "list" vs.toArray 0):=by
  rw[<- t];exact Heap.get?_push_size _ QQ
 have a:∀ b o,gat s.heap b=ac o->gat (((s.heap.push (AD "list" #[] 0)).update s.heap.objs.size (Obj.mapSeq (·++vs.toArray))).push (AD "list" vs.toArray 0)) b=ac o/\b<s.heap.objs.size+1:=λb o q=>
  have y:b<s.heap.objs.size:=Heap.gt_lt q
  ⟨Heap.gt_push_of_some _ (g1 (Heap.SameBut.update ..) (bZ (Heap.get?_push_size _ QQ)) b (zC y) (Heap.gt_push_of_some _ q)),zT y⟩
 show wpAny _ _ _ _ _ { s with heap:=((s.heap.push (AD "list" #[] 0)).update s.heap.objs.size (Obj.mapSeq (·++vs.toArray))).push (AD "list" vs.toArray 0) }
 rw[t];refine yG (Bn (wpAny_call_entry_kw slot_list_sort ⟨_,u,QQ⟩ entry_list_sort ?body (B _)));show wpAny (yR E3 w) A.in1.in1 (Bq.«list.sort» ⟨[.ref (s.heap.objs.size+1)],n⟩) _ _ _;rw[H (s.heap.objs.size+1)];refine key_tree (s:={ s with heap:=((s.heap.push (AD "list" #[] 0)).update s.heap.objs.size (Obj.mapSeq (·++vs.toArray))).push (AD "list" vs.toArray 0) }) (ds:=ds) u j hz
  (λi v d I J h tk dw C=>turn i v d I J h tk dw λb o q=>C b o (zC (a b o q).2) (a b o q).1) λh' tk dw c C L=>⟨_,QQ,?_⟩
 refine yU ⟨_,QQ,h h' tk dw _ c (λb o q=>C b o (zC (a b o q).2) (a b o q).1) ?_ (λb o q=>(a b o q).2) L⟩
 cases q:gat s.heap (s.heap.objs.size+1) with
 | none=>rfl
 | some o=>exact zl (a _ o q).2 (zY _)
end
end Mine
namespace Mine
open PySem
theorem lookup_zip_mem{α:Type}{ns:yA Str}{vs:yA α}(h:ns.length=vs.length){x:Str}(a:x∈ns):∃ v,(ns.zip vs).lookup x=ac v:=by
 induction ns generalizing vs with
 | nil=>nomatch a
 | cons n ns b=>cases vs with
  | nil=>cases h
  | cons v vs=>
   rw[Ba,aU]
   by_cases e:x=n
   ·exact⟨v,yT e⟩
   ·rw[yV e]
    exact b (Am h) ((yX.mp a).resolve_left e)
theorem fm_congr{α b:Type}{f g:α->yK b}{l:yA α}(h:∀ x∈l,f x=g x):l.filterMap f=l.filterMap g:=by
 induction l with
 | nil=>rfl
 | cons a l c=>rw[C2,C2,h a (.head _),c λx i=>h x (.tail _ i)]
theorem filterMap_zip{α:Type}{ns:yA Str}{vs:yA α}(a:ns.Nodup)(h:ns.length=vs.length):ns.filterMap (λn=>((ns.zip vs).lookup n).map (n,·))=ns.zip vs:=by
 induction ns generalizing vs with
 | nil=>rfl
 | cons n ns b=>cases vs with
  | nil=>cases h
  | cons v vs=>
   have a:=AW.mp a;rw[Ba,C2,aU,yT rfl];refine y6 ((n,v)::·) ((fm_congr λx c=>?_).trans (b a.2 (Am h)))
   rw[aU,yV (show ¬ x=n from λe=>a.1 (e▸c))]
theorem jY{fd:FuncData}{vals:yA yE}(h1:fd.params.posonlyargs=[])(h:fd.params.kwonlyargs=[])(i:fd.params.vararg=yS)(j:fd.params.kwarg=yS)(m:fd.defaults=.none)
  (b:(fd.params.args.map (·.arg)).Nodup) (c:(fd.params.args.map (·.arg)).length=vals.length):bindArgs fd ⟨vals,[]⟩=pure ((fd.params.args.map (·.arg)).zip vals):=by
 obtain⟨z,A,⟨B,a,C,E,G,H,I⟩,J,sc,L,M,t,u,N,O,T,U,V,X⟩:=fd;dsimp only at h1 h i j m b c;subst h1 h i j m;have w:(a.map (·.arg)).filter (λn=>(Ea n ((a.map (·.arg)).zip vals)).isNone)=[]:=Cr.mpr λx y e=>
  (lookup_zip_mem c y).elim λv q=>by rw[q] at e;cases e
 refine (yV (λe=>DE (y5 c.symm) (zG (zr.mp e).1))).trans ?_
 have o:∀ k,List.drop k ((yS:yK (zj yE)).getD #[]).toList=[]:=λk=>List.drop_nil
 refine (yV λe=>?_).trans ?_
 ·rw[o] at e
  have s:(!(((a.map (·.arg)).take (a.map (·.arg)).length).filter (λn=>(Ea n ((a.map (·.arg)).zip vals)).isNone)).isEmpty)=yC:=e
  rw[DF,w] at s;cases s
 ·rw[o,List.zip_nil_right]
  exact y6 (pure (f:=Sem)) ((y6 (λl=>l.filterMap λn=>(((a.map (·.arg)).zip vals).lookup n).map (n,·)) (zm (a.map (·.arg)))).trans (filterMap_zip b c))
end Mine
namespace Mine
open PySem PySem.SeqAt PySem.W PyProof.Rows
section
variable {M:Model} {A:zt} {E:yE->yL->Prop} {s:yL}
theorem lam_tail{c:Ci}{body:y4}{scope:A8}{EW:Env}{ps:zj yE}{w:Pos}{a:Nat}{mg:Str->yK yE}{f:yA (Str×yN)}{name:Str}{Q:yE->yL->Prop}
  (U:closureFor scope EW=pure f) (V:f.isEmpty=yz) (y:EW.globals=Ao) (Fo:s.heap.Ns Ao mg) (j:EW.code=.ref oc) (C:CodeHd s.heap oc tb) (z:s.heap.get? tb=ac (tabObj ps)) (X:jt s.heap ps.toList)
  (Y:codeAmong w ps.toList=yS) (T:s.heap.BuiltinsAt mg tb)
  (h:∀ B Z h' tk,KH s.heap h'->iK h' B ->
   Q (.ref h'.objs.size) { s with heap:=h'.push (kla_obj name pd c body scope f ((mg "__name__").getD .none) B Z),toks:=tk }) :
  wpAny M A (makeTail name pd c (.expr body) scope EW .none .none yS w a) Q E s:=by
 have Fg:Ao≠tb:=λq=>by
  have e:=fL Fo (tabObj ps) (q▸z);cases e
 refine Classical.byContradiction λFp=>?_
 obtain⟨FE,FF,Fh,G,_,H,Fi,I,m,n⟩:=T;refine Fp ?_;clear Fp;unfold makeTail;rw[U,y];refine yG (yU ?_);rw[V];simp only[BS,Co];refine yG (wpAny_newTextTuple ?_);refine yG (wpAny_functionCodeX j ((C.keeps λb o e=>Heap.get?_push_of_some _ e).code (Heap.get?_push_of_some _ z) X.triples) ((C.keeps λb o e=>Heap.get?_push_of_some _ e).tab (Heap.get?_push_of_some _ z)) Y λB h' tk Fq Ft Fu EP J Fj L=>?_)
 have N:=(Fo.push _).extBut Fq Fg;have u:Heap.ExtBut tb s.heap h':=λb o Fk e=>Fq b o Fk (Heap.get?_push_of_some _ e)
 have i:iK h' B:=by
  obtain⟨_,_,_,⟨o1,FG,Fs,r2,FH,_⟩,_⟩:=L;obtain⟨c2,o2,vs,t,Fv,Fm,Fw,Fz⟩:=J;cases Fv;exact⟨o1,vs,t,Fs,r2,yJ (Fm.symm.trans Fs)▸Fw,Fz⟩
 have O:KH s.heap h':=λb o e=>(Classical.em (b=tb)).elim (λq=>by
   subst q;rw[Heap.gt_good z ⟨ps,rfl,X⟩] at e;cases e;refine Heap.gt_good Fj.2 ⟨_,QQ,?_⟩;rw[D0];exact jt.snoc _ _ i (X.mono λb o e EP FA=>u b o (λq=>by rw[q,z] at e;cases e;exact FA QQ) e)) λT=>by
   rw[Heap.gt_ne T] at e ⊢;exact u b o T e
 refine yG (wpAny_builtinsFor N Fh G (u _ _ H Fi) I m n ?_);refine yG (wpAny_nsGet N ?_);exact yG (yU (z4 (h B _ h' tk O i) (by size_fits)))
theorem lam_make{c:Ci}{body:y4}{scope:A8}{EW:Env}{ps:zj yE}{n:Pos}{a:Nat}{mg:Str->yK yE}{f:yA (Str×yN)}{name:Str}{Q:yE->yL->Prop}
  (q:closureFor scope EW=pure f) (u:f.isEmpty=yz) (j:EW.globals=Ao) (z:s.heap.Ns Ao mg) (i:EW.code=.ref oc) (C:CodeHd s.heap oc tb) (B:s.heap.get? tb=ac (tabObj ps)) (w:jt s.heap ps.toList)
  (G:s.heap.BuiltinsAt mg tb)
  (h:∀ t m h' tk,KH s.heap h'->iK h' t ->
   Q (.ref h'.objs.size) { s with heap:=h'.push (kla_obj name pd c body scope f ((mg "__name__").getD .none) t m),toks:=tk }) :
  wpAny M A (makeFunction name pd c (.expr body) scope EW [] [] [] n a) Q E s:=by
 cases y:codeAmong n ps.toList with
 | none=>
  rw[makeFunction_eq];simp only[List.zip_nil_right,List.filterMap_nil,List.isEmpty_nil,D5,pure_bind];exact lam_tail q u j z i C B w y G h
 | some J=>
  obtain⟨t,rfl,I⟩:=w.among y;exact kla_makeFunctionHit q j z i C B w.triples y G λm h' tk H Z=>h t m h' tk (Heap.gt_up H) (I.mono λb o e Z Z=>H b o e)
end
section
variable {E3:zh} {w:zq} {A:zt} {s:yL}
noncomputable abbrev pe(scope:A8)(L:yN)(a:yA (Str×yN))(f c':yN):Env:=newEnv scope L Ao a (pd++".<locals>.") (ac f) (.ref c') yS Es
theorem lam_call{f c':yN}{a:Ci}{body:y4}{scope:A8}{c:yA (Str×yN)}{C i v:yE}{x name:Str}{Q:yE->yL->Prop}{E:yE->yL->Prop}
  (N:s.heap.get? f=ac (kla_obj name pd a body scope c C c' i)) (O:iK s.heap c') (u:s.heap.NoLimit) (j:A.depth<BO)
  (h1:a.posonlyargs=[]) (T:a.kwonlyargs=[]) (U:a.vararg=yS) (V:a.kwarg=yS) (G:a.args.map (·.arg)=[x])
  (X:scope.kind=.function) (H:scope.isCoroutine=yz) (z:scope.isGenerator=yz) (m:∀ p∈scope.names,p.2≠.cell) (Y:scope.names.lookup x=ac .local)
  (h:∀ EU tk,EU.Ns s.heap.objs.size (λy=>[(x,v)].lookup y)->(KH s.heap EU) ->
   wpAny (yR E3 w) (A.deeper (pe scope s.heap.objs.size c f c')) (zF body (pe scope s.heap.objs.size c f c')) Q (λEP EP=>False) { s with heap:=EU,toks:=tk }) :
  wpAny (yR E3 w) A (call (.ref f) [v]) Q E s:=by
 obtain⟨I,vs,t,e1,Fh,Z,Fg⟩:=O;refine wpAny_call (kla_callFunE j N QQ H z QQ ⟨c',I,vs,t,QQ,e1,Z,Fg⟩ ?_);have n:bindArgs (kla_fn name pd a body scope c C (.ref c') i) ⟨[v],[]⟩=pure [(x,v)]:=by
  have q:=jY (fd:=kla_fn name pd a body scope c C (.ref c') i) (vals:=[v]) h1 T U V QQ (by show (a.args.map (·.arg)).Nodup;rw[G];exact AW.mpr ⟨nofun,List.nodup_nil⟩) (by show (a.args.map (·.arg)).length=_;rw[G];rfl)
  have q2:bindArgs (kla_fn name pd a body scope c C (.ref c') i) ⟨[v],[]⟩=pure ((a.args.map (·.arg)).zip [v]):=q;rw[G] at q2;exact q2
 rw[n];refine yU (wpAny_newFunctionEnv m (λy M=>?_) (λEU J B=>⟨u.fresh _ B,?_⟩) X)
 ·simp only[yX,zK,Bf] at M
  subst M;exact Y
 ·refine kla_codeExpr (CM (h EU _ J λb o e=>?_) (λv s' q=>q) λEP EP q=>q.elim)
  have L:(s.heap.push { cls:=.type "frame",data:=.dict #[] }).get? s.heap.objs.size=ac { cls:=.type "frame",data:=.dict #[] }:=Heap.get?_push_size _ QQ;exact g1 B (bZ L) b (zC (Heap.gt_lt e)) (Heap.gt_push_of_some _ e)
theorem lam_env{h EU:Heap}{EW:Env}{m:Str->yK yE}{scope:A8}{x:Str}{v:yE}{f c':yN}(R:bK h EW m)(s:EU.Ns h.objs.size (λy=>[(x,v)].lookup y))(keep:KH h EU)
  (t:scope.kind=.function) (i:∀ p∈scope.names,p.2≠.cell) (j:∀ p∈scope.names,p.2=.free->EW.kindOf p.1=ac .cell\/EW.kindOf p.1=ac .free) (n:mA (λy=>scope.names.lookup y)=yz) :
  bK EU (pe scope h.objs.size (gu EW.cells scope.names []) f c') (λy=>if scope.names.lookup y=ac .free then m y else [(x,v)].lookup y):=by
 have a:∀ y c,(gu EW.cells scope.names []).lookup y=ac c->EW.cells.lookup y=ac c:=gt _ _ (λZ Z e=>by simp at e)
 refine⟨t,QQ,QQ,⟨_,s,λy hy=>?_⟩,λy hy=>?_,λy z c e1 u=>R.inj y z c (a y c e1) (a z c u),λy c e q=>?_,λy c e=>?_,λb=>?_⟩
 ·have hy:scope.names.lookup y=ac .local:=hy
  rw[hy,yV (by nofun)]
 ·have hy:scope.names.lookup y=ac .cell\/scope.names.lookup y=ac .free:=hy
  rcases hy with hy | hy
  ·exact zl QQ (i _ (mem_of_lookup hy))
  ·obtain⟨c,w,q2⟩:=R.cell y (j _ (mem_of_lookup hy) QQ)
   exact⟨c,iD w _ _ (.inl (mem_of_lookup hy)),by rw[yT hy];exact Cell.keepAt q2 (keep _)⟩
 ·obtain⟨o,b⟩:=R.ex y c (a y c e)
  have h1:=Heap.gt_lt b;have q:@Eq Nat c h.objs.size:=q;exact om49 h1 q
 ·obtain⟨o,b⟩:=R.ex y c (a y c e)
  exact⟨o,keep _ _ b⟩
 ·have b:mA (λy=>scope.names.lookup y)=yC:=b
  rw[n] at b;cases b
end
theorem keysD_inv{g:D->yK D}{d:D}{r ks:yA D}{C:Prop}(h:jk g (d::r)=ac ks)(k:∀ k c b,g d=ac k->uL k=ac c->jk g r=ac b->c::b=ks->C):C:=
 bH (a:=g d) (f:=λk=>oE (uL k) λc=>(jk g r).map λl=>c::l) h λx i h=>bH h λc j h=>bM h λb m e=>k x c b i j m e
theorem keysD_at{g:D->yK D}{ds ks:yA D}(h:jk g ds=ac ks):ks.length=ds.length/\∀ (i:Nat) c,ks[i]?=ac c->∃ d k,ds[i]?=ac d/\g d=ac k/\uL k=ac c:=by
 induction ds generalizing ks with
 | nil=>cases h;exact⟨QQ,λi c e=>by rw[Dm] at e;cases e⟩
 | cons d r a=>exact keysD_inv h λk c j h1 m b e=>e▸⟨y6 EA (a b).1,λi n f=>by
   cases i with
   | zero=>exact⟨d,k,QQ,h1,yJ f▸m⟩
   | succ i=>exact (a b).2 i n f⟩
theorem keyD_inv{k c:D}(h:uL k=ac c):k=.tup [.bool (dM c),c]/\c.isCell=yC:=by
 cases k with
 | tup l=>
  cases l with
  | nil=>cases h
  | cons x l=>
   cases x with
   | bool b=>
    cases l with
    | nil=>cases h
    | cons y l=>
     cases l with
     | nil=>exact cK h λa e=>yJ e▸bQ a λh1 f=>⟨by rw[eq_of_beq f],h1⟩
     | cons=>cases h
   | _=>cases h
 | _=>cases h
theorem al.rev{P:zH}{h:Heap}{H:yN->Prop}{vs:yA yE}{ds:yA D}(r:al P h H vs ds):al P h H vs.reverse ds.reverse:=
 List.rec (motive:=λds=>∀ l,al P h H l ds->al P h H l.reverse ds.reverse) (λl r=>by rw[show l=[] from r];rfl) (λZ Z a Z r=>dP.rec (λh1 b=>by rw[Er,Er];exact (a _ b).append (.cons h1 .nil)) r) ds vs r
theorem al.kat{P:zH}{h:Heap}{H:yN->Prop}{vs:yA yE}{ds:yA D}(r:al P h H vs ds)(b:yH):al P h H (AL b vs) (AL b ds):=by
 cases b with
 | false=>exact r
 | true=>exact r.rev
theorem repAll_of{P:zH}{h:Heap}{H:yN->Prop}{vs:yA yE}{ds:yA D}(r:al P h H vs ds)(L:yA Nat)(a:∀ j∈L,j<ds.length):al P h H (L.map λp=>vs.getD p .none) (L.map λj=>ds.getD j .none):=by
 induction L with
 | nil=>rfl
 | cons j L c=>
  have b:=a j (.head _);refine .cons ?_ (c λk f=>a k (.tail _ f))
  obtain⟨m,i,q2⟩:=r.get j (yP b);show Rep P h H (vs.getD j .none) (ds.getD j .none);rw[yW,yW,i,yP b];exact q2
theorem repAll_srt{P:zH}{h:Heap}{H:yN->Prop}{vs:yA yE}{ds ks:yA D}(r:al P h H vs ds)(a:ks.length=ds.length)(b:yH):al P h H (im .none b ks vs) (im .none b ks ds):=
 (repAll_of (r.kat b) _ λj c=>by rw[BF,<- a,<- BF b ks];exact AK.mp ((lO _).mem_iff.mp c)).kat b
theorem key_of{h:Heap}{P:zH}{H:yN->Prop}{k:yE}{c:D}(r:Rep P h H k (.tup [.bool (dM c),c]))(m:c.isCell=yC):eT h k c:=by
 refine r.tupE λa vs n b Z Z o=>?_
 obtain⟨vs⟩:=vs;cases o with
 | mk h1 f=>cases f with
  | mk f j=>
   have j:_=[]:=j;subst j;have h1:_=Value.bool _:=h1;subst h1;cases c with
   | int i=>
    refine ym.casesOn (motive:=λv Z=>h.get? a=ac (dY #[.bool yz,v] n)->eT h (.ref a) (.int i)) f (λt b=>.int b) b
   | str x=>
    refine yl.casesOn (motive:=λv Z=>h.get? a=ac (dY #[.bool yC,v] n)->eT h (.ref a) (.str x)) f (λt b=>.str b) b
   | _=>cases m
section
variable {E3:zh} {w:zq} {A:zt} {s:yL} {E6:Heap} {mg mb:Str->yK yE} {cf:CF}
theorem ri{h:Heap}{H:yN->Prop}(G:GOk mg mb E6)(i:HOk E6 h H):CodeHd h oc tb/\h.BuiltinsAt mg tb/\∃ ps,h.get? tb=ac (tabObj ps)/\jt h ps.toList:=by
 obtain⟨c1,c2,t,u,w,y,z,A,B,C,E,j⟩:=G.lam;refine⟨?_,⟨t,u,w,y,z,A,Heap.of_gt (i.keep _ _ (Heap.gt_of B (cG (by rw[j];nofun)))) (cG (by rw[j];nofun)),C,E,j⟩,?_⟩
 ·obtain⟨o,vs,b,I,a,J,m,c,L,e1,M,r⟩:=CodeHd.of c1 c2
  have f:oc≠tb:=r.2.2.2.2.2.2.2;have n:gat E6 oc=ac o:=by rw[Heap.gt_ne f];exact e1
  have s:=i.keep _ _ n;rw[Heap.gt_ne f] at s;exact⟨o,vs,b,I,a,J,m,c,L,s,M,r⟩
 ·obtain⟨O,N,⟨_,q⟩ | ⟨_,_,xs,q,q2⟩⟩:=Heap.gt_some (i.keep _ _ (Heap.gt_good c2.2 jp.empty))
  ·cases q QQ
  ·subst q;exact⟨xs,N,q2⟩
theorem lamVar{k a:KD}{b:y4}{f x p:yF}(h:aI a b (.call f [.sub (.u x) (.u p)])=yC)(c:k (yB p)=ac .cell\/k (yB p)=ac .free):gI k (yB p)=yC:=
 rC.rec (motive:=λZ Z=>gI k (yB p)=yC) (λ{q i j} _ h=>by
  cases i with
  | nil=>cases h
  | cons e es=>exact bQ h λh Z=>ISub.rec (motive:=λZ Z=>gI k (yB p)=yC) (λZ Z h=>um.rec (motive:=λZ Z=>gI k (yB p)=yC) (λm=>qs m λZ n r2 o=>zr.mpr ⟨zr.mpr ⟨zr.mpr ⟨c.elim (λe=>by rw[e];rfl) λe=>by rw[e];rfl,n⟩,r2⟩,o⟩) (iX h)) (oh h)) (lR h)
theorem lamAt_keepG{h h':Heap}{c:yN}(x:iK h c)(a:c≠tb)(b:KH h h'):iK h' c:=
 x.elim λo x=>x.elim λvs x=>x.elim λt x=>⟨o,vs,t,(Heap.gt_ne a).symm.trans (b _ _ ((Heap.gt_ne a).trans x.1)),x.2⟩
structure KwOk(fa:yN)(rev:yH)(kw:yA (Str×yE)):Prop where
 a1:∀ la,Dd "sorted" ⟨[.ref la],kw⟩
 a2:∀ x,Dd "list.sort" ⟨[.ref x],kw⟩
 t:∀ x,Bq.«list.sort» ⟨[.ref x],kw⟩=ksk_tree x (.ref fa) rev
inductive rA(mg:Str->yK yE)(ps:Ci)(b:y4)(sc:A8)(EW:Env)(fa:yN)(h:Heap):Prop
 | mk {c' ctv} (ho:h.get? fa=ac (kla_obj "<lambda>" pd ps b sc (gu EW.cells sc.names []) ((mg "__name__").getD .none) c' ctv)) (hl:iK h c'):rA mg ps b sc EW fa h
structure ul(k:KD)(ps:Ci)(sc:A8)(x p:Str):Prop where
 o1:ps.posonlyargs=[]
 o2:ps.kwonlyargs=[]
 o3:ps.vararg=yS
 o4:ps.kwarg=yS
 o5:ps.defaults=[]
 o6:ps.kw_defaults=[]
 o7:ps.args.map (·.arg)=[x]
 o8:sc.kind=.function
 o9:sc.isCoroutine=yz
 o10:sc.isGenerator=yz
 o12:sc.names.lookup x=ac .local
 cell:∀ p∈sc.names,p.2≠.cell
 free:∀ p∈sc.names,p.2=.free->k p.1=ac .cell\/k p.1=ac .free
 o14:mA k=yC
 o15:mA (λy=>sc.names.lookup y)=yz
 o16:sc.names.lookup p=ac .free
theorem notB{b:yH}(h:(!b)=yC):b=yz:=by
 cases b with
 | false=>rfl
 | true=>cases h
theorem tz{k:KD}{ps:Ci}{sc:A8}{x p:Str}(h:tm k ps sc x p=yC):ul k ps sc x p:=
 iI h λh1 c f=>and6 h1 λa1 a2 a3 a4 i j=>qq c λm n o s t=>qs f λc1 c2 c3 u=>
  have a:∀ p∈sc.names,p.2≠.cell/\(p.2=.free->k p.1=ac .cell\/k p.1=ac .free):=λp b=>bQ (zk.mp c1 p b) λw d2=>⟨CN.mp w,λe=>(AV.mp d2).elim (λd2=>(AV.mp d2).elim (λq=>zl e (CN.mp q)) λq=>.inl (eq_of_beq q)) λq=>.inr (eq_of_beq q)⟩
  ⟨z8.mp a1,z8.mp a2,AX.mp a3,AX.mp a4,z8.mp i,z8.mp j,eq_of_beq m,eq_of_beq n,notB o,notB s,eq_of_beq t,λp b=>(a p b).1,λp b=>(a p b).2,c2,notB c3,eq_of_beq u⟩
section
variable {EW:Env} {m:Str->yK yE} {H:yN->Prop} {ρ:yA (yF×D)} {ns:yA yF} {E:yE->yL->Prop} {ps:Ci} {b:y4} {sc:A8} {x p f:yF} {lp:Pos}
theorem lam_eval(G:GOk mg mb E6){Q:yE->yL->Prop}(O:ul EW.kindOf ps sc (yB x) (yB p))(c:Cc w E6 s EW H ρ m ns)(k:∀ f B,bP s f->rA mg ps b sc EW B f.heap->Q (.ref B) f):wpAny (yR E3 w) A (zF (.Lambda ps b sc lp) EW) Q E s:=by
 obtain⟨n,t,U,u,y⟩:=ri G c.hw;obtain⟨h,i⟩:=c.R.lam O.o14;have j:defaultsOf ps EW=([],[]):=by
  obtain⟨V,q2,C,X,I,Y,J⟩:=ps;have L:J=[]:=O.o5;have M:I=[]:=O.o6;rw[L,M];rfl
 refine kla_eval j ?_;rw[i];refine lam_make (name:="<lambda>") (kP λq hq e=>(c.R.cell q.1 (O.free q hq e)).elim λa r=>⟨a,r.1⟩) ?_ c.R.glob (Ns.keepAt G.g (c.hw.keep _)) h n u y t λZ N h' tk z T=>k _ _ (.mk _ _ s.drawn λb o e=>Heap.gt_push_of_some _ (z b o e)) ⟨Heap.get?_push_size _ QQ,T.mono λb o e EP EP=>Heap.get?_push_of_some _ e⟩
 obtain⟨a,q,_⟩:=c.R.cell (yB p) (O.free _ (mem_of_lookup O.o16) QQ);have q2:=iD q sc.names [] (.inl (mem_of_lookup O.o16));cases C:gu EW.cells sc.names [] with
 | nil=>rw[C] at q2;cases q2
 | cons _ _=>rfl
theorem lam_key(G:GOk mg mb E6)(C:eU E3 w E6 mg cf A)(U:qf A)(O:ul EW.kindOf ps sc (yB x) (yB p))(Fg:aI (λy=>sc.names.lookup y) b (.call f [.sub (.u x) (.u p)])=yC){i V c d:D}{v t:yE}{n:yN}(u:aV d i=ac V){fr:yH}(B:cf.call f [V]=ac (.tup [.bool (dM c),c],fr))(E:c.isCell=yC)
  (R:bK s.heap EW m) (X:HOk E6 s.heap H) (I:m (yB p)=ac t) (Fh:Rep w.params s.heap H t i) (Fi:Rep w.params s.heap H v d) (L:rA mg ps b sc EW n s.heap) :
  wpAny (yR E3 w) A.in1.in1 (call (.ref n) [v]) (λk s'=>bP s s'/\eT s'.heap k c) (λEP EP=>False) s:=L.rec λ{c' Fj} Fk Fm=>by
 refine lam_call Fk Fm (NoLimit.keepG G.lim X.keep) (yO (y9 _ _) U.depth) O.o1 O.o2 O.o3 O.o4 O.o7 O.o8 O.o9 O.o10 O.cell O.o12 λEU h J a=>?_
 have o:=lam_env (f:=n) (c':=c') R J a O.o8 O.cell O.free O.o15;have Fo:uk A (A.in1.in1.deeper (pe sc s.heap.objs.size (gu EW.cells sc.names []) n c')):=⟨QQ,y0 _,zu (by decide:5<=10) A.units⟩
 have M:(A.in1.in1.deeper (pe sc s.heap.objs.size (gu EW.cells sc.names []) n c')).units+1<A9:=yO (zu (by decide:6<=20) A.units) U.units
 have N:(p == x)=yz:=beq_false_of_ne λq=>nomatch (q▸O.o12).symm.trans O.o16
 have Y:[(x,d),(p,i)].lookup x=ac d:=by rw[y7,zg]
 have Z:[(x,d),(p,i)].lookup p=ac i:=by rw[y7,N,y7,zg]
 have T:evF cf [(x,d),(p,i)] (.call f [.sub (.u x) (.u p)])=ac (.tup [.bool (dM c),c],fr):=by
  rw[lX,pL,xY,gZ,gZ,Y,Z];dsimp only;rw[u];exact B
 refine bG (ve G (C.at Fo) (sY (xi M (uB x) (uB p)) vf) { s with heap:=EU,toks:=h } _ b H [(x,d),(p,i)] _ _ fr (λEP EP=>False) Fg ⟨o,X.keeps a,λz Fp Fq Fs j=>?_⟩ T) λFt s' q=>⟨Kp.trans (.mk EU h _ a) q.post.k,key_of q.post.r E⟩
 refine fI (show z∈[x,p] from Fp) (λe=>?_) λe=>?_
 ·subst e
  rw[Y] at j;exact⟨v,(yV (by rw[O.o12];nofun)).trans (by rw[y7,zg]),yJ j▸Fi.keeps a⟩
 ·subst e
  rw[Z] at j;exact⟨t,(yT O.o16).trans I,yJ j▸Fh.keeps a⟩
theorem rowKey_inv{i d k:D}{C:Prop}(h:gR cf f i d=ac k)(K:∀ c fr,aV d i=ac c->cf.call f [c]=ac (k,fr)->C):C:=
 bH (a:=aV d i) (f:=λc=>(cf.call f [c]).map λ(r:D×yH)=>r.1) h λc b h=>bM h λr j e=>K c r.2 b (j.trans (y6 ac (EG e QQ)))
theorem lam_ct{a:yN}{h h':Heap}{E6:Heap}{mg mb:Str->yK yE}(G:GOk mg mb E6)(j:HOk E6 h H)(L:rA mg ps b sc EW a h)(c:KH h h'):rA mg ps b sc EW a h':=L.rec λ{t m} n f=>
 ⟨Heap.of_gt (c _ _ (Heap.gt_of n (cG nofun))) (cG nofun),lamAt_keepG f (λq=>by
  obtain⟨_,_,o,e,_⟩:=ri G j;obtain⟨_,_,_,i,s,_⟩:=f;rw[q,e] at i;cases i;cases s) c⟩
theorem srt_call(G:GOk mg mb E6)(C:eU E3 w E6 mg cf A)(Fk:qf A)(O:ul EW.kindOf ps sc (yB x) (yB p))(Fm:aI (λy=>sc.names.lookup y) b (.call f [.sub (.u x) (.u p)])=yC){i:D}{Fh v:yE}{T:yN}{rev:yH}{Fi:yA (Str×yE)}{ds:yA D}(hz:ds.length<64){J:yA D}(M:jk (gR cf f i) ds=ac J)
  (R:bK s.heap EW m) (U:HOk E6 s.heap H) (V:m (yB p)=ac Fh) (Fo:Rep w.params s.heap H Fh i) (r:Rep w.params s.heap H v (.list ds)) (L:rA mg ps b sc EW T s.heap) (K:KwOk T rev Fi) :
  wpAny (yR E3 w) A (call (.builtin "sorted") [v] Fi) (cC w s H (.list (im .none rev J ds)) yC) E s:=r.listE λFp vs n X FA Fq N=>by
 have B:=keysD_at M;refine sorted_key (vs:=vs.toList) (ds:=J) (f:=.ref T) (rev:=rev) (aT X) (N.length.trans B.1.symm) (B.1.symm▸hz) (K.a1 Fp) K.a2 K.t (λj v c Fs Ft h tk dw u=>?_) λh' tk dw S cc u I Y Fu=>?_
 ·obtain⟨FE,k,Fv,Fj,Z⟩:=B.2 j c Ft
  have e:=keyD_inv Z;rw[e.1] at Fj;obtain⟨FF,Fw,q2⟩:=N.get j Fv;refine rowKey_inv Fj λFG fr h1 Fz=>lam_key (s:={ s with heap:=h,toks:=tk,drawn:=dw }) G C Fk O Fm h1 Fz e.2 (R.keeps u) (U.keeps u) V (Fo.keeps u) (yJ (Fw.symm.trans Fs)▸q2.keeps u) (lam_ct G U L u)
 ·have Fg:∀ q:H S,False:=λq=>(U.ex S q).elim λb z=>z.elim λo z=>zY _ (yO z.1 (Y b o z.2))
  have Fb:jg w.params h' H S (im .none rev J ds):=⟨Fu,by rw[oI,B.1];exact Fq,(repAll_srt N B.1 rev).mono (λa o EP e=>u a o e) λb o e q=>q.elim id λq=>cx e (q▸I)⟩
  exact⟨.mk h' tk dw u,Fb.rep Fg,λEP=>⟨I,Fb⟩⟩
theorem evi_srt{a:ME}{rev:yH}{d:D}{C:Prop}(h:evE cf ρ (.srt a f x p rev)=ac d)(k:∀ ds i b,evE cf ρ a=ac (.list ds)->ρ.lookup p=ac i->ds.length<64->jk (gR cf f i) ds=ac b->.list (im .none rev b ds)=d->C):C:=
 bH (a:=evE cf ρ a) (f:=λx=>oE (ρ.lookup p) λi=>srtD (gR cf f i) rev x) h λc j h=>bH h λi m h=>by
  cases c with
  | list ds=>exact cK h λn h=>bM h λb o e=>k ds i b j m n o e
  | _=>exact aj h
theorem kw_inv{ks:yA Keyword}{rev:yH}{C:Prop}(h:IKw EW.kindOf f x p rev ks)(k:∀ ps b sc lp,ul EW.kindOf ps sc (yB x) (yB p)->aI (λy=>sc.names.lookup y) b (.call f [.sub (.u x) (.u p)])=yC ->
  (∀ (a:Pos) (M:Model) (A:zt) (s:yL) (E:yE->yL->Prop) (Q:yA yE->yL->Prop),wpAny M A (zF (.Lambda ps b sc lp) EW) (λv s'=>∃ i,v=.ref i/\∀ c,KwOk i rev (((backToKw a (keywordEach ks EW)).filterMap (·.1)).zip c)->Q c s') E s->wpAny M A (evalAll ((backToKw a (keywordEach ks EW)).map (·.2))) Q E s) ->
  (∀ a,(backToKw a (keywordEach ks EW)).all (·.1.isSome)=yC/\(backToKw a (keywordEach ks EW)).any (·.1.isNone)=yz)->C):C:=by
 cases h with
 | up h1 j=>exact k _ _ _ _ (tz h1) (ub j) (λa M A s E Q h=>kws_cons (bG h λv s' q=>q.elim λi q=>kws_nil (q.1▸q.2 _ ⟨λZ=>ksk_s1 _ _,λZ=>ksk_l1 _ _,λZ=>ksk_t1 _ _⟩))) λa=>⟨QQ,QQ⟩
 | down h1 j=>exact k _ _ _ _ (tz h1) (ub j) (λa M A s E Q h=>kws_cons (bG h λv s' q=>q.elim λi q=>kws_cons (Constant_bool (kws_nil (q.1▸q.2 _ ⟨λZ=>ksk_s2 _ _ _,λZ=>ksk_l2 _ _ _,λZ=>ksk_t2 _ _ _⟩))))) λa=>⟨QQ,QQ⟩
end
theorem sf_srt(G:GOk mg mb E6)(C:eU E3 w E6 mg cf A)(N:qf A){a:ME}{f x p:yF}{rev:yH}(T:SE E3 w A E6 cf a):SF E3 w A E6 cf (.srt a f x p rev):=λs EW e H ρ m d fr E U c he=>
 fJ he QQ λhe V=>evi_srt he λds i X Y Z t n Fg=>ISrt.rec (motive:=λe EP=>wpAny (yR E3 w) A (zF e EW) (cC w s H d fr) E s) (λ{Fh y ks j} Fi z Fj=>kw_inv Fj λps b sc lp O B Fk hall=>by
  have o:backTo j (BY [y] EW)=[(yz,zF y EW)]:=by rw[fQ (wV z),iG];rfl
  obtain⟨Fq,u,Fm⟩:=c.hn p (by rw[xA];exact zQ _ (.head _)) (lamVar B (O.free _ (mem_of_lookup O.o16) QQ)) i Z
  refine yG (m:=zF (.Name (yB "sorted") Fh) EW) (fm G (f:="sorted") (by decide) c.R c.hw Fi ?_)
  refine callWith_kw (id:="sorted") ?_ (he:=by rw[o];rfl) (hplain:=by rw[o];rfl) (hall:=(hall j).1) (hkw:=(hall j).2)
  rw[o];refine Calls.spliced_cons (T.go z (c.sub λEP t=>by rw[xA];exact Ap _ t) Y λl I h=>Calls.spliced_nil (Fk j _ _ _ _ _ (lam_eval G O (c.k h.k) λJ Fo k2 L=>⟨Fo,QQ,λFp K=>?_⟩)))
  have c2:=(c.k h.k).k k2;exact bG (srt_call G C N O B t n c2.R c2.hw u ((Fm.keeps (Kp.heap h.k)).keeps (Kp.heap k2)) (h.r.keeps (Kp.heap k2)) L K) λv M q=>Fg▸V▸q.tr (Kp.trans h.k k2)) (vX U)
end
end Mine
namespace Mine
open PySem PySem.SeqAt
section
variable {E3:zh} {w:zq} {A:zt} {s:yL} {E6:Heap} {mg mb:Str->yK yE} {cf:CF}
theorem sS{j:ME}(h:SE E3 w A E6 cf j)(u:∀ e k EW a,aI k e j=yC->B8 e EW a=(do let v <- a;standAt e.pos;holding [v] (truthy v))):ST E3 w A E6 cf j:=λs EW e H ρ m d t E n c y z=>
 PyProof.Rows.isTrue_plain (h.go n c y λv o f=>bG (ij f.r z) λb q i=>i.tr f.k) (u e _ EW _ n)
theorem sb_nil:SB E3 w A E6 cf []:=λs EW es f a H ρ m d E h c b=>aj b
theorem sb_one{a:ME}(y:SE E3 w A E6 cf a)(q:ST E3 w A E6 cf a):SB E3 w A E6 cf [a]:=λs EW es n i H ρ m d E z c o=>
 iE (C:=λes=>wpAny (yR E3 w) A (zF (.BoolOp n es i) EW) (bz w s H d) E s/\∀ t h,bU d=ac t->wpAny (yR E3 w) A (B8 (.BoolOp n es i) EW h) (eR s t) E s) z λe es h1 B=>by
  have G:es=[]:=z8.mp B;subst G;refine⟨PyProof.Rows.BoolOp_one (y s EW e H ρ m d E h1 c.l o),λt h u=>?_⟩
  cases n with
  | And=>exact PyProof.Rows.isTrue_and (bG (q s EW e H ρ m d t E h1 c.l o u) λb j f=>by
    cases b with
    | true=>exact PyProof.Rows.isTrue_and_nil f
    | false=>exact f)
  | Or=>exact PyProof.Rows.isTrue_or (bG (q s EW e H ρ m d t E h1 c.l o u) λb j f=>by
    cases b with
    | true=>exact f
    | false=>exact PyProof.Rows.isTrue_or_nil f)
theorem sb_cons{a b:ME}{r:yA ME}(V:SE E3 w A E6 cf a)(X:ST E3 w A E6 cf a)(Z:SB E3 w A E6 cf (b::r)):SB E3 w A E6 cf (a::b::r):=λs EW es B J H ρ m d E Fg c Fh=>
 evi_bop Fh λx N O G T=>iE (C:=λes=>wpAny (yR E3 w) A (zF (.BoolOp B es J) EW) (bz w s H d) E s/\∀ t u,bU d=ac t->wpAny (yR E3 w) A (B8 (.BoolOp B es J) EW u) (eR s t) E s) Fg λe es h1 Y=>by
  have E2:∀ i,bP s i->gJ cf ρ B (b::r)=ac d->_:=λi (k:bP s i) (h:gJ cf ρ B (b::r)=ac d)=>Z i EW es B J H ρ m d E Y (c.r.k k) h
  have U:∃ L z,es=L::z:=iE (C:=λes=>∃ L z,es=L::z) Y λL z EP EP=>⟨L,z,QQ⟩
  obtain⟨L,z,rfl⟩:=U;have go:∀ {v:yE} {i o:yL} {c:yH},bz w s H x v i->eR i N c o->c=sN B->bz w s H d v o:=λf j e=>⟨Kp.trans f.k j.k,(yJ ((yT (j.e.symm.trans e)).symm.trans T))▸f.r.keeps (Kp.heap j.k)⟩
  have y:∀ {c:yH},c=N->c≠sN B->gJ cf ρ B (b::r)=ac d:=λe n=>(yV (e▸n)).symm.trans T
  have I:∀ {c t:yH},c=N->c=sN B->bU d=ac t->c=t:=λe n M=>e.trans (yJ (G.symm.trans ((y6 bU (yJ ((yT (e.symm.trans n)).symm.trans T))).trans M)))
  refine⟨?_,λt u M=>?_⟩
  ·cases B with
   | And=>exact PyProof.Rows.BoolOp_and (V.go h1 c.l O λv i f=>bG (ij f.r G) λc o j=>by
     cases c with
     | true=>exact bG (E2 o (Kp.trans f.k j.k) (y j.e nofun)).1 λEP EP q=>q.tr (Kp.trans f.k j.k)
     | false=>exact go f j QQ)
   | Or=>exact PyProof.Rows.BoolOp_or (V.go h1 c.l O λv i f=>bG (ij f.r G) λc o j=>by
     cases c with
     | false=>exact bG (E2 o (Kp.trans f.k j.k) (y j.e nofun)).1 λEP EP q=>q.tr (Kp.trans f.k j.k)
     | true=>exact go f j QQ)
  ·cases B with
   | And=>exact PyProof.Rows.isTrue_and (bG (X s EW e H ρ m x N E h1 c.l O G) λc i f=>by
     cases c with
     | true=>exact bG ((E2 i f.k (y f.e nofun)).2 t u M) λEP EP q=>q.tr f.k
     | false=>exact⟨f.k,I f.e QQ M⟩)
   | Or=>exact PyProof.Rows.isTrue_or (bG (X s EW e H ρ m x N E h1 c.l O G) λc i f=>by
     cases c with
     | false=>exact bG ((E2 i f.k (y f.e nofun)).2 t u M) λEP EP q=>q.tr f.k
     | true=>exact⟨f.k,I f.e QQ M⟩)
theorem xl{b:CW}{f:yA ME}(h:SB E3 w A E6 cf f):SE E3 w A E6 cf (.bop b f):=λs EW e H ρ m d E a c i=>
 IBop.rec (motive:=λe Z=>wpAny (yR E3 w) A (zF e EW) (bz w s H d) E s) (λa=>(h s EW _ b _ H ρ m d E a c i).1) (r9 a)
theorem st_bop{b:CW}{f:yA ME}(h:SB E3 w A E6 cf f):ST E3 w A E6 cf (.bop b f):=λs EW e H ρ m d t E a c i j=>
 IBop.rec (motive:=λe Z=>wpAny (yR E3 w) A (B8 e EW (zF e EW)) (eR s t) E s) (λa=>(h s EW _ b _ H ρ m d E a c i).2 t _ j) (r9 a)
theorem forIn_false{EW:Env}{E:yE->yL->Prop}{Q:yH->yL->Prop}(es:yA y4)(h:Q yz s) :
  wpAny (yR E3 w) A (forIn es yz λc r=>if r=yC then do let ok <- B8 c EW (zF c EW);pure (ForInStep.yield ok) else pure (ForInStep.yield r)) Q E s:=by
 induction es with
 | nil=>rw[List.forIn_nil];exact yU h
 | cons c es a=>
  rw[EM];simp only[BS,Co,pure_bind];exact a
theorem xm:SC E3 w A E6 cf []:=λs EW es H ρ m t E a c b=>
 pS (C:=λes=>wpAny (yR E3 w) A (forIn es yC _) (eR s t) E s) a (by rw[List.forIn_nil];exact yU ⟨Kp.refl _,yJ b⟩)
theorem vh{a:ME}{r:yA ME}(j:ST E3 w A E6 cf a)(n:SC E3 w A E6 cf r):SC E3 w A E6 cf (a::r):=λs EW es H ρ m t E o c y=>
 evi_cs y λx u z B i=>iE (C:=λes=>wpAny (yR E3 w) A (forIn es yC _) (eR s t) E s) o λe es h1 G=>by
  rw[EM];simp only[D5,bind_assoc,pure_bind];refine yG (bG (j s EW e H ρ m x u E h1 c.l z B) λb h f=>?_)
  have e1:=f.e;subst e1;cases b with
  | true=>exact bG (n h EW es H ρ m t E G (c.r.k f.k) i) λZ Z q=>q.tr f.k
  | false=>exact forIn_false es ⟨f.k,yJ i⟩
theorem comp_inner{EW i:Env}{m C:Str->yK yE}{scope:A8}{x:yF}{ns:yA yF}{ρ:yA (yF×D)}{f:yL}{H h:yN->Prop}{v:yE}{dv:D}(G:iO EW.kindOf scope (yB x)=yC)
  (M:i.kindOf=eK EW.kindOf scope) (N:C (yB x)=ac v) (O:Rep w.params f.heap h v dv) (I:∀ z,scope.names.lookup z=ac .free->C z=m z) (L:bP s f) (n:sI s.heap H h) (T:bK f.heap i C) (U:Ex f.heap h)
  (c:Cc w E6 s EW H ρ m (ns.filter (· != x))):Cc w E6 f i h ((x,dv)::ρ) C ns:=by
 refine⟨T,⟨λb o e=>Kp.heap L b o (c.hw.keep b o e),U,λb o e q=>c.hw.off b o e (n b o (c.hw.keep b o e) q)⟩,λz V u d y=>?_⟩
 rw[y7] at y
 by_cases j:z=x
 ·subst j
  rw[zg] at y;exact⟨v,N,yJ y▸O⟩
 ·rw[show (z == x)=yz from An.mpr j] at y
  refine jC G λEP E EP t A EP=>qs u λh1 X Y J=>?_
  have B:scope.names.lookup (yB z)=ac .free:=by
   rw[M,lP] at h1;cases hq:scope.names.lookup (yB z) with
   | none=>rw[hq] at h1;cases h1
   | some k=>exact (A _ (mem_of_lookup hq)).elim (λq=>q.elim (λq=>q.elim (y6 ac) λe=>by rw[hq,show k=.globalImplicit from e] at h1;cases h1) λe=>zl (dR e) j) λe=>by rw[show yB z=_ from e] at J;cases J
  exact (c.hn z (zp.mpr ⟨V,CN.mpr j⟩) (by
   unfold gI;rw[X,Y,J]
   rcases t _ (mem_of_lookup B) rfl with e | e <;> rw[e] <;> rfl) d y).elim λZ q=>⟨Z,(I _ B).trans q.1,q.2.mono (λa o EP e=>Kp.heap L a o e) n⟩
noncomputable def compG(cf:CF)(ρ:yA (yF×D))(elt:ME)(x:yF)(cs:yA ME)(a:D):yK (yK D):=oT (nN cf ((x,a)::ρ) cs) λt=>if t=yC then oE (evE cf ((x,a)::ρ) elt) λy=>ac (ac y) else ac none
theorem compM_congr{f g:D->yK (yK D)}(h:∀ d,f d=g d)(l:yA D):bS f l=bS g l:=y6 (λf=>bS f l) (funext h)
theorem evi_comp{ρ:yA (yF×D)}{elt E5:ME}{x:yF}{cs:yA ME}{d:D}{C:Prop}(h:evE cf ρ (.comp elt x E5 cs)=ac d)(k:∀ y EX out,evE cf ρ E5=ac y->y.items=ac EX->EX.length<=big->bS (compG cf ρ elt x cs) EX=ac out->.list out=d->C):C:=by
 rw[ev_comp] at h;refine bH (a:=evE cf ρ E5) h λy b h=>fh (a:=y.items) h λEX c h=>cK h λf h=>bM h λout i e=>k y EX out b c f ((compM_congr (λj=>?_) EX).trans i) e
 unfold compG;cases nN cf ((x,j)::ρ) cs with
 | none=>rfl
 | some t=>cases t <;> rfl
theorem t9{elt E5:ME}{x:yF}{cs:yA ME}(Fj:A.handled=yS)(he:SE E3 w A E6 cf elt)(Fk:SE E3 w A E6 cf E5)(T:SC E3 w A E6 cf cs)
  {s:yL} {EW:Env} {H:yN->Prop} {ρ:yA (yF×D)} {m:Str->yK yE} {d:D} {E:yE->yL->Prop} {t B:y4} {Fm U G:Pos} {u:yA y4} {scope:A8} {use:yK (yE->Sem Unit)} {Q:yE->yL->Prop}
  (I:e5 B=yC) (J:iO EW.kindOf scope (yB x)=yC) (z:aI EW.kindOf B E5=yC) (a:aI (eK EW.kindOf scope) t elt=yC) (f:cB (eK EW.kindOf scope) u cs=yC) (c:Cc w E6 s EW H ρ m (ME.comp elt x E5 cs).names)
  (V:evE cf ρ (.comp elt x E5 cs)=ac d)
  (Fo:∀ L C h' tk dw m' j,d=.list j->(∀ b o,gat s.heap b=ac o->@LT.lt Nat _ b L)->gat s.heap C=yS->L≠C->h'.Ns C m'->jg w.params h' (λb=>H b\/b=C) L j->(KH s.heap h') ->
   compPost (yR E3 w) A E use Q (.ref L) C (.ok .next) { s with heap:=h',toks:=tk,drawn:=dw }) :
  wpAny (yR E3 w) A (comprehension (.ListComp t [⟨.Name (yB x) Fm,B,u,0⟩] scope U) scope EW G (newList []) yz (zF B EW) use) Q E s:=by
 refine evi_comp V λy EX j X Fp Fq Fs e=>comp_core c.R J I Fj c.x (Fk s EW B H ρ m y E z c.l X) Fp Fq Fs (λh Fg n Y i v dv r FM O Ft Fu Fv Z Fw Fz M Fh=>?_) λL C h' tk dw m' h1 FA FE FF FG FH=>Fo L C h' tk dw m' j e.symm h1 FA FE FF FG FH
 have Fi:Cc w E6 n h i ((x,dv)::ρ) Y (elt.names++iQ cs):=comp_inner J Fg Fu Fv Z Fz M Ft Fw c.r;rw[<- Fg] at a f;refine uH O λb FJ O=>bG (T n h u i _ Y b Fh f Fi.r FJ) λok N q=>⟨q.k,?_⟩
 cases b with
 | true=>exact bH O λy X e=>yJ e▸⟨q.e,λFK e=>yJ e▸he N h t i _ Y y Fh a (Fi.l.k q.k) X⟩
 | false=>exact yJ O▸⟨q.e,λFK e=>nomatch e⟩
end
theorem dput_len(k d:D)(ks vs:yA D):(dG ks vs k d).1.length<=ks.length+1:=by
 induction ks generalizing vs with
 | nil=>exact y0 _
 | cons b ks a=>cases vs with
  | nil=>exact zb (za _)
  | cons v vs=>
   rw[om]
   split
   ·exact AB _
   ·exact zb (a vs)
section
variable {E3:zh} {w:zq} {A:zt} {s:yL} {E6:Heap} {mg mb:Str->yK yE} {cf:CF}
theorem nE{ρ:yA (yF×D)}{b:yA ME}{k:KD}{es:yA y4}(h:cn cf ρ b=ac [])(c:cB k es b=yC):es=[]:=by
 cases b with
 | nil=>exact z8.mp c
 | cons a r=>exact tW h λZ Z Z Z e=>nomatch e
theorem vC(G:GOk mg mb E6){h:Heap}(a:KH E6 h):(h.objs.size == Dg)=yz:=(tN G.g).elim λo e=>An.mpr λq=>zl (q▸Heap.gt_lt (a _ _ e)) (by decide)
theorem evi_dct{ρ:yA (yF×D)}{ks vs:yA ME}{d:D}{C:Prop}(h:evE cf ρ (.dct ks vs)=ac d)(k:cn cf ρ ks=ac []->cn cf ρ vs=ac []->.dict [] []=d->C):C:=
 fh (a:=cn cf ρ ks) (f:=λds=>oEs (cn cf ρ vs) λes=>if (ds.isEmpty&&es.isEmpty)=yC then ac (D.dict [] []) else none) h λds h1 h=>fh h λes c h=>bi h λi e=>bQ i λa b=>k (z8.mp a▸h1) (z8.mp b▸c) e
theorem sf_dct(G:GOk mg mb E6){ks vs:yA ME}(b:∀ e∈ks,SE E3 w A E6 cf e)(f:∀ e∈vs,SE E3 w A E6 cf e):SF E3 w A E6 cf (.dct ks vs):=λs EW e H ρ m d fr E h c a=>
 fJ a QQ λa i=>evi_dct a λh1 j o=>IDct.rec (motive:=λe Z=>wpAny (yR E3 w) A (zF e EW) (cC w s H d fr) E s) (λ{q t u} y z=>by
  have e1:=nE h1 y;have B:=nE j z;subst e1 B;have Fb:dH w.params (s.heap.push { cls:=.type "dict",data:=.dict #[] }) H s.heap.objs.size (.dict [] []):=nS.mk (es:=#[]) (n:=0) (Heap.get?_push_size _ QQ) (za _) QQ QQ QQ QQ .nil (vC G c.hw.keep);exact wpAny_Dict_empty (o▸i▸⟨Kp.push _ _,Fb.rep c.x.fresh,λZ=>⟨cZ _,Fb⟩⟩)) (v9 h)
end
section
variable {E3:zh} {w:zq} {A:zt} {s:yL} {E6:Heap} {mg mb:Str->yK yE} {cf:CF}
theorem inn_at(x:Str)(a b f:Tok):∃ t,(C0 (merged ([]:yA (Str×yE)) [(yB "group",.int 3 a),(yB "once",.int 1 b)]) x).getD (.int 2 f)=.int (sa x) t:=by
 have e:merged ([]:yA (Str×yE)) [(yB "group",.int 3 a),(yB "once",.int 1 b)]=[(yB "group",.int 3 a),(yB "once",.int 1 b)]:=merged_append_of_fresh [] _ (show[yB "group",yB "once"].Nodup by decide +kernel)
 rw[e];unfold C0 sa;rw[C6,C6,List.find?_nil]
 by_cases h1:x=yB "group"
 ·rw[yT h1,Af h1.symm];exact⟨a,QQ⟩
 ·rw[yV h1,Ad λh=>h1 h.symm]
  by_cases c:x=yB "once"
  ·rw[yT c,Af c.symm];exact⟨b,QQ⟩
  ·rw[yV c,Ad λh=>c h.symm];exact⟨f,QQ⟩
theorem inn_core(G:GOk mg mb E6){EW:Env}{H:yN->Prop}{ρ:yA (yF×D)}{m:Str->yK yE}{E:yE->yL->Prop}{a:ME}(L:SE E3 w A E6 cf a){x:Str}{y:y4}{M:Nat}{N p:Pos}(c:Cc w E6 s EW H ρ m a.names)(O:evE cf ρ a=ac (.str x))(h:aI EW.kindOf y a=yC){z B:Tok}{h':Heap}{tk:Nat}
  (q:h'.DictOf (strKind E3 w) s.heap.objs.size (merged [] [(yB "group",.int 3 z),(yB "once",.int 1 B)])) (T:Heap.SameBut s.heap.objs.size (s.heap.push { cls:=.type "dict",data:=.dict #[] }) h') :
  MethodOn E3 w A (yB "get") p (.ref s.heap.objs.size) [(yz,zF y EW),(yz,zF (.Constant (.int 2) M N) EW)] (bz w s H (.int (sa x))) E { s with heap:=h',toks:=tk }:=by
 have I:bP s { s with heap:=h',toks:=tk }:=.mk h' tk s.drawn λb o e=>g1 T (bZ (Heap.get?_push_size _ QQ)) b (zC (Heap.gt_lt e)) (Heap.gt_push_of_some _ e)
 refine⟨"dict","dict.get",F.plainAttrs_dict,F.slot_dict_get,F.type_dict_get,q.typeIs,q.mapOf.noDict,wpAny_dict_get2 (knd:=strKind E3 w) (vC G c.hw.keep) (L.go h (c.k I) O λv j f=>?_)⟩
 obtain⟨o,U,n⟩:=Heap.dictOf_iff.mp q;obtain⟨V,X⟩:∃ t,v=.str x t:=f.r.strE (C:=λv=>∃ t,v=.str x t) λt=>⟨t,QQ⟩
 subst X;have J:bI o=yz:=cG λu e=>by
  obtain⟨_,_,_,n,_⟩:=n;rw[e] at n;cases n
 have i:=Heap.of_gt (Kp.heap f.k _ _ (Heap.gt_of U J)) J;obtain⟨t,e⟩:=inn_at x z B j.toks;exact C9 ⟨x,_,strKind_is E3 w x V,(Heap.dictOf_iff.mpr ⟨o,i,n⟩).mapOf,e▸ir.tr (Kp.trans I f.k)⟩
theorem se_inn(G:GOk mg mb E6){a:ME}(t:SE E3 w A E6 cf a):SE E3 w A E6 cf (.inn a):=λs EW e H ρ m d E u c z=>
 evi_inn z λx B C=>C▸IInn.rec (motive:=λe Z=>wpAny (yR E3 w) A (zF e EW) (bz w s H (.int (sa x))) E s) (λ{y n1 n2 f i M j n o q N dp O p} I h=>by
  refine wpAny_Call_method2_late QQ I (by rw[ik h];rfl) ?_
  refine wpAny_Dict_pairs (knd:=strKind E3 w) (pairs:=[(zF (.Constant (.str (yB "group")) n1 j) EW,do let x <- zF (.Constant (.int 3) f o) EW;standAt dp;pure x),(zF (.Constant (.str (yB "once")) n2 n) EW,do let x <- zF (.Constant (.int 1) i q) EW;standAt dp;pure x)]) ?a ?b ?c ?d
  case a=>
   rw[arm_evalEachOpt_cons,arm_evalEachOpt_cons,arm_evalEachOpt_nil,arm_evalEach_cons,arm_evalEach_cons,arm_evalEach_nil,arm_evalOpt_some,arm_evalOpt_some];generalize zF (.Constant (.str (yB "group")) n1 j) EW=e1;generalize zF (.Constant (.str (yB "once")) n2 n) EW=T;generalize zF (.Constant (.int 3) f o) EW=U;generalize zF (.Constant (.int 1) i q) EW=V
   rfl
  case b=>exact List.cons_ne_nil _ _
  case c=>exact yM QQ
  case d=>
   refine evalPairs_cons (Calls.Constant_str (yG (C9 (yG (wpAny_standAt (yU (evalPairs_cons (Calls.Constant_str (yG (C9 (yG (wpAny_standAt (yU (evalPairs_nil ?_))))))))))))));exact⟨[(yB "group",_),(yB "once",_)],⟨strKind_is E3 w _ _,QQ,strKind_is E3 w _ _,QQ,trivial⟩,Heap.DictOf.new _,λh' J L=>inn_core G t c B h J L⟩) (v8 u)
end
section
variable {E3:zh} {w:zq} {A:zt} {s:yL} {E6:Heap} {mg mb:Str->yK yE} {cf:CF}
theorem lC{a:ME}(h:SE E3 w A E6 cf a)(f:∀ ρ,evF cf ρ a=(evE cf ρ a).map λd=>(d,yz)):SF E3 w A E6 cf a:=λs EW e H ρ m d fr E i c j=>
 bM ((f ρ).symm.trans j) λn h1 b=>bG (h s EW e H ρ m d E i c (h1.trans (y6 ac (zR b).1))) λZ Z q=>q.pf (zR b).2.symm
theorem sf_comp{elt E5:ME}{x:yF}{cs:yA ME}(M:A.handled=yS)(he:SE E3 w A E6 cf elt)(N:SE E3 w A E6 cf E5)(t:SC E3 w A E6 cf cs):SF E3 w A E6 cf (.comp elt x E5 cs):=λs EW e H ρ m d fr E O c f=>
 fJ f QQ λf T=>wQ.rec (motive:=λe EP=>wpAny (yR E3 w) A (zF e EW) (cC w s H d fr) E s) (λc1 c2 c3 U V=>by
  rw[eval_ListComp];refine t9 (use:=yS) M he N t c1 c2 c3 U V c f λL C h' tk X m' u Y J Z y i j Fg=>⟨m',i,λh n=>?_⟩
  have B:Mv C h' h:=λb o G e=>g1 n (fL i) b G e
  have Fb:jg w.params h H L u:=j.mono (λo e=>B L o y e) (λa o G e=>B a o (λq=>G (.inr q)) e) λb o EP q=>.inl (.inl q)
  have I:gat s.heap L=yS:=by
   cases e:gat s.heap L with
   | none=>rfl
   | some o=>exact zl (J _ _ e) (zY _)
  exact Y▸T▸⟨.mk h tk X λb o e=>B b o (λq=>cx e (q▸Z)) (Fg b o e),Fb.rep λq=>(c.x L q).elim λb z=>z.elim λo z=>zY _ (yO z.1 (J b o z.2)),λEP=>⟨I,Fb⟩⟩) (pt O)
theorem evF_callx(f:yF)(a:yA ME)(ρ:yA (yF×D))(d:D)(h:evE cf ρ (.call f a)=ac d):∃ fr,evF cf ρ (.call f a)=ac (d,fr):=
 evi_call h λds r h1 b e=>⟨r.2,by rw[lX,h1];exact b.trans (y6 ac (EG e QQ))⟩
theorem blt_name{f:yF}{ds:yA D}{d:D}(h:hY f ds=ac d):f∈du:=by
 cases ds with
 | nil=>exact aj h
 | cons a ds=>cases ds with
  | nil=>
   refine cY (c:=f="len") h (λe Z=>e▸by decide) λZ h=>?_
   cases a with
   | int i=>exact cY h (λe Z=>e▸by decide) λZ h=>cK h λe Z=>e▸by decide
   | bool b=>exact bi h λe Z=>e▸by decide
   | str x=>exact bi h λe Z=>e▸by decide
   | list ds=>exact cY h (λe Z=>e▸by decide) λZ h=>cK h λe Z=>e▸by decide
   | _=>exact aj h
  | cons b ds=>cases ds with
   | nil=>exact ed (C:=λZ=>f∈du) h λi h=>ed (C:=λZ=>f∈du) h λj h=>cY h (λe Z=>e▸by decide) λZ h=>cY h (λe Z=>e▸by decide) λZ h=>bi h λe Z=>e▸by decide
   | cons=>exact aj h
structure AE(E3:zh)(w:zq)(A:zt)(E6:Heap)(cf:CF)(me:ME):Prop where
 e:SE E3 w A E6 cf me
 t:ST E3 w A E6 cf me
 f:SF E3 w A E6 cf me
structure AEs(E3:zh)(w:zq)(A:zt)(E6:Heap)(cf:CF)(ms:yA ME):Prop where
 s:SEs E3 w A E6 cf ms
 b:SB E3 w A E6 cf ms
 c:SC E3 w A E6 cf ms
 m:∀ e∈ms,SE E3 w A E6 cf e
theorem nR{b:ME}(h:SE E3 w A E6 cf b)(c:b.plain=yC)(f:∀ ρ,evF cf ρ b=(evE cf ρ b).map λd=>(d,yz)):AE E3 w A E6 cf b:=⟨h,sS h (λe k EW a i=>(tx i).test c EW a),lC h f⟩
theorem sF{b:ME}(h:SF E3 w A E6 cf b)(f:b.plain=yC)(i:∀ ρ d,evE cf ρ b=ac d->∃ fr,evF cf ρ b=ac (d,fr)):AE E3 w A E6 cf b:=
 have c:=se_of_sf h i
 ⟨c,sS c (λe k EW a j=>(tx j).test f EW a),h⟩
theorem nC{a:ME}(h:og a=yS)(ρ:yA (yF×D))(d:D)(e:evE cf ρ a=ac d):∃ fr,evF cf ρ a=ac (d,fr):=⟨frF a d,by unfold evF;rw[h,e];rfl⟩
theorem se_bltx(G:GOk mg mb E6)(i:A.handled=yS){f:yF}{b:yA ME}(h:SEs E3 w A E6 cf b):SE E3 w A E6 cf (.blt f b):=
 (Classical.em (f∈du)).elim (λa=>se_blt G i a h) λa s EW e H ρ m d E n c j=>wy j λds Z h=>zl (blt_name h) a
theorem sb_step{a:ME}{r:yA ME}(h:AE E3 w A E6 cf a)(c:SB E3 w A E6 cf r):SB E3 w A E6 cf (a::r):=by
 cases r with
 | nil=>exact sb_one h.e h.t
 | cons b r=>exact sb_cons h.e h.t c
theorem ry(G:GOk mg mb E6)(C:eU E3 w E6 mg cf A)(y:A.handled=yS)(o:qf A)(B:ME):AE E3 w A E6 cf B:=
 ME.rec (motive_1:=AE E3 w A E6 cf) (motive_2:=AEs E3 w A E6 cf)
  (λx=>nR (uB x) QQ λZ=>QQ) (λx=>nR (se_glob G C x) QQ λZ=>QQ) (λi=>nR (se_int i) QQ λZ=>QQ) (λx=>nR (se_str x) QQ λZ=>QQ) (λb=>nR (se_bool b) QQ λZ=>QQ) (nR se_none QQ λZ=>QQ)
  (λE a b j n=>sF (sf_bin j.e n.e) QQ (nC QQ))
  (λE a b j n=>⟨xk o.u2 j.e n.e,st_cmp o.u2 j.e n.e,lC (xk o.u2 j.e n.e) λZ=>QQ⟩)
  (λE u h=>⟨xl h.b,st_bop h.b,lC (xl h.b) λZ=>QQ⟩)
  (λa h=>⟨xj h.e,st_not h.t,lC (xj h.e) λZ=>QQ⟩) (λa h=>nR (se_neg h.e) QQ λZ=>QQ)
  (λu h=>nR (se_tup h.s) QQ λZ=>QQ) (λu h=>sF (sf_lst h.s) QQ (nC QQ))
  (λa b j n=>nR (xi o.u1 j.e n.e) QQ λZ=>QQ) (λa b c j n H=>sF (sf_sl j.e n.e H.e) QQ (nC QQ))
  (λks vs I J=>sF (sf_dct G I.m J.m) QQ (nC QQ))
  (λL x E5 U h1 M N=>sF (sf_comp y h1.e M.e N.c) QQ (nC QQ))
  (λf u h=>sF (ve G (C.at (.refl A)) h.s) QQ (evF_callx f u)) (λa T h=>nR (se_isi G h.e) QQ λZ=>QQ)
  (λf u h=>nR (se_bltx G y h.s) QQ λZ=>QQ) (λa h=>sF (sf_lcp G y h.e) QQ (nC QQ))
  (λa h=>sF (sf_sset G y h.e) QQ (nC QQ))
  (λa f x p rev h=>sF (sf_srt G C o h.e) QQ (nC QQ))
  (λa h=>nR (se_inn G h.e) QQ λZ=>QQ)
  ⟨vf,sb_nil,xm,λZ h=>nomatch h⟩ (λa r j z=>⟨sY j.e z.s,sb_step j z.b,vh j.t z.c,λe O=>(yX.mp O).elim (λq=>q▸j.e) (z.m e)⟩) B
theorem all_Cs(G:GOk mg mb E6)(C:eU E3 w E6 mg cf A)(c:A.handled=yS)(f:qf A)(b:yA ME):SC E3 w A E6 cf b:=
 List.rec (motive:=SC E3 w A E6 cf) xm (λa Z h=>vh (ry G C c f a).t h) b
end
noncomputable def cq(k:KD)(x:Str):yH:=(k x == ac .local||k x == ac .cell)&&gI k x
noncomputable def rS(e:y4):yH:=!decide (e.ctorIdx=8)&&!decide (e.ctorIdx=9)&&!decide (e.ctorIdx=10)
noncomputable def l5(e:zZ)(f:yA y4->y4->Pos->yH):yH:=Cb (e.ctorIdx=5) (λh=>Stmt.Assign.elim (motive_2:=λZ=>yH) e h f) (λZ=>yz)
@[elab_as_elim] theorem jX{e:zZ}{f:yA y4->y4->Pos->yH}{C:zZ->Prop}(h:l5 e f=yC)(k:∀ a b v2,f a b v2=yC->C (.Assign a b v2)):C e:=
 (bJ h).elim λc h=>Stmt.Assign.elim (motive_2:=λe=>∀ c,Stmt.Assign.elim (motive_2:=λZ=>yH) e c f=yC->C e) e c (λa b v2 Z h=>k a b v2 h) c h
noncomputable def wF(e:zZ)(f:y4->Pos->yH):yH:=Cb (e.ctorIdx=24) (λh=>Stmt.Expr.elim (motive_2:=λZ=>yH) e h f) (λZ=>yz)
@[elab_as_elim] theorem mY{e:zZ}{f:y4->Pos->yH}{C:zZ->Prop}(h:wF e f=yC)(k:∀ a b,f a b=yC->C (.Expr a b)):C e:=
 (bJ h).elim λc h=>Stmt.Expr.elim (motive_2:=λe=>∀ c,Stmt.Expr.elim (motive_2:=λZ=>yH) e c f=yC->C e) e c (λa b Z h=>k a b h) c h
noncomputable def cIf(e:zZ)(f:y4->yA zZ->yA zZ->Pos->yH):yH:=Cb (e.ctorIdx=12) (λh=>Stmt.If.elim (motive_2:=λZ=>yH) e h f) (λZ=>yz)
@[elab_as_elim] theorem sC{e:zZ}{f:y4->yA zZ->yA zZ->Pos->yH}{C:zZ->Prop}(h:cIf e f=yC)(k:∀ a b v2 c,f a b v2 c=yC->C (.If a b v2 c)):C e:=
 (bJ h).elim λi h=>Stmt.If.elim (motive_2:=λe=>∀ i,Stmt.If.elim (motive_2:=λZ=>yH) e i f=yC->C e) e i (λa b v2 c Z h=>k a b v2 c h) i h
noncomputable def cFor(e:zZ)(f:y4->y4->yA zZ->yA zZ->Pos->yH):yH:=Cb (e.ctorIdx=9) (λh=>Stmt.For.elim (motive_2:=λZ=>yH) e h f) (λZ=>yz)
@[elab_as_elim] theorem pZ{e:zZ}{f:y4->y4->yA zZ->yA zZ->Pos->yH}{C:zZ->Prop}(h:cFor e f=yC)(k:∀ a b v2 c i,f a b v2 c i=yC->C (.For a b v2 c i)):C e:=
 (bJ h).elim λj h=>Stmt.For.elim (motive_2:=λe=>∀ j,Stmt.For.elim (motive_2:=λZ=>yH) e j f=yC->C e) e j (λa b v2 c i Z h=>k a b v2 c i h) j h
noncomputable def cRet(e:zZ)(f:yK y4->Pos->yH):yH:=Cb (e.ctorIdx=3) (λh=>Stmt.Return.elim (motive_2:=λZ=>yH) e h f) (λZ=>yz)
@[elab_as_elim] theorem cRet_inv{e:zZ}{f:yK y4->Pos->yH}{C:zZ->Prop}(h:cRet e f=yC)(k:∀ a b,f a b=yC->C (.Return a b)):C e:=
 (bJ h).elim λc h=>Stmt.Return.elim (motive_2:=λe=>∀ c,Stmt.Return.elim (motive_2:=λZ=>yH) e c f=yC->C e) e c (λa b Z h=>k a b h) c h
noncomputable def yc(e:zZ)(f:y4->yA zZ->yA zZ->Pos->yH):yH:=Cb (e.ctorIdx=11) (λh=>Stmt.While.elim (motive_2:=λZ=>yH) e h f) (λZ=>yz)
@[elab_as_elim] theorem cWhile_inv{e:zZ}{f:y4->yA zZ->yA zZ->Pos->yH}{C:zZ->Prop}(h:yc e f=yC)(k:∀ a b v2 c,f a b v2 c=yC->C (.While a b v2 c)):C e:=
 (bJ h).elim λi h=>Stmt.While.elim (motive_2:=λe=>∀ i,Stmt.While.elim (motive_2:=λZ=>yH) e i f=yC->C e) e i (λa b v2 c Z h=>k a b v2 c h) i h
noncomputable def c3{α:Type}(l:yA α)(f:α->α->α->yH):yH:=match l with | x::l=>c2 l (f x) | _=>yz
@[elab_as_elim] theorem c3_inv{α:Type}{l:yA α}{f:α->α->α->yH}{C:yA α->Prop}(h:c3 l f=yC)(k:∀ x y z,f x y z=yC->C [x,y,z]):C l:=by
 cases l with
 | nil=>cases h
 | cons x l=>exact m0 (C:=λl=>C (x::l)) h (k x)
noncomputable def grp1(k:KD)(st:zZ):yH:=l5 st λa v Z=>c1 a λt=>dF t λy Z=>y == yB "own"&&cq k y&&aI k v (.call "cells_at" [.u "row",.u "places"])
noncomputable def grp2(k:KD)(st:zZ):yH:=cIf st λv b o Z=>aI k v (.cmp .NotIn (.u "own") (.u "groups"))&&o.isEmpty&&c1 b λst=>l5 st λa v Z=>c1 a λt=>wW t λc f Z=>aI k c (.u "groups")&&aI k f (.u "own")&&aI k v (.lst [])
noncomputable def grp3(k:KD)(st:zZ):yH:=wF st λv Z=>gM v λg as ks p=>ks.isEmpty&&c1 as λa=>wG g λb c f=>c == yB "append"&&f.endLine == p.line&&aI k b (.sub (.u "groups") (.u "own"))&&aI k a (.u "row")
noncomputable def grpB(k:KD)(st:zZ):yH:=cFor st λt a b o Z=>o.isEmpty&&dF t λy Z=>y == yB "row"&&cq k y&&e5 a&&aI k a (.u "rows")&&c3 b λs1 c f=>grp1 k s1&&grp2 k c&&grp3 k f
mutual
noncomputable def mW(k:KD)(st:zZ)(s:MS):yH:=match s with
 | .x0 x e=>l5 st λj v Z=>c1 j λt=>dF t λy Z=>y == yB x&&cq k y&&aI k v e
 | .append x e=>wF st λv Z=>gM v λg m ks p=>ks.isEmpty&&c1 m λa=>wG g λn q u=>dF n λy Z=>y == yB x&&cq k y&&q == yB "append"&&u.endLine == p.line&&aI k a e
 | .setk x w e=>l5 st λj v Z=>c1 j λt=>wW t λo i Z=>dF o λy Z=>y == yB x&&cq k y&&aI k i w&&aI k v e
 | .ite c t f=>cIf st λv b o Z=>aI k v c&&fG k b t&&fG k o f
 | .for_ x E5 body=>cFor st λt h b o Z=>o.isEmpty&&dF t λy Z=>y == yB x&&cq k y&&e5 h&&aI k h E5&&uQ k b body
 | .ret e=>cRet st λv Z=>wX v λv=>aI k v e
 | .bad=>yC
 | .grp=>grpB k st
 | .expr e=>wF st λv Z=>rS v&&aI k v e
 | .while_ c body=>yc st λv b o Z=>o.isEmpty&&aI k v c&&fG k b body
 | .forr x E5 body=>cFor st λt h b o Z=>o.isEmpty&&dF t λy Z=>y == yB x&&cq k y&&e5 h&&(gM h λg m ks Z=>ks.isEmpty&&dF g λg Z=>g == yB "reversed"&&cE k g&&c1 m λa=>aI k a E5)&&fG k b body
termination_by structural s
noncomputable def fG(k:KD)(c:yA zZ)(f:yA MS):yH:=match f with
 | []=>c.isEmpty
 | a::r=>(match c with | s::b=>mW k s a&&fG k b r | []=>yz)
termination_by structural f
noncomputable def uQ(k:KD)(i:yA zZ)(j:yA MS):yH:=match j with
 | []=>i.isEmpty
 | a::r=>(match i with | s::h=>(mW k s a&&uQ k h r)||(r.isEmpty&&cIf s λv b o Z=>o.isEmpty&&(c1 b λst=>decide (st.ctorIdx=27))&&(match a with | .ite c t f=>t.isEmpty&&(aI k v c&&fG k h f) | _=>yz)) | []=>yz)
termination_by structural j
end
theorem cb_cons(k:KD)(s:zZ)(h:yA zZ)(a:MS)(r:yA MS):uQ k (s::h) (a::r)=((mW k s a&&uQ k h r)||(r.isEmpty&&cIf s λv b o Z=>o.isEmpty&&(c1 b λst=>decide (st.ctorIdx=27))&&(match a with | .ite c t f=>t.isEmpty&&(aI k v c&&fG k h f) | _=>yz))):=by
 cases a <;> rfl
section
variable {k:KD} {st:zZ}
inductive ou(k:KD)(x:yF)(e:ME):zZ->Prop
 | mk {p v pos} (hst:cq k (yB x)=yC) (hc:aI k v e=yC):ou k x e (.Assign [.Name (yB x) p] v pos)
theorem pu{x:yF}{e:ME}(h:mW k st (.x0 x e)=yC):ou k x e st:=
 jX h λc v p h=>eQ h λt h=>b0 h λy f h=>iI h λh1=>eqb h1 λa b=>⟨a,b⟩
inductive sJ(k:KD)(x:yF)(e:ME):zZ->Prop
 | mk {yp ap a p pos} (hst:cq k (yB x)=yC) (hl:(ap.endLine == p.line)=yC) (hc:aI k a e=yC):sJ k x e (.Expr (.Call (.Attribute (.Name (yB x) yp) (yB "append") ap) [a] [] p) pos)
theorem inv_append{x:yF}{e:ME}(h:mW k st (.append x e)=yC):sJ k x e st:=
 mY h λv b h=>eC h λg o ks p h=>bQ h λh1 h=>kE h1 (eQ h λa h=>mZ (e:=g) h λn c q h=>b0 (e:=n) h λy s h=>qq h λh1=>eqb h1 λf i=>eqb i λj m=>⟨f,j,m⟩)
inductive yo(k:KD)(x:yF)(ke e:ME):zZ->Prop
 | mk {yp i p v pos} (hst:cq k (yB x)=yC) (hi:aI k i ke=yC) (hc:aI k v e=yC):yo k x ke e (.Assign [.Subscript (.Name (yB x) yp) i p] v pos)
theorem inv_setk{x:yF}{ke e:ME}(h:mW k st (.setk x ke e)=yC):yo k x ke e st:=
 jX h λj v a h=>eQ h λt h=>l4 h λo i p h=>b0 (e:=o) h λy m h=>qs h λh1=>eqb h1 λb c f=>⟨b,c,f⟩
inductive IIte(k:KD)(c:ME)(t f:yA MS):zZ->Prop
 | mk {v b o p} (hc:aI k v c=yC) (ht:fG k b t=yC) (hf:fG k o f=yC):IIte k c t f (.If v b o p)
theorem inv_ite{c:ME}{t f:yA MS}(h:mW k st (.ite c t f)=yC):IIte k c t f st:=sC h λv b o p h=>iI h λh1 a i=>⟨h1,a,i⟩
inductive IFor(k:KD)(x:yF)(E5:ME)(body:yA MS):zZ->Prop
 | mk {yp it b p} (hst:cq k (yB x)=yC) (hn:e5 it=yC) (hc:aI k it E5=yC) (hb:uQ k b body=yC):IFor k x E5 body (.For (.Name (yB x) yp) it b [] p)
theorem inv_for{x:yF}{E5:ME}{body:yA MS}(h:mW k st (.for_ x E5 body)=yC):IFor k x E5 body st:=
 pZ h λt j b o p h=>bQ h λh1 h=>kE h1 (b0 (e:=t) h λy m h=>qq h λh1=>eqb h1 λa c f i=>⟨a,c,f,i⟩)
inductive yt(k:KD)(e:ME):zZ->Prop
 | mk {v p} (hn:rS v=yC) (hc:aI k v e=yC):yt k e (.Expr v p)
theorem inv_expr{e:ME}(h:mW k st (.expr e)=yC):yt k e st:=mY h λv p h=>bQ h λh1 a=>⟨h1,a⟩
inductive uU(k:KD)(c:ME)(body:yA MS):zZ->Prop
 | mk {v b p} (hc:aI k v c=yC) (hb:fG k b body=yC):uU k c body (.While v b [] p)
theorem inv_while{c:ME}{body:yA MS}(h:mW k st (.while_ c body)=yC):uU k c body st:=cWhile_inv h λv b o p h=>iI h λh1 a f=>kE h1 ⟨a,f⟩
inductive yr(k:KD)(x:yF)(E5:ME)(body:yA MS):zZ->Prop
 | mk {yp gp a cp b p} (hst:cq k (yB x)=yC) (hg:cE k (yB "reversed")=yC) (hc:aI k a E5=yC) (hb:fG k b body=yC):yr k x E5 body (.For (.Name (yB x) yp) (.Call (.Name (yB "reversed") gp) [a] [] cp) b [] p)
theorem inv_forr{x:yF}{E5:ME}{body:yA MS}(h:mW k st (.forr x E5 body)=yC):yr k x E5 body st:=
 pZ h λt f b o p h=>bQ h λh1 h=>kE h1 (b0 (e:=t) h λy w h=>qq h λi=>eqb i λj Z m n=>eC (e:=f) m λg z ks cp h=>bQ h λq h=>kE q (b0 (e:=g) h λg A h=>iI h λs=>eqb s λu c=>eQ c λa c=>⟨j,u,c,n⟩))
inductive IRet(k:KD)(e:ME):zZ->Prop
 | mk {v p} (hc:aI k v e=yC):IRet k e (.Return (ac v) p)
theorem inv_ret{e:ME}(h:mW k st (.ret e)=yC):IRet k e st:=cRet_inv h λv p h=>pY h λv h=>⟨h⟩
end
noncomputable abbrev Own:=yF->yK yN
noncomputable def frm(EW:Env)(b:yN):Prop:=b=EW.locals\/∃ x,EW.cells.lookup x=ac b
noncomputable def Hot(EW:Env)(EV:yN->Prop)(Fb:Own)(b:yN):Prop:=EV b\/frm EW b\/∃ x,Fb x=ac b
noncomputable def Own.less(Fb:Own)(ns:yA yF):Own:=λx=>if x∈ns then yS else Fb x
theorem eJ{Fb:Own}{ns:yA yF}{x:yF}{a:yN}(e:Fb.less ns x=ac a):Fb x=ac a:=by unfold Own.less at e;split at e <;> first | cases e | exact e
theorem Hot.mono{EW:Env}{EV E8:yN->Prop}{Fb E1:Own}(c:∀ b,E8 b->EV b)(f:∀ x a,E1 x=ac a->Fb x=ac a){b:yN}(h:Hot EW E8 E1 b):Hot EW EV Fb b:=
 h.imp (c b) λh=>h.imp id λh=>h.elim λx h=>⟨x,f x b h⟩
theorem Hot.less{EW:Env}{EV:yN->Prop}{Fb:Own}{ns:yA yF}{b:yN}(h:Hot EW EV (Fb.less ns) b):Hot EW EV Fb b:=h.mono (λZ q=>q) λZ Z=>eJ
structure bE(w:zq)(E6 Fe h:Heap)(EW:Env)(EV:yN->Prop)(Fb:Own)(m:Str->yK yE)(σ:St):Prop where
 rep:bK h EW m
 plain:∀ x d,σ.lookup x=ac (yz,d)->∃ v,m (yB x)=ac v/\Rep w.params h (Hot EW EV Fb) v d
 owned:∀ x d,σ.lookup x=ac (yC,d)->∃ a,Fb x=ac a/\m (yB x)=ac (.ref a)/\dH w.params h (Hot EW EV Fb) a d
 hot:HOk E6 h (Hot EW EV Fb)
 keep:KH Fe h
 frE:∀ b,frm EW b->gat Fe b=yS
 own1:∀ x a,Fb x=ac a->gat Fe a=yS/\¬ EV a/\¬ frm EW a
 inj:∀ x y a,Fb x=ac a->Fb y=ac a->x=y
 ownx:∀ x a,Fb x=ac a->∃ o,gat h a=ac o
section
variable {w:zq} {E6 Fe h h':Heap} {EW:Env} {EV E8:yN->Prop} {Fb E1:Own} {m m':Str->yK yE} {σ:St}
theorem bE.off(S:bE w E6 Fe h EW EV Fb m σ){x:yF}{a:yN}(c:Fb x=ac a)(f:∀ y b,E1 y=ac b->Fb y=ac b)(i:E1 x≠ac a):¬ Hot EW EV E1 a:=λq=>q.elim (S.own1 x a c).2.1 λq=>q.elim (S.own1 x a c).2.2 λq=>q.elim λy e=>i (S.inj y x a (f y a e) c▸e)
theorem bE.to(S:bE w E6 Fe h EW EV Fb m σ)(R:bK h' EW m)(c:nT h (Hot EW EV Fb) h')(f:∀ x a o,Fb x=ac a->gat h a=ac o->gat h' a=ac o)(ls:sI h (Hot EW EV Fb) (Hot EW E8 Fb))(ke:KH Fe h')(j:∀ b,E8 b->∃ i o,@LE.le Nat _ b i/\gat h' i=ac o)(n:∀ x a,Fb x=ac a->¬ E8 a):bE w E6 Fe h' EW E8 Fb m σ where
 rep:=R
 plain:=λx d e=>(S.plain x d e).elim λv q=>⟨v,q.1,q.2.mono c ls⟩
 owned:=λx d e=>(S.owned x d e).elim λa q=>⟨a,q.1,q.2.1,q.2.2.mono (λo e=>f x a o q.1 e) c λb o e z=>.inl (ls b o e z)⟩
 hot:=⟨λb o e=>c b o (S.hot.off b o e) (S.hot.keep b o e),λb q=>q.elim (j b) λq=>q.elim (λq=>(q.elim (λq=>R.loc.elim λZ z=>q▸tN z.1) λq=>q.elim λx z=>R.ex x b z).elim λo z=>⟨b,o,y0 _,z⟩) λq=>q.elim λx q=>(S.ownx x b q).elim λo z=>⟨b,o,y0 _,f x b o q z⟩,λb o e q=>S.hot.off b o e (ls b o (S.hot.keep b o e) q)⟩
 keep:=ke
 frE:=S.frE
 own1:=λx a e=>⟨(S.own1 x a e).1,n x a e,(S.own1 x a e).2.2⟩
 inj:=S.inj
 ownx:=λx a e=>(S.ownx x a e).elim λo z=>⟨o,f x a o e z⟩
theorem bE.keeps(S:bE w E6 Fe h EW EV Fb m σ)(c:KH h h'):bE w E6 Fe h' EW EV Fb m σ:=
 S.to (S.rep.keeps c) (λb o Z e=>c b o e) (λZ a o Z e=>c a o e) (λZ Z Z q=>q) (λb o e=>c b o (S.keep b o e)) (λb q=>(S.hot.ex b (.inl q)).elim λf z=>z.elim λo z=>⟨f,o,z.1,c _ _ z.2⟩) λx a e=>(S.own1 x a e).2.1
theorem nv{ns:yA yF}{x:yF}{b:yH}{d:D}{C:Prop}(e:(Mine.freeze ns σ).lookup x=ac (b,d))(k:∀ o,σ.lookup x=ac (o,d)->(o&&!ns.contains x)=b->C):C:=by
 rw[bw] at e;exact bM e λp h1 a=>k p.1 (h1.trans (y6 ac (EG QQ (zR a).2))) (zR a).1
theorem bE.freeze(S:bE w E6 Fe h EW EV Fb m σ)(ns:yA yF):bE w E6 Fe h EW EV (Fb.less ns) m (Mine.freeze ns σ) where
 rep:=S.rep
 plain:=λx d e=>nv e λo h1 c=>by
  cases o with
  | false=>exact (S.plain x d h1).elim λv q=>⟨v,q.1,q.2.sub λZ q=>q.less⟩
  | true=>
   have f:x∈ns:=Av.mp (by simpa using c)
   exact (S.owned x d h1).elim λa q=>⟨_,q.2.1,(q.2.2.sub λZ q=>q.less).rep (S.off q.1 (λZ Z=>eJ) (by unfold Own.less;rw[yT f];nofun))⟩
 owned:=λx d e=>nv e λo h1 c=>bQ c λj i=>by
  subst j;have f:¬ x∈ns:=λq=>by rw[Av.mpr q] at i;cases i
  exact (S.owned x d h1).elim λa q=>⟨a,(yV f).trans q.1,q.2.1,q.2.2.sub λZ q=>q.less⟩
 hot:=⟨S.hot.keep,λa q=>S.hot.ex a q.less,λb o e q=>S.hot.off b o e q.less⟩
 keep:=S.keep
 frE:=S.frE
 own1:=λx a e=>S.own1 x a (eJ e)
 inj:=λx y a e1 n=>S.inj x y a (eJ e1) (eJ n)
 ownx:=λx a e=>S.ownx x a (eJ e)
theorem bE.cc(S:bE w E6 Fe h EW EV Fb m σ){s:yL}(b:s.heap=h)(ns:yA yF):Cc w E6 s EW (Hot EW EV (Fb.less ns)) (vis σ) m ns:=by
 subst b;refine⟨S.rep,(S.freeze ns).hot,λx c Z d a=>?_⟩
 rw[cz] at a;refine bM a λp h1 f=>(S.freeze ns).plain x d ?_
 rw[bw,h1,DW,f,Av.mpr c,Bool.not_true,CB]
end
section
variable {w:zq} {E6 Fe h EU E7:Heap} {EW:Env} {EV:yN->Prop} {Fb:Own} {m:Str->yK yE} {σ:St}
theorem fq{a:yN}(R:bK h EW m)(b:frm EW a):∃ o,gat h a=ac o:=b.elim (λe=>R.loc.elim λZ q=>e▸tN q.1) λq=>q.elim λy e=>R.ex y a e
noncomputable def Own.set(Fb:Own)(x:yF)(a:yK yN):Own:=λy=>if y=x then a else Fb y
theorem kj{x y:yF}{p q:yH×D}{C:Prop}(e:(ay σ x p).lookup y=ac q)(a:y=x->p=q->C)(k2:¬ y=x->σ.lookup y=ac q->C):C:=by
 rw[aJ] at e;exact cY e (λh e=>a h (yJ e)) k2
theorem eH{x y:yF}{a:yK yN}{c:yN}{C:Prop}(e:Fb.set x a y=ac c)(b:y=x->a=ac c->C)(k2:¬ y=x->Fb y=ac c->C):C:=cY e b k2
theorem xf{x y:yF}{v:yE}(h:¬ y=x):upd m (yB x) v (yB y)=m (yB y):=yV λe=>h (dR e)
theorem bE.set(S:bE w E6 Fe h EW EV Fb m σ){x:yF}{v:yE}{j:yK yN}{fr:yH}{d:D}(i:bK E7 EW (upd m (yB x) v))(A:nT h (Hot EW EV Fb) E7)(L:∀ y a o,Fb y=ac a->gat h a=ac o->gat E7 a=ac o)(B:∀ b o,gat h b=ac o->∃ C,gat E7 b=ac C)(ke:KH Fe E7)
  (f:∀ c,j=ac c->gat h c=yS/\¬ EV c/\∃ o,gat E7 c=ac o) (M:fr=yz->Rep w.params E7 (Hot EW EV (Fb.set x j)) v d) (N:fr=yC->∃ c,j=ac c/\v=.ref c/\dH w.params E7 (Hot EW EV (Fb.set x j)) c d) :
  bE w E6 Fe E7 EW EV (Fb.set x j) (upd m (yB x) v) (ay σ x (fr,d)):=
 have E:sI h (Hot EW EV Fb) (Hot EW EV (Fb.set x j)):=λb o e q=>q.imp id λq=>q.imp id λq=>q.elim λy q=>eH q (λZ q=>cx e (f b q).1) λZ q=>⟨y,q⟩
 {rep:=i
  plain:=λy G e=>kj e (λn ep=>⟨v,n▸yT QQ,(zR ep).2▸M (zR ep).1⟩) λs e=>(S.plain y G e).elim λu q=>⟨u,(xf s).trans q.1,q.2.mono A E⟩
  owned:=λy G e=>kj e (λn ep=>(N (zR ep).1).elim λc q=>⟨c,n▸(yT QQ).trans q.1,n▸(yT QQ).trans (y6 ac q.2.1),(zR ep).2▸q.2.2⟩) λs e=>(S.owned y G e).elim λc q=>⟨c,(yV s).trans q.1,(xf s).trans q.2.1,q.2.2.mono (λo e=>L y c o q.1 e) A λb o e z=>.inl (E b o e z)⟩
  hot:=⟨λb o e=>A b o (S.hot.off b o e) (S.hot.keep b o e),λb q=>q.elim (λq=>(S.hot.ex b (.inl q)).elim λI z=>z.elim λo z=>(B I o z.2).elim λC e=>⟨I,C,z.1,e⟩) λq=>(q.elim (fq i) λq=>q.elim λy q=>eH q (λZ q=>(f b q).2.2) λZ q=>(S.ownx y b q).elim λo z=>B b o z).elim λo z=>⟨b,o,y0 _,z⟩,λb o e q=>S.hot.off b o e (E b o (S.hot.keep b o e) q)⟩
  keep:=ke
  frE:=S.frE
  own1:=λy c H=>eH H (λZ q=>⟨lK S.keep (f c q).1,(f c q).2.1,λz=>(fq S.rep z).elim λo e=>cx e (f c q).1⟩) λZ q=>S.own1 y c q
  inj:=λy z c h1 J=>eH h1 (λe1 t=>eH J (λO Z=>e1.trans O.symm) λZ q=>(S.ownx z c q).elim λo e=>cx e (f c t).1) λZ t=>eH J (λZ q=>(S.ownx y c t).elim λo e=>cx e (f c q).1) λZ q=>S.inj y z c t q
  ownx:=λy c H=>eH H (λZ q=>(f c q).2.2) λZ q=>(S.ownx y c q).elim λo z=>B c o z }
theorem bE.turn(S:bE w E6 Fe h EW EV Fb m σ){x:yF}{a:yN}{j d:D}(H:σ.lookup x=ac (yC,j))(f:Fb x=ac a)(I:Heap.SameBut a h E7)(s:dH w.params E7 (Hot EW EV Fb) a d) :
  bE w E6 Fe E7 EW EV Fb m (ay σ x (yC,d)):=by
 refine (S.owned x _ H).elim λi q=>?_
 have J:i=a:=yJ (q.1.symm.trans f);subst J;have n:Mv i h E7:=xn ⟨I,q.2.2.notTab,s.notTab⟩;have g:=S.own1 x i f;have t:nT h (Hot EW EV Fb) E7:=λb o L e=>n b o (λz=>L (z▸.inr (.inr ⟨x,f⟩))) e
 have C:∀ b o,gat h b=ac o->∃ A,gat E7 b=ac A:=λb o e=>(Classical.em (b=i)).elim (λq=>q▸s.ex) λq=>⟨o,n b o q e⟩
 exact
  {rep:=S.rep.keepsAt λb o M e=>n b o (λz=>g.2.2 (z▸M)) e
   plain:=λy B e=>kj e (λZ ep=>nomatch (zR ep).1) λZ e=>(S.plain y B e).elim λu z=>⟨u,z.1,z.2.mono t λZ Z Z q=>q⟩
   owned:=λy B e=>kj e (λE ep=>⟨i,E▸f,E▸q.2.1,(zR ep).2▸s⟩) λN e=>(S.owned y B e).elim λc z=>⟨c,z.1,z.2.1,z.2.2.mono (λo e=>n c o (λw=>N (S.inj y x i (w▸z.1) f)) e) t λZ Z Z q=>.inl q⟩
   hot:=⟨λb o e=>t b o (S.hot.off b o e) (S.hot.keep b o e),λb q=>(S.hot.ex b q).elim λG z=>z.elim λo z=>(C G o z.2).elim λA e=>⟨G,A,z.1,e⟩,S.hot.off⟩
   keep:=λb o e=>n b o (λz=>cx e (z▸g.1)) (S.keep b o e)
   frE:=S.frE
   own1:=S.own1
   inj:=S.inj
   ownx:=λy c O=>(S.ownx y c O).elim λo z=>C c o z }
end
section
variable {E3:zh} {w:zq} {A:zt}
theorem isKey_tk(k:yA CK):(eV k).isKey=yC:=zk.mpr λd a=>(zn.mp a).elim λc q=>q.2▸by cases c <;> rfl
theorem dictH_own{E3:zh}{w:zq}{h:Heap}{H:yN->Prop}{a:yN}{xs:yA (yA CK×yN×yE)}{ks vs:yA D}(y:h.DictOfH (TKd E3 w) a xs)(e1:xs.map kD=ks)(h1:al w.params h (λb=>H b\/b=a) (xs.map λx=>Value.ref x.2.1) ks)(A:al w.params h (λb=>H b\/b=a) (xs.map (·.2.2)) vs)(B:ks.length<=big)(C:(a == Dg)=yz):nS w.params h H a ks vs:=by
 obtain⟨n,f,i,g1,⟨o,s,t⟩,u,j,I,E⟩:=y;have m:n=nP f i:=by obtain⟨a,b,c,d⟩:=n;dsimp only at o s t u;subst o s t u;rfl
 subst e1;exact⟨m▸g1,B,by rw[j,zV];exact h1,by rw[j,zV];exact A,by rw[j,zV,zV];exact AH λx Z=>wl x.1,
  zk.mpr λz G=>(zn.mp G).elim λx q=>q.2▸isKey_tk x.1,AP.mpr ((AP.mp E).imp λh e=>h (ofTK_inj e)),C⟩
theorem bE.ownAt{E6 Fe h:Heap}{EW:Env}{EV:yN->Prop}{Fb:Own}{m:Str->yK yE}{σ:St}(S:bE w E6 Fe h EW EV Fb m σ){x:yF}{L:yN}{d:D}(a:σ.lookup x=ac (yC,d))(b:Fb x=ac L):dH w.params h (Hot EW EV Fb) L d:=
 (S.owned x _ a).elim λc q=>yJ (q.1.symm.trans b)▸q.2.2
theorem nj{s:yL}{H:yN->Prop}{L:yN}{ks vs:yA D}{u J:yE}{d dk:D}{Q:Unit->yL->Prop}{E:yE->yL->Prop}(V:A.units+1<A9)(o:nS w.params s.heap H L ks vs)
  (t:Rep w.params s.heap (λb=>H b\/b=L) J dk) (M:Rep w.params s.heap (λb=>H b\/b=L) u d) (X:dL dk ks=yC) (a:ks.length<big)
  (y:∀ h' tk dw,Heap.SameBut L s.heap h'->nS w.params h' H L (dG ks vs dk d).1 (dG ks vs dk d).2->Q () { s with heap:=h',toks:=tk,drawn:=dw }):wpAny (yR E3 w) A (setItem (.ref L) J u) Q E s:=by
 refine o.rec λ{es n} o1 o2 j N O Fm m T=>?_
 have i:(dG ks vs dk d).1.length<=big:=yD (dput_len dk d ks vs) a;have mv:∀ {h'},Heap.SameBut L s.heap h'->∀ {l:yA yE} {ds:yA D},al w.params s.heap (λb=>H b\/b=L) l ds->al w.params h' (λb=>H b\/b=L) l ds:=λf EP EP r=>
  r.mono (λb o Y e=>g1 f (bZ o1) b (λq=>Y (.inr q)) e) λEP EP EP q=>q
 refine mI X (λh1 z=>?_) ?_
 ·obtain⟨B,rfl⟩:=pU z
  obtain⟨c,rfl⟩:=gL h1;have U:B.length=(es.toList.map (·.val)).length:=by have:=j.length;rw[yI,yI] at this;rw[yI,this]
  have C:B.Nodup:=(AP.mp m).imp λh e=>h (y6 bx e)
  refine wpAny_setItem_pairs (knd:=cI E3 w) (mq t) (pN o1 j O m) (λh' G f=>?_) (by
   rw[C5,<- U,DP];rw[yI] at a;exact zy a)
  have p:=stored_dput (k:=c) M U C N;refine (rep_dictOf (H:=λb=>H b\/b=L) G).elim λZ r=>r.elim λFo r=>?_
  rw[p.1] at r;exact y _ _ _ f ⟨r.1,i,r.2.1,r.2.2.1▸mv f p.2,r.2.2.2.1,r.2.2.2.2.1,r.2.2.2.2.2,T⟩
 ·intro h1 z
  obtain⟨B,rfl⟩:=uv z;obtain⟨c,rfl⟩:=sL h1;obtain⟨xs,G,e1,Fg,Fh⟩:=mV (E3:=E3) o1 j O m;obtain⟨b,rfl,Fi⟩:=rN (E3:=E3) t;subst e1;have Fj:(xs.map (·.1)).Nodup:=(AP.mp m).imp λh e=>h (by rw[e])
  have Fk:(xs.map (·.1)).map eV=xs.map kD:=by rw[zV];rfl
  rw[Fk] at j i y;have p:=storedH_dput t M Fj (Fg▸j) (Fh▸N);exact wpAny_setItem_heap (knd:=TKd E3 w) V Fi G (λh' I f=>y _ _ _ f (dictH_own I p.1 (mv f p.2.1) (mv f p.2.2) i T)) (by
   rw[yI,yI] at a;exact zy a)
end
structure Tr(EQ:Heap)(EW:Env)(EY:Own)(h:Heap)(Fb:Own):Prop where
 k:∀ b o,gat EQ b=ac o->¬ frm EW b->(∀ x,EY x≠ac b)->gat h b=ac o
 x:∀ b o,gat EQ b=ac o->∃ o',gat h b=ac o'
 o:∀ x a,Fb x=ac a->EY x=ac a\/gat EQ a=yS
section
variable {EQ h EU E7:Heap} {EW:Env} {EY Fb E0 own₂:Own}
theorem Tr.of(c:KH EQ h)(f:∀ x a,Fb x=ac a->EY x=ac a):Tr EQ EW EY h Fb:=⟨λb o e Z Z=>c b o e,λb o e=>⟨o,c b o e⟩,λx a e=>.inl (f x a e)⟩
theorem Tr.keeps(a:KH EQ h):Tr EQ EW Fb h Fb:=.of a λZ Z e=>e
theorem Tr.none(t:Tr EQ EW EY h Fb){a:yN}(e:gat h a=yS):gat EQ a=yS:=vD (t.x a) e
theorem Tr.sub(t:Tr EQ EW EY h Fb){b:yN}{o:Obj}(e:gat EQ b=ac o)(a:∀ x,EY x≠ac b):∀ x,Fb x≠ac b:=λx q=>(t.o x b q).elim (a x) λq=>cx e q
theorem Tr.trans(t:Tr EQ EW EY EU E0)(u:Tr EU EW E0 E7 own₂):Tr EQ EW EY E7 own₂:=
 ⟨λb o e c f=>u.k b o (t.k b o e c f) c (t.sub e f),λb o e=>(t.x b o e).elim λh i=>u.x b h i,λx a e=>(u.o x a e).elim (t.o x a) λe=>.inr (t.none e)⟩
end
structure wN(w:zq)(Fe h:Heap)(EV:yN->Prop)(v:yE)(fr:yH)(d:D):Prop where
 rep:Rep w.params h EV v d
 keep:KH Fe h
 fr:fr=yC->Fr w.params Fe h EV d v
noncomputable def vE:Own:=λZ=>yS
noncomputable def aY(w:zq)(E6 Fe:Heap)(EW:Env)(EV:yN->Prop)(s:yL)(Fb:Own)(r:Fl×St)(f:Dp)(s':yL):Prop:=
 ∀ Q:Dp->yL->Prop,(∀ h tk dw E1 m,r.1=.next->Tr s.heap EW Fb h E1->bE w E6 Fe h EW EV E1 m r.2->Q .next { s with heap:=h,toks:=tk,drawn:=dw }) ->
  (∀ h tk dw fr d v,r.1=.ret fr d->Tr s.heap EW Fb h vE->wN w Fe h EV v fr d->Q (.ret v) { s with heap:=h,toks:=tk,drawn:=dw })->Q f s'
section
variable {E3:zh} {w:zq} {A:zt} {E6:Heap} {mg mb:Str->yK yE} {cf:CF}
noncomputable def SS(E3:zh)(w:zq)(A:zt)(E6:Heap)(cf:CF)(a:MS):Prop:=
 ∀ (s:yL) (EW:Env) (st:zZ) (EV:yN->Prop) (Fe:Heap) (Fb:Own) (m:Str->yK yE) (σ:St) (r:Fl×St) (E:yE->yL->Prop),mW EW.kindOf st a=yC->bE w E6 Fe s.heap EW EV Fb m σ ->
  exS cf a σ=ac r->wpAny (yR E3 w) A (CE st EW) (aY w E6 Fe EW EV s Fb r) E s
noncomputable def SSs(E3:zh)(w:zq)(A:zt)(E6:Heap)(cf:CF)(a:yA MS):Prop:=
 ∀ (s:yL) (EW:Env) (b:yA zZ) (EV:yN->Prop) (Fe:Heap) (Fb:Own) (m:Str->yK yE) (σ:St) (r:Fl×St) (E:yE->yL->Prop),fG EW.kindOf b a=yC->bE w E6 Fe s.heap EW EV Fb m σ ->
  bk cf a σ=ac r->wpAny (yR E3 w) A (CT b EW) (aY w E6 Fe EW EV s Fb r) E s
section
variable {Fe:Heap} {EW:Env} {EV:yN->Prop} {s:yL} {Fb E0:Own} {m:Str->yK yE} {σ:St} {r:Fl×St} {f:Dp} {s':yL} {EU E7:Heap} {tk:Nat} {dw:Drawn}
theorem aY.nx(t:Tr s.heap EW Fb EU E0)(S:bE w E6 Fe EU EW EV E0 m σ):aY w E6 Fe EW EV s Fb (.next,σ) .next { s with heap:=EU,toks:=tk,drawn:=dw }:=λZ a Z=>a EU tk dw E0 m QQ t S
theorem aY.rt{fr:yH}{d:D}{v:yE}(t:Tr s.heap EW Fb EU vE)(R:wN w Fe EU EV v fr d):aY w E6 Fe EW EV s Fb (.ret fr d,σ) (.ret v) { s with heap:=EU,toks:=tk,drawn:=dw }:=λZ Z a=>a EU tk dw fr d v QQ t R
theorem aY.trans(t:Tr s.heap EW Fb EU E0)(q:aY w E6 Fe EW EV { s with heap:=EU,toks:=tk,drawn:=dw } E0 r f s'):aY w E6 Fe EW EV s Fb r f s':=
 λQ a b=>q Q (λh tk dw E1 m e u S=>a h tk dw E1 m e (t.trans u) S) λh tk dw fr d v e u R=>b h tk dw fr d v e (t.trans u) R
noncomputable def ef(Fb:Own)(d:D)(ns:yA yF):Own:=if d.scalar then Fb else Fb.less ns
theorem iu{d:D}{ns:yA yF}{x:yF}{a:yN}(e:ef Fb d ns x=ac a):Fb x=ac a:=by
 unfold ef at e;split at e
 ·exact e
 ·exact eJ e
theorem bE.settle(S:bE w E6 Fe EU EW EV Fb m σ)(d:D)(ns:yA yF):bE w E6 Fe EU EW EV (ef Fb d ns) m (Mine.settle d ns σ):=by
 unfold Mine.settle ef;cases d.scalar with
 | true=>exact S
 | false=>exact S.freeze ns
theorem rep_settle{H:yN->Prop}{X:yN->Prop}{ns:yA yF}{v:yE}{d:D}(a:Rep w.params EU (λb=>Hot EW EV (Fb.less ns) b\/X b) v d):Rep w.params EU (λb=>Hot EW EV (ef Fb d ns) b\/X b) v d:=by
 unfold ef;cases c:d.scalar with
 | true=>exact a.scalar c
 | false=>exact a
theorem jz{ns:yA yF}{v:yE}{d:D}(a:Rep w.params EU (Hot EW EV (Fb.less ns)) v d):Rep w.params EU (Hot EW EV (ef Fb d ns)) v d:=by
 unfold ef;cases b:d.scalar with
 | true=>exact a.scalar b
 | false=>exact a
noncomputable def refOf(v:yE):yK yN:=match v with | .ref c=>ac c | _=>yS
noncomputable def rR(fr:yH)(v:yE):yK yN:=if fr then refOf v else yS
theorem kT{x:yF}{ns:yA yF}{d:D}{fr:yH}{v:yE}{a:yN}{X:yN->Prop}
  (S:bE w E6 Fe s.heap EW EV Fb m σ) (T:KH s.heap EU) (L:Rep w.params EU (λb=>Hot EW EV (Fb.less ns) b\/X b) v d)
  (i:fr=yC->Fr w.params s.heap EU (λb=>Hot EW EV (Fb.less ns) b\/X b) d v)
  (h:bK E7 EW (upd m (yB x) v)) (j:frm EW a) (U:∀ b,X b->gat s.heap b=yS) (A:∀ b,b≠a->¬ X b->∀ {o},gat EU b=ac o->gat E7 b=ac o) :
  bE w E6 Fe E7 EW EV ((ef Fb d ns).set x (rR fr v)) (upd m (yB x) v) (ay (Mine.settle d ns σ) x (fr,d))/\Tr s.heap EW Fb E7 ((ef Fb d ns).set x (rR fr v)):=by
 have V:∀ b o,gat s.heap b=ac o->¬ X b:=λb o e q=>cx e (U b q)
 have M:=S.settle d ns;have C:Hot EW EV (ef Fb d ns) a:=.inr (.inl j);have k2:∀ b o,gat s.heap b=ac o->b≠a->gat E7 b=ac o:=λb o e q=>A b q (V b o e) (T b o e)
 have N:∀ b o,gat s.heap b=ac o->∃ E,gat E7 b=ac E:=λb o e=>(Classical.em (b=a)).elim (λq=>q▸fq h j) λq=>⟨o,k2 b o e q⟩
 have G:∀ c,rR fr v=ac c->fr=yC/\v=.ref c:=λc n=>by
  cases fr with
  | false=>cases n
  | true=>
   refine⟨QQ,Fr.rec (motive:=λv EP=>refOf v=ac c->v=.ref c) (λEP EP e=>y6 Value.ref (yJ e)) (i QQ) n⟩
 have O:∀ c,v=.ref c->fr=yC->gat s.heap c=yS/\¬ EV c/\¬ X c/\dH w.params EU (λb=>Hot EW EV (Fb.less ns) b\/X b) c d:=λc e t=>by
  subst e;cases i t with
  | mk g o=>
   have z:=o.off L;exact⟨g,λq=>z (.inl (.inl q)),λq=>z (.inr q),o⟩
 have B:∀ c,rR fr v=ac c->gat s.heap c=yS/\¬ EV c/\∃ o,gat E7 c=ac o:=λc n=>
  have q:=O c (G c n).2 (G c n).1
  ⟨q.1,q.2.1,q.2.2.2.ex.elim λo e=>⟨o,A c (λz=>(fq S.rep j).elim λE I=>cx I (z▸q.1)) q.2.2.1 e⟩⟩
 have f:∀ b,Hot EW EV ((ef Fb d ns).set x (rR fr v)) b->Hot EW EV (ef Fb d ns) b\/rR fr v=ac b:=λb q=>q.elim (λq=>.inl (.inl q)) λq=>q.elim (λq=>.inl (.inr (.inl q))) λq=>q.elim λy q=>eH q (λEP q=>.inr q) λEP q=>.inl (.inr (.inr ⟨y,q⟩))
 refine⟨M.set h (λb o u e=>k2 b o e λq=>u (q▸C)) (λy c o Y e=>k2 c o e λq=>(M.own1 y c Y).2.2 (q▸j)) N (λb o e=>k2 b o (S.keep b o e) λq=>cx e (q▸S.frE a j)) B (λt=>?_) λt=>?_,λb o e t EP=>k2 b o e λq=>t (q▸j),N,λy c n=>eH n (λEP q=>.inr (B c q).1) λEP q=>.inl (iu q)⟩
 ·subst t
  exact (rep_settle (H:=EV) L).mono (λb o u e=>A b (λq=>u (.inl (q▸C))) (λq=>u (.inr q)) e) λb o EP q=>.inl ((f b q).elim id λq=>nomatch q)
 ·subst t
  have Z:∃ c,v=.ref c:=Fr.rec (motive:=λv EP=>∃ c,v=.ref c) (λEP EP=>⟨_,QQ⟩) (i QQ)
  refine Z.elim λc e=>⟨c,by rw[e];rfl,e,?_⟩
  have q:=O c e QQ;have J:ef Fb d ns=Fb.less ns:=by unfold ef;rw[q.2.2.2.scalar];rfl
  have Fg:c≠a:=λz=>(fq S.rep j).elim λE I=>cx I (z▸q.1)
  rw[J] at C f ⊢;exact q.2.2.2.mono (λo e=>A c Fg q.2.2.1 e) (λb o u e=>A b (λq=>u (.inl (q▸C))) (λq=>u (.inr q)) e) λb o EP z=>(f b z).elim (λz=>.inl (.inl z)) λz=>.inr (Value.ref.inj ((G b z).2.symm.trans e))
end
theorem iW{k:KD}{x:Str}(a:cq k x=yC):k x=ac .local\/k x=ac .cell:=by
 unfold cq at a;simp only[Bb,DS,AZ] at a;exact a.1
structure Cx(E3:zh)(w:zq)(A:zt)(E6:Heap)(mg mb:Str->yK yE)(cf:CF):Prop where
 G:GOk mg mb E6
 C:eU E3 w E6 mg cf A
 hh:A.handled=yS
 hu:qf A
section
variable {s:yL} {EW:Env} {EV:yN->Prop} {Fe:Heap} {Fb:Own} {m:Str->yK yE} {σ:St} {e:ME} {d:D} {fr:yH} {v:y4} {E:yE->yL->Prop} {Q:yE->yL->Prop}
theorem nk(Z:Cx E3 w A E6 mg mb cf)(S:bE w E6 Fe s.heap EW EV Fb m σ)(a:aI EW.kindOf v e=yC)(b:evE cf (vis σ) e=ac d)
  (k:∀ u h tk dw,KH s.heap h->Rep w.params h (Hot EW EV (Fb.less e.names)) u d->Q u { s with heap:=h,toks:=tk,drawn:=dw }):wpAny (yR E3 w) A (zF v EW) Q E s:=by
 exact rE ((ry Z.G Z.C Z.hh Z.hu e).e s EW v _ (vis σ) m d E a (S.cc QQ e.names) b) k
theorem xo(Z:Cx E3 w A E6 mg mb cf)(S:bE w E6 Fe s.heap EW EV Fb m σ)(i:aI EW.kindOf v e=yC)(j:evF cf (vis σ) e=ac (d,fr))
  (k:∀ u h tk dw,KH s.heap h->Rep w.params h (Hot EW EV (Fb.less e.names)) u d->(fr=yC->Fr w.params s.heap h (Hot EW EV (Fb.less e.names)) d u)->Q u { s with heap:=h,toks:=tk,drawn:=dw }) :
  wpAny (yR E3 w) A (zF v EW) Q E s:=by
 exact bG ((ry Z.G Z.C Z.hh Z.hu e).f s EW v _ (vis σ) m d fr E i (S.cc QQ e.names) j) λu c q=>q.rec λn a b=>bP.rec (motive:=λs' Y=>Rep w.params s'.heap (Hot EW EV (Fb.less e.names)) u d->(fr=yC->Fr w.params s.heap s'.heap (Hot EW EV (Fb.less e.names)) d u)->Q u s') (λh tk dw o a b=>k u h tk dw o a b) n a b
theorem qJ(Z:Cx E3 w A E6 mg mb cf)(S:bE w E6 Fe s.heap EW EV Fb m σ)(c:aI EW.kindOf v e=yC)(f:evE cf (vis σ) e=ac d){b:yH}(i:bU d=ac b){Q:yH->yL->Prop}
  (k:∀ h tk dw,KH s.heap h->Q b { s with heap:=h,toks:=tk,drawn:=dw }):wpAny (yR E3 w) A (B8 v EW (zF v EW)) Q E s:=by
 exact bG ((ry Z.G Z.C Z.hh Z.hu e).t s EW v _ (vis σ) m d b E c (S.cc QQ e.names) f i) λu a q=>bP.rec (motive:=λs' Y=>Q u s') (λh tk dw j=>q.e▸k h tk dw j) q.k
end
theorem isComp_inv{e:ME}{C:ME->Prop}(h:e.isComp=yC)(k:∀ elt x E5 cs,C (.comp elt x E5 cs)):C e:=ME.comp.elim (motive_1:=C) e (zG h) k
theorem xi_assign{x:yF}{e:ME}{σ:St}{r:Fl×St}{C:Prop}(h:exS cf (.x0 x e) σ=ac r)(k:∀ d fr,evF cf (vis σ) e=ac (d,fr)->(.next,ay (Mine.settle d e.names σ) x (fr,d))=r->C):C:=by
 rw[qw] at h;cases a:evF cf (vis σ) e with
 | none=>rw[a] at h;exact aj h
 | some p=>rw[a] at h;exact k p.1 p.2 a (yJ h)
theorem assign_comp(Z:Cx E3 w A E6 mg mb cf){s:yL}{EW:Env}{EV:yN->Prop}{Fe:Heap}{Fb:Own}{m:Str->yK yE}{σ:St}{x z:yF}{elt E5:ME}{cs:yA ME}{d:D}{fr:yH}{v:y4}{p h:Pos}{E:yE->yL->Prop}
  (H:cq EW.kindOf (yB x)=yC) (S:bE w E6 Fe s.heap EW EV Fb m σ) (I:evF cf (vis σ) (.comp elt z E5 cs)=ac (d,fr)) (hi:wQ EW.kindOf elt z E5 cs v)
  (plain:Ef v (ac (.Name (yB x) p)) h.line EW=pure yz->wpAny (yR E3 w) A (CE (.Assign [.Name (yB x) p] v h) EW) (aY w E6 Fe EW EV s Fb (.next,ay (Mine.settle d (ME.comp elt z E5 cs).names σ) x (fr,d))) E s) :
  wpAny (yR E3 w) A (CE (.Assign [.Name (yB x) p] v h) EW) (aY w E6 Fe EW EV s Fb (.next,ay (Mine.settle d (ME.comp elt z E5 cs).names σ) x (fr,d))) E s:=by
 obtain @⟨t,py,it,ifs,scope,lp,c1,c2,c3,c4,c5⟩:=hi;have i:∃ b,Ef (.ListComp t [⟨.Name (yB z) py,it,ifs,0⟩] scope lp) (ac (.Name (yB x) p)) h.line EW=pure b:=⟨_,QQ⟩;obtain⟨b,i⟩:=i;cases b with
 | false=>exact plain i
 | true=>
  clear plain;refine fJ I QQ λI Fp=>?_
  rw[exec_Assign_Name_used _ _ _ _ i];refine yG (wpAny_standAt (yG ?_));show wpAny _ A (do let _ <- comprehension (.ListComp t [⟨.Name (yB z) py,it,ifs,0⟩] scope lp) scope EW _ (newList []) yz (zF it EW) (ac (assign (.Name (yB x) p) EW))) _ _ s
  have c:=S.cc (s:=s) QQ (ME.comp elt z E5 cs).names;refine yG (bG (t9 (use:=ac (assign (.Name (yB x) p) EW)) (Q:=λEP s'=>aY w E6 Fe EW EV s Fb (.next,ay (Mine.settle d (ME.comp elt z E5 cs).names σ) x (fr,d)) .next s') Z.hh (ry Z.G Z.C Z.hh Z.hu elt).e (ry Z.G Z.C Z.hh Z.hu E5).e (all_Cs Z.G Z.C Z.hh Z.hu cs) c1 c2 c3 c4 c5 c I ?_)
   λEP s' hq=>yU (yU hq))
  intro L Cc h' tk dw m' Fq J Fh Fi M N j Fj;subst J Fp;show wpAny _ A (assign (.Name (yB x) p) EW (.ref L)) _ _ _;refine Eo (ki (s:={ s with heap:=h',toks:=tk,drawn:=dw }) (S.rep.keeps Fj) (iW H) λE7 O T a n Fs Fk=>?_)
  have u:frm EW a:=Fs.imp id λe=>⟨_,e⟩
  have y:¬ frm EW Cc:=λq=>(fq S.rep q).elim λo e=>cx e Fi
  have B:=N.sameBut Fk.s λq=>y (q▸u)
  refine⟨m',B,λFm f=>?_⟩
  have Fo:=fL B;have U:gat s.heap L=yS:=by
   cases e:gat s.heap L with
   | none=>rfl
   | some o=>exact zl (Fh _ _ e) (zY _)
  have V:¬ Hot EW EV (Fb.less (ME.comp elt z E5 cs).names) L:=λq=>(c.x L q).elim λb q=>q.elim λo q=>zY _ (yO q.1 (Fh b o q.2))
  have q:=kT (fr:=yC) (X:=λb=>b=Cc) (EU:=h') S Fj (j.rep λq=>q.elim V M) (λEP=>⟨U,j⟩) (n.keepsAt λb o Ft e=>g1 f Fo b (λq=>y (q▸Ft)) e) u (λb q=>q▸Fi) λb Y Fg EP e=>g1 f Fo b Fg ((Fk.g b Y).trans e)
  exact aY.nx q.2 q.1
theorem l6(Z:Cx E3 w A E6 mg mb cf){s:yL}{EW:Env}{EV:yN->Prop}{Fe:Heap}{Fb:Own}{m:Str->yK yE}{σ:St}{x:yF}{e:ME}{d:D}{fr:yH}{v:y4}{p n:Pos}{E:yE->yL->Prop}{Q:Dp->yL->Prop}
  (t:cq EW.kindOf (yB x)=yC) (C:aI EW.kindOf v e=yC) (S:bE w E6 Fe s.heap EW EV Fb m σ) (G:evF cf (vis σ) e=ac (d,fr)) (y:Ef v (ac (.Name (yB x) p)) n.line EW=pure yz)
  (k:∀ u h tk dw,bE w E6 Fe h EW EV ((ef Fb d e.names).set x (rR fr u)) (upd m (yB x) u) (ay (Mine.settle d e.names σ) x (fr,d))->Tr s.heap EW Fb h ((ef Fb d e.names).set x (rR fr u))->Q .next { s with heap:=h,toks:=tk,drawn:=dw }):wpAny (yR E3 w) A (CE (.Assign [.Name (yB x) p] v n) EW) Q E s:=
 wpAny_Assign_Name (xo Z S C G λu EU c f B H z=>ki (s:={ s with heap:=EU,toks:=c,drawn:=f }) (S.rep.keeps B) (iW t) λE7 i j a o I J=>
  have q:=kT (X:=λY=>False) S B (H.sub λY q=>q.elim id False.elim) (λL=>(z L).sub λY q=>q.elim id False.elim) o (I.imp id λe=>⟨_,e⟩) (λY q=>q.elim) λb M Y Y e=>(J.g b M).trans e
  k u E7 i j q.1 q.2) y
theorem ss_assign(Z:Cx E3 w A E6 mg mb cf)(x:yF)(e:ME):SS E3 w A E6 cf (.x0 x e):=λs EW st EV Fe Fb m σ r E b S j=>
 xi_assign j λd fr i q=>q▸ou.rec (motive:=λst Y=>wpAny (yR E3 w) A (CE st EW) (aY w E6 Fe EW EV s Fb (.next,ay (Mine.settle d e.names σ) x (fr,d))) E s) (λ{p v a} c b=>by
  have plain:Ef v (ac (.Name (yB x) p)) a.line EW=pure yz->wpAny (yR E3 w) A (CE (.Assign [.Name (yB x) p] v a) EW) (aY w E6 Fe EW EV s Fb (.next,ay (Mine.settle d e.names σ) x (fr,d))) E s:=λn=>
   l6 Z c b S i n λu h tk dw o q2=>aY.nx q2 o
  cases f:e.isComp with
  | false=>exact plain ((tx b).swap f _ _ _)
  | true=>exact isComp_inv (C:=λe=>aI EW.kindOf v e=yC->evF cf (vis σ) e=ac (d,fr)->(_->wpAny (yR E3 w) A (CE (.Assign [.Name (yB x) p] v a) EW) (aY w E6 Fe EW EV s Fb (.next,ay (Mine.settle d e.names σ) x (fr,d))) E s)->wpAny (yR E3 w) A (CE (.Assign [.Name (yB x) p] v a) EW) (aY w E6 Fe EW EV s Fb (.next,ay (Mine.settle d e.names σ) x (fr,d))) E s) f (λt z E5 y b i plain=>assign_comp Z c S i (pt b) plain) b i plain) (pu b)
end
theorem qP:Manifest.owners.lookup (String.ofList ['d','e','s','r','e','v','e','r'].reverse)=ac Manifest.sig_reversed:=by kernel_rfl
theorem dZ:Slot "reversed" "__next__" "reversed.__next__":=
 .of (owner:="reversed") (n:="__next__") (by rw[Cm,Br];kernel_rfl) (by decide +kernel) (by decide +kernel) (by decide +kernel)
  (by first | exact .inl (by decide +kernel) | exact .inr (by decide +kernel)) (by rw[B6];kernel_rfl)
theorem jU:entryFor table "reversed.__next__"=ac Bq.«reversed.__next__»:=entryFor_of_tree (by kernel_rfl)
theorem kQ(a:yE):Dd "reversed.__next__" ⟨[a],[]⟩:=by
 unfold Dd;rw[signature?_of (id:="reversed.__next__") (n:=['_','_','t','x','e','n','_','_']) (o:=['d','e','s','r','e','v','e','r']) (by kernel_rfl) qP];kernel_rfl
theorem kG:Slot "reversed" "__iter__" "reversed.__iter__":=
 .of (owner:="reversed") (n:="__iter__") (by rw[Cm,Br];kernel_rfl) (by decide +kernel) (by decide +kernel) (by decide +kernel)
  (by first | exact .inl (by decide +kernel) | exact .inr (by decide +kernel)) (by rw[B6];kernel_rfl)
theorem args_rev_iter(a:yE):Dd "reversed.__iter__" ⟨[a],[]⟩:=by
 unfold Dd;rw[signature?_of (id:="reversed.__iter__") (n:=['_','_','r','e','t','i','_','_']) (o:=['d','e','s','r','e','v','e','r']) (by kernel_rfl) qP];kernel_rfl
theorem entry_rev_iter:entryFor table "reversed.__iter__"=ac Bq.«dict_keyiterator.__iter__»:=
 entryFor_alias (id':="dict_keyiterator.__iter__") (by kernel_rfl) (by first | rfl | decide +kernel | (unfold String.splitOn;simp +decide [String.splitOnAux])) (by decide +kernel) (by kernel_rfl)
theorem lookup_tuple_reversed:typeLookup (.type "tuple") "__reversed__"=pure yS:=by rw[Cm,Br];kernel_rfl
noncomputable abbrev rvO(l:yN)(i:Int):Obj:={ cls:=.type "reversed",data:=.fields #[.ref l,Bk i] }
theorem kH:Slot "reversed" "__init__" "object.__init__":=
 .of (owner:="object") (n:="__init__") (by rw[Cm,Br];kernel_rfl) (by decide +kernel) (by decide +kernel) (by decide +kernel)
  (by first | exact .inl (by decide +kernel) | exact .inr (by decide +kernel)) (by rw[B6];kernel_rfl)
theorem called_rev:TypeCalled "reversed" "reversed.__new__" "object.__init__":=
 ⟨by decide +kernel,F.create_reversed,⟨_,_,F.mro_reversed⟩,F.made_reversed,F.plain_reversed_new,F.sub_reversed_self,kH⟩
section
variable {E3:zh} {w:zq} {A:zt} {E:yE->yL->Prop} {s:yL}
theorem code_rev_tuple{l:yN}{items:zj yE}{Q₁:yE->yL->Prop}(f:PyProof.Rows.IsTup s.heap l items)(hz:(items.size:Int)<2 ^ 63)
  (h:∀ tk,Q₁ (.ref s.heap.objs.size) { s with heap:=s.heap.push (rvO l ((items.size:Int) - 1)),toks:=tk }) :
  Eu (yR E3 w) A (.call (.builtin "reversed.__new__") ⟨[.type "reversed",.ref l],[]⟩) (wants Q₁ E) s:=by
 have c:s.TypeIs (.ref l) "tuple":=let ⟨o,ho,hc,_⟩:=f;⟨o,ho,hc⟩;refine codeAny_of_tree ?_;show wpAny _ A.in1 (do checkBuiltinCall "reversed.__new__" ⟨[.type "reversed",.ref l],[]⟩;again (.builtin "reversed.__new__" ⟨[.type "reversed",.ref l],[]⟩)) _ _ s
 refine yG (Bt (F.newCall_reversed_1 _) (yU ⟨DA F.plain_reversed_new _,BV F.entry_reversed_new ?_⟩));rw[Around.under_plainId F.plain_reversed_new _];unfold Bq.«reversed.__new__»;refine yG (Bt (newClass_reversed _) ?_)
 try dsimp only
 refine yG (Bt (a:=()) (by first | rfl | kernel_rfl) ?_)
 refine yG (Bt (a:=()) (by first | rfl | kernel_rfl) ?_)
 try dsimp only
 refine yG (DU c lookup_tuple_reversed ?_)
 try dsimp only
 refine yG (yG (CP (T:="tuple") (b:=yz) c (by rw[B6];kernel_rfl) ?_))
 rw[yV yQ];refine yG (DU c F.slot_tuple_getitem.lookup ?_);dsimp only;rw[yT (by decide)]
 refine yU ?_;rw[yV (by decide)]
 refine yG (PyProof.Rows.len_tuple f hz ?_);refine yG (Bt (a:=ac (items.size:Int)) QQ ?_);dsimp only;refine yG ?_;refine z4 (data:=.fields #[.ref l,Bk ((items.size:Int) - 1)]) (yU (h _)) (by size_fits)
theorem call_rev_tuple{l:yN}{items:zj yE}{Q:yE->yL->Prop}(c:PyProof.Rows.IsTup s.heap l items)(hz:(items.size:Int)<2 ^ 63)
  (h:∀ tk,Q (.ref s.heap.objs.size) { s with heap:=s.heap.push (rvO l ((items.size:Int) - 1)),toks:=tk }):wpAny (yR E3 w) A (call (.type "reversed") [.ref l]) Q E s:=by
 refine callType_codes (Q₁:=λobj a=>∃ tk,obj=.ref s.heap.objs.size/\a={ s with heap:=s.heap.push (rvO l ((items.size:Int) - 1)),toks:=tk }) called_rev (F.typeCall_reversed_1 _) F.entry_object_init (code_rev_tuple c hz λtk=>⟨tk,QQ,QQ⟩) ?_
 rintro obj a ⟨tk,rfl,rfl⟩;have b:Shared.TypeIs { s with heap:=s.heap.push (rvO l ((items.size:Int) - 1)),toks:=tk } (.ref s.heap.objs.size) "reversed":=⟨_,Heap.get?_push_size _ QQ,QQ⟩
 refine⟨b,F.args_object_init_2 _ _,?_⟩;exact object_init_meets kH.lookup F.made_reversed (by decide) E3 w A.in1 _ _ ⟨b,QQ,h tk⟩
end
section
variable {E3:zh} {w:zq} {A:zt} {E:yE->yL->Prop} {s:yL}
noncomputable def nU(h:Heap)(a l:yN)(i:Int):Prop:=∃ o,h.get? a=ac o/\o.cls=.type "reversed"/\o.data=.fields #[.ref l,Bk i]
theorem nU.typeIs{a l:yN}{i:Int}(x:nU s.heap a l i):s.TypeIs (.ref a) "reversed":=let ⟨o,ho,hc,_⟩:=x;⟨o,ho,hc⟩
theorem next_rv_item{c l:yN}{i:Nat}{items:zj yE}{x:yE}{Q:yK yE->yL->Prop}(hit:nU s.heap c l (i:Int))(m:PyProof.Rows.IsTup s.heap l items)(hz:(items.size:Int)<2 ^ 63)(n:items[i]?=ac x)
  (t:∀ h' tk,nU h' c l ((i:Int) - 1)->Heap.SameBut c s.heap h'->Q (ac x) { s with heap:=h',toks:=tk }):wpAny (yR E3 w) A (BZ (.ref c)) Q E s:=by
 obtain⟨o,b,h,f⟩:=id hit;have q:i<items.size:=(Array.getElem?_eq_some_iff.mp n).1;have u:s.TypeIs (.ref l) "tuple":=let ⟨o,b,h,_⟩:=m;⟨o,b,h⟩;unfold BZ;refine yG (CY (BJ (name:=yB "__next__") hit.typeIs dZ
  (AN dZ hit.typeIs jU ?_ (kQ _))))
 unfold Bq.«reversed.__next__»;refine yG (Bt (a:=(Value.ref c,[])) QQ ?_)
 try dsimp only
 refine yG (Cq b f (x:=.ref l) QQ ?_);refine yG (Cq b f (x:=Bk (i:Int)) QQ ?_);show wpAny _ _ (if (i:Int)<0 then _ else _) _ _ s
 rw[yV (uF)];refine yG (DU u F.slot_tuple_getitem.lookup ?_);rw[yV (by simp)]
 refine yG (wpAny_mkInt ?_);refine yG (CY (PyProof.Rows.getItem_tuple (j:=i) m (om184) (om185 hz q) ?_ n ?_))
 ·have h1:idx (i:Int) items.size=ac i:=by unfold idx;rw[yT (om186 q)];rfl
  exact (sd h1).1
 ·refine yG (Cq b f (x:=Bk (i:Int)) QQ ?_)
  show wpAny _ _ (C8 (.ref c) 1 (Bk ((i:Int) - 1)) >>= _) _ _ _;refine yG (Di b f (by simp) ?_)
  refine yU ⟨x,QQ,yU (t _ _ ?_ (Heap.SameBut.update ..))⟩;exact⟨_,Heap.get?_update_self _ b (Obj.isFreed_of_fields (Obj.data_mapFields f _)),(Obj.cls_mapFields ..).trans h,by
   rw[Obj.data_mapFields f];simp⟩
theorem next_rv_end{f l:yN}{Q:yK yE->yL->Prop}(j:A.handled=yS)(hit:nU s.heap f l (-1))
  (n:∀ h',Heap.ExtBut f s.heap h'->Q yS { s with heap:=h' }):wpAny (yR E3 w) A (BZ (.ref f)) Q E s:=by
 obtain⟨o,h,q,c⟩:=id hit;unfold BZ;refine yG (CY (BJ (name:=yB "__next__") hit.typeIs dZ
  (AN dZ hit.typeIs jU ?_ (kQ _))))
 unfold Bq.«reversed.__next__»;refine yG (Bt (a:=(Value.ref f,[])) QQ ?_)
 try dsimp only
 refine yG (Cq h c (x:=.ref l) QQ ?_);refine yG (Cq h c (x:=Bk (-1)) QQ ?_);show wpAny _ _ (if (-1:Int)<0 then _ else _) _ _ s
 rw[yT (by decide)]
 refine yG (Dk ?_);refine yG (yG (Di h c (by simp) ?_))
 have i:=Heap.get?_update_self (Obj.mapFields (λvs=>vs.setIfInBounds 1 (Bk (-1)))) h (Obj.isFreed_of_fields (Obj.data_mapFields c _))
 refine Di i (Obj.data_mapFields c _) (by simp) ?_
 first
 | show wpAny _ _ (Ed (.type "StopIteration") [] >>= _) _ _ _
 | (refine yG ?_;show wpAny _ _ (Ed (.type "StopIteration") [] >>= _) _ _ _)
 refine yG ?_;simp only[Ed,newTuple];refine yG (z4 ?_ (by size_fits))
 refine yG (m:=CC _ _) (Bt (a:=Value.none) (by first | rfl | (simp only[CC];rfl)) ?_)
 refine z4 ?_ (by size_fits)
 simp only[EB];refine yG (wpAny_handled ?_);rw[show A.in1.handled=yS from j];refine yG (yU (wpAny_throw ?_));refine yG (CP (T:="StopIteration") (b:=yC) ⟨_,Heap.get?_push_size _ QQ,QQ⟩ isSubtype_stop ?_);exact yU (n _ (((((Heap.SameBut.update ..).trans (Heap.SameBut.update ..)).extBut).push _).push _))
end
section
variable {E3:zh} {w:zq} {A:zt} {E:yE->yL->Prop} {s:yL}
theorem vR{a l:yN}{i:Int}{Q:yE->yL->Prop}(hit:nU s.heap a l i)(h:Q (.ref a) s):wpAny (yR E3 w) A (Dw (.ref a)) Q E s:=by
 refine Do hit.typeIs kG (AN kG hit.typeIs entry_rev_iter ?_ (args_rev_iter _));show wpAny _ _ (ret (.ref a)) _ _ s;exact yU ⟨_,QQ,"reversed",_,hit.typeIs,dZ.lookup,h⟩
theorem nU.at{h h':Heap}{a l:yN}{i:Int}(x:nU h a l i)(e:∀ o,h.get? a=ac o->h'.get? a=ac o):nU h' a l i:=let ⟨o,ho,r⟩:=x;⟨o,e _ ho,r⟩
theorem pq{h h':Heap}{a:yN}{vs:zj yE}(x:PyProof.Rows.IsTup h a vs)(e:∀ o,h.get? a=ac o->h'.get? a=ac o):PyProof.Rows.IsTup h' a vs:=let ⟨o,ho,r⟩:=x;⟨o,e _ ho,r⟩
theorem walks_rv(z:A.handled=yS)(I l:yN)(q:l≠I)(items:zj yE)(hz:(items.size:Int)<2 ^ 63) :
  CQ E3 w A I [I,l] [I] items.size (λi v=>items[items.size - 1 - i]?=ac v) (λi h=>i<=items.size/\nU h I l ((items.size:Int) - 1 - (i:Int))/\PyProof.Rows.IsTup h l items) where
 sub:=λb c=>by simp at c;simp[c]
 frame:=λZ Z Z x u=>⟨x.1,x.2.1.at λo e=>u I (by simp) o e,pq x.2.2 λo e=>u l (by simp) o e⟩
 item:=λi s Q E f x j=>by
  have e:(items.size:Int) - 1 - (i:Int)=((items.size - 1 - i:Nat):Int):=by exact om187 f
  have hit:=x.2.1;rw[e] at hit;have y:items[items.size - 1 - i]?=ac (items[items.size - 1 - i]'(om188 f)):=A0 (om188 f);refine next_rv_item hit x.2.2 hz y λh' tk a m=>?_
  have B:((items.size - 1 - i:Nat):Int) - 1=(items.size:Int) - 1 - ((i+1:Nat):Int):=by exact om189 f
  rw[B] at a;exact j _ h' tk y ⟨f,a,pq x.2.2 λo n=>(m.2 l q).trans n⟩ λb o c n=>m.extBut b o (λh=>c (by simp[h])) n
 done:=λs Q E x j=>by
  have e:(items.size:Int) - 1 - (items.size:Int)=-1:=by exact om190
  have hit:=x.2.1;rw[e] at hit;exact next_rv_end z hit λh' t=>j h' s.toks λb o c n=>t b o (λh=>c (by simp[h])) n
 self:=λZ Z Z Z x j=>vR x.2.1 j
end
section
variable {E3:zh} {w:zq} {A:zt} {E:yE->yL->Prop} {s:yL} {H:yN->Prop}
theorem item_rev{P:zH}{h:Heap}{vs:zj yE}{ds:yA D}(b:al P h H vs.toList ds){i:Nat}{v:yE}(hi:i<ds.reverse.length)(a:vs[ds.reverse.length - 1 - i]?=ac v):∃ d,ds.reverse[i]?=ac d/\Rep P h H v d:=by
 rw[C3] at hi a;rw[List.getElem?_reverse hi];exact vT b (yO (De _ _) (AO (yO (za _) hi) AI)) a
theorem iter_rvs{x:yE}{ds:yA D}(y:Rep w.params s.heap H x (.tup ds))(B:A.handled=yS) :
  wpAny (yR E3 w) A (call (.type "reversed") [x]) (λv c=>wpAny (yR E3 w) A (Dw v) (qh E3 w A s H ds.reverse) E c) E s:=by
 refine y.tupE λa vs n f C G j=>?_
 have e:vs.size=ds.reverse.length:=j.size.trans C3.symm;have t:(vs.size:Int)<2 ^ 63:=by rw[j.size];exact rV G
 refine call_rev_tuple (fo f) t λtk=>?_
 have u:nU (s.heap.push (rvO a ((vs.size:Int) - 1))) s.heap.objs.size a ((vs.size:Int) - 1):=⟨_,Heap.get?_push_size _ QQ,QQ,QQ⟩;have W:CQ E3 w A s.heap.objs.size [s.heap.objs.size,a] [s.heap.objs.size] ds.reverse.length (λi v=>vs[ds.reverse.length - 1 - i]?=ac v) (λi h=>i<=ds.reverse.length/\nU h s.heap.objs.size a ((ds.reverse.length:Int) - 1 - (i:Int))/\PyProof.Rows.IsTup h a vs):=e▸walks_rv B s.heap.objs.size a (zC (Heap.lt_size f)) vs t
 refine vR (s:={ s with heap:=s.heap.push (rvO a ((vs.size:Int) - 1)),toks:=tk }) u ⟨.mk _ _ _ λZ Z e=>Heap.gt_push_of_some _ e,cZ _,⟨_,Heap.gt_push_size _ QQ⟩,W,
  ⟨za _,?_,pq (fo f) λo e=>Heap.get?_push_of_some _ e⟩,λb m=>fI m .inl λe=>.inr (e▸⟨C,_,Heap.gt_of f⟩),λi v I J=>item_rev j I J,λi h st=>st.2.1.elim λo q=>⟨o,Heap.gt_of q.1 (eA q.2.1 (by decide))⟩,
  λb m i h o st e=>fI m (λq=>st.2.1.elim λL z=>fR (q▸z.1) e (eA z.2.1 (by decide))) λq=>st.2.2.elim λL z=>fR (q▸z.1) e (eA z.2.1 (by decide))⟩
 rw[Int.natCast_zero,Int.sub_zero,<- e];exact u
end
theorem pE:∀ (σ:St),freeze [] σ=σ
 | []=>rfl
 | (x,(o,d))::r=>by
  have:=pE r;unfold freeze at this ⊢;rw[y8,this];simp
theorem settle_nil(d:D)(σ:St):settle d [] σ=σ:=by
 unfold settle
 split
 ·rfl
 ·exact pE σ
theorem o0(Fb:Own):Fb.less []=Fb:=by
 funext x
 simp[Own.less]
section
variable {E3:zh} {w:zq} {A:zt} {E6:Heap} {mg mb:Str->yK yE} {cf:CF}
variable {Fe h h':Heap} {EW:Env} {EV:yN->Prop} {Fb:Own} {m:Str->yK yE} {σ:St} {I:yN}
section
variable {r:Fl×St}{C:Prop}{e:ME}
theorem wj{b:yN}(q:Hot EW (λb=>EV b\/b=I) Fb b):Hot EW EV Fb b\/b=I:=q.elim (λq=>q.elim (λq=>.inl (.inl q)) .inr) λq=>.inl (.inr q)
theorem hot_sub{b:yN}(q:Hot EW EV Fb b):Hot EW (λb=>EV b\/b=I) Fb b:=q.imp .inl id
theorem bE.addH(S:bE w E6 Fe h EW EV Fb m σ)(c:KH h h')(i:gat h I=yS)(f:∃ o,gat h' I=ac o) :
  bE w E6 Fe h' EW (λb=>EV b\/b=I) Fb m σ:=
 S.to (S.rep.keeps c) (λb o Z e=>c b o e) (λZ a o Z e=>c a o e) (λb o e q=>(wj q).elim id λq=>cx e (q▸i)) (λb o e=>c b o (S.keep b o e)) (λb q=>q.elim (λq=>(S.hot.ex b (.inl q)).elim λj z=>z.elim λo z=>⟨j,o,z.1,c _ _ z.2⟩) λq=>f.elim λo z=>⟨I,o,q▸y0 _,z⟩)
  λx a e q=>q.elim (S.own1 x a e).2.1 λq=>(S.ownx x a e).elim λo z=>cx z (q▸i)
theorem xL(a:Mv I h h'):nT h (Hot EW (λb=>EV b\/b=I) Fb) h':=λb o c e=>a b o (λq=>c (q▸.inl (.inr QQ))) e
theorem bE.turnI(S:bE w E6 Fe h EW (λb=>EV b\/b=I) Fb m σ)(c:Mv I h h')(f:∃ o,gat h' I=ac o)(j:¬ frm EW I)(n:gat Fe I=yS) :
  bE w E6 Fe h' EW (λb=>EV b\/b=I) Fb m σ:=
 S.to (S.rep.keepsAt λb o s e=>c b o (λq=>j (q▸s)) e) (xL c) (λx a o t e=>c a o (λq=>(S.own1 x a t).2.1 (.inr q)) e) (λZ Z Z q=>q) (λb o e=>c b o (λq=>cx e (q▸n)) (S.keep b o e))
  (λb q=>(S.hot.ex b (.inl q)).elim λi z=>z.elim λo z=>(Classical.em (i=I)).elim (λe=>f.elim λu y=>⟨I,u,e▸z.1,y⟩) λe=>⟨i,o,z.1,c i o e z.2⟩) λx a e=>(S.own1 x a e).2.1
theorem bE.leave(S:bE w E6 Fe h EW (λb=>EV b\/b=I) Fb m σ)(c:Mv I h h')(f:Ex h' EV)(i:¬ frm EW I)(j:gat Fe I=yS) :
  bE w E6 Fe h' EW EV Fb m σ:=
 S.to (S.rep.keepsAt λb o n e=>c b o (λq=>i (q▸n)) e) (xL c) (λx a o f e=>c a o (λq=>(S.own1 x a f).2.1 (.inr q)) e) (λZ Z Z q=>hot_sub q) (λb o e=>c b o (λq=>cx e (q▸j)) (S.keep b o e)) f λx a e q=>(S.own1 x a e).2.1 (.inl q)
theorem xi_ret(h:exS cf (.ret e) σ=ac r)(c:∀ x d,e=.u x->σ.lookup x=ac (yC,d)->(.ret yC d,σ)=r->C)(k:∀ d fr,evF cf (vis σ) e=ac (d,fr)->(.ret fr d,σ)=r->C):C:=by
 rw[uo] at h;cases b:e.varOf with
 | none=>
  rw[b] at h;dsimp only at h;cases a:evF cf (vis σ) e with
  | none=>rw[a] at h;exact aj h
  | some p=>rw[a] at h;exact k p.1 p.2 a (yJ h)
 | some x=>
  rw[b] at h;dsimp only at h;cases a:σ.lookup x with
  | none=>rw[a] at h;exact aj h
  | some p=>
   rw[a] at h;obtain⟨fr,d⟩:=p;refine varOf_inv (C:=λe=>e=.u x) b QQ |> λq=>?_
   cases fr with
   | true=>exact c x d q a (yJ h)
   | false=>exact k d yz (q.symm▸by show (evE cf (vis σ) (.u x)).map _=_;rw[gZ,cz,a];rfl) (yJ h)
theorem ss_ret(Z:Cx E3 w A E6 mg mb cf)(e:ME):SS E3 w A E6 cf (.ret e):=λs EW st EV Fe Fb m σ r E c S f=>
 IRet.rec (motive:=λst Y=>wpAny (yR E3 w) A (CE st EW) (aY w E6 Fe EW EV s Fb r) E s) (λ{v h} c=>xi_ret f (λx d q i j=>by
  subst j q;refine um.rec (motive:=λv Y=>wpAny (yR E3 w) A (CE (.Return (ac v) h) EW) _ E s) (λB=>(S.owned x d i).elim λa q=>wpAny_Return_some (fV S.rep B q.2.1 ?_)) (iX c)
  have o:=q.2.2.sub (H':=EV) λY q=>.inl q
  have g:=S.own1 x a q.1;exact aY.rt (tk:=s.toks) (dw:=s.drawn) (.of (λY Y e=>e) λY Y e=>nomatch e) ⟨o.rep g.2.1,S.keep,λY=>⟨g.1,o⟩⟩)
  λd fr i j=>j▸wpAny_Return_some (xo Z S c i λu EU n t z C y=>aY.rt (.of z λY Y e=>nomatch e) ⟨C.sub λY q=>.inl q,λb o e=>z b o (S.keep b o e),λG=>((y G).old S.keep).sub λY q=>.inl q⟩)) (inv_ret c)
theorem rF{s:Heap}{Fb E0:Own}{x:yF}{L:yN}{EU E7:Heap}(c:∀ x a,E0 x=ac a->Fb x=ac a)(f:KH s EU)(i:E0 x=ac L)(h:∀ b,b≠L->∀ {o},gat EU b=ac o->gat E7 b=ac o)(j:∃ o,gat E7 L=ac o):Tr s EW Fb E7 E0:=
 ⟨λb o e Z m=>h b (λq=>m x (c x b (q▸i))) (f b o e),λb o e=>by
  by_cases q:b=L
  ·exact q▸j
  ·exact⟨o,h b q (f b o e)⟩,λy a e=>.inl (c y a e)⟩
theorem tE{k:KD}{x:Str}(h:cq k x=yC):gI k x=yC:=bQ h λZ h=>h
theorem xi_append{x:yF}(h:exS cf (.append x e) σ=ac r)(k:∀ d ds,evE cf (vis σ) e=ac d->(Mine.settle d e.names σ).lookup x=ac (yC,.list ds)->ds.length<big->(.next,ay (Mine.settle d e.names σ) x (yC,.list (ds++[d])))=r->C):C:=
 bH (a:=evE cf (vis σ) e) (f:=λd=>match (Mine.settle d e.names σ).lookup x with
  | some (yC,.list ds)=>if ds.length<big then ac (Fl.next,ay (Mine.settle d e.names σ) x (yC,.list (ds++[d]))) else none
  | _=>none) h λd c h=>by
  cases b:(Mine.settle d e.names σ).lookup x with
  | none=>rw[b] at h;exact aj h
  | some p=>
   rw[b] at h;obtain⟨o,i⟩:=p;cases o with
   | false=>exact aj h
   | true=>cases i with
    | list ds=>exact bi h λj e=>k d ds c b j e
    | _=>exact aj h
theorem ss_append(Z:Cx E3 w A E6 mg mb cf)(x:yF)(e:ME):SS E3 w A E6 cf (.append x e):=λs EW st EV Fe Fb m σ r E C S H=>
 xi_append H λd ds Fg y z Fh=>Fh▸sJ.rec (motive:=λst EP=>wpAny (yR E3 w) A (CE st EW) (aY w E6 Fe EW EV s Fb (.next,ay (Mine.settle d e.names σ) x (yC,.list (ds++[d])))) E s) (λ{Fq Fs a p Fi} I j C=>by
  have T:=S.settle d e.names;refine (T.owned x _ y).elim λL q=>jg.rec (motive:=λEP=>_) (λ{vs n} U Fj V=>?_) q.2.2
  have c:BY [a] EW=[(yz,zF a EW)]:=ik C;refine wpAny_Expr (wpAny_Call_append QQ (by rw[c];rfl) (by simpa using j) (by rw[c];rfl) (fV S.rep (tE I) q.2.1 ⟨L,vs,QQ,⟨_,n,U,QQ,QQ,QQ⟩,?_⟩)) (by unfold interactive;rw[S.rep.kind];rfl) QQ
  refine nk Z S C Fg λu EU J M G Fk=>?_
  have B:=Heap.of_gt (G _ _ (Heap.gt_of U));refine Dl (items:=vs) ⟨n,B⟩ (λE7 t f=>?_) (V.size.symm▸Fj)
  have h:∃ X,E7.get? L=ac (fT (vs.push u) X):=t;have Y:Mv L EU E7:=λb o N e=>g1 f (bZ B) b N e
  have Fm:∀ b,(Hot EW EV (ef Fb d e.names) b\/b=L)->Hot EW EV (ef Fb d e.names) b:=λb O=>O.elim id λO=>O▸.inr (.inr ⟨x,q.1⟩)
  have i:jg w.params E7 (Hot EW EV (ef Fb d e.names)) L (ds++[d]):=h.elim λX Fo=>⟨Fo,by rw[yY];exact z,by
   rw[Cv];exact ((V.keeps G).append (.cons ((jz Fk).sub Fm) .nil)).mono (λb o Fp e=>Y b o (λq=>Fp (.inr q)) e) λEP EP EP q=>q⟩
  exact aY.nx (rF (λEP EP e=>iu e) G q.1 (λb N EP e=>Y b _ N e) (dH.ex (d:=.list _) i)) ((T.keeps G).turn y q.1 f (d:=.list _) i)) (inv_append C)
theorem xi_setk{x:yF}{ke:ME}(h:exS cf (.setk x ke e) σ=ac r)(k:∀ d b ks vs,evE cf (vis σ) e=ac d->evE cf (vis σ) ke=ac b->(Mine.settle b ke.names (Mine.settle d e.names σ)).lookup x=ac (yC,.dict ks vs)->dL b ks=yC->ks.length<big ->
  (.next,ay (Mine.settle b ke.names (Mine.settle d e.names σ)) x (yC,.dict (dG ks vs b d).1 (dG ks vs b d).2))=r->C):C:=
 bH (a:=evE cf (vis σ) e) (f:=λd=>oE (evE cf (vis σ) ke) λb=>match (Mine.settle b ke.names (Mine.settle d e.names σ)).lookup x with
  | some (yC,.dict ks vs)=>if (dL b ks&&decide (ks.length<big))=yC then ac (Fl.next,ay (Mine.settle b ke.names (Mine.settle d e.names σ)) x (yC,.dict (dG ks vs b d).1 (dG ks vs b d).2)) else none
  | _=>none) h λd j h=>bH h λb c h=>by
  cases i:(Mine.settle b ke.names (Mine.settle d e.names σ)).lookup x with
  | none=>rw[i] at h;exact aj h
  | some p=>
   rw[i] at h;obtain⟨o,m⟩:=p;cases o with
   | false=>exact aj h
   | true=>cases m with
    | dict ks vs=>exact bi h λn e=>bQ n λh1 q=>k d b ks vs j c i h1 (zG q) e
    | _=>exact aj h
theorem less_less{Fb:Own}{d:D}{ns b:yA yF}:∀ x a,(ef Fb d ns).less b x=ac a->Fb.less b x=ac a:=λx a e=>by
 unfold Own.less at e ⊢;split at e <;> first | cases e | (rename_i c;rw[yV c];exact iu e)
theorem ss_setk(Z:Cx E3 w A E6 mg mb cf)(x:yF)(ke e:ME):SS E3 w A E6 cf (.setk x ke e):=λs EW st EV Fe Fb m σ r E Fg S H=>
 xi_setk H λd n ks vs Fh I t J M Fi=>Fi▸yo.rec (motive:=λst EP=>wpAny (yR E3 w) A (CE st EW) (aY w E6 Fe EW EV s Fb (.next,ay (Mine.settle n ke.names (Mine.settle d e.names σ)) x (yC,.dict (dG ks vs n d).1 (dG ks vs n d).2))) E s) (λ{Fs i p v Fj} N O T=>by
  have U:=(S.settle d e.names).settle n ke.names;refine (U.owned x _ t).elim λL q=>wpAny_Assign_Subscript (nk Z S T Fh λu EU c f V Fk=>fV (s:={ s with heap:=EU,toks:=c,drawn:=f }) (S.rep.keeps V) (tE N) q.2.1 ?_) (by cases v <;> rfl)
  have Fm:bE w E6 Fe ({ s with heap:=EU,toks:=c,drawn:=f }:yL).heap EW EV Fb m σ:=S.keeps V
  refine nk Z Fm O I λFt E7 y B G Fo=>?_
  have C:KH s.heap E7:=λb o e=>G b o (V b o e)
  have h:∀ b,Hot EW EV (ef (ef Fb d e.names) n ke.names) b\/b=L->Hot EW EV (ef (ef Fb d e.names) n ke.names) b:=λb z=>z.elim id λz=>z▸.inr (.inr ⟨x,q.1⟩)
  have X:nS w.params E7 (Hot EW EV (ef (ef Fb d e.names) n ke.names)) L ks vs:=(U.keeps C).ownAt t q.1;refine nj (s:={ s with heap:=E7,toks:=y,drawn:=B }) Z.hu.u1 X ((jz (Fo.sub λEP q=>q.mono (λEP q=>q) less_less)).sub h) ((jz Fk).mono (λb o EP e=>G b o e) λb o EP q=>(h b q).mono (λEP q=>q) λEP EP=>iu) J M λh' tk dw Y j=>?_
  have Fp:∀ o,E7.get? L=ac o->bI o=yz:=dH.notTab (d:=.dict _ _) X;exact aY.nx (rF (λEP a e=>iu (iu e)) C q.1 (λb Fq EP e=>g1 Y Fp b Fq e) (dH.ex (d:=.dict _ _) j)) ((U.keeps C).turn t q.1 Y (d:=.dict _ _) j)) (inv_setk Fg)
theorem uq{M:Model}{s:yL}{E:yE->yL->Prop}{c:Sem Dp}{Q:Dp->yL->Prop}(hq:wpAny M A c (aY w E6 Fe EW EV s Fb r) E s)
  (a:∀ h tk dw E1 m,r.1=.next->Tr s.heap EW Fb h E1->bE w E6 Fe h EW EV E1 m r.2->Q .next { s with heap:=h,toks:=tk,drawn:=dw })
  (b:∀ h tk dw fr d v,r.1=.ret fr d->Tr s.heap EW Fb h vE->wN w Fe h EV v fr d->Q (.ret v) { s with heap:=h,toks:=tk,drawn:=dw }):wpAny M A c Q E s:=
 CM hq (λf s' q=>q Q a b) λZ Z e=>e
theorem rJ:SSs E3 w A E6 cf []:=λs EW b EV Fe Fb m σ r E c S a=>
 kE (C:=λb=>wpAny (yR E3 w) A (CT b EW) (aY w E6 Fe EW EV s Fb r) E s) c (BX (yJ a▸aY.nx (tk:=s.toks) (dw:=s.drawn) (.keeps λZ Z e=>e) S))
theorem rD{a:MS}{l:yA MS}(h:bk cf (a::l) σ=ac r)(f:∀ b,exS cf a σ=ac (.next,b)->bk cf l b=ac r->C)(k2:∀ fr d,exS cf a σ=ac r->r.1=.ret fr d->C):C:=by
 rw[ox] at h;cases c:exS cf a σ with
 | none=>rw[c] at h;exact aj h
 | some p=>
  rw[c] at h;obtain⟨i,b⟩:=p;cases i with
  | next=>exact f b c h
  | ret fr d=>exact k2 fr d (c.trans h) (y6 Prod.fst (yJ h)).symm
theorem sT{a:MS}{l:yA MS}(u:SS E3 w A E6 cf a)(B:SSs E3 w A E6 cf l):SSs E3 w A E6 cf (a::l):=λs EW C EV Fe Fb m σ r E y S i=>by
 cases C with
 | nil=>cases y
 | cons st j=>
  exact bQ y λc n=>rD i (λb h1 o=>AT (uq (u s EW st EV Fe Fb m σ _ E c S h1) (λh tk dw E1 m' Z t G=>bG (B _ EW j EV Fe E1 m' b r E n G o) λf z q=>q.trans t) λZ Z Z Z Z Z e Z Z=>nomatch e))
   λfr d h1 o=>AT (uq (u s EW st EV Fe Fb m σ r E c S h1) (λZ Z Z Z Z e Z Z=>nomatch o.symm.trans e) λh tk dw fr d v e t R Q Z H=>H h tk dw fr d v e t R)
theorem w8{c:ME}{t f:yA MS}(h:exS cf (.ite c t f) σ=ac r)(k:∀ d b,evE cf (vis σ) c=ac d->bU d=ac b->bk cf (if b then t else f) σ=ac r->C):C:=
 bH (a:=evE cf (vis σ) c) (f:=λd=>match bU d with
   | some yC=>bk cf t σ
   | some yz=>bk cf f σ
   | none=>none) h λd j h=>by
  cases i:bU d with
  | none=>rw[i] at h;exact aj h
  | some b=>rw[i] at h;cases b <;> exact k d _ j i h
theorem ss_ite(Z:Cx E3 w A E6 mg mb cf){c:ME}{t f:yA MS}(z:SSs E3 w A E6 cf t)(B:SSs E3 w A E6 cf f):SS E3 w A E6 cf (.ite c t f):=λs EW st EV Fe Fb m σ r E i S j=>
 w8 j λd b C G y=>IIte.rec (motive:=λst Y=>wpAny (yR E3 w) A (CE st EW) (aY w E6 Fe EW EV s Fb r) E s) (λ{v I o p} i h1 H=>wpAny_If (qJ Z S i C G λEU n u h=>by
  cases b with
  | true=>exact bG (z _ EW _ EV Fe Fb m σ r E h1 (S.keeps h) y) λf a q=>q.trans (.keeps h)
  | false=>exact bG (B _ EW _ EV Fe Fb m σ r E H (S.keeps h) y) λf a q=>q.trans (.keeps h))) (inv_ite i)
end
noncomputable def gO(w:zq)(E6 Fe:Heap)(EW:Env)(EV:yN->Prop)(s:yL)(Fb:Own)(J:yA D->Own->St->Prop)(K:yH->D->St->Prop)(E2:yA D)(f:Dp)(s':yL):Prop:=
 ∀ Q:Dp->yL->Prop,(∀ h tk dw E1 m σ,J E2 E1 σ->Tr s.heap EW Fb h E1->bE w E6 Fe h EW EV E1 m σ->Q .next { s with heap:=h,toks:=tk,drawn:=dw }) ->
  (∀ h tk dw fr d v σ,K fr d σ->Tr s.heap EW Fb h vE->wN w Fe h EV v fr d->Q (.ret v) { s with heap:=h,toks:=tk,drawn:=dw })->Q f s'
noncomputable def nf(f:Dp):Dp:=match f with | .cont=>.next | f=>f
theorem nf_in{P:Dp->Prop}(h:P .next->P .cont)(f:Dp)(q:P (nf f)):P f:=match f,q with
 | .cont,q=>h q
 | .next,q=>q
 | .brk,q=>q
 | .ret _,q=>q
theorem sV{s s':yL}{r:Fl×St}{f:Dp}(q:aY w E6 Fe EW EV s Fb r f s'):aY w E6 Fe EW EV s Fb r (nf f) s':=λQ a b=>q (λf s=>Q (nf f) s) a b
theorem jpost_nf{s s':yL}{J:yA D->Own->St->Prop}{K:yH->D->St->Prop}{E2:yA D}{f:Dp}(q:gO w E6 Fe EW EV s Fb J K E2 f s'):gO w E6 Fe EW EV s Fb J K E2 (nf f) s':=λQ a b=>q (λf s=>Q (nf f) s) a b
noncomputable def SSB(E3:zh)(w:zq)(A:zt)(E6:Heap)(cf:CF)(a:yA MS):Prop:=
 ∀ (s:yL) (EW:Env) (b:yA zZ) (EV:yN->Prop) (Fe:Heap) (Fb:Own) (m:Str->yK yE) (σ:St) (r:Fl×St) (E:yE->yL->Prop),uQ EW.kindOf b a=yC->bE w E6 Fe s.heap EW EV Fb m σ ->
  bk cf a σ=ac r->wpAny (yR E3 w) A (CT b EW) (λf s'=>aY w E6 Fe EW EV s Fb r (nf f) s') E s
noncomputable def S1(E3:zh)(w:zq)(A:zt)(E6:Heap)(cf:CF)(a:MS):Prop:=SS E3 w A E6 cf a/\∀ c t f,a=.ite c t f->SSs E3 w A E6 cf f
noncomputable def S2(E3:zh)(w:zq)(A:zt)(E6:Heap)(cf:CF)(a:yA MS):Prop:=SSs E3 w A E6 cf a/\SSB E3 w A E6 cf a
theorem s1{a:MS}(h:SS E3 w A E6 cf a)(b:(a.ctorIdx == 3)=yz):S1 E3 w A E6 cf a:=⟨h,λc t f e=>by rw[e] at b;cases b⟩
theorem s2_nil:S2 E3 w A E6 cf []:=⟨rJ,λs EW b EV Fe Fb m σ r E c S a=>bG (rJ s EW b EV Fe Fb m σ r E c S a) λZ Z q=>sV q⟩
theorem iteB_inv{a:MS}{g:ME->yA MS->yA MS->yH}{C:Prop}(h:(match a with | .ite c t f=>g c t f | _=>yz)=yC)(k:∀ c t f,a=.ite c t f->g c t f=yC->C):C:=by
 cases a with
 | ite c t f=>exact k c t f QQ h
 | _=>cases h
theorem xi_one{a:MS}{r:Fl×St}(h:bk cf [a] σ=ac r):exS cf a σ=ac r:=rD h (λb h1 c=>h1.trans c) λZ Z h Z=>h
theorem s2_cons(Z:Cx E3 w A E6 mg mb cf){a:MS}{l:yA MS}(z:S1 E3 w A E6 cf a)(O:S2 E3 w A E6 cf l):S2 E3 w A E6 cf (a::l):=⟨sT z.1 O.1,λs EW V EV Fe Fb m σ r E hc S i=>by
 cases V with
 | nil=>cases hc
 | cons st n=>
  rw[cb_cons] at hc
  rcases AV.mp hc with hc | hc
  ·exact bQ hc λj u=>rD i (λy h1 H=>AT (uq (z.1 s EW st EV Fe Fb m σ _ E j S h1) (λh tk dw E1 m' EP t X=>bG (O.2 _ EW n EV Fe E1 m' y r E u X H) λf T q=>q.trans t) λEP EP EP EP EP EP e EP EP=>nomatch e))
    λfr d h1 H=>AT (uq (z.1 s EW st EV Fe Fb m σ r E j S h1) (λEP EP EP EP EP e EP EP=>nomatch H.symm.trans e) λh tk dw fr d v e t R Q EP Y=>Y h tk dw fr d v e t R)
  ·refine bQ hc λI hc=>sC (C:=λst=>wpAny (yR E3 w) A (CT (st::n) EW) _ E s) hc λv b o p hc=>iI hc λJ Fg hc=>iteB_inv hc λc t f U hc=>bQ hc λFh hc=>bQ hc λj u=>?_
   have i:=kE (C:=λl=>bk cf (a::l) σ=ac r->exS cf a σ=ac r) I xi_one i
   rw[U] at i;refine w8 i λd Fi Fj L B=>AT (wpAny_If (qJ Z S j Fj L λEU M N G=>?_))
   cases Fi with
   | true=>exact eQ (C:=λb=>wpAny (yR E3 w) A (CT b EW) _ E _) Fg λst Fk=>Stmt.Continue.elim (motive_2:=λst=>wpAny (yR E3 w) A (CT [st] EW) _ E _) st (zG Fk) λEP=>AT (wpAny_Continue (kE (C:=λt=>bk cf t σ=ac r->aY w E6 Fe EW EV s Fb r .next _) Fh (λB=>yJ B▸aY.nx (.keeps G) (S.keeps G)) B))
   | false=>
    have J:=z8.mp J;subst J;exact BX (bG (z.2 c t f U _ EW n EV Fe Fb m σ r E u (S.keeps G) B) λEP EP q=>sV (q.trans (.keeps G)))⟩
inductive yv(w:zq)(E6 Fe h1:Heap)(EW:Env)(EV:yN->Prop)(I:yN)(Fb:Own)(EX:yA D)(ER:Nat->Heap->Prop)(J:yA D->Own->St->Prop)(s:yL)(k:Nat):yL->Prop
 | mk {h tk dw done E2 E1 m' Fd} (dr:EX=done++E2) (st:ER done.length h) (S:bE w E6 Fe h EW (λb=>EV b\/b=I) E1 m' Fd) (t:Tr h1 EW Fb h E1) (fr:J E2 E1 Fd) (kn:k=E2.length+1) :
  yv w E6 Fe h1 EW EV I Fb EX ER J s k { s with heap:=h,toks:=tk,drawn:=dw }
theorem ownS_nil(Fb:Own)(d:D):ef Fb d []=Fb:=by
 unfold ef;split
 ·rfl
 ·exact o0 Fb
noncomputable def qo(E3:zh)(w:zq)(A:zt)(E6 Fe:Heap)(EW:Env)(x:yF)(J:yA D->Own->St->Prop)(K:yH->D->St->Prop)(b:yA zZ):Prop:=
 ∀ (s:yL) (E8:yN->Prop) (Fb:Own) (m:Str->yK yE) (σ:St) (dv:D) (E2:yA D) (E:yE->yL->Prop),J (dv::E2) Fb σ->bE w E6 Fe s.heap EW E8 (Fb.set x yS) m (ay σ x (yz,dv)) ->
  wpAny (yR E3 w) A (CT b EW) (λf s'=>gO w E6 Fe EW E8 s (Fb.set x yS) J K E2 (nf f) s') E s
section
variable {h1 hh1:Heap} {EY E1:Own} {EX done E2:yA D} {fp:yA yN} {P:Nat->yE->Prop} {ER:Nat->Heap->Prop}
theorem hot_tr(t:Tr h1 EW EY h E1)(a:gat h1 I=yS){b:yN}{o:Obj}(e:gat h1 b=ac o)(q:Hot EW (λb=>EV b\/b=I) E1 b):Hot EW EV EY b:=
 (wj q).elim (λq=>q.imp id λq=>q.imp id λq=>q.elim λz q=>(t.o z b q).elim (λq=>⟨z,q⟩) λq=>cx e q) λq=>cx e (q▸a)
theorem kk_tr(t:Tr h1 EW EY h E1)(c:Mv I h h')(f:gat h1 I=yS){b:yN}{o:Obj}(a:¬ Hot EW EV EY b)(e:gat h1 b=ac o):gat h' b=ac o:=
 c b o (λq=>cx e (q▸f)) (t.k b o e (λq=>a (.inr (.inl q))) λz q=>a (.inr (.inr ⟨z,q⟩)))
theorem tr_I(t:Tr h1 EW EY h E1)(a:Mv I h h')(c:gat h1 I=yS):Tr h1 EW EY h' E1:=
 ⟨λb o e i j=>a b o (λq=>cx e (q▸c)) (t.k b o e i j),λb o e=>(t.x b o e).elim λf m=>⟨f,a b f (λq=>cx e (q▸c)) m⟩,t.o⟩
theorem qz(W:CQ E3 w A I fp [I] EX.length P ER)(a:∀ b∈fp,b=I\/(¬ Hot EW EV EY b/\∃ o,gat h1 b=ac o))(tab:∀ b∈fp,∀ i h o,ER i h->h.get? b=ac o->bI o=yz){E0:Own}{i:Nat}(st:ER i h)(t:Tr h1 EW EY h E1)(u:Tr h EW E1 h' E0)(c:¬ frm EW I)(f:∀ z,E1 z≠ac I):ER i h':=
 ew W tab i h h' st λb j o e=>(a b j).elim (λq=>q▸(u.k I o (q▸e) c f)) λq=>u.k b o e (λz=>q.1 (.inr (.inl z))) λz y=>q.2.elim λn m=>(t.o z b y).elim (λy=>q.1 (.inr (.inr ⟨z,y⟩))) λy=>cx m y
end
section
variable {r:Fl×St}{C:Prop}
theorem q9{b:D->St->yK (Fl×St)}{dv:D}{E2:yA D}{σ:St}(h:cF b (dv::E2) σ=ac r)(k:∀ rb,b dv σ=ac rb->(rb.1=.next->cF b E2 rb.2=ac r)->(∀ fr d,rb.1=.ret fr d->(.ret fr d,rb.2)=r)->C):C:=by
 cases e:b dv σ with
 | none=>rw[cF,e] at h;exact aj h
 | some rb=>
  rw[cF,e] at h;obtain⟨c,a⟩:=rb;cases c with
  | next=>exact k _ e (λZ=>h) λZ Z e=>nomatch e
  | ret fr d=>exact k _ e (λe=>nomatch e) λi j q=>(y6 (λf=>(f,a)) q.symm).trans (yJ h)
theorem for_turn{x:yF}{FF:Pos}{b:yA zZ}{EX done E2:yA D}{dv:D}{J:yA D->Own->St->Prop}{K:yH->D->St->Prop}(Y:qo E3 w A E6 Fe EW x J K b)
  {s:yL} {Fb EY E1:Own} {m':Str->yK yE} {Fd:St} {h1:Heap} {tk:Nat} {dw:Drawn} {k:Nat} {fp:yA yN} {P:Nat->yE->Prop} {ER:Nat->Heap->Prop}
  (Fq:cq EW.kindOf (yB x)=yC) (W:CQ E3 w A I fp [I] EX.length P ER) (Z:∀ b∈fp,b=I\/(¬ Hot EW EV EY b/\∃ o,gat h1 b=ac o)) (item:∀ i v,i<EX.length->P i v->∃ d,EX[i]?=ac d/\Rep w.params h1 (Hot EW EV EY) v d) (Fg:∀ i h,ER i h->∃ o,gat h I=ac o) (tab:∀ b∈fp,∀ i h o,ER i h->h.get? b=ac o->bI o=yz)
  (M:gat h1 I=yS) (N:¬ frm EW I) (Fs:gat Fe I=yS) (FG:Tr s.heap EW Fb h1 EY)
  (Ft:EX=done++dv::E2) (st:ER done.length h) (Fz:bE w E6 Fe h EW (λb=>EV b\/b=I) E1 m' Fd) (t:Tr h1 EW EY h E1) (Fh:J (dv::E2) E1 Fd) (kn:k=(dv::E2).length+1)
  {Fu:yE->yL->Prop} {R:yL->Prop} :
  wpAny (yR E3 w) A (BZ (.ref I)) (λo G=>match o with
   | none=>R G
   | some v=>wpAny (yR E3 w) A (assign (.Name (yB x) FF) EW v) (λEP Fi=>wpAny (yR E3 w) A (CT b EW) (λf c=>match f with
     | .next | .cont=>∃ m,m<k/\yv w E6 Fe h1 EW EV I EY EX ER J s m c
     | .brk=>gO w E6 Fe EW EV s Fb J K [] .next c
     | .ret v=>gO w E6 Fe EW EV s Fb J K [] (.ret v) c) Fu Fi) Fu G) Fu { s with heap:=h,toks:=tk,drawn:=dw }:=by
 have Fj:done.length<EX.length:=by rw[Ft,yY];exact Ak (Ac _)
 refine W.item done.length _ _ _ Fj st λv EU j Fv n O=>?_
 have Fw:Mv I h EU:=λb o Y e=>kc W tab st O b o (λq=>Y (y3.mp q)) e
 have FA:=Fz.turnI Fw (Fg _ _ n) N Fs;have H:=tr_I t Fw M;have FH:Rep w.params EU (Hot EW (λb=>EV b\/b=I) E1) v dv:=(item _ v Fj Fv).elim λd q=>by
  have e:d=dv:=by
   have e1:=q.1;rw[Ft,Ai (y0 _),CD] at e1;exact (yJ e1).symm
  exact e▸q.2.mono (λb o FJ e=>kk_tr t Fw M FJ e) λb o e q=>hot_tr t M e q
 refine Eo (ki (s:={ s with heap:=EU,toks:=j,drawn:=dw }) FA.rep (iW Fq) λE7 T U a Fk FK FM=>?_)
 have Fm:=kT (s:={ s with heap:=EU,toks:=j,drawn:=dw }) (x:=x) (ns:=[]) (d:=dv) (fr:=yz) (v:=v) (EU:=EU) (E7:=E7) (a:=a) (X:=λEP=>False) FA (λEP EP e=>e)
  (by rw[o0];exact FH.sub λEP q=>q.elim id False.elim) (λe=>nomatch e) Fk (FK.imp id λe=>⟨_,e⟩) (λEP q=>q.elim) λb Y EP EP e=>(FM.g b Y).trans e
 rw[settle_nil,ownS_nil] at Fm;have V:=qz W Z tab n H Fm.2 N λz q=>(Fz.own1 z I q).2.1 (.inr QQ)
 have y:=H.trans Fm.2;exact bG (Y { s with heap:=E7,toks:=T,drawn:=U } _ E1 _ Fd dv E2 _ Fh Fm.1) λf c q=>nf_in (P:=λf=>match f with
     | .next | .cont=>∃ m,m<k/\yv w E6 Fe h1 EW EV I EY EX ER J s m c
     | .brk=>gO w E6 Fe EW EV s Fb J K [] .next c
     | .ret v=>gO w E6 Fe EW EV s Fb J K [] (.ret v) c) id f <| q (λf c=>match f with
     | .next | .cont=>∃ m,m<k/\yv w E6 Fe h1 EW EV I EY EX ER J s m c
     | .brk=>gO w E6 Fe EW EV s Fb J K [] .next c
     | .ret v=>gO w E6 Fe EW EV s Fb J K [] (.ret v) c) (λL B C Fp FE E e u Fo=>
   ⟨E2.length+1,by rw[kn];exact Ab _,.mk (done:=done++[dv]) (E2:=E2) (Ft.trans (B7 ..)) (by rw[yY];exact qz W Z tab V y u N λz q=>(Fm.1.own1 z I q).2.1 (.inr QQ)) Fo (y.trans u) e QQ⟩)
  λL B C fr d v E e u R Q EP FN=>FN L B C fr d v E e (FG.trans (y.trans u)) ⟨R.rep.sub λEP q=>.inl q,R.keep,λFO=>(R.fr FO).sub λEP q=>.inl q⟩
theorem pF{x:yF}{Fi L:Pos}{M:y4}{b:yA zZ}{ns:yA yF}{EX:yA D}{J:yA D->Own->St->Prop}{K:yH->D->St->Prop}
  {s:yL} {EW:Env} {EV:yN->Prop} {Fe:Heap} {Fb:Own} {m:Str->yK yE} {σ:St} {E:yE->yL->Prop} (N:qo E3 w A E6 Fe EW x J K b) (S:bE w E6 Fe s.heap EW EV Fb m σ) (O:cq EW.kindOf (yB x)=yC) (f:e5 M=yC)
  (i:∀ Q:yE->yL->Prop,(∀ I h1 j n u,KH s.heap h1->KH h1 j->gat h1 I=yS->(∃ o,gat j I=ac o)->rB E3 w A h1 (Hot EW EV (Fb.less ns)) EX I j->Q (.ref I) { s with heap:=j,toks:=n,drawn:=u })->wpAny (yR E3 w) A (zF M EW) (λFj y=>wpAny (yR E3 w) A (Dw Fj) Q E y) E s)
  (T:J EX (Fb.less ns) (freeze ns σ)):wpAny (yR E3 w) A (CE (.For (.Name (yB x) Fi) M b [] L) EW) (gO w E6 Fe EW EV s Fb J K []) E s:=by
 refine wpAny_For (i _ λI h1 j n u a z fresh ex Fk=>?_) (kK f)
 have U:=(S.freeze ns).keeps a;have S2:=U.addH (I:=I) z fresh ex;have B:¬ frm EW I:=λq=>(fq U.rep q).elim λo e=>cx e fresh
 have C:gat Fe I=yS:=lK S.keep (lK a fresh);have Y:Tr s.heap EW Fb h1 (Fb.less ns):=.of a λEP EP=>eJ
 refine Fk.rec λ{fp P ER} W st V G H tab=>codeAny_forLoop (yv w E6 Fe h1 EW EV I (Fb.less ns) EX ER J s) (λk s' q=>?_) (EX.length+1) (.mk (done:=[]) (E2:=EX) QQ st S2 (.keeps z) T QQ)
 obtain @⟨h,tk,dw,done,E2,E1,m',Fd,dr,st,S',t,hfor,kn⟩:=q;cases E2 with
 | cons dv E2=>exact for_turn N O W V G H tab fresh B C Y dr st S' t hfor kn
 | nil=>
  rw[zm] at dr;subst dr;refine W.done _ _ _ st λh' Fm X=>?_
  have Z:Mv I h h':=λb o N e=>kc W tab st X b o (λq=>N (y3.mp q)) e
  have Fg:=tr_I t Z fresh;exact BX λQ Fo EP=>Fo _ _ dw _ _ _ hfor (Y.trans Fg) (S'.leave Z (λc Fp=>(U.hot.ex c (.inl Fp)).elim λFh q=>q.elim λo q=>(Fg.x Fh o q.2).elim λFq Fs=>⟨Fh,Fq,q.1,Fs⟩) B C)
theorem body_ss{x:yF}{body:yA MS}{b:yA zZ}{Fe:Heap}{EW:Env}(i:SSs E3 w A E6 cf body)(c:fG EW.kindOf b body=yC) :
  qo E3 w A E6 Fe EW x (λE2 Z σ=>cF (λj σ=>bk cf body (ay σ x (yz,j))) E2 σ=ac r) (λfr d σ=>(.ret fr d,σ)=r) b:=λs E8 Fb m σ dv E2 E a S=>
 q9 a λrb h1 n o=>bG (i s EW b E8 Fe _ m _ rb E c S h1) λf s' q Q u y=>q (λf s=>Q (nf f) s) (λh tk dw E1 m' e t z=>u h tk dw E1 m' rb.2 (n e) t z) λh tk dw fr d v e t R=>y h tk dw fr d v rb.2 (o fr d e) t R
theorem body_sb{x:yF}{body:yA MS}{b:yA zZ}{Fe:Heap}{EW:Env}(i:SSB E3 w A E6 cf body)(c:uQ EW.kindOf b body=yC) :
  qo E3 w A E6 Fe EW x (λE2 Z σ=>cF (λj σ=>bk cf body (ay σ x (yz,j))) E2 σ=ac r) (λfr d σ=>(.ret fr d,σ)=r) b:=λs E8 Fb m σ dv E2 E a S=>
 q9 a λrb h1 n o=>bG (i s EW b E8 Fe _ m _ rb E c S h1) λf s' q Q u y=>q Q (λh tk dw E1 m' e t z=>u h tk dw E1 m' rb.2 (n e) t z) λh tk dw fr d v e t R=>y h tk dw fr d v rb.2 (o fr d e) t R
theorem vQ{s s':yL}{a:D->St->yK (Fl×St)}{f:Dp}(q:gO w E6 Fe EW EV s Fb (λE2 Z σ=>cF a E2 σ=ac r) (λfr d σ=>(.ret fr d,σ)=r) [] f s'):aY w E6 Fe EW EV s Fb r f s':=λQ b c=>
 q Q (λh tk dw E1 m σ e t S=>have e:(Fl.next,σ)=r:=yJ e;b h tk dw E1 m (e▸rfl) t (e▸S)) λh tk dw fr d v σ e t R=>c h tk dw fr d v (e▸rfl) t R
theorem xi_for{x:yF}{E5:ME}{body:yA MS}(h:exS cf (.for_ x E5 body) σ=ac r)(k:∀ d EX,evE cf (vis σ) E5=ac d->d.items=ac EX->cF (λb σ=>bk cf body (ay σ x (yz,b))) EX (freeze E5.names σ)=ac r->C):C:=
 bH (a:=evE cf (vis σ) E5) (f:=λd=>oEs d.items λEX=>cF (λb σ=>bk cf body (ay σ x (yz,b))) EX (freeze E5.names σ)) h λd c h=>fh h λEX i h=>k d EX c i h
theorem ss_for(Z:Cx E3 w A E6 mg mb cf){x:yF}{E5:ME}{body:yA MS}(y:S2 E3 w A E6 cf body):SS E3 w A E6 cf (.for_ x E5 body):=λs EW st EV Fe Fb m σ r E z S i=>
 IFor.rec (motive:=λst Y=>wpAny (yR E3 w) A (CE st EW) (aY w E6 Fe EW EV s Fb r) E s) (λj c n o=>xi_for i λd EX B f C=>bG (pF (body_sb y.2 o) S j c (λQ k=>nk Z S n B λu EU a b G H=>nW (pj (s:={ s with heap:=EU,toks:=a,drawn:=b }) H Z.hh f) λI h tk dw t fr ex W=>k I EU h tk dw G t fr ex W) C) λY Y q=>vQ q) (inv_for z)
theorem scal_post{P:zH}{h:Heap}{H:yN->Prop}{v:yE}{d:D}{X:Prop}(r:Rep P h H v d)(a:d.scalar=yC)(x:X):match (generalizing:=false) v with | .ref _=>False | _=>X:=by
 cases d with
 | none=>exact r.noneE (C:=λv=>match (generalizing:=false) v with | .ref _=>False | _=>X) x
 | bool b=>exact r.boolE (C:=λv=>match (generalizing:=false) v with | .ref _=>False | _=>X) x
 | int i=>exact r.intE (C:=λv=>match (generalizing:=false) v with | .ref _=>False | _=>X) λZ=>x
 | str i=>exact r.strE (C:=λv=>match (generalizing:=false) v with | .ref _=>False | _=>X) λZ=>x
 | _=>cases a
theorem xi_expr{e:ME}(h:exS cf (.expr e) σ=ac r)(k:∀ d,evE cf (vis σ) e=ac d->d.scalar=yC->(.next,σ)=r->C):C:=
 bH (a:=evE cf (vis σ) e) (f:=λd=>if d.scalar=yC then ac (Fl.next,σ) else none) h λd b h=>bi h λc e=>k d b c e
theorem swaps_none{v:y4}(h:rS v=yC){l:Nat}{EW:Env}:Ef v yS l EW=pure yz:=by
 cases v with
 | ListComp | SetComp | DictComp=>cases h
 | _=>rfl
theorem ss_expr(Z:Cx E3 w A E6 mg mb cf)(e:ME):SS E3 w A E6 cf (.expr e):=λs EW st EV Fe Fb m σ r E a S b=>
 xi_expr b λd i j n=>n▸yt.rec (motive:=λst Y=>wpAny (yR E3 w) A (CE st EW) (aY w E6 Fe EW EV s Fb (.next,σ)) E s) (λo a=>wpAny_Expr (nk Z S a i λu EU c f h q=>scal_post q j (aY.nx (.keeps h) (S.keeps h))) (by unfold interactive;rw[S.rep.kind];rfl) (swaps_none o)) (inv_expr a)
end
inductive WhI(w:zq)(E6 Fe:Heap)(EW:Env)(EV:yN->Prop)(Fb:Own)(cd:St->yK yH)(bf:St->yK (Fl×St))(r:Fl×St)(s:yL)(k:Nat):yL->Prop
 | mk {h tk dw E1 m' Fd} (t:Tr s.heap EW Fb h E1) (S:bE w E6 Fe h EW EV E1 m' Fd) (wh:eX cd bf k Fd=ac r):WhI w E6 Fe EW EV Fb cd bf r s k { s with heap:=h,toks:=tk,drawn:=dw }
inductive WhT(cd:St->yK yH)(bf:St->yK (Fl×St))(r:Fl×St)(σ:St):Nat->Prop
 | done {n} (hc:cd σ=ac yz) (hr:r=(.next,σ)):WhT cd bf r σ (n+1)
 | next {n σ₁} (hc:cd σ=ac yC) (hb:bf σ=ac (.next,σ₁)) (hw:eX cd bf n σ₁=ac r):WhT cd bf r σ (n+1)
 | ret {n fr d σ₁} (hc:cd σ=ac yC) (hb:bf σ=ac (.ret fr d,σ₁)) (hr:r=(.ret fr d,σ₁)):WhT cd bf r σ (n+1)
theorem wh_inv{f:St->yK yH}{i:St->yK (Fl×St)}{r:Fl×St}{σ:St}{n:Nat}(h:eX f i n σ=ac r):WhT f i r σ n:=by
 cases n with
 | zero=>exact aj h
 | succ n=>
  cases a:f σ with
  | none=>rw[eX,a] at h;exact aj h
  | some b=>
   rw[eX,a] at h;cases b with
   | false=>exact .done a (yJ h).symm
   | true=>
    cases c:i σ with
    | none=>dsimp only at h;rw[c] at h;exact aj h
    | some rb=>
     obtain⟨m,j⟩:=rb;dsimp only at h;rw[c] at h;cases m with
     | next=>exact .next a c h
     | ret fr d=>exact .ret a c (yJ h).symm
theorem pQ{c:ME}{b:yH}{C:Prop}(h:gK cf c σ=ac b)(k:∀ d,evE cf (vis σ) c=ac d->bU d=ac b->C):C:=bH (a:=evE cf (vis σ) c) (f:=bU) h k
theorem wh_turn(Z:Cx E3 w A E6 mg mb cf){c:ME}{body:yA MS}(U:SSs E3 w A E6 cf body){s:yL}{r:Fl×St}{E1:Own}{m':Str->yK yE}{Fd:St}{k:Nat}{v:y4}{b:yA zZ}{EU:Heap}{h:Nat}{i:Drawn}{E:yE->yL->Prop}(y:aI EW.kindOf v c=yC)(G:fG EW.kindOf b body=yC)
  (t:Tr s.heap EW Fb EU E1) (S1:bE w E6 Fe EU EW EV E1 m' Fd) (X:WhT (gK cf c) (λσ=>bk cf body σ) r Fd k) :
  wpAny (yR E3 w) A (B8 v EW (zF v EW)) (λO o=>if O=yC then wpAny (yR E3 w) A (CT b EW) (λf a=>match f with
   | .next | .cont=>∃ m,m<k/\WhI w E6 Fe EW EV Fb (gK cf c) (λσ=>bk cf body σ) r s m a
   | .brk=>aY w E6 Fe EW EV s Fb r .next a
   | .ret v=>aY w E6 Fe EW EV s Fb r (.ret v) a) E o else wpAny (yR E3 w) A (CT [] EW) (λf a=>aY w E6 Fe EW EV s Fb r f a) E o) E { s with heap:=EU,toks:=h,drawn:=i }:=
 WhT.rec (motive:=λk EP=>wpAny (yR E3 w) A (B8 v EW (zF v EW)) (λO o=>if O=yC then wpAny (yR E3 w) A (CT b EW) (λf a=>match f with
   | .next | .cont=>∃ m,m<k/\WhI w E6 Fe EW EV Fb (gK cf c) (λσ=>bk cf body σ) r s m a
   | .brk=>aY w E6 Fe EW EV s Fb r .next a
   | .ret v=>aY w E6 Fe EW EV s Fb r (.ret v) a) E o else wpAny (yR E3 w) A (CT [] EW) (λf a=>aY w E6 Fe EW EV s Fb r f a) E o) E { s with heap:=EU,toks:=h,drawn:=i })
  (λH T=>pQ H λd I J=>qJ (s:={ s with heap:=EU,toks:=h,drawn:=i }) Z S1 y I J λE7 j n q=>BX (by rw[T];exact aY.nx (t.trans (.keeps q)) (S1.keeps q)))
  (λH z Y=>pQ H λd I J=>qJ (s:={ s with heap:=EU,toks:=h,drawn:=i }) Z S1 y I J λE7 j n q=>
   uq (U { s with heap:=E7,toks:=j,drawn:=n } EW _ EV Fe E1 m' Fd _ _ G (S1.keeps q) z) (λL B C N V EP u M=>⟨_,Ab _,.mk ((t.trans (.keeps q)).trans u) M Y⟩) λEP EP EP EP EP EP e EP EP=>nomatch e)
  (λH z T=>pQ H λd I J=>qJ (s:={ s with heap:=EU,toks:=h,drawn:=i }) Z S1 y I J λE7 j n q=>
   uq (U { s with heap:=E7,toks:=j,drawn:=n } EW _ EV Fe E1 m' Fd _ _ G (S1.keeps q) z) (λEP EP EP EP EP e EP EP=>nomatch e) λL B C fr d v e u R=>by cases e;show aY _ _ _ _ _ _ _ r _ _;rw[T];exact aY.rt ((t.trans (.keeps q)).trans u) R) X
theorem ss_while(Z:Cx E3 w A E6 mg mb cf){c:ME}{body:yA MS}(i:SSs E3 w A E6 cf body):SS E3 w A E6 cf (.while_ c body):=λs EW st EV Fe Fb m σ r E j S a=>
 uU.rec (motive:=λst Y=>wpAny (yR E3 w) A (CE st EW) (aY w E6 Fe EW EV s Fb r) E s) (λ{v b p} f h=>wpAny_While (codeAny_whileLoop (WhI w E6 Fe EW EV Fb (gK cf c) (λσ=>bk cf body σ) r s) (λk s' q=>by
  obtain @⟨EU,tk₁,dw₁,E1,m',Fd,t,S',wh⟩:=q;exact wh_turn Z i f h t S' (wh_inv wh)) wR (.mk (tk:=s.toks) (dw:=s.drawn) (.keeps λY Y e=>e) S a))) (inv_while j)
theorem xi_forr{x:yF}{E5:ME}{body:yA MS}{r:Fl×St}{C:Prop}(h:exS cf (.forr x E5 body) σ=ac r)(k:∀ ds,evE cf (vis σ) E5=ac (.tup ds)->cF (λa σ=>bk cf body (ay σ x (yz,a))) ds.reverse (freeze E5.names σ)=ac r->C):C:=by
 rw[uX] at h;split at h
 ·exact k _ ‹_› h
 ·exact aj h
theorem ss_forr(Z:Cx E3 w A E6 mg mb cf){x:yF}{E5:ME}{body:yA MS}(B:SSs E3 w A E6 cf body):SS E3 w A E6 cf (.forr x E5 body):=λs EW st EV Fe Fb m σ r E C S j=>
 yr.rec (motive:=λst Y=>wpAny (yR E3 w) A (CE st EW) (aY w E6 Fe EW EV s Fb r) E s) (λn H c o=>xi_forr j λds t J=>bG (pF (body_ss B o) S n QQ (λQ k=>PyProof.Rows.Call_Name QQ (fm Z.G (f:="reversed") (by decide) S.rep (S.freeze E5.names).hot H (eP (wV c) (Calls.spliced_cons (
  nk Z S c t λu EU a b L M=>Calls.spliced_nil (bG (iter_rvs (s:={ s with heap:=EU,toks:=a,drawn:=b }) M Z.hh) λv z i=>nW (s:={ s with heap:=EU,toks:=a,drawn:=b }) i λI h tk dw y fr ex W=>k I EU h tk dw L y fr ex W)))))) J) λY Y q=>vQ q) (inv_forr C)
end
noncomputable def gh(i:Nat):yF:=String.ofList (D7 (i+1) '#')
theorem gh_list(i:Nat):(gh i).toList=D7 (i+1) '#':=String.toList_ofList
theorem sf(i:Nat):(gh i).toList.length=i+1:=by rw[gh_list,List.length_replicate]
theorem xW{i j:Nat}(h:gh i=gh j):i=j:=Am ((sf i).symm.trans ((y6 (λs=>s.toList.length) h).trans (sf j)))
theorem gh_ne{i:Nat}{x:yF}(h:x.toList.length<=i):gh i≠x:=λe=>DT i (yD (y5 ((sf i).symm.trans (y6 (λs=>s.toList.length) e))) h)
theorem gh_fresh(names:yA (Str×Bv)):∃ N,∀ i,N<=i->names.lookup (yB (gh i))=yS:=by
 induction names with
 | nil=>exact⟨0,λZ Z=>QQ⟩
 | cons p names b=>
  obtain⟨N,h⟩:=b;refine⟨max N p.1.cps.size,λi a=>?_⟩
  have c:(yB (gh i) == p.1)=yz:=beq_false_of_ne λe=>by
   have q:(yB (gh i)).cps.size=i+1:=by rw[Str.ofString_eq_toList,Cw,yI,sf]
   exact DT i (yD (y5 (q.symm.trans (y6 (·.cps.size) e))) (yD (zz _ _) a))
  rw[y7,c];exact h i (yD (zB _ _) a)
section
variable {w:zq} {E6 Fe h E7:Heap} {EW:Env} {EV:yN->Prop} {Fb:Own} {m:Str->yK yE} {σ:St}
theorem bK.ghost(R:bK h EW m){x:Str}{v:yE}(f:EW.kindOf x=yS):bK h EW (upd m x v):=
 have b:∀ {y k},EW.kindOf y=ac k->upd m x v y=m y:=λ{y k} e=>yV λq=>nomatch (q▸e).symm.trans f
 {R with
  loc:=R.loc.elim λi q=>⟨i,q.1,λy a=>(q.2 y a).trans (b a).symm⟩
  cell:=λy a=>(R.cell y a).elim λc q=>⟨c,q.1,(a.elim b b).symm▸q.2⟩ }
theorem bE.adopt(S:bE w E6 Fe h EW EV Fb m σ){x:yF}(f:EW.kindOf (yB x)=yS){b:yN}{ds:yA D}(k:KH h E7)(i:gat h b=yS)(j:¬ EV b)(o:jg w.params E7 (Hot EW EV Fb) b ds) :
  bE w E6 Fe E7 EW EV (Fb.set x (ac b)) (upd m (yB x) (.ref b)) (ay σ x (yC,.list ds)):=
 S.set ((S.rep.keeps k).ghost f) (λb o Z e=>k b o e) (λZ a o Z e=>k a o e) (λb o e=>⟨o,k b o e⟩) (λb o e=>k b o (S.keep b o e)) (λc e=>yJ e▸⟨i,j,dH.ex (d:=.list ds) o⟩) nofun
  λZ=>⟨b,QQ,QQ,o.mono (λZ e=>e) (λZ Z Z e=>e) λc o Z q=>q.elim (λq=>.inl (.inl q)) λq=>q.elim (λq=>.inl (.inr (.inl q))) λq=>q.elim λy q=>eH q (λZ q=>.inr (yJ q).symm) λZ q=>.inl (.inr (.inr ⟨y,q⟩))⟩
end
noncomputable abbrev GL:=yA (D×yN×yA D)
noncomputable def GL.v(G:GL):yA (D×yA D):=G.map λq=>(q.1,q.2.2)
noncomputable def GL.k(G:GL):yA D:=G.map (·.1)
noncomputable def GL.p(G:GL):yA D:=G.map λq=>.ptr q.2.1
theorem tP{k r:D}{q:D×yA D}{G2:yA (D×yA D)}(hq:aN q.1 k=yC):∀ {G1:yA (D×yA D)},(∀ p∈G1,aN p.1 k=yz)->wU k r (G1++q::G2)=G1++(q.1,q.2++[r])::G2
 | [],_=>yT hq
 | p::G1,h=>(yV (by rw[h p (.head _)];nofun)).trans (y6 (p::·) (tP hq λp a=>h p (.tail _ a)))
theorem tO{k r:D}:∀ {G:yA (D×yA D)},(∀ p∈G,aN p.1 k=yz)->wU k r G=G++[(k,[r])]
 | [],_=>rfl
 | p::G,h=>(yV (by rw[h p (.head _)];nofun)).trans (y6 (p::·) (tO λp a=>h p (.tail _ a)))
theorem t7{k:D}{q:D×yN×yA D}{G2:GL}(hq:aN q.1 k=yC):∀ {G1:GL},(∀ p∈G1,aN p.1 k=yz)->nQ (GL.k (G1++q::G2)) (GL.p (G1++q::G2)) k=ac (.ptr q.2.1)
 | [],_=>yT hq
 | p::G1,h=>(yV (by rw[h p (.head _)];nofun)).trans (t7 hq λp a=>h p (.tail _ a))
theorem tZ{k d:D}:∀ {G:GL},(∀ p∈G,aN p.1 k=yz)->dG G.k G.p k d=(G.k++[k],G.p++[d])
 | [],_=>rfl
 | p::G,h=>(yV (by rw[h p (.head _)];nofun)).trans (by
  show (p.1::(dG (GL.k G) (GL.p G) k d).1,D.ptr p.2.1::(dG (GL.k G) (GL.p G) k d).2)=_;rw[tZ λp a=>h p (.tail _ a)];rfl)
theorem sW{k:D}:∀ {G:GL},(G.k.any λx=>aN x k)=yC->∃ G1 q G2,G=G1++q::G2/\aN q.1 k=yC/\∀ p∈G1,aN p.1 k=yz
 | p::G,h=>by
  cases a:aN p.1 k with
  | true=>exact⟨[],p,G,QQ,a,λZ q=>nomatch q⟩
  | false=>
   have h':(aN p.1 k||(GL.k G).any λx=>aN x k)=yC:=h
   rw[a] at h';obtain⟨G1,q,G2,e,h1,b⟩:=sW (G:=G) h';exact⟨p::G1,q,G2,y6 (p::·) e,h1,λx c=>(yX.mp c).elim (λe=>e▸a) (b x)⟩
theorem none_of_any{k:D}{G:GL}(h:(G.k.any λx=>aN x k)=yz):∀ p∈G,aN p.1 k=yz:=λp a=>by
 cases e:aN p.1 k with
 | false=>rfl
 | true=>exact zl e (Dq.mp h p.1 (zn.mpr ⟨p,a,QQ⟩))
structure GS(N:Nat)(ET:St)(G:GL)(Fb:Own)(σ:St):Prop where
 tk:∀ q∈G,q.1.isTK=yC
 gr:σ.lookup "groups"=ac (yC,.dict G.k G.p)
 gs:∀ i q,G[i]?=ac q->σ.lookup (gh (N+i))=ac (yC,.list q.2.2)/\Fb (gh (N+i))=ac q.2.1
 sm:∀ x∈jE,σ.lookup x=ET.lookup x
theorem pg{k:D}{G:GL}(a:k.isTK=yC)(h:∀ q∈G,q.1.isTK=yC):dL k G.k=yC:=by
 unfold dL;rw[a,show (GL.k G).all D.isTK=yC from zk.mpr λd b=>(zn.mp b).elim λq z=>z.2▸h q z.1]
 exact EH _
theorem jF{N i:Nat}(a:6<=N):gh (N+i)≠"groups"/\gh (N+i)≠"row"/\gh (N+i)≠"own"/\∀ x∈jE,gh (N+i)≠x:=
 have b:6<=N+i:=yD a (y9 _ _)
 have l:∀ x:yF,x.toList.length<=6->gh (N+i)≠x:=λx h=>gh_ne (yD h b)
 ⟨l _ (by decide),l _ (by decide),l _ (by decide),λx c=>l x ((by decide:∀ x∈jE,x.toList.length<=6) x c)⟩
theorem GS.other{N:Nat}{ET σ Fd:St}{G:GL}{Fb E1:Own}(b:6<=N)(g:GS N ET G Fb σ)(h:∀ x,x≠"row"->x≠"own"->(E1 x=Fb x\/x∈jE)/\Fd.lookup x=σ.lookup x):GS N ET G E1 Fd where
 tk:=g.tk
 gr:=(h _ (by decide) (by decide)).2.trans g.gr
 gs:=λi q e=>have z:=jF (i:=i) b;have y:=h _ z.2.1 z.2.2.1;⟨y.2.trans (g.gs i q e).1,(y.1.elim id λq=>zl QQ (z.2.2.2 _ q)).trans (g.gs i q e).2⟩
 sm:=λx a=>(h x (by rintro rfl;exact zl a (by decide)) (by rintro rfl;exact zl a (by decide))).2.trans (g.sm x a)
section
variable {E3:zh} {w:zq} {A:zt} {E6:Heap} {mg mb:Str->yK yE} {cf:CF}
variable {s:yL} {Fe:Heap} {EW:Env} {EV:yN->Prop} {Fb:Own} {m:Str->yK yE} {σ ET:St} {E:yE->yL->Prop} {N n:Nat} {G G1 G2:GL} {pl k dv:D} {GF:yA (D×yA D)} {E2:yA D}
theorem grp_new(Z:Cx E3 w A E6 mg mb cf){J L v:y4}{Fv O:Pos}(Fk:6<=N)(T:∀ i,N<=i->EW.kindOf (yB (gh i))=yS)(U:aI EW.kindOf J (.u "groups")=yC)(V:aI EW.kindOf L (.u "own")=yC)(X:aI EW.kindOf v (.lst [])=yC)
  (S:bE w E6 Fe s.heap EW EV Fb m σ) (g:GS N ET G Fb σ) (Fm:k.isTK=yC) (Fw:σ.lookup "own"=ac (yz,k)) (Y:∀ p∈G,aN p.1 k=yz) (Fz:G.length<big) {Q:Dp->yL->Prop}
  (K:∀ h tk dw E1 m' Fd b,bE w E6 Fe h EW EV E1 m' Fd->Tr s.heap EW Fb h E1->GS N ET (G++[(k,b,[])]) E1 Fd->(∀ x,x≠"groups"->(∀ i,x≠gh (N+i))->Fd.lookup x=σ.lookup x)->Q .next { s with heap:=h,toks:=tk,drawn:=dw }) :
  wpAny (yR E3 w) A (CE (.Assign [.Subscript J L Fv] v O) EW) Q E s:=by
 refine wpAny_Assign_Subscript (xo Z S X (d:=.list []) (fr:=yC) QQ λu EU f j t Fo y=>?_) (by cases v <;> rfl)
 replace y:=y QQ;obtain @⟨b,hb,o⟩:=y;rw[show (ME.lst []).names=[] from rfl,o0] at o Fo;have FA:=dH.off o Fo;have S1:=S.adopt (T _ (y9 N G.length)) t hb (λq=>FA (.inl q)) o
 have z:=jF (i:=G.length) Fk;have H:∀ x,x≠gh (N+G.length)->(ay σ (gh (N+G.length)) (yC,D.list [])).lookup x=σ.lookup x:=λx B=>by rw[aJ,yV B]
 have Fp:(ay σ (gh (N+G.length)) (yC,D.list [])).lookup "groups"=ac (yC,.dict G.k G.p):=(H _ z.1.symm).trans g.gr;have lo:(ay σ (gh (N+G.length)) (yC,D.list [])).lookup "own"=ac (yz,k):=(H _ z.2.2.1.symm).trans Fw;refine (S1.owned _ _ Fp).elim λM C=>(S1.plain _ _ lo).elim λFK Fq=>?_
 refine um.rec (motive:=λJ EP=>wpAny _ _ (zF J EW) _ _ _) (λFg=>fV (s:={ s with heap:=EU,toks:=f,drawn:=j }) S1.rep Fg C.2.1 ?_) (iX U)
 refine um.rec (motive:=λL EP=>wpAny _ _ (zF L EW) _ _ _) (λFh=>fV (s:={ s with heap:=EU,toks:=f,drawn:=j }) S1.rep Fh Fq.1 ?_) (iX V)
 have FE:∀ c,Hot EW EV (Fb.set (gh (N+G.length)) (ac b)) c\/c=M->Hot EW EV (Fb.set (gh (N+G.length)) (ac b)) c:=λc z=>z.elim id λz=>z▸.inr (.inr ⟨_,C.1⟩)
 refine nj (s:={ s with heap:=EU,toks:=f,drawn:=j }) (d:=.ptr b) Z.hu.u1 C.2.2 (Fq.2.sub FE) QQ (pg Fm g.tk) (by unfold GL.k;rw[yI];exact Fz) λh' tk dw Fi n=>?_
 rw[tZ Y] at n;have S2:=S1.turn Fp C.1 Fi (d:=.dict _ _) n;have Fs:∀ o,EU.get? M=ac o->bI o=yz:=dH.notTab (d:=.dict _ _) C.2.2;have Ft:∀ x,x≠gh (N+G.length)->Fb.set (gh (N+G.length)) (ac b) x=Fb x:=λx B=>yV B
 have I:Fb "groups"=ac M:=(Ft _ z.1.symm).symm.trans C.1;refine K h' tk dw _ _ _ b S2 ⟨λc o e EP FF=>g1 Fi Fs c (λq=>FF _ (q▸I)) (t c o e),λc o e=>(Classical.em (c=M)).elim (λq=>q▸dH.ex (d:=.dict _ _) n) λq=>⟨o,g1 Fi Fs c q (t c o e)⟩,λx a e=>eH e (λEP q=>.inr (yJ q▸hb)) λEP q=>.inl q⟩ ⟨?_,?_,?_,?_⟩ λx h1 FG=>?_
 ·exact λq hq=>(zA.mp hq).elim (g.tk q) λhq=>y3.mp hq▸Fm
 ·rw[aJ,yT rfl];unfold GL.k GL.p;rw[zd,zd];rfl
 ·intro i q e
  have FH:=jF (i:=i) Fk;rw[aJ,yV FH.1]
  by_cases Fj:i<G.length
  ·rw[B3 Fj] at e
   have Fu:gh (N+i)≠gh (N+G.length):=λq=>zC Fj (Nat.add_left_cancel (xW q))
   exact⟨(H _ Fu).trans (g.gs i q e).1,(Ft _ Fu).trans (g.gs i q e).2⟩
  ·have FJ:i=G.length:=by
    have:=(List.getElem?_eq_some_iff.mp e).1;rw[yY] at this;exact Bx (Nat.lt_succ_iff.mp this) (zU.mp Fj)
   subst FJ;rw[Ai (y0 _),CD] at e;rw[<- yJ e,aJ,yT rfl];exact⟨QQ,yT QQ⟩
 ·intro x B
  rw[aJ,yV (by rintro rfl;exact zl B (by decide))]
  exact (H x λq=>z.2.2.2 x B q.symm).trans (g.sm x B)
 ·rw[aJ,yV h1];exact H x (FG _)
theorem grp_app(Z:Cx E3 w A E6 mg mb cf){f a:y4}{Fk cp X:Pos}(Fm:6<=N)(O:aI EW.kindOf f (.sub (.u "groups") (.u "own"))=yC)(T:aI EW.kindOf a (.u "row")=yC)(G:(Fk.endLine == cp.line)=yC){q:D×yN×yA D}
  (S:bE w E6 Fe s.heap EW EV Fb m σ) (g:GS N ET (G1++q::G2) Fb σ) (Fu:k.isTK=yC) (Fv:σ.lookup "own"=ac (yz,k)) (Fw:σ.lookup "row"=ac (yz,dv)) (hq:aN q.1 k=yC) (Y:∀ p∈G1,aN p.1 k=yz) (Fz:q.2.2.length<big) {Q:Dp->yL->Prop}
  (K:∀ h tk dw Fd,bE w E6 Fe h EW EV Fb m Fd->Tr s.heap EW Fb h Fb->GS N ET (G1++(q.1,q.2.1,q.2.2++[dv])::G2) Fb Fd->Q .next { s with heap:=h,toks:=tk,drawn:=dw }) :
  wpAny (yR E3 w) A (CE (.Expr (.Call (.Attribute f (yB "append") Fk) [a] [] cp) X) EW) Q E s:=by
 have FA:evE cf (vis σ) (.sub (.u "groups") (.u "own"))=ac (.ptr q.2.1):=by
  rw[xY,gZ,gZ,cz,cz,g.gr,Fv];exact (yT (pg Fu g.tk)).trans (t7 hq Y)
 have H:=g.gs G1.length q (by rw[Ai (y0 _),CD];rfl)
 have t:BY [a] EW=[(yz,zF a EW)]:=ik T;have U:attributeBase f (yB "append") EW (zF f EW)=zF f EW:=(oh O).rec λEP EP EP=>QQ
 refine wpAny_Expr (wpAny_Call_append U (by rw[t];rfl) G (by rw[t];rfl) (nk Z S O FA λu EU I J V Fg=>?_)) (by unfold interactive;rw[S.rep.kind];rfl) QQ
 have Fg:u=.ref q.2.1:=Fg;subst Fg;have S1:=S.keeps V;have o:jg w.params EU (Hot EW EV Fb) q.2.1 q.2.2:=S1.ownAt H.1 H.2;refine o.rec λ{vs n} o1 o2 Fo=>⟨q.2.1,vs,QQ,⟨_,n,o1,QQ,QQ,QQ⟩,?_⟩
 refine (S1.plain _ _ Fw).elim λFh Fp=>um.rec (motive:=λa EP=>wpAny _ _ (zF a EW) _ _ _) (λFi=>fV (s:={ s with heap:=EU,toks:=I,drawn:=J }) S1.rep Fi Fp.1 ?_) (iX T)
 refine Dl (items:=vs) ⟨n,o1⟩ (λE7 L y=>?_) (Fo.size.symm▸o2)
 have B:∃ Fq,E7.get? q.2.1=ac (fT (vs.push Fh) Fq):=L;have Fs:Mv q.2.1 EU E7:=λb o U e=>g1 y (bZ o1) b U e
 have FE:∀ c,Hot EW EV Fb c\/c=q.2.1->Hot EW EV Fb c:=λc z=>z.elim id λz=>z▸.inr (.inr ⟨_,H.2⟩)
 have C:jg w.params E7 (Hot EW EV Fb) q.2.1 (q.2.2++[dv]):=B.elim λFq FF=>⟨FF,by rw[yY];exact Fz,by
  rw[Cv];exact (Fo.append (.cons (Fp.2.sub FE) .nil)).mono (λb o FG e=>Fs b o (λq=>FG (.inr q)) e) λEP EP EP q=>q⟩
 refine K E7 _ _ _ (S1.turn H.1 H.2 y (d:=.list _) C) (rF (λEP EP e=>e) V H.2 (λb U EP e=>Fs b _ U e) (dH.ex (d:=.list _) C)) ⟨?_,?_,?_,?_⟩
 ·exact λp M=>(zA.mp M).elim (λM=>g.tk p (Ap _ M)) λM=>(yX.mp M).elim (λe=>e▸g.tk q (zQ _ (.head _))) λM=>g.tk p (zQ _ (.tail _ M))
 ·rw[aJ,yV (jF Fm).1.symm,g.gr];unfold GL.k GL.p;rw[zd,zd,zd,zd];rfl
 ·intro i p e
  by_cases Fj:i=G1.length
  ·subst Fj
   rw[Ai (y0 _),CD] at e;rw[<- yJ e,aJ,yT rfl];exact⟨QQ,H.2⟩
  ·have FH:(G1++q::G2)[i]?=ac p:=by
    rw[<- e]
    by_cases h:i<G1.length
    ·rw[B3 h,B3 h]
    ·have h':=Ck (zU.mp h) (Ne.symm Fj)
     rw[Ai (zU.mp h),Ai (zU.mp h)];obtain⟨j,FJ⟩:=Nat.exists_eq_succ_of_ne_zero (Nat.sub_ne_zero_of_lt h');rw[FJ];rfl
   rw[aJ,yV λq=>Fj (Nat.add_left_cancel (xW q))]
   exact g.gs i p FH
 ·intro x Ft
  rw[aJ,yV λq=>(jF Fm).2.2.2 x Ft q.symm]
  exact g.sm x Ft
end
theorem look_settle{d:D}{ns:yA yF}{σ:St}{x:yF}(h:x ∉ ns\/∃ e,σ.lookup x=ac (yz,e)):(settle d ns σ).lookup x=σ.lookup x:=by
 unfold settle;cases d.scalar with
 | true=>rfl
 | false=>
  show (freeze ns σ).lookup x=_;rw[bw]
  rcases h with h | ⟨e,h⟩
  ·have:ns.contains x=yz:=Cz.mpr λq=>h (Av.mp q)
   rw[this];cases σ.lookup x with
   | none=>rfl
   | some p=>exact y6 ac (EG (CX _) QQ)
  ·rw[h];rfl
theorem grpD_inv{cf:CF}{pl dv:D}{E2:yA D}{G GF:yA (D×yA D)}{C:Prop}(h:nM cf pl (dv::E2) G=ac GF)(K:∀ k,cf.call "cells_at" [dv,pl]=ac (k,yz)->k.isTK=yC->nM cf pl E2 (wU k dv G)=ac GF->C):C:=by
 rw[nM] at h;cases e:cf.call "cells_at" [dv,pl] with
 | none=>rw[e] at h;exact aj h
 | some p=>
  rw[e] at h;obtain⟨k,fr⟩:=p;refine cK h λa h=>bQ a λh1 b=>?_
  cases fr with
  | true=>cases b
  | false=>exact K k e h1 h
inductive GJ(cf:CF)(pl:D)(GF:yA (D×yA D))(N n:Nat)(ET:St)(E2:yA D)(Fb:Own)(σ:St):Prop
 | mk (G:GL) (g:GS N ET G Fb σ) (go:nM cf pl E2 G.v=ac GF) (ln:∀ q∈G,q.2.2.length+E2.length<=n) (lg:G.length+E2.length<=n)
theorem v_no{k:D}{G:GL}(h:∀ p∈G,aN p.1 k=yz):∀ p∈G.v,aN p.1 k=yz:=λp a=>(zn.mp a).elim λb z=>z.2▸h b z.1
theorem keyEq_self{k:D}(h:k.isTK=yC):aN k k=yC:=(sL h).elim λc e=>e▸(lQ c c).trans (Af QQ)
section
variable {E3:zh} {w:zq} {A:zt} {E6:Heap} {mg mb:Str->yK yE} {cf:CF}
variable {Fe:Heap} {EW:Env} {ET:St} {N n:Nat} {pl:D} {GF:yA (D×yA D)}
theorem wn(Z:Cx E3 w A E6 mg mb cf){s:yL}{E8:yN->Prop}{Fb E1:Own}{m':Str->yK yE}{Fd:St}{f:zZ}{k dv:D}{E2:yA D}{q:D×yN×yA D}{G1 G2:GL}{h:Heap}{tk:Nat}{dw:Drawn}{E:yE->yL->Prop}(G:6<=N)(H:n<=big)(c3:grp3 EW.kindOf f=yC)(I:k.isTK=yC)
  (S:bE w E6 Fe h EW E8 E1 m' Fd) (t:Tr s.heap EW Fb h E1) (g:GS N ET (G1++q::G2) E1 Fd) (J:Fd.lookup "own"=ac (yz,k)) (L:Fd.lookup "row"=ac (yz,dv)) (hq:aN q.1 k=yC) (i:∀ p∈G1,aN p.1 k=yz)
  (go:nM cf pl E2 (G1.v++(q.1,q.2.2++[dv])::G2.v)=ac GF) (j:∀ p∈G1++q::G2,p.2.2.length+(dv::E2).length<=n) (y:(G1++q::G2).length+E2.length<=n) :
  wpAny (yR E3 w) A (CT [f] EW) (gO w E6 Fe EW E8 s Fb (GJ cf pl GF N n ET) (λEP EP EP=>False) E2) E { s with heap:=h,toks:=tk,drawn:=dw }:=
 mY (C:=λf=>wpAny (yR E3 w) A (CT [f] EW) (gO w E6 Fe EW E8 s Fb (GJ cf pl GF N n ET) (λEP EP EP=>False) E2) E { s with heap:=h,toks:=tk,drawn:=dw }) c3 λv p c=>eC (e:=v) c λm M ks cp c=>bQ c λO c=>kE (l:=ks) O (eQ (l:=M) c λa c=>mZ (e:=m) c λz T Y c=>qs c λc1=>eqb (a:=T) c1 λc2 c3 U=>
  have B:=j q (zQ _ (.head _))
  AT (grp_app (s:={ s with heap:=h,toks:=tk,drawn:=dw }) Z G c3 U c2 S g I J L hq i (yZ (yZ (Ak (Ac _)) B) H) λh' tk dw o S2 V X=>BX λQ u EP=>
   u h' tk dw E1 m' o (.mk _ X (by unfold GL.v at go ⊢;rw[zd];exact go) (λp b=>(zA.mp b).elim (λb=>yD (zu (AB _) _) (j p (Ap _ b))) λb=>(yX.mp b).elim (λe=>by
     rw[e,yY];exact yD (y5 (Ah _ 1 _)) (yD (y5 (by rw[z5 1];rfl)) B)) λb=>yD (zu (AB _) _) (j p (zQ _ (.tail _ b))))
    (by rw[yY] at y ⊢;exact y)) (t.trans V) S2))
theorem grp_body(Z:Cx E3 w A E6 mg mb cf)(H:6<=N)(Y:∀ i,N<=i->EW.kindOf (yB (gh i))=yS)(Fg:n<=big)(Fh:ET.lookup "places"=ac (yz,pl)){s1 J T:zZ}(c1:grp1 EW.kindOf s1=yC)(c2:grp2 EW.kindOf J=yC)(c3:grp3 EW.kindOf T=yC) :
  qo E3 w A E6 Fe EW "row" (GJ cf pl GF N n ET) (λEP EP EP=>False) [s1,J,T]:=λs E8 Fb m σ dv E2 E FM S=>by
 refine bG (Q:=gO w E6 Fe EW E8 s (Fb.set "row" yS) (GJ cf pl GF N n ET) (λEP EP EP=>False) E2) ?_ λEP EP q=>jpost_nf q
 obtain⟨G,g,go,FA,U⟩:=FM;refine grpD_inv go λk I L go=>?_
 have FE:GS N ET G (Fb.set "row" yS) (ay σ "row" (yz,dv)):=g.other H λx h1 EP=>⟨.inl (yV h1),by rw[aJ,yV h1]⟩
 have lp:(ay σ "row" (yz,dv)).lookup "places"=ac (yz,pl):=(FE.sm _ (by decide)).trans Fh
 have Fi:(ay σ "row" (yz,dv)).lookup "row"=ac (yz,dv):=by rw[aJ,yT rfl]
 have FN:evF cf (vis (ay σ "row" (yz,dv))) (.call "cells_at" [.u "row",.u "places"])=ac (k,yz):=by
  rw[lX,pL,pL,evs_nil,gZ,gZ,cz,cz,Fi,lp];exact I
 refine ou.rec (motive:=λs1 EP=>wpAny (yR E3 w) A (CT [s1,J,T] EW) _ E s) (λ{p v Fj} Fk FF=>?_) (pu (x:="own") (e:=.call "cells_at" [.u "row",.u "places"]) c1)
 refine AT (l6 Z Fk FF S FN ((tx FF).swap QQ _ _ _) λu h tk dw V FG=>?_)
 generalize t:ay (settle k (ME.call "cells_at" [.u "row",.u "places"]).names (ay σ "row" (yz,dv))) "own" (yz,k)=j at V;generalize Fm:(ef (Fb.set "row" yS) k (ME.call "cells_at" [.u "row",.u "places"]).names).set "own" (rR yz u)=y at V FG;have Fo:∀ x,x≠"own"->x="row"\/x="places"\/(x≠"row"/\x≠"places")->j.lookup x=(ay σ "row" (yz,dv)).lookup x:=λx h1 a=>by
  rw[<- t,aJ,yV h1];exact look_settle (a.elim (λe=>.inr ⟨dv,e▸Fi⟩) λa=>a.elim (λe=>.inr ⟨pl,e▸lp⟩) λa=>.inl λq=>fI (show x∈["row","places"] from q) a.1 a.2)
 have X:GS N ET G y j:=FE.other H λx h1 a=>by
  by_cases z:x="places"
  ·exact⟨.inr (z▸by decide),Fo x a (.inr (.inl z))⟩
  ·refine⟨.inl ?_,Fo x a (.inr (.inr ⟨h1,z⟩))⟩
   rw[<- Fm];refine (yV a).trans ?_;unfold ef
   split
   ·rfl
   ·exact yV λq=>fI (show x∈["row","places"] from q) h1 z
 have o:j.lookup "own"=ac (yz,k):=by rw[<- t,aJ,yT rfl]
 have M:j.lookup "row"=ac (yz,dv):=(Fo _ (by decide) (.inl QQ)).trans Fi
 refine sC (C:=λJ=>wpAny (yR E3 w) A (CT [J,T] EW) _ E _) c2 λF0 FO o2 F3 c=>iI c λFp Fq c=>kE (l:=o2) Fq (eQ (l:=FO) c λFP c=>?_)
 have Fs:evE cf (vis j) (.cmp .NotIn (.u "own") (.u "groups"))=ac (.bool (!(G.k.any λx=>aN x k))):=by
  rw[ev_cmp,gZ,gZ,cz,cz,o,X.gr];show (mD k (.dict G.k G.p)).map (λx=>D.bool (!x))=_
  rw[show mD k (.dict G.k G.p)=ac (G.k.any λx=>aN x k) from yT (pg L X.tk)];rfl
 refine AT (wpAny_If (qJ (s:={ s with heap:=h,toks:=tk,drawn:=dw }) Z V Fp Fs QQ λa Ft Fu O=>?_))
 have FH:=V.keeps O;have tb:Tr s.heap EW (Fb.set "row" yS) a y:=FG.trans (.keeps O);cases B:G.k.any λx=>aN x k with
 | true=>
  obtain⟨G1,q,G2,e,hq,f⟩:=sW B;subst e;refine BX (wn Z H Fg c3 L FH tb X o M hq f ?_ FA (yD (zu (AB _) _) U));have e:GL.v (G1++q::G2)=GL.v G1++(q.1,q.2.2)::GL.v G2:=by unfold GL.v;rw[zd];rfl
  rw[e,tP (q:=(q.1,q.2.2)) hq (v_no f)] at go;exact go
 | false=>
  have f:=none_of_any B;rw[yT (show (!yz)=yC from rfl)];refine jX c λFQ v Fj c=>?_
  refine eQ (l:=FQ) c λFR c=>?_
  refine l4 (e:=FR) c λF4 F5 F6 c=>iI c λFv Fw Fz=>?_
  have FS:G.length<n:=yZ (Ak (Ac _)) U;refine AT (grp_new (s:={ s with heap:=a,toks:=Ft,drawn:=Fu }) Z H Y Fv Fw Fz FH X L o f (yZ FS Fg) λF7 FT FU FJ F8 FV b FW FY FZ FK=>BX ?_)
  refine wn (q:=(k,b,[])) (G2:=[]) Z H Fg c3 L FW (tb.trans FY) FZ ((FK _ (by decide) λi=>(jF H).2.2.1.symm).trans o) ((FK _ (by decide) λi=>(jF H).2.1.symm).trans M) (keyEq_self L) f ?_ (λp z=>(zA.mp z).elim (FA p) λz=>?_) ?_
  ·rw[tO (v_no f)] at go
   exact go
  ·rw[y3.mp z]
   exact yD (zs (za _) _) U
  ·rw[yY]
   exact yD (y5 (by rw[Ah,z5 [_].length];rfl)) U
theorem ptrs_lists{P:zH}{h:Heap}{H:yN->Prop}{G:GL}{l:yA yE}(a:∀ q∈G,Rep P h H (.ref q.2.1) (.list q.2.2))(r:al P h H l G.p):al P h H l (G.map λq=>.list q.2.2):=by
 induction G generalizing l with
 | nil=>exact r
 | cons q G b=>
  cases r with
  | mk h1 c=>
   have h1:_=Value.ref q.2.1:=h1;subst h1;exact .cons (a q (.head _)) (b (λq hq=>a q (.tail _ hq)) c)
theorem ny{σ:St}{x:yF}{p:yH×D}(e:(σ.filter λp=>jE.contains p.1).lookup x=ac p):x∈jE/\σ.lookup x=ac p:=by
 induction σ with
 | nil=>cases e
 | cons q σ b=>
  rw[Az] at e;rw[y7];cases c:x == q.1 with
  | true=>
   have e1:=eq_of_beq c;cases a:jE.contains q.1 with
   | true=>
    rw[a,yT rfl,y7,c] at e;exact⟨e1▸Av.mp a,e⟩
   | false=>
    rw[a,yV yQ] at e;have:=(b e).1;rw[e1,<- Av,a] at this;cases this
  | false=>
   split at e
   ·rw[y7,c] at e;exact b e
   ·exact b e
theorem grp_end{s:yL}{h:Heap}{EV:yN->Prop}{Fb:Own}{m:Str->yK yE}{σ:St}(A:6<=N){E2:yA D}(B:E2=[])(J:GJ cf pl GF N n ET E2 Fb σ)(S:bE w E6 Fe h EW EV Fb m σ) :
  ∃ E1,(∀ x a,E1 x=ac a->Fb x=ac a)/\bE w E6 Fe h EW EV E1 m (xU ET GF):=by
 subst B;obtain⟨G,g,go,_,_⟩:=J;have go:G.v=GF:=yJ go;subst go;have S1:=S.freeze ("groups"::(zf G.length).map λi=>gh (N+i))
 have b:∀ x∈jE,x ∉ "groups"::(zf G.length).map λi=>gh (N+i):=λx b q=>(yX.mp q).elim (λe=>zl (e▸b:"groups"∈jE) (by decide)) λq=>(zn.mp q).elim λi z=>(jF A).2.2.2 x b z.2
 generalize f:"groups"::(zf G.length).map (λi=>gh (N+i))=ns at S1 b
 have t:∀ x∈ns,∀ d,σ.lookup x=ac (yC,d)->(freeze ns σ).lookup x=ac (yz,d):=λx b d e=>by rw[bw,e,DW,Av.mpr b];rfl
 have c:∀ q∈G,Rep w.params h (Hot EW EV (Fb.less ns)) (.ref q.2.1) (.list q.2.2):=λq hq=>by
  obtain⟨i,u,e⟩:=BK hq;have j:=g.gs i q (e▸yP u);obtain⟨v,h1,o⟩:=S1.plain _ _ (t _ (f▸.tail _ (zn.mpr ⟨i,AK.mpr u,QQ⟩)) _ j.1);obtain⟨a,C,E,_⟩:=S.owned _ _ j.1;have H:a=q.2.1:=yJ (C.symm.trans j.2);exact H▸yJ (h1.symm.trans E)▸o
 obtain⟨v,I,L⟩:=S1.plain _ _ (t "groups" (f▸.head _) _ g.gr);have M:Rep w.params h (Hot EW EV (Fb.less ns)) v (.dict (G.v.map (·.1)) (G.v.map λq=>.list q.2)):=by
  have e1:G.v.map (·.1)=G.k:=by unfold GL.v GL.k;rw[zV];rfl
  have O:G.v.map (λq=>D.list q.2)=G.map λq=>.list q.2.2:=by unfold GL.v;rw[zV];rfl
  rw[e1,O];exact qv.rec (motive:=λv EP=>qv w.params h (Hot EW EV (Fb.less ns)) G.k _ _ v) (λT U V h1 o X Y Z Fg=>.mk T U V h1 (ptrs_lists c o) X Y Z Fg) L
 refine⟨Fb.less ns,λEP EP=>eJ,{ S1 with plain:=λy d e=>kj e (λFh ep=>?_) λEP e=>?_,owned:=λy d e=>kj e (λEP ep=>nomatch (zR ep).1) λEP e=>?_ }⟩
 ·exact⟨v,Fh▸I,(zR ep).2▸M⟩
 ·have q:=ny e
  refine S1.plain y d ?_;rw[bw,(g.sm y q.1).trans q.2];rfl
 ·have q:=ny e
  refine S1.owned y d ?_;rw[bw,(g.sm y q.1).trans q.2,DW,show ns.contains y=yz from Cz.mpr λz=>b y q.1 (Av.mp z)];rfl
theorem isNew_inv{o:yK (yH×D)}(h:isNew o=yC):o=ac (yC,.dict [] []):=by
 cases o with
 | none=>cases h
 | some p=>
  obtain⟨b,d⟩:=p;cases b with
  | false=>cases h
  | true=>
   cases d with
   | dict ks vs=>
    cases ks with
    | cons=>cases h
    | nil=>
     cases vs with
     | cons=>cases h
     | nil=>rfl
   | _=>cases h
theorem xi_grp{σ:St}{r:Fl×St}{C:Prop}(h:exS cf .grp σ=ac r)(K:∀ b pl GF,σ.lookup "rows"=ac (yz,.list b)->σ.lookup "places"=ac (yz,pl)->σ.lookup "groups"=ac (yC,.dict [] [])->nM cf pl b []=ac GF->(.next,xU σ GF)=r->C):C:=by
 rw[wZ] at h;cases a:xT cf σ with
 | none=>rw[a] at h;exact aj h
 | some Fd=>
  rw[a] at h;unfold xT at a;split at a
  ·split at a
   ·exact cK a λh1 a=>bM a λGF c e=>K _ _ GF ‹_› ‹_› (isNew_inv h1) c (e▸yJ h)
   ·cases a
  ·cases a
theorem ss_grp(Z:Cx E3 w A E6 mg mb cf):SS E3 w A E6 cf .grp:=λs EW st EV Fe Fb m σ r E Fj S H=>xi_grp H λL pl GF j M N Fk Fm=>by
 obtain⟨Y,O⟩:=gh_fresh EW.scope.names;have Fg:6<=max Y 6:=zz _ _;have T:∀ i,max Y 6<=i->EW.kindOf (yB (gh i))=yS:=λi Fo=>O i (yD (zB _ _) Fo)
 have Fp:evE cf (vis σ) (.u "rows")=ac (.list L):=by rw[gZ,cz,j];rfl
 have B:L.length<=big:=(S.plain _ _ j).elim λv q=>q.2.listE (C:=λEP=>L.length<=big) λEP EP EP EP EP Fq EP=>Fq
 have Fs:∀ x d,σ.lookup x=ac (yz,d)->(freeze ["rows"] σ).lookup x=ac (yz,d):=λx d e=>by rw[bw,e];rfl
 have Fh:∀ x,x≠"rows"->(freeze ["rows"] σ).lookup x=σ.lookup x:=λx Ft=>by
  rw[bw,show["rows"].contains x=yz from Cz.mpr λq=>Ft (y3.mp (Av.mp q))]
  cases σ.lookup x with
  | none=>rfl
  | some p=>exact y6 ac (EG (CX _) QQ)
 have Fu:∀ x∈jE,(freeze ["rows"] σ).lookup x=σ.lookup x:=λx EP=>(Classical.em (x="rows")).elim (λe=>e▸(Fs _ _ j).trans j.symm) (Fh x)
 refine Fm▸pZ (C:=λst=>wpAny (yR E3 w) A (CE st EW) (aY w E6 Fe EW EV s Fb (.next,xU σ GF)) E s) Fj λt FH b o p c=>bQ c λFv c=>kE (l:=o) Fv (b0 (e:=t) c λy FJ c=>qq c λc1=>eqb (a:=y) c1 λU G V c=>c3_inv (l:=b) c λs1 FK FM c=>iI c λFw Fz FA=>
  bG (pF (ns:=["rows"]) (grp_body (Fe:=Fe) (GF:=GF) Z Fg T B (ET:=σ) M Fw Fz FA) S U G (λQ k=>nk Z S V Fp λu EU n z FE FF=>nW (pj (s:={ s with heap:=EU,toks:=n,drawn:=z }) FF Z.hh QQ) λI h tk dw X fr ex W=>k I EU h tk dw FE X fr ex W)
   (.mk [] ⟨λEP q=>(nomatch q),(Fh _ (by decide)).trans N,λi q e=>(by rw[Dm] at e;cases e),Fu⟩ Fk (λEP q=>nomatch q) (y5 (z6 _)))) λf s' q=>?_)
 refine q _ (λh tk dw E1 m' Fd J t FG=>?_) λEP EP EP EP EP EP EP k=>k.elim
 obtain⟨Fi,h1,S2⟩:=grp_end (s:=s) Fg QQ J FG;exact aY.nx (t.trans (.of (λEP EP e=>e) h1)) S2
end
section
variable {E3:zh} {w:zq} {A:zt} {E6:Heap} {mg mb:Str->yK yE} {cf:CF}
theorem all_S1(Z:Cx E3 w A E6 mg mb cf)(i:MS):S1 E3 w A E6 cf i:=
 MS.rec (motive_1:=S1 E3 w A E6 cf) (motive_2:=S2 E3 w A E6 cf) (λx e=>s1 (ss_assign Z x e) QQ) (λx e=>s1 (ss_append Z x e) QQ) (λx k e=>s1 (ss_setk Z x k e) QQ) (λc t f n j=>⟨ss_ite Z n.1 j.1,λY Y Y e=>(MS.ite.inj e).2.2▸j.1⟩) (λx E5 body h=>s1 (ss_for Z h) QQ) (λe=>s1 (ss_ret Z e) QQ)
  (s1 (λs EW st EV Fe Fb m σ r E u S b=>aj b) QQ)
  (s1 (ss_grp Z) QQ)
  (λx E5 body h=>s1 (ss_forr Z h.1) QQ)
  (λe=>s1 (ss_expr Z e) QQ)
  (λc body h=>s1 (ss_while Z h.1) QQ)
  s2_nil (λa r o q=>s2_cons Z o q) i
theorem all_S(Z:Cx E3 w A E6 mg mb cf)(a:MS):SS E3 w A E6 cf a:=(all_S1 Z a).1
theorem all_Ss(Z:Cx E3 w A E6 mg mb cf)(b:yA MS):SSs E3 w A E6 cf b:=List.rec (motive:=SSs E3 w A E6 cf) rJ (λa r c=>sT (all_S Z a) c) b
end
noncomputable def qm(h:Heap)(a:yE)(q:Str):Prop:=∃ c o vs t,a=.ref c/\gat h c=ac o/\o.cls=.type "code"/\o.data=.fields vs/\vs[1]?=ac (.str q t)
theorem qm.rec{h:Heap}{a:yE}{q:Str}(x:qm h a q):h.CodeRec a q:=x.elim λc x=>x.elim λo x=>x.elim λvs x=>x.elim λt x=>⟨c,o,vs,t,x.1,Heap.of_gt' x.2.1 (by rw[x.2.2.1];nofun),x.2.2.2⟩
theorem qm.keeps{h h':Heap}{a:yE}{q:Str}(x:qm h a q)(b:KH h h'):qm h' a q:=x.elim λc x=>x.elim λo x=>x.elim λvs x=>x.elim λt x=>⟨c,o,vs,t,x.1,b _ _ x.2.1,x.2.2⟩
structure FnAt(E6:Heap)(mg:Str->yK yE)(f:yF)(fn:Fn)(a:yN)(o:Obj)(fd:FuncData)(body:yA zZ):Prop where
 f1:mg (yB f)=ac (.ref a)
 f2:gat E6 a=ac o
 f3:o.data=.func fd
 f4:fd.body=.stmts body
 f5:fd.closure=[]
 f6:fd.globals=Ao
 f7:fd.builtins=Es
 f8:qm E6 fd.code fd.qualname
 f9:fd.params.posonlyargs=[]
 f10:fd.params.kwonlyargs=[]
 f11:fd.params.vararg=yS
 f12:fd.params.kwarg=yS
 f13:fd.defaults=.none
 f14:fd.params.args.map (·.arg)=fn.params.map yB
 f15:fn.params.Nodup
 f16:fd.scope.kind=.function
 f17:fd.scope.isCoroutine=yz
 f18:fd.scope.isGenerator=yz
 f19:(fd.scope.names.map (·.1)).Nodup
 f20:(∀ p∈fd.scope.names,p.2≠.free)
 f21:(∀ x∈fn.params,fd.scope.names.lookup (yB x)=ac .local\/fd.scope.names.lookup (yB x)=ac .cell)
 f22:fG (λx=>fd.scope.names.lookup x) body fn.body=yC
 f23:(mA (λx=>fd.scope.names.lookup x)=yC->fd.code=.ref oc/\fd.qualname=uJ)
structure FnOk(E6:Heap)(mg:Str->yK yE)(f:yF)(fn:Fn):Prop where
 ok:∃ a o fd body,FnAt E6 mg f fn a o fd body
theorem qQ{r:yA (Str×yE)}{n:Str}(h:¬ n∈r.map (·.1)):r.lookup n=yS:=by
 cases q:r.lookup n with
 | none=>rfl
 | some c=>exact zl (D2 (f:=(·.1)) (mem_of_lookup q)) h
theorem bindL_eq{k:KD}(binds:yA (Str×yE))(m:Str->yK yE)(x:Str)(a:(binds.map (·.1)).Nodup)(b:k x=ac .local):bindL k binds m x=(binds.lookup x).or (m x):=by
 induction binds generalizing m with
 | nil=>rfl
 | cons p r c=>
  have a:=AW.mp a;unfold bindL;rw[c _ a.2,aU]
  by_cases h:x=p.1
  ·subst h
   rw[qQ a.1,yT rfl,yT b];exact yT QQ
  ·rw[yV h]
   split
   ·exact y6 _ (yV h)
   ·rfl
theorem bindC_eq{k:KD}(binds:yA (Str×yE))(m:Str->yK yE)(x:Str)(a:(binds.map (·.1)).Nodup)(b:k x≠ac .local):bindC k binds m x=(binds.lookup x).or (m x):=by
 induction binds generalizing m with
 | nil=>rfl
 | cons p r c=>
  have a:=AW.mp a;unfold bindC;rw[c _ a.2,aU]
  by_cases h:x=p.1
  ·subst h
   rw[qQ a.1,yT rfl,yV b];exact yT QQ
  ·rw[yV h]
   split
   ·rfl
   ·exact y6 _ (yV h)
theorem lookup_zip_map{h:Heap}{P:zH}{H:yN->Prop}{ns:yA yF}{vs:yA yE}{ds:yA D}{x:yF}{d:D}(r:al P h H vs ds)(e:(ns.zip ds).lookup x=ac d):∃ v,((ns.map yB).zip vs).lookup (yB x)=ac v/\Rep P h H v d:=by
 induction ns generalizing vs ds with
 | nil=>cases e
 | cons n ns a=>
  cases ds with
  | nil=>cases e
  | cons f ds=>
   refine dP.rec (motive:=λvs Z=>∃ v,(((n::ns).map yB).zip vs).lookup (yB x)=ac v/\Rep P h H v d) (λb c=>?_) r
   rw[Ba,y7] at e;rw[y8,Ba,aU]
   by_cases h:x=n
   ·subst h
    rw[zg] at e;exact⟨_,yT QQ,yJ e▸b⟩
   ·rw[show (x == n)=yz from An.mpr h] at e
    rw[yV (λq=>h (dR q))]
    exact a c e
theorem lM(x:yF)(ns:yA yF)(ds:yA D):((ns.zip ds).map λp=>(p.1,(yz,p.2))).lookup x=((ns.zip ds).lookup x).map λd=>(yz,d):=by
 generalize ns.zip ds=l
 induction l with
 | nil=>rfl
 | cons p l a=>
  rw[y8,y7,y7];cases x == p.1 with
  | true=>rfl
  | false=>exact a
section
variable {E3:zh} {w:zq} {E6:Heap} {mg mb:Str->yK yE} {P:yA (yF×Fn)} {X:CF}
theorem xH{a b k j n m l:Nat}(h:a<=b+k)(c:b+m<l)(f:k+j+n<=m:=by decide):a+j+n<l:=yO (yD (zs (zs h j) n) (by rw[Ah b,Ah b];exact zu f b)) c
theorem call_fn(G:GOk mg mb E6){j:zt}{cf:CF}(Fw:j.handled=yS)(Fv:j.depth+10<BO)(FY:j.units+40<A9)(C:∀ A,uk j A->∀ EW,eU E3 w E6 mg cf (A.deeper EW)){f:yF}{J:Fn}(F:FnOk E6 mg f J){ds:yA D}(FZ:ds.length=J.params.length)
  {r:Fl×St} (Fz:bk cf J.body ((J.params.zip ds).map λp=>(p.1,(yz,p.2)))=ac r) {d:D} {fr:yH} (Fh:r.1=.next->d=.none/\fr=yz) (Fi:∀ M Fj,r.1=.ret M Fj->Fj=d/\M=fr) :
  ∃ a o i,mg (yB f)=ac (.ref a)/\gat E6 a=ac o/\o.data=.func i /\
  ∀ A,uk j A->∀ (s:yL) (H:yN->Prop) (vs:yA yE) (E:yE->yL->Prop),HOk E6 s.heap H->al w.params s.heap H vs ds->wpAny (yR E3 w) A (PySem.call (.ref a) vs) (cC w s H d fr) E s:=by
 refine F.ok.elim λa q=>q.elim λo q=>q.elim λi q=>q.elim λbody q=>q.rec λF0 FU FA F3 F4 F5 F6 F7 F8 FE FF FG FH I FJ Fk FK FM F9 FN FO FP Fm=>⟨a,o,i,F0,FU,FA,λA Fo s H vs E N Fp=>?_⟩
 replace Fw:A.handled=yS:=Fo.handled.trans Fw;have Fq:qf (A.deeper default):=⟨xH Fo.units FY,xH Fo.depth Fv⟩;replace Fv:A.depth<BO:=yO Fo.depth (yO (zu (by decide) _) Fv)
 have m:(i.params.args.map (·.arg)).Nodup:=I▸AP.mpr (FJ.imp λFQ e=>FQ (dR e))
 have L:(i.params.args.map (·.arg)).length=vs.length:=by rw[I,yI,Fp.length,FZ]
 have Fs:((((i.params.args.map (·.arg)).zip vs)).map (·.1))=i.params.args.map (·.arg):=nV L;have Ft:((((i.params.args.map (·.arg)).zip vs)).map (·.1)).Nodup:=Fs.symm▸m
 have n:∀ x,i.scope.names.lookup x=ac .cell->∃ c,(Cs i s.heap.objs.size a).cells.lookup x=ac c:=λx O=>(fk i.scope.names (s.heap.objs.size+1) x (mem_of_lookup O)).elim λc B=>ej B
 refine wpAny_call (codeAny_call_cells (binds:=(i.params.args.map (·.arg)).zip vs) Fv (Heap.of_gt (N.keep _ _ FU) (cG (by rw[FA];nofun))) FA (NoLimit.keepG G.lim N.keep) (F7.keeps N.keep).rec F3 (jY (vals:=vs) F8 FE FF FG FH m L) F4 (λx O=>?_) (λFV Z=>?_) FK FM Fk)
 ·have FR:x.1∈J.params.map yB:=I▸Fs▸D2 O
  exact (zn.mp FR).elim λz q=>q.2▸(FO z q.1).imp id λe=>⟨e,(n _ e).elim λc h=>by rw[show (As (s.heap.objs.size+1) i.scope.names []).lookup (yB z)=ac c from h];rfl⟩
 ·obtain⟨EU,T,rfl,Fg⟩:=Z.toInCall.done
  replace Fg:=Heap.gt_up Fg;have Fu:∀ x c,(Cs i s.heap.objs.size a).cells.lookup x=ac c->@LT.lt Nat _ s.heap.objs.size c:=λx c B=>Z.above x c (mem_of_lookup B)
  have R:bK EU (Cs i s.heap.objs.size a) (λx=>((i.params.args.map (·.arg)).zip vs).lookup x):=by
   refine⟨Fk,F5,F6,⟨_,Z.toInCall.ns,λx O=>?_⟩,λx O=>?_,λx y c h1 Ga=>name_of_addr Z.apart (mem_of_lookup h1) (mem_of_lookup Ga),λx c B e=>zY _ (e▸Fu x c B),λx c B=>oj (Z.cell x c B),λFW=>⟨(Fm FW).1,by show i.qualname++_=_;rw[(Fm FW).2];rfl⟩⟩
   ·rw[bindL_eq _ _ x Ft O,Option.or_none]
   ·have u:i.scope.names.lookup x=ac .cell:=O.elim id λq=>zl QQ (FN _ (mem_of_lookup q))
    refine (n x u).elim λc B=>⟨c,B,?_⟩
    have:=Z.cell x c B
    rwa [bindC_eq _ _ x Ft (by rw[show (Cs i s.heap.objs.size a).kindOf x=_ from u];nofun),Option.or_none] at this
  have U:∀ b,frm (Cs i s.heap.objs.size a) b->gat s.heap b=yS:=λb q=>q.elim (λq=>q▸cZ _) λq=>q.elim λx q=>Heap.gt_none_of_le (zy (Fu x b q))
  have V:∀ b,Hot (Cs i s.heap.objs.size a) H (λEP=>yS) b->H b\/frm (Cs i s.heap.objs.size a) b:=λb q=>q.imp id λq=>q.elim id λq=>q.elim λEP e=>aj e
  have S:bE w E6 s.heap EU (Cs i s.heap.objs.size a) H (λEP=>yS) (λx=>((i.params.args.map (·.arg)).zip vs).lookup x) ((J.params.zip ds).map λp=>(p.1,(yz,p.2))):=by
   refine⟨R,λx Fj e=>?_,λx Fj e=>?_,⟨λb t e=>Fg b t (N.keep b t e),λb q=>(V b q).elim (λq=>(N.ex b q).elim λGb z=>z.elim λt z=>⟨Gb,t,z.1,Fg _ _ z.2⟩) λq=>(fq R q).elim λt FS=>⟨b,t,y0 _,FS⟩,λb t e q=>(V b q).elim (N.off b t e) λq=>cx (N.keep b t e) (U b q)⟩,Fg,U,λx c e=>aj e,λx y c e=>aj e,λx c e=>aj e⟩
   ·rw[lM] at e
    exact bM e λGc e1 FT=>(lookup_zip_map (ns:=J.params) Fp e1).elim λv q=>⟨v,I▸q.1,(zR FT).2▸q.2.mono (λb t EP e=>Fg b t e) λb t e q=>(V b q).elim id λq=>cx e (U b q)⟩
   ·rw[lM] at e
    exact bM e λEP EP FT=>nomatch (zR FT).1
  exact uq (all_Ss ⟨G,C A Fo (Cs i s.heap.objs.size a),Fw,⟨Fq.units,Fq.depth⟩⟩ (A:=A.deeper (Cs i s.heap.objs.size a)) J.body { s with heap:=EU,toks:=T } (Cs i s.heap.objs.size a) body H s.heap (λEP=>yS) _ _ r _ FP S Fz)
   (λh' X Y E1 m' e EP Gd=>⟨.mk h' X Y Gd.keep,(Fh e).1▸rfl,λq=>nomatch (Fh e).2.symm.trans q⟩) λh' X Y M Fj v e EP R=>(Fi _ _ e).1▸(Fi _ _ e).2▸⟨.mk h' X Y R.keep,R.rep,R.fr⟩
theorem AOk.zero{A:zt}{n:Nat}(h:AOk A n):AOk A 0:=⟨h.handled,yO (zs (zu (za _) _) _) h.depth,yO (zs (zu (za _) _) _) h.units⟩
theorem AOk.deeper{A a:zt}{n:Nat}(h:AOk A (n+1))(b:uk A a)(EW:Env):AOk (a.deeper EW) n:=⟨b.handled.trans h.handled,yO (by
  have:=b.depth;show a.depth+1+2 * n+20<=A.depth+2 * (n+1)+20;exact om51 this) h.depth,yO (by
  have:=b.units;show a.units+3+13 * n+100<=A.units+13 * (n+1)+100;exact om52 this) h.units⟩
theorem callN_sound(G:GOk mg mb E6)(s:∀ f b,P.lookup f=ac b->FnOk E6 mg f b)(c:∀ A,AOk A 0->eU E3 w E6 mg X A)(n:Nat):∀ (A:zt),AOk A n->eU E3 w E6 mg (af P X n) A:=by
 induction n with
 | zero=>exact λA a=>⟨λf ds d fr h=>aj h,(c A a).glob⟩
 | succ n t=>
  refine λA a=>⟨λf ds d fr h=>?_,(c A a.zero).glob⟩
  simp only[af] at h;cases i:P.lookup f with
  | none=>rw[i] at h;exact (c A a.zero).call f ds d fr h
  | some b=>
   rw[i] at h;refine cK h λu h=>?_
   have y:A.depth+10<BO:=yO (ze (y9 _ _) (by decide)) a.depth
   have z:A.units+40<A9:=yO (ze (y9 _ _) (by decide)) a.units
   cases j:bk (af P X n) b.body ((b.params.zip ds).map λp=>(p.1,(yz,p.2))) with
   | none=>rw[j] at h;exact aj h
   | some r=>
    rw[j] at h;obtain⟨o,σ⟩:=r;refine call_fn G a.handled y z (λE B EW=>t _ (a.deeper B EW)) (s f b i) u j ?_ ?_
    ·intro q
     have q:o=.next:=q;subst q;exact⟨(zR (yJ h)).1.symm,(zR (yJ h)).2.symm⟩
    ·intro m C q
     have q:o=.ret m C:=q;subst q;exact zR (yJ h)
end
end Mine
namespace Mine
open PySem PySem.SeqAt PySem.W PyProof.Rows
noncomputable def chkFn(d:DefRec)(a:Fn):yH:=
 (d.params.posonlyargs.isEmpty&&d.params.kwonlyargs.isEmpty&&d.params.vararg.isNone&&d.params.kwarg.isNone&&d.params.args.map (·.arg) == a.params.map yB)&&(decide a.params.Nodup &&
 d.scope.kind == .function&&!d.scope.isCoroutine&&!d.scope.isGenerator&&decide (d.scope.names.map (·.1)).Nodup)&&(d.scope.names.all (λp=>p.2 != .free) &&
 a.params.all (λx=>d.scope.names.lookup (yB x) == ac .local||d.scope.names.lookup (yB x) == ac .cell)&&fG (λx=>d.scope.names.lookup x) d.body a.body&&(!mA (λx=>d.scope.names.lookup x)||d.name == uJ))
noncomputable def sB(a:yA DefRec)(P:yA (yF×Fn)):yH:=P.all λq=>match a.find? (λd=>d.name == yB q.1) with
 | some d=>chkFn d q.2
 | none=>yz
noncomputable def oq(p:zh)(loose:yA Str):yH:=((Du p).map (·.name)).contains uJ&&du.all λf=>!startupNames.contains (yB f)&&!loose.contains (yB f)&&!((Du p).map (·.name)).contains (yB f)&&!((litsOf p).map (·.1)).contains (yB f)&&!((clssOf p loose).map (·.name)).contains (yB f)
theorem mem_of_lookupS{α:Type}{l:yA (yF×α)}{x:yF}{c:α}(h:l.lookup x=ac c):(x,c)∈l:=by
 induction l with
 | nil=>cases h
 | cons p l a=>
  rw[y7] at h;cases e:x == p.1 with
  | true=>rw[e] at h;exact (show (x,c)=p from EG (eq_of_beq e) (yJ h).symm)▸.head _
  | false=>rw[e] at h;exact .tail _ (a h)
noncomputable def TbOk(mg:Str->yK yE)(h:Heap):Prop:=∃ a o fd c vs,mg uJ=ac (.ref a)/\h.get? a=ac o/\o.data=.func fd/\fd.code=.ref oc/\h.get? oc=ac c/\c.data=.fields vs/\vs[11]?=ac (.ref tb)
theorem TbOk.keeps{mg:Str->yK yE}{h h':Heap}(x:TbOk mg h)(f:∀ b o,h.get? b=ac o->h'.get? b=ac o):TbOk mg h':=
 x.elim λa x=>x.elim λo x=>x.elim λi x=>x.elim λc x=>x.elim λvs x=>⟨a,o,i,c,vs,x.1,f _ _ x.2.1,x.2.2.1,x.2.2.2.1,f _ _ x.2.2.2.2.1,x.2.2.2.2.2⟩
theorem cRef_inv{v:yK yE}{f:yN->yH}{C:Prop}(h:cRef v f=yC)(k:∀ a,v=ac (.ref a)->f a=yC->C):C:=by
 cases v with
 | none=>cases h
 | some v=>cases v with
  | ref a=>exact k a QQ h
  | _=>cases h
theorem ud{v:yK Obj}{f:Data->yH}{C:Prop}(h:cObj v f=yC)(k:∀ o,v=ac o->f o.data=yC->C):C:=by
 cases v with
 | none=>cases h
 | some v=>exact k v QQ h
theorem tb_of(s:yL)(e:tbAt s=yC):TbOk (s.heap.nsMap Ao) s.heap:=by
 refine cRef_inv e λa h e=>ud e λo i e=>?_
 generalize j:o.data=b at e;cases b with
 | func m=>
  refine bQ e λe1 e=>ud e λc n e=>?_
  generalize f:c.data=b at e;cases b with
  | fields vs=>exact⟨a,o,m,c,vs,h,i,j,eq_of_beq e1,n,f,eq_of_beq e⟩
  | _=>cases e
 | _=>cases e
theorem lam_of{p:zh}{loose:yA Str}{b:ExcName->yK yE}{mg mb:Str->yK yE}{h:Heap}(T:Top p loose b mg mb h)(i:oq p loose=yC)(y:TbOk mg h):h.IsCode oc tb #[]/\h.TableAt oc tb #[]/\h.BuiltinsAt mg tb:=by
 refine Classical.byContradiction λz=>bQ i λi EP=>?_
 obtain⟨d,j,A⟩:=zn.mp (Av.mp i);obtain⟨Fi,Fj,B,c,C,g1,s,t,E,G,m⟩:=T.tab d j;obtain⟨a,o,Fk,H,vs,I,q2,J,L,M,N,O⟩:=y;rw[A,I] at g1;cases g1;rw[q2] at s;cases s;rw[J] at t;cases t;have e1:c=oc:=(Value.ref.inj ((show Value.ref oc=Value.ref c from L.symm.trans E))).symm;subst e1;obtain⟨o1,Fm,u,_,r2,U⟩:=m.1;rw[M] at u;cases u;rw[N] at r2;cases r2;have V:C=tb:=(Value.ref.inj (yJ (O.symm.trans U))).symm;subst V;obtain⟨X,Y,Z,Fg,f,w,Fh,n⟩:=T.bmain;refine z ⟨G,m,X,Y,Z,Fg,λq=>?_,λq=>?_,f,w,Fh,n⟩
 ·obtain⟨o,es,ep,e,j,_⟩:=T.g
  rw[q,e] at f;cases f;rw[j] at n;cases n
 ·rw[q,m.2] at f;cases f;cases w
theorem notT:∀ {b:yH},(!b)=yC->b=yz
 | false,_=>rfl
theorem fnOk_of{p:zh}{loose:yA Str}{b:ExcName->yK yE}{mg mb:Str->yK yE}{h:Heap}(T:Top p loose b mg mb h)(u:TbOk mg h)(w:h.TableAt oc tb #[]){P:yA (yF×Fn)}(X:sB (Du p) P=yC){f:yF}{L:Fn}(Y:P.lookup f=ac L):FnOk h mg f L:=by
 refine Classical.byContradiction λZ=>?_
 have this:=zk.mp X _ (mem_of_lookupS Y);dsimp only at this;cases j:(Du p).find? (λd=>d.name == yB f) with
 | none=>rw[j] at this;cases this
 | some d=>
  rw[j] at this;have Fg:d.name=yB f:=eq_of_beq (List.find?_some (p:=λd:DefRec=>d.name == yB f) j)
  have M:=List.mem_of_find?_eq_some j;obtain⟨a,o,FH,code,Fh,h1,m,i,Fi⟩:=T.fn d M;refine iI this λFj k2 Fk=>qq Fj λc1 c2 c3 Fm Fo=>qq k2 λFp Fq Fs Ft y=>qs Fk λz A B C=>?_
  have Fu:qm h code d.name:=by
   obtain⟨Fv,Fw,E,c,FJ,g1,N,O,Fz,_,⟨oc,FK,U,G,_⟩,_⟩:=T.tab d M;rw[h1] at g1;cases g1;rw[m] at N;cases N;rw[i] at O;cases O;obtain⟨n,FA,vs,t,s,q2,H,I⟩:=Fi;have FE:n=c:=Value.ref.inj (show Value.ref n=Value.ref c from s.symm.trans Fz);subst FE;rw[q2] at U;cases U;have J:n≠tb:=λq=>by
    rw[q,w.2] at q2;rw[<- yJ q2] at G;cases G
   exact⟨n,_,vs,t,s,by rw[Heap.gt_ne J];exact q2,G,H,I⟩
  refine Z ⟨a,o,_,d.body,Fg▸h1,Heap.gt_of m (cG (by rw[i];nofun)),i,QQ,QQ,QQ,QQ,Fu,z8.mp c1,z8.mp c2,AX.mp c3,AX.mp Fm,QQ,eq_of_beq Fo,zG Fp,eq_of_beq Fq,notT Fs,notT Ft,zG y,λq hq=>CN.mp (zk.mp z q hq),λx FF=>(AV.mp (zk.mp A x FF)).imp eq_of_beq eq_of_beq,B,λFG=>?_⟩
  have V:d.name=uJ:=(AV.mp C).elim (λq=>by rw[show mA (λx=>d.scope.names.lookup x)=yC from FG] at q;cases q) eq_of_beq
  obtain⟨Fv,Fw,E,_,_,s,q2,H,I,_⟩:=u;rw[V,s] at h1;cases h1;rw[q2] at m;cases m;rw[H] at i;cases i;exact⟨I,V⟩
theorem gOk_of{p:zh}{loose:yA Str}{a:ExcName->yK yE}{mg mb:Str->yK yE}{h:Heap}(T:Top p loose a mg mb h)(c:oq p loose=yC)(n:TbOk mg h):GOk mg mb h:=by
 refine⟨T.g,T.b,T.nolimit,λf i=>⟨?_,?_⟩,lam_of T c n⟩
 ·refine bQ c λZ c=>qq (zk.mp c f i) λc1 c2 c3 j m=>?_
  simp only[Dr,List.contains_eq_mem,decide_eq_false_iff_not] at c1 c2 c3 j m;exact T.free _ c1 c2 c3 j m
 ·rw[T.builtins]
  ·have:(du.all λf=>bootBuiltins (yB f) == ac (dX f))=yC:=by decide +kernel
   exact eq_of_beq (zk.mp this f i)
  ·have:(du.all λf=>yB f != yB "__name__")=yC:=by decide +kernel
   exact CN.mp (zk.mp this f i)
theorem oldK_of{h h':Heap}(f:∃ c,h.TableAt c tb #[])(m:KH h h'):OldK h h':=by
 obtain⟨c,i⟩:=f;have a:∀ b o,h.get? b=ac o->h'.get? b=ac o\/b=tb/\o=wS/\∃ xs,h'.get? b=ac { cls:=.none,data:=.fields xs }:=λb o e=>by
  by_cases j:b=tb
  ·subst j
   have n:o=wS:=yJ (e.symm.trans i.2);obtain⟨t,s,⟨_,q⟩ | ⟨_,_,xs,q,_⟩⟩:=Heap.gt_some (m _ _ (Heap.gt_good i.2 jp.empty))
   ·cases q QQ
   ·exact .inr ⟨QQ,n,xs,q▸s⟩
  ·have q:=m b o (by rw[Heap.gt_ne j];exact e)
   rw[Heap.gt_ne j] at q;exact .inl q
 refine⟨λb o e=>?_,λb o e=>?_⟩
 ·rcases a b o e with q | ⟨rfl,rfl,xs,q⟩
  ·exact .inl q
  ·exact .inr (.inl ⟨i.isCodeTable,QQ,#[],xs,QQ,by rw[q,Array.empty_append]⟩)
 ·rcases a b o e with q | ⟨_,_,xs,q⟩
  ·exact⟨_,q⟩
  ·exact⟨_,q⟩
theorem wellInts{P:zH}{h:Heap}{H:yN->Prop}{ns:yA Int}{vs:yA yE}(a:WellAll P h vs (ofPys (ns.map PyData.int))):al P h H vs (ns.map .int):=by
 induction ns generalizing vs with
 | nil=>cases a;rfl
 | cons n ns b=>
  cases a with
  | cons h1 c=>
   cases h1;exact .mk (.mk _) (b c)
theorem aOk_top{N:Nat}(b:N<=300):AOk callerA N:=⟨QQ,by
  show 1+claimMargin+2 * N+20<BO;have e1:claimMargin=300:=rfl;have a:BO=1000:=rfl;exact om53 b e1 a,by
  show 4+13 * N+100<A9;have a:A9=9900:=rfl;exact om54 b a⟩
theorem law_fin{l:OpenLaw}{w:zq}{i b:yL}{mg mb:Str->yK yE}{p:zh}{loose:yA Str}{m c:ExcName->yK yE}{P:yA (yF×Fn)}{X:CF}(N:Nat)(T:Top p loose m mg mb b.heap)
  (z:sB (Du p) P=yC) (B:oq p loose=yC) (C:N<=300) (E:∀ A,AOk A 0->eU l.prog w b.heap mg X A) (n:TbOk mg b.heap)
  {u a:yN} {ns:yA Int} (y:mg (yB "law")=ac (.ref u)) (H:b.gens=#[]) (I:Well w.params b.heap (.ref a) (ofPy (PyData.list (ns.map PyData.int)))) (s:¬ ((63:Nat):Int)<(ns.length:Int))
  (j:∃ fr,(af P X N).call "law" [.list (ns.map .int)]=ac (.bool yC,fr)) :
  wpAny (yR l.row.toRowW.prog w) callerA (call (.ref u) [.ref a]) (λv s'=>GoodWG l.row.toRowW.claim (classAt i.heap) c [ofPy (PyData.list (ns.map PyData.int))] b (.ok (.ret v)) s')
   (λe s'=>GoodWG l.row.toRowW.claim (classAt i.heap) c [ofPy (PyData.list (ns.map PyData.int))] b (.error e) s') b:=by
 have G:=gOk_of T B n;have t:Rep w.params b.heap (λEP=>False) (.ref a) (.list (ns.map .int)):=by
  cases I with
  | list J L=>exact .mk J (λq=>q) (by rw[yI];exact yD (Al.mp (Bl.mp s)) (by decide)) (wellInts (by simpa using L))
 refine j.elim λfr M=>((callN_sound (E3:=l.prog) (w:=w) G (λf Y O=>fnOk_of T n G.lam.2.1 z O) E N callerA (aOk_top C)).call "law" _ _ fr M).elim λU q=>q.elim λo q=>q.elim λZ q=>?_
 have e:U=u:=Value.ref.inj (yJ (q.1.symm.trans y));subst e;refine bG (q.2.2.2 callerA (.refl _) b (λEP=>False) [.ref a] _ ⟨λEP EP e=>e,λEP q=>q.elim,λEP EP EP q=>q⟩ (.cons t .nil)) λv s' q=>q.rec λk r EP=>?_
 refine bP.rec (motive:=λs' EP=>GoodWG l.row.toRowW.claim (classAt i.heap) c [ofPy (PyData.list (ns.map PyData.int))] b (.ok (.ret v)) s') (λh' tk dw V=>?_) k
 rw[show v=.bool yC from r];exact⟨.inl ⟨.bool yC,.bool yC,[],QQ,λEP=>QQ,.bool yC,postW_of (r:=l.row.toRowW) QQ (w_eq_bool (w_res QQ) w_lit) QQ,λEP=>⟨.nil,λEP h=>nomatch h⟩⟩,oldK_of ⟨_,G.lam.2.1⟩ V,QQ,.of_eq H⟩
end Mine
namespace Mine
open PySem
noncomputable def Run(cf:CF)(a:yA MS)(σ:St)(d:D)(fr:yH):Prop:=fin (bk cf a σ)=ac (d,fr)
structure Stp(cf:CF)(s:MS)(σ Fd:St):Prop where
 go:∀ r,bk cf (s::r) σ=bk cf r Fd
section
variable {cf:CF} {ρ:yA (yF×D)} {σ Fd:St} {a b c e:ME} {d x y:D} {i j:Int} {fr:yH} {r t f body:yA MS} {z:yF}
section
variable {u:Str}{E5:ME}{k:Nat}
theorem aq(h:evE cf ρ e=ac d)(a:og e=yS)(b:frF e d=fr):evF cf ρ e=ac (d,fr):=by
 unfold evF;rw[a,h];show ac (d,frF e d)=_;rw[b]
theorem aD{g:yF}{as:yA ME}{ds:yA D}(h:cn cf ρ as=ac ds)(a:cf.call g ds=ac (d,fr)):evF cf ρ (.call g as)=ac (d,fr):=by
 rw[lX,h];exact a
theorem am{g:yF}{as:yA ME}{ds:yA D}(h:cn cf ρ as=ac ds)(a:cf.call g ds=ac (d,fr)):evE cf ρ (.call g as)=ac d:=by
 rw[e_call,h];show (cf.call g ds).map _=_;rw[a];rfl
theorem aa{es:yA ME}{ds:yA D}(h:evE cf ρ e=ac d)(a:cn cf ρ es=ac ds):cn cf ρ (e::es)=ac (d::ds):=by
 rw[es_cons,h,a];rfl
theorem ak{c:AM}(f:evE cf ρ a=ac x)(i:evE cf ρ b=ac y)(h:eF c x y=ac d):evE cf ρ (.bin c a b)=ac d:=by
 rw[e_bin,f,i];exact h
theorem ug(h:-lim<j/\j<lim):eF .Mult (.int i) (.int j)=ac (.int (i * j)):=yT (.inr h)
theorem p9(h:-lim<i/\i<lim):eF .Mult (.int i) (.int j)=ac (.int (i * j)):=yT (.inl h)
theorem bo(h:0<j/\j<lim):eF .FloorDiv (.int i) (.int j)=ac (.int (i / j)):=yT h
theorem aO(h:0<j):eF .Mod (.int i) (.int j)=ac (.int (i % j)):=yT h
theorem wL(h:-fA<i/\i<fA/\0<=j/\j<=100):eF .Pow (.int i) (.int j)=ac (.int (i ^ j.toNat)):=yT h
theorem cU:eF .Add (.int i) (.int j)=ac (.int (i+j)):=rfl
theorem uR:eF .Sub (.int i) (.int j)=ac (.int (i - j)):=rfl
theorem ax{c:CL}(f:evE cf ρ a=ac x)(i:evE cf ρ b=ac y)(h:ec c x y=ac d):evE cf ρ (.cmp c a b)=ac d:=by
 rw[e_cmp,f,i];exact h
theorem av(c:evE cf ρ a=ac x)(f:evE cf ρ b=ac y)(h:aV x y=ac d):evE cf ρ (.sub a b)=ac d:=by
 rw[e_sub,c,f];exact h
theorem qp{l h:ME}{u v:D}(b:evE cf ρ a=ac x)(c:evE cf ρ l=ac u)(f:evE cf ρ h=ac v)(i:slD x u v=ac d):evE cf ρ (.sl a l h)=ac d:=by
 rw[e_sl,b,c,f];exact i
theorem fP{k:yH}(b:evE cf ρ a=ac x)(h:bU x=ac k):evE cf ρ (.not a)=ac (.bool (!k)):=by
 rw[e_not,b];show (bU x).map _=_;rw[h];rfl
theorem jw{T:yF}{k:yH}(b:evE cf ρ a=ac x)(h:pp x T=ac k):evE cf ρ (.isi a T)=ac (.bool k):=by
 rw[e_isi,b];show (pp x T).map _=_;rw[h];rfl
theorem bR{g:yF}{as:yA ME}{ds:yA D}(a:cn cf ρ as=ac ds)(h:hY g ds=ac d):evE cf ρ (.blt g as)=ac d:=by
 rw[e_blt,a];exact h
theorem bA{as:yA ME}{ds:yA D}(a:cn cf ρ as=ac ds)(h:ds.length<=big):evE cf ρ (.tup as)=ac (.tup ds):=by
 rw[e_tup,a];exact yT h
theorem cR{as:yA ME}{ds:yA D}(a:cn cf ρ as=ac ds)(h:ds.length<=big):evE cf ρ (.lst as)=ac (.list ds):=by
 rw[e_lst,a];exact yT h
theorem v_inn(b:evE cf ρ a=ac (.str u)):evE cf ρ (.inn a)=ac (.int (sa u)):=by rw[e_inn,b];rfl
theorem v_sset(b:evE cf ρ a=ac x)(h:oH x=ac d):evE cf ρ (.sset a)=ac d:=by rw[e_sset,b];exact h
theorem xc{ds:yA D}(b:evE cf ρ a=ac x)(h:uI x=ac ds):evE cf ρ (.lcp a)=ac (.list ds):=by
 rw[e_lcp,b];show (uI x).map _=_;rw[h];rfl
theorem gQ{elt:ME}{cs:yA ME}{EX ds:yA D}(a:evE cf ρ E5=ac x)(hi:x.items=ac EX)(b:EX.length<=big)(h:bS (kO cf ρ elt z cs) EX=ac ds):evE cf ρ (.comp elt z E5 cs)=ac (.list ds):=by
 rw[e_comp,a];show (match x.items with | some EX=>_ | none=>_)=_;rw[hi];show (if EX.length<=big then _ else _)=_;rw[yT b,h];rfl
theorem dh{k l:yH}{r':yA ME}(c:evE cf ρ a=ac (.bool k))(f:k=yC->evE cf ρ (.bop .And (b::r'))=ac (.bool l)):evE cf ρ (.bop .And (a::b::r'))=ac (.bool (k&&l)):=by
 rw[e_bop,b_and,c,vA];cases k with
 | false=>rfl
 | true=>exact f QQ
theorem gB{k l:yH}{r':yA ME}(c:evE cf ρ a=ac (.bool k))(f:k=yz->evE cf ρ (.bop .Or (b::r'))=ac (.bool l)):evE cf ρ (.bop .Or (a::b::r'))=ac (.bool (k||l)):=by
 rw[e_bop,b_or,c,vA];cases k with
 | true=>rfl
 | false=>exact f QQ
theorem bC{b:CW}(c:evE cf ρ a=ac d):evE cf ρ (.bop b [a])=ac d:=c
theorem ai(h:evF cf (vis σ) e=ac (d,fr)):Stp cf (.x0 z e) σ (ay (settle d e.names σ) z (fr,d)):=⟨λr=>xa (by rw[qw,h])⟩
theorem bN{ds:yA D}(h:evE cf (vis σ) e=ac d)(a:(settle d e.names σ).lookup z=ac (yC,.list ds))(b:ds.length<big):Stp cf (.append z e) σ (ay (settle d e.names σ) z (yC,.list (ds++[d]))):=⟨λr=>xa (by rw[xs_append,h];dsimp only;rw[a];exact yT b)⟩
theorem uE{k:ME}{dk:D}{ks vs:yA D}(h:evE cf (vis σ) e=ac d)(a:evE cf (vis σ) k=ac dk)(b:(settle dk k.names (settle d e.names σ)).lookup z=ac (yC,.dict ks vs))(c:(dL dk ks&&decide (ks.length<big))=yC) :
  Stp cf (.setk z k e) σ (ay (settle dk k.names (settle d e.names σ)) z (yC,.dict (dG ks vs dk d).1 (dG ks vs dk d).2)):=⟨λr=>xa (by rw[xs_setk,h];dsimp only;rw[a];dsimp only;rw[b];exact yT c)⟩
theorem p_grp(h:xT cf σ=ac Fd):Stp cf .grp σ Fd:=⟨λr=>xa (by rw[wZ,h])⟩
theorem aB{s:MS}(h:Stp cf s σ Fd)(k:Run cf r Fd d fr):Run cf (s::r) σ d fr:=by unfold Run;rw[h.go];exact k
theorem bc{k:yH}(h:evE cf (vis σ) c=ac x)(a:bU x=ac k)(b:k=yC->Run cf (t++r) σ d fr)(i:k=yz->Run cf (f++r) σ d fr):Run cf (.ite c t f::r) σ d fr:=by
 unfold Run;rw[w9 h a];cases k with
 | true=>exact b QQ
 | false=>exact i QQ
theorem aE(h:evF cf (vis σ) e=ac (d,fr))(a:e.varOf=yS):Run cf (.ret e::r) σ d fr:=by unfold Run;rw[qx (x_rv a h)];rfl
theorem dK(h:σ.lookup z=ac (fr,d)):Run cf (.ret (.u z)::r) σ d fr:=by unfold Run;rw[qx (x_rx h)];rfl
theorem dW{EX:yA D}(a:evE cf (vis σ) E5=ac x)(hi:x.items=ac EX)(h:cF (dq cf body z) EX (freeze E5.names σ)=ac (.next,Fd))(k:Run cf r Fd d fr):Run cf (.for_ z E5 body::r) σ d fr:=by
 unfold Run;rw[xb a hi,h];exact k
theorem mr{EX:yA D}(a:evE cf (vis σ) E5=ac x)(hi:x.items=ac EX)(h:cF (dq cf body z) EX (freeze E5.names σ)=ac (.ret fr d,Fd)):Run cf (.for_ z E5 body::r) σ d fr:=by
 unfold Run;rw[xb a hi,h];rfl
theorem jA(h:evE cf (vis σ) e=ac d)(a:d.scalar=yC):Stp cf (.expr e) σ σ:=⟨λr=>xa (by rw[xs_expr,h];exact yT a)⟩
theorem r_while(h:eX (gK cf c) (λσ=>bk cf body σ) wR σ=ac (.next,Fd))(k:Run cf r Fd d fr):Run cf (.while_ c body::r) σ d fr:=by
 unfold Run;rw[x_while,h,oF];exact k
theorem r_forr{ds:yA D}(a:evE cf (vis σ) E5=ac (.tup ds))(h:cF (dq cf body z) ds.reverse (freeze E5.names σ)=ac (.next,Fd))(k:Run cf r Fd d fr):Run cf (.forr z E5 body::r) σ d fr:=by
 unfold Run;rw[x_forr _ _ _ _ _ _ a,h,oF];exact k
theorem au{P:yA (yF×Fn)}{X:CF}{g:yF}{ps:yA yF}{bd:yA MS}{n:Nat}{args:yA D}(h:P.lookup g=ac ⟨ps,bd⟩)(a:args.length=ps.length)(k:Run (af P X n) bd ((ps.zip args).map λp=>(p.1,(yz,p.2))) d fr) :
  (af P X (n+1)).call g args=ac (d,fr):=by rw[wE n args h a];exact k
theorem oV{k:yH}{α:Prop}(h:k=yC)(h':k=yz):α:=by rw[h] at h';cases h'
theorem m7{v:Str}(h:u.length+v.length<=big):eF .Add (.str u) (.str v)=ac (.str (u++v)):=yT h
theorem bin_tt{u v:yA D}(h:u.length+v.length<=big):eF .Add (.tup u) (.tup v)=ac (.tup (u++v)):=yT h
theorem yj{u v:yA D}(h:u.length+v.length<=big):eF .Add (.list u) (.list v)=ac (.list (u++v)):=yT h
theorem bin_sm{k:Int}(h:0<=k/\k<=1000/\u.length<=1000):eF .Mult (.str u) (.int k)=ac (.str (Txt.mul u k)):=yT h
theorem sub_s{k:Int}(h:0<=k/\k<u.length/\u.length<=big):aV (.str u) (.int k)=ac (.str (cu u k.toNat)):=yT h
theorem lz{u:yA D}(h:k<u.length)(he:u[k]?=ac d):aV (.list u) (.int k)=ac d:=by
 show (idx k u.length).bind _=_;have:idx (k:Int) u.length=ac k:=yT ⟨zN k,z9.mpr h⟩;rw[this];exact he
theorem sub_t{u:yA D}(h:k<u.length)(he:u[k]?=ac d):aV (.tup u) (.int k)=ac d:=lz h he
theorem jd(h:k<=big):hY "range" [.int k]=ac (.rng 0 k):=by
 show (if _ then _ else _)=_
 exact yT (om183 h)
theorem len_s(h:u.length<=big):hY "len" [.str u]=ac (.int u.length):=yT h
end
noncomputable def Rex(cf:CF)(a:yA MS)(σ:St)(Q:D->yH->Prop):Prop:=∃ d fr,Q d fr/\Run cf a σ d fr
variable {Q:D->yH->Prop}
theorem bg{s:MS}(h:Stp cf s σ Fd)(k:Rex cf r Fd Q):Rex cf (s::r) σ Q:=let ⟨d,fr,q,k⟩:=k;⟨d,fr,q,aB h k⟩
theorem dQ{k:yH}(h:evE cf (vis σ) c=ac x)(a:bU x=ac k)(b:k=yC->Rex cf (t++r) σ Q)(i:k=yz->Rex cf (f++r) σ Q):Rex cf (.ite c t f::r) σ Q:=by
 cases k with
 | true=>obtain⟨d,fr,q,k⟩:=b QQ;exact⟨d,fr,q,bc h a (λZ=>k) nofun⟩
 | false=>obtain⟨d,fr,q,k⟩:=i QQ;exact⟨d,fr,q,bc h a nofun λZ=>k⟩
theorem cH(h:evF cf (vis σ) e=ac (d,fr))(a:e.varOf=yS)(q:Q d fr):Rex cf (.ret e::r) σ Q:=⟨d,fr,q,aE h a⟩
theorem xt(h:σ.lookup z=ac (fr,d))(q:Q d fr):Rex cf (.ret (.u z)::r) σ Q:=⟨d,fr,q,dK h⟩
theorem xu(h:σ=Fd)(k:Rex cf r Fd Q):Rex cf r σ Q:=h▸k
theorem q_for{E5:ME}{EX:yA D}(a:evE cf (vis σ) E5=ac x)(hi:x.items=ac EX)(h:cF (dq cf body z) EX (freeze E5.names σ)=ac (.next,Fd))(k:Rex cf r Fd Q):Rex cf (.for_ z E5 body::r) σ Q:=
 let ⟨d,fr,q,k⟩:=k;⟨d,fr,q,dW a hi h k⟩
theorem q_forR{E5:ME}{EX:yA D}(a:evE cf (vis σ) E5=ac x)(hi:x.items=ac EX)(h:cF (dq cf body z) EX (freeze E5.names σ)=ac (.ret fr d,Fd))(q:Q d fr):Rex cf (.for_ z E5 body::r) σ Q:=⟨d,fr,q,mr a hi h⟩
theorem dJ{P:yA (yF×Fn)}{X:CF}{g:yF}{ps:yA yF}{bd:yA MS}{n:Nat}{args:yA D}(h:P.lookup g=ac ⟨ps,bd⟩)(a:args.length=ps.length)(k:Rex (af P X n) bd ((ps.zip args).map λp=>(p.1,(yz,p.2))) Q) :
  ∃ d fr,Q d fr/\(af P X (n+1)).call g args=ac (d,fr):=let ⟨d,fr,q,k⟩:=k;⟨d,fr,q,au h a k⟩
theorem kR{elt E5:ME}{k:Nat}(c:k<=1000)(R:D->Prop)(f:evE cf ρ E5=ac (.int k))(h:∀ i:Nat,i<k->∃ d,R d/\evE cf ((z,.int i)::ρ) elt=ac d) :
  ∃ ds:yA D,ds.length=k/\(∀ d∈ds,R d)/\evE cf ρ (.blt "tuple" [.comp elt z (.blt "range" [E5]) []])=ac (.tup ds):=by
 obtain⟨ds,e,j,hq⟩:=ua (kO cf ρ elt z []) (λZ d=>R d) ((zf k).map λ(i:Nat)=>D.int (i:Int)) (by
  intro o hit;obtain⟨i,m,rfl⟩:=zn.mp hit;obtain⟨d,q,e⟩:=h i (AK.mp m);exact⟨d,q,fN e⟩)
 have b:k<=big:=yD c (by decide)
 have a:((zf k).map λ(i:Nat)=>D.int (i:Int)).length=k:=by simp
 refine⟨ds,j.trans a,λd n=>let ⟨_,_,q⟩:=hq d n;q,?_⟩
 exact bR (aa (gQ (bR (aa f vN) (jd b)) (dS k) (yD (y5 a) b) e) vN) QQ
noncomputable def Out(cf:CF)(a:yA MS)(σ:St)(R:Fl->St->Prop):Prop:=∃ fl Fd,R fl Fd/\bk cf a σ=ac (fl,Fd)
variable {R:Fl->St->Prop}
theorem aH{s:MS}(h:Stp cf s σ Fd)(k:Out cf r Fd R):Out cf (s::r) σ R:=let ⟨fl,s',q,k⟩:=k;⟨fl,s',q,(h.go r).trans k⟩
theorem cD{k:yH}(h:evE cf (vis σ) c=ac x)(a:bU x=ac k)(b:k=yC->Out cf (t++r) σ R)(i:k=yz->Out cf (f++r) σ R):Out cf (.ite c t f::r) σ R:=by
 unfold Out;rw[w9 h a];cases k with
 | true=>exact b QQ
 | false=>exact i QQ
theorem tn(h:evF cf (vis σ) e=ac (d,fr))(a:e.varOf=yS)(q:R (.ret fr d) σ):Out cf (.ret e::r) σ R:=⟨_,_,q,qx (x_rv a h)⟩
theorem bq(q:R .next σ):Out cf [] σ R:=⟨_,_,q,x_nil cf σ⟩
theorem uG(h:σ=Fd)(k:Out cf r Fd R):Out cf r σ R:=h▸k
theorem bh(h:evF cf (vis σ) e=ac (d,fr))(a:d.isCell=yC):Stp cf (.x0 z e) σ (ay σ z (fr,d)):=by
 have:=ai (z:=z) h;unfold settle at this
 rwa [yT (by cases d <;> first | rfl | cases a)] at this
theorem mE(p:D->yH)(I:St->Prop)(fr:yH)(d:D):∀ (EX:yA D),(∀ it∈EX,∀ σ,I σ->Out cf body (ay σ z (yz,it)) λc Fd=>if p it=yC then c=.ret fr d else c=.next/\I Fd) ->
  ∀ σ,I σ->∃ Fd,(EX.any p=yC->cF (dq cf body z) EX σ=ac (.ret fr d,Fd))/\(EX.any p=yz->I Fd/\cF (dq cf body z) EX σ=ac (.next,Fd))
 | [],_,σ,b=>⟨σ,nofun,λZ=>⟨b,QQ⟩⟩
 | it::r,h,σ,b=>by
  obtain⟨c,a,q,e⟩:=h it (.head _) σ b;rw[Ax,cy,e];cases f:p it with
  | true=>
   rw[yT f] at q;subst q;exact⟨a,λZ=>QQ,nofun⟩
  | false=>
   rw[yV (by rw[f];exact yQ)] at q
   obtain⟨rfl,j⟩:=q;exact mE p I fr d r (λi m=>h i (.tail _ m)) a j
theorem fU(I:yA D->St->Prop):∀ (EX pre:yA D) (σ:St),I pre σ->(∀ a it b σ,pre++EX=a++it::b->I a σ->Out cf body (ay σ z (yz,it)) λj Fd=>j=.next/\I (a++[it]) Fd) ->
  ∃ Fd,I (pre++EX) Fd/\cF (dq cf body z) EX σ=ac (.next,Fd)
 | [],pre,σ,h,_=>⟨σ,by simpa using h,QQ⟩
 | it::r,pre,σ,h,m=>by
  obtain⟨j,c,⟨rfl,n⟩,e⟩:=m pre it r σ QQ h;obtain⟨f,o,q⟩:=fU I r (pre++[it]) c n λa i b s h=>m a i b s (by simpa using h)
  exact⟨f,by simpa using o,by rw[cy,e];exact q⟩
end
noncomputable def lm(ρ:yA (yF×D))(x:yF)(d:D):Prop:=ρ.lookup x=ac d
noncomputable def Has(σ:St)(x:yF)(d:D):Prop:=∃ fr,σ.lookup x=ac (fr,d)
noncomputable def bF(σ:St)(x:yF)(d:D):Prop:=σ.lookup x=ac (yC,d)
section
variable {cf:CF} {ρ:yA (yF×D)} {σ:St} {x y:yF} {d e:D} {v:yH×D} {ns:yA yF} {fr:yH}
theorem bO:lm ((x,d)::ρ) x d:=by unfold lm;rw[y7,zg]
theorem bj(h:(x == y)=yz)(k:lm ρ x d):lm ((y,e)::ρ) x d:=by unfold lm;rw[y7,h];exact k
theorem aF(h:Has σ x d):lm (vis σ) x d:=by obtain⟨fr,h⟩:=h;unfold lm;rw[cz,h];rfl
theorem aw:Has (ay σ x (fr,d)) x d:=⟨fr,by rw[aJ,yT rfl]⟩
theorem ag(h:(x == y)=yz)(k:Has σ x d):Has (ay σ y v) x d:=let ⟨fr,k⟩:=k;⟨fr,by rw[aJ,yV (by rintro rfl;rw[zg] at h;cases h)];exact k⟩
theorem bT(k:Has σ x d):Has (freeze ns σ) x d:=let ⟨fr,k⟩:=k;⟨_,by rw[bw,k];rfl⟩
theorem ao(k:Has σ x d):Has (settle e ns σ) x d:=by unfold settle;split;exact k;exact bT k
theorem ad:Has ((x,(fr,d))::σ) x d:=⟨fr,by rw[y7,zg]⟩
theorem ae(h:(x == y)=yz)(k:Has σ x d):Has ((y,v)::σ) x d:=let ⟨fr,k⟩:=k;⟨fr,by rw[y7,h];exact k⟩
theorem iy(k:bF σ x d):Has σ x d:=⟨yC,k⟩
theorem dg:bF (ay σ x (yC,d)) x d:=by unfold bF;rw[aJ,yT rfl]
theorem bD(h:(x == y)=yz)(k:bF σ x d):bF (ay σ y v) x d:=by unfold bF;rw[aJ,yV (by rintro rfl;rw[zg] at h;cases h)];exact k
theorem gz(h:ns.contains x=yz)(k:bF σ x d):bF (freeze ns σ) x d:=by unfold bF;rw[bw,k];show ac (yC&&!ns.contains x,d)=_;rw[h];rfl
theorem bW(h:ns.contains x=yz)(k:bF σ x d):bF (settle e ns σ) x d:=by unfold settle;split;exact k;exact gz h k
theorem vz{E5:ME}{z:yF}{body r:yA MS}{EX:yA D}{Fd:St}{R:Fl->St->Prop}(a:evE cf (vis σ) E5=ac d)(hi:d.items=ac EX)(h:cF (dq cf body z) EX (freeze E5.names σ)=ac (.next,Fd))(k:Out cf r Fd R):Out cf (.for_ z E5 body::r) σ R:=by
 unfold Out;rw[xb a hi,h];exact k
theorem ur:evE cf ρ (.neg (.int 1))=ac (.int (-1)):=rfl
theorem aC(h:lm ρ x d):evE cf ρ (.u x)=ac d:=h
theorem vr{cf:CF}{σ:St}{x:yF}{d:D}(h:Has σ x d):evE cf (vis σ) (.u x)=ac d:=aF h
theorem vv{cf:CF}{σ:St}{x:yF}{d:D}{es:yA ME}{ds:yA D}(h:Has σ x d)(a:cn cf (vis σ) es=ac ds):cn cf (vis σ) (.u x::es)=ac (d::ds):=aa (aF h) a
theorem vsi{cf:CF}{σ:St}{x:yF}{d r:D}{i:Int}(h:Has σ x d)(k:aV d (.int i)=ac r):evE cf (vis σ) (.sub (.u x) (.int i))=ac r:=av (aF h) QQ k
end
set_option maxHeartbeats 4000000
noncomputable def mT:Fn:=⟨["one","other"],[
  .ite (.cmp .NotEq (.isi (.u "one") "str") (.isi (.u "other") "str")) [.ret (.isi (.u "other") "str")] [],
  .ret (.cmp .Lt (.u "one") (.u "other"))]⟩
noncomputable def gY:Fn:=⟨["_law_one","_law_other"],[
  .ite (.bop .And [.isi (.u "_law_one") "str",.isi (.u "_law_other") "str"]) [.ret (.cmp .Lt (.u "_law_one") (.u "_law_other"))] [],
  .ite (.bop .Or [.isi (.u "_law_one") "str",.isi (.u "_law_other") "str"]) [.ret (.isi (.u "_law_other") "str")] [],
  .ret (.cmp .Lt (.u "_law_one") (.u "_law_other"))]⟩
noncomputable def iZ:Fn:=⟨["_law_one","_law_other"],[
  .ite (.bop .Or [.isi (.u "_law_one") "str",.isi (.u "_law_other") "str"]) [.ret (.bop .And [.isi (.u "_law_one") "str",.isi (.u "_law_other") "str",.cmp .Eq (.u "_law_one") (.u "_law_other")])] [],
  .ret (.cmp .Eq (.u "_law_one") (.u "_law_other"))]⟩
noncomputable def jK:Fn:=⟨["_law_cell"],[
  .x0 "_law_some" (.str " !\"#$&'()*+,-./0123456789:;<=>?@ABCDEFGHIJKLMNOPQRSTUVWXYZ[\\]^_`"),
  .x0 "_law_some" (.bin .Add (.u "_law_some") (.str "abcdefghijklmnopqrstuvwxyz{|}~")),
  .ret (.sub (.u "_law_some") (.bin .Mod (.u "_law_cell") (.int 94)))]⟩
noncomputable def jR:Fn:=⟨["_law_script","_law_k"],[
  .ite (.cmp .Lt (.u "_law_k") (.blt "len" [.u "_law_script"])) [.ret (.sub (.u "_law_script") (.u "_law_k"))] [],
  .ret (.int 0)]⟩
noncomputable def fD:Fn:=⟨["_law_cell"],[
  .x0 "_law_way" (.bin .Mod (.u "_law_cell") (.int 9)),
  .x0 "_law_rest" (.bin .FloorDiv (.u "_law_cell") (.int 9)),
  .ite (.cmp .Lt (.u "_law_way") (.int 4)) [.ret (.bin .Sub (.bin .Mod (.u "_law_rest") (.int 4)) (.int 1))] [],
  .ite (.cmp .Eq (.u "_law_way") (.int 4)) [.ret (.bin .Sub (.bin .Mod (.u "_law_rest") (.int 2000001)) (.int 1000000))] [],
  .ite (.cmp .Eq (.u "_law_way") (.int 5)) [.ret (.sub (.lst [.str "a",.str "b",.str "1",.str "0",.str "-1",.str "col",.str "is",.str "count"]) (.bin .Mod (.u "_law_rest") (.int 8)))] [],
  .ite (.cmp .Eq (.u "_law_way") (.int 6)) [.ret (.bin .Mult (.call "_law_sign_by" [.u "_law_rest"]) (.bin .Mod (.bin .FloorDiv (.u "_law_rest") (.int 94)) (.int 100)))] [],
  .ite (.cmp .Eq (.u "_law_way") (.int 7)) [.ret (.bin .Add (.bin .Sub (.bin .Mod (.bin .Pow (.bin .Add (.bin .Mod (.u "_law_rest") (.bin .Pow (.int 10) (.int 60))) (.int 3)) (.int 9)) (.bin .Sub (.bin .Mult (.int 2) (.bin .Pow (.int 10) (.int 60))) (.int 1))) (.bin .Pow (.int 10) (.int 60))) (.int 1))] [],
  .x0 "_law_word" (.sl (.str "any word") .none (.bin .Mod (.u "_law_rest") (.int 9))),
  .x0 "_law_at" (.bin .Mod (.bin .FloorDiv (.u "_law_rest") (.int 9)) (.bin .Add (.blt "len" [.u "_law_word"]) (.int 1))),
  .ret (.bin .Add (.bin .Add (.sl (.u "_law_word") .none (.u "_law_at")) (.call "_law_sign_by" [.bin .FloorDiv (.u "_law_rest") (.int 81)])) (.sl (.u "_law_word") (.u "_law_at") .none))]⟩
noncomputable def lU:Fn:=⟨["_law_cell","_law_k"],[
  .ret (.bin .Mod (.bin .Pow (.bin .Mod (.bin .Add (.bin .Mult (.u "_law_cell") (.int 48271)) (.bin .Mult (.bin .Add (.u "_law_k") (.int 1)) (.int 1299721))) (.int 2147483647)) (.int 5)) (.int 2147483647))]⟩
structure BG(P:yA (yF×Fn)):Prop where
 sign:P.lookup "_law_sign_by"=ac jK
 cell:P.lookup "_law_cell_at"=ac jR
 thing:P.lookup "_law_thing_by"=ac fD
 mixed:P.lookup "_law_mixed"=ac lU
structure BC(P:yA (yF×Fn)):Prop where
 before:P.lookup "before"=ac mT
 r4:P.lookup "_law_alike"=ac iZ
 iU:P.lookup "_law_before"=ac gY
noncomputable def cS:Str:=yB " !\"#$&'()*+,-./0123456789:;<=>?@ABCDEFGHIJKLMNOPQRSTUVWXYZ[\\]^_`"++yB "abcdefghijklmnopqrstuvwxyz{|}~"
theorem signs_len:cS.length=94:=by decide +kernel
theorem cm(c:Int){k:Nat}(h:0<k):∃ m:Nat,c % (k:Int)=m/\m<k:=⟨(c % k).toNat,(Bi (Aa _ (om15 h))).symm,by have:=Aa c (b:=(k:Int)) (om15 h);have:=AA c (b:=(k:Int)) (om16 h);exact om17 h this⟩
section
variable {P:yA (yF×Fn)} {X:CF}
theorem rK(B:BG P)(n:Nat)(c:Int):(af P X (n+1)).call "_law_sign_by" [.int c]=ac (.str (cu cS (c % 94).toNat),yz):=by
 have h1:(yB " !\"#$&'()*+,-./0123456789:;<=>?@ABCDEFGHIJKLMNOPQRSTUVWXYZ[\\]^_`").length+(yB "abcdefghijklmnopqrstuvwxyz{|}~").length<=big:=by decide +kernel
 have a:0<=c % 94/\c % 94<(cS.length:Int)/\cS.length<=big:=by rw[signs_len];refine⟨by exact om18,by exact om19,by decide⟩
 refine au B.sign QQ ?_;have q:eF .Add (.str (yB " !\"#$&'()*+,-./0123456789:;<=>?@ABCDEFGHIJKLMNOPQRSTUVWXYZ[\\]^_`")) (.str (yB "abcdefghijklmnopqrstuvwxyz{|}~"))=ac (.str cS):=m7 h1;have q2:=sub_s a;exact aB (bh (d:=.str (yB " !\"#$&'()*+,-./0123456789:;<=>?@ABCDEFGHIJKLMNOPQRSTUVWXYZ[\\]^_`")) (fr:=yz) (aq vS QQ QQ) QQ) (aB (bh (d:=.str cS) (fr:=yz) (aq (ak (vr aw) vS q) QQ QQ) QQ) (aE (aq (av (vr aw) (ak (vr (ag QQ (ag QQ ad))) vI (aO (by decide))) q2) QQ QQ) QQ))
theorem vd(B:BG P)(n:Nat)(c:Int):∃ x:Str,x.length=1/\(af P X (n+1)).call "_law_sign_by" [.int c]=ac (.str x,yz):=⟨cu cS (c % 94).toNat,QQ,rK B n c⟩
noncomputable def eu(a b:D):yH:=bv a b
noncomputable def aZ(a b:D):yH:=match a with
 | .int i=>(match b with | .int j=>decide (i<j) | _=>yC)
 | .str x=>(match b with | .str y=>decide (x.cps.toList<y.cps.toList) | _=>yz)
 | _=>yz
theorem aS{a:D}{C:D->Prop}(b:a.isCell=yC)(hi:∀ i,C (.int i))(c:∀ x,C (.str x)):C a:=by
 cases a <;> first | exact hi _ | exact c _ | cases b
theorem eO(B:BG P)(n:Nat)(ns:yA Int)(k:Nat):(af P X (n+1)).call "_law_cell_at" [.list (ns.map .int),.int k]=ac (.int (ns.getD k 0),yz):=by
 have b:(ns.map D.int).length=ns.length:=yI ..;refine au B.cell QQ ?_;have a:hY "len" [.list (ns.map .int)]=ac (.int ns.length):=by show ac (D.int ((ns.map D.int).length:Nat))=_;rw[b]
 refine bc (k:=decide ((k:Int)<ns.length)) (ax (vr (ae QQ ad)) (bR (vv ad vN) a) QQ) QQ (λh=>?_) λh=>?_
 ·have h:k<ns.length:=z9.mp (zG h)
  exact aE (aq (av (vr ad) (vr (ae QQ ad)) (lz (by rw[b];exact h) (by rw[Ag,yP h,yW,yP h];rfl))) QQ QQ) QQ
 ·have h:ns.length<=k:=zU.mp λq=>AS h (z9.mpr q)
  rw[yW,DL h];exact aE (aq vI QQ QQ) QQ
theorem mixed(B:BG P)(n:Nat)(c k:Int):∃ r:Int,0<=r/\(af P X (n+1)).call "_law_mixed" [.int c,.int k]=ac (.int r,yz):=by
 have a:-fA<(c * 48271+(k+1) * 1299721) % 2147483647/\(c * 48271+(k+1) * 1299721) % 2147483647<fA/\(0:Int)<=5/\(5:Int)<=100:=by
  have h1:(2147483647:Int)<fA:=by decide +kernel
  generalize fA=pl at *;generalize c * 48271+(k+1) * 1299721=z;exact om20 h1
 have q:=wL a;exact⟨((c * 48271+(k+1) * 1299721) % 2147483647) ^ (5:Int).toNat % 2147483647,Aa _ (by decide),au B.mixed QQ (aE (aq (ak (ak (ak (ak (ak (vr ad) vI (ug (by decide))) (ak (ak (vr (ae QQ ad)) vI cU) vI (ug (by decide))) cU) vI (aO (by decide))) vI q) vI (aO (by decide))) QQ QQ) QQ)⟩
end
noncomputable def uV(d:D):Prop:=(∃ i:Int,d=.int i/\-(10 ^ 61)<i/\i<10 ^ 61)\/∃ x:Str,d=.str x/\x.length<=200
theorem uV.cell{d:D}(h:uV d):d.isCell=yC:=by rcases h with⟨i,rfl,_⟩ | ⟨x,rfl,_⟩ <;> rfl
theorem fX(x y:Str):(x++y).length=x.length+y.length:=by
 show (x.cps++y.cps).size=_;simp[Str.length]
theorem mul_len{x:Str}(b:x.length=1){n:Int}(f:0<=n)(h1:n<=100):(Txt.mul x n).length<=100:=by
 unfold Txt.mul
 split
 ·decide
 ·split
  ·exact om21 b
  ·show ((D7 n.toNat x.cps).foldl (·++·) #[]).size<=100
   have:∀ (k:Nat) (a:zj Nat),((D7 k x.cps).foldl (·++·) a).size=a.size+k:=by
    intro k
    induction k with
    | zero=>intro a;simp
    | succ k c=>
     intro a;rw[List.replicate_succ,List.foldl_cons,c];have:x.cps.size=1:=b;simp;exact om22 this
   rw[this];simp;exact om23 h1
theorem uz(x:Str)(j:Int)(h:x.length<=big):∃ W:Str,W.length<=x.length/\slD (.str x) .none (.int j)=ac (.str W):=⟨_,Txt.slice_le _ _ _,yT h⟩
theorem xh(x:Str)(j:Int)(h:x.length<=big):∃ W:Str,W.length<=x.length/\slD (.str x) (.int j) .none=ac (.str W):=⟨_,Txt.slice_le _ _ _,yT h⟩
noncomputable def T60:Int:=10 ^ 60
theorem dy{l:yA D}(b:0<l.length)(c:Int){R:D->Prop}(h:∀ d∈l,R d):∃ d,R d/\aV (.list l) (.int (c % (l.length:Int)))=ac d:=by
 obtain⟨m,e,a⟩:=cm c b;rw[e];exact⟨l[m],h _ (Ay a),lz a (yP a)⟩
theorem sM{P:yA (yF×Fn)}{X:CF}(B:BG P)(n:Nat)(c:Int):∃ d,uV d/\(af P X (n+2)).call "_law_thing_by" [.int c]=ac (d,yz):=by
 obtain⟨x,C,Fg⟩:=vd (X:=X) B n (c / 9);obtain⟨E,f,G⟩:=vd (X:=X) B n (c / 9 / 81);obtain⟨y,⟨Fh,rfl,Fi⟩,N⟩:=dy (l:=[.str (yB "a"),.str (yB "b"),.str (yB "1"),.str (yB "0"),.str (yB "-1"),.str (yB "col"),.str (yB "is"),.str (yB "count")]) (by decide) (c / 9) (R:=λd=>∃ x:Str,d=.str x/\x.length<=200) (by
  intro d z;simp only[yX,zK,Bf] at z
  rcases z with rfl | rfl | rfl | rfl | rfl | rfl | rfl | rfl <;> exact⟨_,QQ,by decide +kernel⟩)
 have H:aV (.list [.str (yB "a"),.str (yB "b"),.str (yB "1"),.str (yB "0"),.str (yB "-1"),.str (yB "col"),.str (yB "is"),.str (yB "count")]) (.int (c / 9 % 8))=ac (.str Fh):=N;have w:0<=c / 9 / 94 % 100/\c / 9 / 94 % 100<=100:=by exact om24
 have Fj:=bin_sm (u:=x) (k:=c / 9 / 94 % 100) ⟨w.1,zW w.2 (by decide),by rw[C];decide⟩
 have Fk:eF .Pow (.int 10) (.int 60)=ac (.int T60):=wL (i:=10) (j:=60) (by decide +kernel)
 have I:0<T60:=by decide +kernel
 have O:0<=c / 9 % T60/\c / 9 % T60<T60:=⟨Aa _ (by decide +kernel),AA _ I⟩
 have Fm:eF .Pow (.int (c / 9 % T60+3)) (.int 9)=ac (.int ((c / 9 % T60+3) ^ (9:Int).toNat)):=wL (by
  have J:T60+3<fA:=by decide +kernel
  generalize fA=pl at *;exact om25 O J)
 have Fo:eF .Mult (.int 2) (.int T60)=ac (.int (2 * T60)):=p9 (by decide)
 have T:0<2 * T60 - 1:=by exact om26 I
 obtain⟨W,Y,Fp⟩:=uz (yB "any word") (c / 9 % 9) (by decide +kernel)
 have a:W.length<=8:=yD Y (by decide +kernel)
 have m:W.length<=big:=yD a (by decide)
 have w2:=len_s m;have Fq:(0:Int)<(W.length:Int)+1:=by exact om27
 obtain⟨U,A,Fs⟩:=uz W (c / 9 / 9 % ((W.length:Int)+1)) m;obtain⟨V,L,Ft⟩:=xh W (c / 9 / 9 % ((W.length:Int)+1)) m;have q:(16:Nat)+1<=big:=by decide
 have Fu:=m7 (u:=U) (v:=E) (om28 f a A q);have Fv:=m7 (u:=U++E) (v:=V) (by rw[fX];exact om29 f a A L q)
 have g1:-(10:Int) ^ 61<c / 9 % 4 - 1/\c / 9 % 4 - 1<10 ^ 61:=by exact om30
 have Fw:-(10:Int) ^ 61<c / 9 % 2000001 - 1000000/\c / 9 % 2000001 - 1000000<10 ^ 61:=by exact om31
 have Fz:-(10:Int) ^ 61<(c / 9 % T60+3) ^ (9:Int).toNat % (2 * T60 - 1) - T60+1/\(c / 9 % T60+3) ^ (9:Int).toNat % (2 * T60 - 1) - T60+1<10 ^ 61:=by
  have h1:=Aa ((c / 9 % T60+3) ^ (9:Int).toNat) (b:=2 * T60 - 1) (om32);have J:=AA ((c / 9 % T60+3) ^ (9:Int).toNat) T;generalize (c / 9 % T60+3) ^ (9:Int).toNat % (2 * T60 - 1)=v at *;have FA:(10:Int) ^ 61=10 * T60:=by decide +kernel
  rw[FA];generalize T60=FH at *;exact om33 h1 J
 have FE:(U++E++V).length<=200:=by rw[fX,fX];exact om34 f a A L
 have FF:=yD (mul_len C w.1 w.2) (show 100<=200 by decide)
 have M:Rex (af P X (n+1)) fD.body [("_law_cell",(yz,.int c))] λd fr=>uV d/\fr=yz:=by
  clear w O Y a m A L q C f N;refine bg (bh (d:=.int (c % 9)) (fr:=yz) (aq (ak (vr ad) vI (aO (by decide))) QQ QQ) QQ) (bg (bh (d:=.int (c / 9)) (fr:=yz) (aq (ak (vr (ag QQ ad)) vI (bo (by decide))) QQ QQ) QQ) ?_)
  have Z:Has (ay (ay [("_law_cell",(yz,.int c))] "_law_way" (yz,.int (c % 9))) "_law_rest" (yz,.int (c / 9))) "_law_way" (.int (c % 9)):=ag QQ aw;have t:Has (ay (ay [("_law_cell",(yz,.int c))] "_law_way" (yz,.int (c % 9))) "_law_rest" (yz,.int (c / 9))) "_law_rest" (.int (c / 9)):=aw;generalize ay (ay [("_law_cell",(yz,.int c))] "_law_way" (yz,.int (c % 9))) "_law_rest" (yz,.int (c / 9))=σ at *;have E2:∀ {k:Int},0<k->evE (af P X (n+1)) (vis σ) (.bin .Mod (.u "_law_rest") (.int k))=ac (.int (c / 9 % k)):=λh=>ak (vr t) vI (aO h)
  have o:∀ k:Int,evE (af P X (n+1)) (vis σ) (.cmp .Eq (.u "_law_way") (.int k))=ac (.bool (c % 9 == k)):=λEP=>ax (vr Z) vI QQ
  have s:evE (af P X (n+1)) (vis σ) (.bin .Pow (.int 10) (.int 60))=ac (.int T60):=ak vI vI Fk;refine dQ (k:=decide (c % 9<4)) (ax (vr Z) vI QQ) QQ (λEP=>cH (aq (ak (E2 (by decide)) vI uR) QQ QQ) QQ ⟨.inl ⟨_,QQ,g1⟩,QQ⟩) λEP=>?_
  refine dQ (o 4) QQ (λEP=>cH (aq (ak (E2 (by decide)) vI uR) QQ QQ) QQ ⟨.inl ⟨_,QQ,Fw⟩,QQ⟩) λEP=>?_
  refine dQ (o 5) QQ (λEP=>cH (aq (av (x:=.list [.str (yB "a"),.str (yB "b"),.str (yB "1"),.str (yB "0"),.str (yB "-1"),.str (yB "col"),.str (yB "is"),.str (yB "count")]) QQ (E2 (by decide)) H) QQ QQ) QQ ⟨.inr ⟨_,QQ,Fi⟩,QQ⟩) λEP=>?_
  refine dQ (o 6) QQ (λEP=>cH (aq (ak (am (vv t vN) Fg) (ak (ak (vr t) vI (bo (by decide))) vI (aO (by decide))) Fj) QQ QQ) QQ ⟨.inr ⟨_,QQ,FF⟩,QQ⟩) λEP=>?_
  refine dQ (o 7) QQ (λEP=>cH (aq (ak (ak (ak (ak (ak (ak (vr t) s (aO I)) vI cU) vI Fm) (ak (ak vI s Fo) vI uR) (aO T)) s uR) vI cU) QQ QQ) QQ ⟨.inl ⟨_,QQ,Fz⟩,QQ⟩) λEP=>?_
  refine bg (bh (d:=.str W) (fr:=yz) (aq (qp vS (gg _ _) (E2 (by decide)) Fp) QQ QQ) QQ) (bg (bh (d:=.int (c / 9 / 9 % ((W.length:Int)+1))) (fr:=yz) (aq (ak (ak (vr (ag QQ t)) vI (bo (by decide))) (ak (bR (vv aw vN) w2) vI cU) (aO Fq)) QQ QQ) QQ) ?_)
  exact cH (aq (ak (ak (qp (vr (ag QQ aw)) (gg _ _) (vr aw) Fs) (am (aa (ak (vr (ag QQ (ag QQ t))) vI (bo (by decide))) vN) G) Fu) (qp (vr (ag QQ aw)) (vr aw) (gg _ _) Ft) Fv) QQ QQ) QQ ⟨.inr ⟨_,QQ,FE⟩,QQ⟩
 obtain⟨d,fr,⟨z,rfl⟩,FG⟩:=dJ (X:=X) (n:=n+1) (args:=[.int c]) B.thing QQ M;exact⟨d,z,FG⟩
theorem ofS_eq(a b:yF):(yB a=yB b)=(a=b):=propext ⟨dR,λh=>by rw[h]⟩
theorem vx(a b:yF):(yB a == yB b)=(a == b):=by
 rw[AY,AZ,AZ,ofS_eq]
theorem str_tri(x y:Str):(decide (y.cps.toList<x.cps.toList)||(x == y))=!decide (x.cps.toList<y.cps.toList):=by
 rw[AY];simp only[DS,BH,AZ,Dr,decide_eq_false_iff_not]
 constructor
 ·rintro (h | rfl)
  ·exact List.lt_asymm h
  ·exact List.lt_irrefl _
 ·intro h
  by_cases a:y.cps.toList<x.cps.toList
  ·exact .inl a
  ·refine .inr ?_
   have:x.cps.toList=y.cps.toList:=List.le_antisymm (Eb.mp a) (Eb.mp h);cases x;cases y
   congr 1
   exact Array.toList_inj.mp this
theorem tri{a b:D}(c:a.isCell=yC)(f:b.isCell=yC):(aZ b a||eu a b)=!aZ a b:=by
 cases a <;> first | (cases c;done) | (cases b <;> first | (cases f;done) | rfl | exact str_tri _ _ | skip)
 rename_i i j
 show (decide (j<i)||i == j)=!decide (i<j)
 rw[AY];simp;exact om36
theorem qe{a b:D}(c:a.isCell=yC)(f:b.isCell=yC):eu a b=eu b a:=by
 cases a <;> first | (cases c;done) | (cases b <;> first | (cases f;done) | rfl | exact Bool.beq_comm)
theorem rX{k:yH}{A B:Prop}(a:k=yC)(h:A):if k=yC then A else B:=by rw[yT a];exact h
theorem rY{k:yH}{A B:Prop}(a:k=yz)(h:B):if k=yC then A else B:=by rw[yV (by rw[a];exact yQ)];exact h
theorem r_norm{cf:CF}{r:yA MS}{σ Fd:St}{d:D}{fr:yH}(h:σ=Fd)(k:Run cf r Fd d fr):Run cf r σ d fr:=h▸k
theorem sg{row:yA D}{p:Nat}(h:p<row.length):aV (.tup row) (.int p)=ac (row.getD p .none):=sub_t h (by rw[yW,yP h];rfl)
set_option maxHeartbeats 400000
noncomputable def gW:Fn:=⟨["_law_cell","_law_many_here"],[
  .x0 "_law_word" (.sub (.lst [.str "same",.str "unlike",.str "before",.str "upto",.str "behind",.str "from",.str "unlike",.str "upto",.str "from"]) (.bin .Mod (.u "_law_cell") (.int 9))),
  .x0 "_law_place" (.bin .Mod (.bin .FloorDiv (.u "_law_cell") (.int 9)) (.u "_law_many_here")),
  .x0 "_law_rest" (.bin .FloorDiv (.bin .FloorDiv (.u "_law_cell") (.int 9)) (.u "_law_many_here")),
  .ite (.cmp .Eq (.bin .Mod (.u "_law_rest") (.int 2)) (.int 0)) [.ret (.tup [.u "_law_word",.u "_law_place",.str "col",.bin .Mod (.bin .FloorDiv (.u "_law_rest") (.int 2)) (.u "_law_many_here")])] [],
  .ret (.tup [.u "_law_word",.u "_law_place",.str "is",.call "_law_thing_by" [.bin .FloorDiv (.u "_law_rest") (.int 2)]])]⟩
noncomputable def dT:Fn:=⟨["_law_cell","_law_many_here"],[
  .ite (.bop .Or [.cmp .Eq (.u "_law_many_here") (.int 0),.cmp .Eq (.bin .Mod (.u "_law_cell") (.int 32)) (.int 15)]) [.ret (.tup [])] [],
  .ite (.cmp .Eq (.bin .Mod (.u "_law_cell") (.int 16)) (.int 14)) [.ret (.tup [.tup [.str "same",.bin .Sub (.u "_law_many_here") (.int 1),.str "col",.int 0]])] [],
  .ite (.cmp .Eq (.bin .Mod (.u "_law_cell") (.int 16)) (.int 13)) [.ret (.tup [.tup [.str "same",.int 0,.str "col",.bin .Sub (.u "_law_many_here") (.int 1)]])] [],
  .x0 "_law_count" (.bin .Add (.int 1) (.bin .Mod (.bin .FloorDiv (.u "_law_cell") (.int 16)) (.int 2))),
  .ite (.cmp .Eq (.bin .Mod (.bin .FloorDiv (.u "_law_cell") (.int 32)) (.int 11)) (.int 1)) [.x0 "_law_count" (.bin .Mod (.bin .FloorDiv (.u "_law_cell") (.int 352)) (.int 13))] [],
  .ret (.blt "tuple" [.comp (.call "_law_one_by" [.call "_law_mixed" [.u "_law_cell",.bin .Add (.int 40) (.u "_law_k")],.u "_law_many_here"]) "_law_k" (.blt "range" [.u "_law_count"]) []])]⟩
structure BD(P:yA (yF×Fn)):Prop extends BG P where
 one:P.lookup "_law_one_by"=ac gW
 clause:P.lookup "_law_clause_by"=ac dT
noncomputable def jh:yA yF:=["same","unlike","before","upto","behind","from"]
noncomputable def tst(w:yF)(p:Nat)(a:yF)(o:D):D:=.tup [.str (yB w),.int p,.str (yB a),o]
noncomputable def Tst(m:Nat)(d:D):Prop:=∃ w p,w∈jh/\p<m/\((∃ q:Nat,q<m/\d=tst w p "col" (.int q))\/∃ o,uV o/\d=tst w p "is" o)
theorem word_at(c:Int):∃ w,w∈jh/\aV (.list [.str (yB "same"),.str (yB "unlike"),.str (yB "before"),.str (yB "upto"),.str (yB "behind"),.str (yB "from"),.str (yB "unlike"),.str (yB "upto"),.str (yB "from")]) (.int (c % 9))=ac (.str (yB w)):=by
 obtain⟨d,⟨w,rfl,a⟩,h⟩:=dy (l:=["same","unlike","before","upto","behind","from","unlike","upto","from"].map λs=>D.str (yB s)) (by decide) c (R:=λd=>∃ w,d=.str (yB w)/\w∈jh) (by
  intro d b;obtain⟨w,a,rfl⟩:=zn.mp b;exact⟨w,QQ,(by decide:∀ w∈["same","unlike","before","upto","behind","from","unlike","upto","from"],w∈jh) w a⟩)
 exact⟨w,a,h⟩
section
variable {P:yA (yF×Fn)} {X:CF}
theorem one_by(B:BD P)(n:Nat)(c:Int)(m:Nat)(b:0<m)(h1:m<=1000):∃ d,Tst m d/\(af P X (n+3)).call "_law_one_by" [.int c,.int m]=ac (d,yz):=by
 obtain⟨w,j,t⟩:=word_at c;have q2:(0:Int)<(m:Int)/\(m:Int)<lim:=by unfold lim;exact om37 b h1
 have o:=q2.1;obtain⟨p,s,a⟩:=cm (c / 9) b;obtain⟨q,hq,f⟩:=cm (c / 9 / m / 2) b;obtain⟨d,u,h⟩:=sM (X:=X) B.toBG n (c / 9 / m / 2);have i:Rex (af P X (n+2)) gW.body [("_law_cell",(yz,.int c)),("_law_many_here",(yz,.int m))] λd fr=>Tst m d/\fr=yz:=by
  refine bg (bh (d:=.str (yB w)) (fr:=yz) (aq (av (x:=.list [.str (yB "same"),.str (yB "unlike"),.str (yB "before"),.str (yB "upto"),.str (yB "behind"),.str (yB "from"),.str (yB "unlike"),.str (yB "upto"),.str (yB "from")]) QQ (ak (vr ad) vI (aO (by decide))) t) QQ QQ) QQ) ?_
  refine bg (bh (d:=.int (c / 9 % m)) (fr:=yz) (aq (ak (ak (vr (ag QQ ad)) vI (bo (by decide))) (vr (ag QQ (ae QQ ad))) (aO o)) QQ QQ) QQ) ?_
  refine bg (bh (d:=.int (c / 9 / m)) (fr:=yz) (aq (ak (ak (vr (ag QQ (ag QQ ad))) vI (bo (by decide))) (vr (ag QQ (ag QQ (ae QQ ad)))) (bo q2)) QQ QQ) QQ) ?_
  refine dQ (k:=c / 9 / m % 2 == 0) (ax (ak (vr aw) vI (aO (by decide))) vI QQ) QQ (λZ=>?_) λZ=>?_
  ·exact cH (aq (bA (vv (ag QQ (ag QQ aw)) (vv (ag QQ aw) (aa vS (aa (ak (ak (vr aw) vI (bo (by decide))) (vr (ag QQ (ag QQ (ag QQ (ae QQ ad))))) (aO o)) vN)))) (yM QQ)) QQ QQ) QQ ⟨⟨w,p,j,a,.inl ⟨q,f,by rw[s,hq];rfl⟩⟩,QQ⟩
  ·exact cH (aq (bA (vv (ag QQ (ag QQ aw)) (vv (ag QQ aw) (aa vS (aa (am (aa (ak (vr aw) vI (bo (by decide))) vN) h) vN)))) (yM QQ)) QQ QQ) QQ ⟨⟨w,p,j,a,.inr ⟨d,u,by rw[s];rfl⟩⟩,QQ⟩
 obtain⟨d,fr,⟨h,rfl⟩,y⟩:=dJ (X:=X) (n:=n+2) (args:=[.int c,.int m]) B.one QQ i;exact⟨d,h,y⟩
noncomputable def Cls(m:Nat)(d:D):Prop:=∃ a,d=.tup a/\(∀ t∈a,Tst m t)/\a.length<=31
theorem clause_by(B:BD P)(n:Nat)(c:Int)(m:Nat)(h1:m<=1000):∃ d,Cls m d/\(af P X (n+4)).call "_law_clause_by" [.int c,.int m]=ac (d,yz):=by
 have u:Rex (af P X (n+3)) dT.body [("_law_cell",(yz,.int c)),("_law_many_here",(yz,.int m))] λd fr=>Cls m d/\fr=yz:=by
  have a:Cls m (.tup []):=⟨[],QQ,(λZ h=>nomatch h),za _⟩
  by_cases f:m=0
  ·subst f
   exact dQ (k:=yC) (gB (k:=yC) (l:=yC) (ax (x:=.int (0:Nat)) (vr (ae QQ ad)) vI QQ) nofun) QQ (λZ=>cH (aq (bA vN (za _)) QQ QQ) QQ ⟨a,QQ⟩) nofun
  have w:0<m:=by exact om38 f
  have H:(m:Int) - 1=((m - 1:Nat):Int):=by exact om39 f
  have o:∀ p q:Nat,p<m->q<m->Cls m (.tup [.tup [.str (yB "same"),.int p,.str (yB "col"),.int q]]):=λp q I hq=>⟨_,QQ,λt J=>y3.mp J▸⟨"same",p,by decide,I,.inl ⟨q,hq,QQ⟩⟩,yM QQ⟩
  have s1:=o (m - 1) 0 (om40 f) w;have E:=o 0 (m - 1) w (om40 f);rw[<- H] at s1 E;have b:∀ k:Nat,k<=13->Rex (af P X (n+3)) (dT.body.drop 5) [("_law_cell",(yz,.int c)),("_law_many_here",(yz,.int m)),("_law_count",(yz,.int k))] λd fr=>Cls m d/\fr=yz:=by
   intro k s;obtain⟨ds,L,q2,M⟩:=kR (cf:=af P X (n+3)) (ρ:=vis [("_law_cell",(yz,.int c)),("_law_many_here",(yz,.int m)),("_law_count",(yz,.int k))]) (elt:=.call "_law_one_by" [.call "_law_mixed" [.u "_law_cell",.bin .Add (.int 40) (.u "_law_k")],.u "_law_many_here"]) (z:="_law_k") (E5:=.u "_law_count") (yD s (by decide)) (Tst m) QQ (by
    intro i _;obtain⟨r,_,y⟩:=mixed (X:=X) B.toBG (n+2) c (40+i);obtain⟨d,N,A⟩:=one_by (X:=X) B n r m w h1;exact⟨d,N,(am (aa (am (aa (Eq.trans (x4 (af P X (n+3)) (("_law_k",D.int ↑i)::vis [("_law_cell",yz,D.int c),("_law_many_here",yz,D.int ↑m),("_law_count",yz,D.int ↑k)]) "_law_cell") QQ) (aa (ak vI (Eq.trans (x4 (af P X (n+3)) (("_law_k",D.int ↑i)::vis [("_law_cell",yz,D.int c),("_law_many_here",yz,D.int ↑m),("_law_count",yz,D.int ↑k)]) "_law_k") QQ) cU) vN)) y) (aa (Eq.trans (x4 (af P X (n+3)) (("_law_k",D.int ↑i)::vis [("_law_cell",yz,D.int c),("_law_many_here",yz,D.int ↑m),("_law_count",yz,D.int ↑k)]) "_law_many_here") QQ) vN)) A)⟩)
   exact cH (aq M QQ QQ) QQ ⟨⟨ds,QQ,q2,L▸yD s (by decide)⟩,QQ⟩
  obtain⟨G,e1,O⟩:∃ k:Nat,1+c / 16 % 2=k/\k<=13:=⟨(1+c / 16 % 2).toNat,by exact om41,by exact om42⟩
  obtain⟨k2,C,T⟩:=cm (c / 352) (k:=13) (by decide)
  have C:c / 352 % 13=(k2:Int):=C;have cell:∀ {σ:St} (k:Int) (j:Int),0<k->Has σ "_law_cell" (.int c)->evE (af P X (n+3)) (vis σ) (.cmp .Eq (.bin .Mod (.u "_law_cell") (.int k)) (.int j))=ac (.bool (c % k == j)):=λk j s i=>ax (ak (vr i) vI (aO s)) vI QQ
  refine dQ (k:=(m:Int) == 0||c % 32 == 15) (gB (ax (vr (ae QQ ad)) vI QQ) λZ=>bC (cell 32 15 (by decide) ad)) QQ (λZ=>cH (aq (bA vN (za _)) QQ QQ) QQ ⟨a,QQ⟩) λZ=>?_
  refine dQ (cell 16 14 (by decide) ad) QQ (λZ=>cH (aq (bA (aa (bA (aa vS (aa (ak (vr (ae QQ ad)) vI uR) (aa vS (aa vI vN)))) (yM QQ)) vN) (yM QQ)) QQ QQ) QQ ⟨s1,QQ⟩) λZ=>?_
  refine dQ (cell 16 13 (by decide) ad) QQ (λZ=>cH (aq (bA (aa (bA (aa vS (aa vI (aa vS (aa (ak (vr (ae QQ ad)) vI uR) vN)))) (yM QQ)) vN) (yM QQ)) QQ QQ) QQ ⟨E,QQ⟩) λZ=>?_
  refine bg (bh (d:=.int G) (fr:=yz) (by rw[<- e1];exact aq (ak vI (ak (ak (vr ad) vI (bo (by decide))) vI (aO (by decide))) cU) QQ QQ) QQ) ?_
  refine dQ (k:=c / 32 % 11 == 1) (ax (ak (ak (vr (ag QQ ad)) vI (bo (by decide))) vI (aO (by decide))) vI QQ) QQ (λZ=>?_) λZ=>xu QQ (b G O)
  exact bg (bh (d:=.int k2) (fr:=yz) (by rw[<- C];exact aq (ak (ak (vr (ag QQ ad)) vI (bo (by decide))) vI (aO (by decide))) QQ QQ) QQ) (xu QQ (b k2 (zy T)))
 obtain⟨d,fr,⟨A,rfl⟩,y⟩:=dJ (X:=X) (n:=n+3) (args:=[.int c,.int m]) B.clause QQ u;exact⟨d,A,y⟩
end
theorem kC{cf:CF}{ρ:yA (yF×D)}{elt c:ME}{x:yF}{a y d:D}{k:yH}(b:evE cf ((x,a)::ρ) c=ac d)(f:bU d=ac k)(he:k=yC->evE cf ((x,a)::ρ) elt=ac y):kO cf ρ elt x [c] a=ac (if k=yC then ac y else yS):=by
 have e:nN cf ((x,a)::ρ) [c]=ac k:=by
  show (match evE cf ((x,a)::ρ) c with | some d=>(match bU d with | some t=>if t then ac yC else ac yz | none=>yS) | none=>yS)=_
  rw[b];show (match bU d with | some t=>_ | none=>_)=_;rw[f];cases k <;> rfl
 unfold kO;rw[e];cases k with
 | true=>show (match evE cf ((x,a)::ρ) elt with | some y=>_ | none=>_)=_;rw[he rfl];rfl
 | false=>rfl
theorem pR{α:Type}(f:D->yK (yK D))(h g:α->D):∀ (l:yA α),(∀ a∈l,f (h a)=ac (ac (g a)))->bS f (l.map h)=ac (l.map g)
 | [],_=>rfl
 | a::r,e=>by
  rw[y8,bS,e a (.head _)];show (match bS f (r.map h) with | none=>yS | some ds=>_)=_
  rw[pR f h g r λi b=>e i (.tail _ b)];rfl
set_option maxHeartbeats 400000
noncomputable def lS:Fn:=⟨["clause"],[
  .x0 "found" (.lst []),
  .for_ "test" (.u "clause") [.append "found" (.sub (.u "test") (.int 1)),.ite (.cmp .Eq (.sub (.u "test") (.int 2)) (.str "col")) [.append "found" (.sub (.u "test") (.int 3))] []],
  .ret (.sset (.u "found"))]⟩
noncomputable def fC:Fn:=⟨["places","many"],[
  .for_ "place" (.u "places") [.ite (.bop .Or [.cmp .Lt (.u "place") (.int 0),.cmp .GtE (.u "place") (.u "many")]) [.bad] []]]⟩
noncomputable def gT:Fn:=⟨["query","within"],[
  .x0 "word" (.sub (.u "query") (.int 0)),
  .ite (.cmp .Eq (.u "word") (.str "sieve")) [.for_ "clause" (.sub (.u "query") (.int 1)) [.expr (.call "need_columns" [.call "places_of" [.u "clause"],.u "within"])]] [],
  .ite (.cmp .Eq (.u "word") (.str "pick")) [.expr (.call "need_columns" [.sub (.u "query") (.int 1),.u "within"]),.ret (.blt "len" [.sub (.u "query") (.int 1)])] [],
  .ite (.cmp .Eq (.u "word") (.str "group")) [.expr (.call "need_columns" [.sub (.u "query") (.int 1),.u "within"]),.expr (.call "need_columns" [.comp (.sub (.u "one") (.int 1)) "one" (.sub (.u "query") (.int 2)) [],.u "within"]),.ret (.bin .Add (.blt "len" [.sub (.u "query") (.int 1)]) (.blt "len" [.sub (.u "query") (.int 2)]))] [],
  .ite (.cmp .Eq (.u "word") (.str "order")) [.expr (.call "need_columns" [.comp (.sub (.u "one") (.int 0)) "one" (.sub (.u "query") (.int 1)) [],.u "within"])] [],
  .ite (.bop .And [.cmp .Eq (.u "word") (.str "first"),.cmp .Lt (.sub (.u "query") (.int 1)) (.int 0)]) [.bad] [],
  .ret (.u "within")]⟩
noncomputable def jm:Fn:=⟨["query","first","second"],[
  .ite (.cmp .Eq (.sub (.u "query") (.int 0)) (.str "join")) [.expr (.call "need_columns" [.comp (.sub (.u "pair") (.int 0)) "pair" (.sub (.u "query") (.int 3)) [],.u "first"]),.expr (.call "need_columns" [.comp (.sub (.u "pair") (.int 1)) "pair" (.sub (.u "query") (.int 3)) [],.u "second"]),.ret (.bin .Add (.u "first") (.u "second"))] [],
  .ite (.cmp .NotEq (.u "first") (.u "second")) [.bad] [],
  .ret (.u "first")]⟩
noncomputable def tR:Fn:=⟨["query","widths"],[
  .x0 "word" (.sub (.u "query") (.int 0)),
  .ite (.cmp .NotIn (.u "word") (.glob "STEPS")) [.bad] [],
  .ite (.cmp .Eq (.u "word") (.str "table")) [.ite (.cmp .NotIn (.sub (.u "query") (.int 1)) (.u "widths")) [.bad] [],.ret (.sub (.u "widths") (.sub (.u "query") (.int 1)))] [],
  .ite (.bop .Or [.cmp .Eq (.u "word") (.str "join"),.cmp .Eq (.u "word") (.str "both")]) [.x0 "first" (.call "width" [.sub (.u "query") (.int 1),.u "widths"]),.x0 "second" (.call "width" [.sub (.u "query") (.int 2),.u "widths"]),.ret (.call "width_of_two" [.u "query",.u "first",.u "second"])] [],
  .ret (.call "width_upon" [.u "query",.call "width" [.sub (.u "query") (.neg (.int 1)),.u "widths"]])]⟩
structure BW(P:yA (yF×Fn)):Prop where
 po:P.lookup "places_of"=ac lS
 nc:P.lookup "need_columns"=ac fC
 wu:P.lookup "width_upon"=ac gT
 w2:P.lookup "width_of_two"=ac jm
 wd:P.lookup "width"=ac tR
noncomputable def fS(t:D):yA Int:=match t with
 | .tup [_,.int p,.str k,o]=>if k == yB "col" then (match o with | .int q=>[p,q] | _=>[p]) else [p]
 | _=>[]
theorem col_t:(yB "col" == yB "col")=yC:=by decide +kernel
theorem ya:(yB "is" == yB "col")=yz:=by decide +kernel
theorem gF(w:yF)(p q:Nat):fS (tst w p "col" (.int q))=[(p:Int),(q:Int)]:=rfl
theorem kY(w:yF)(p:Nat)(o:D):fS (tst w p "is" o)=[(p:Int)]:=rfl
theorem x0:ec .Eq (.str (yB "col")) (.str (yB "col"))=ac (.bool yC):=by show ac (D.bool (_ == _))=_;rw[col_t]
theorem eq_is:ec .Eq (.str (yB "is")) (.str (yB "col"))=ac (.bool yz):=by show ac (D.bool (_ == _))=_;rw[ya]
theorem pK{m:Nat}:∀ a:yA D,(∀ t∈a,Tst m t)->(a.flatMap fS).length<=2 * a.length
 | [],_=>za _
 | t::a,h=>by
  rw[Dt,yY,Ae,Nat.mul_succ,z5];refine ze (pK a λu b=>h u (.tail _ b)) ?_
  obtain⟨w,p,_,_,⟨q,_,rfl⟩ | ⟨o,_,rfl⟩⟩:=h t (.head _)
  ·exact y0 2
  ·exact AB 1
theorem qX:∀ ns:yA Int,pv (ns.map .int)=ac ns
 | []=>rfl
 | n::ns=>by
  show (pv (ns.map .int)).map (n::·)=_;rw[qX ns];rfl
inductive Q where
 | table (nm:Str)
 | sieve (cs:yA (yA D)) (q:Q)
 | pick (ps:yA Nat) (q:Q)
 | group (ps:yA Nat) (ss:yA (yF×Nat)) (q:Q)
 | order (ks:yA (Nat×yH)) (q:Q)
 | once (q:Q)
 | first (c:Nat) (q:Q)
 | join (a b:Q) (prs:yA (Nat×Nat))
 | both (a b:Q)
noncomputable def sD(s:yF):D:=.str (yB s)
noncomputable def aM(n:Nat):D:=.int n
noncomputable def clD(c:yA D):D:=.tup c
noncomputable def dI(x:yF×Nat):D:=.tup [sD x.1,aM x.2]
noncomputable def eE(k:Nat×yH):D:=.tup [aM k.1,.bool k.2]
noncomputable def prT(k:Nat×Nat):D:=.tup [aM k.1,aM k.2]
noncomputable def Q.d:Q->D
 | table h=>.tup [sD "table",.str h]
 | sieve i q=>.tup [sD "sieve",.tup (i.map clD),q.d]
 | pick ps q=>.tup [sD "pick",.tup (ps.map aM),q.d]
 | group ps j q=>.tup [sD "group",.tup (ps.map aM),.tup (j.map dI),q.d]
 | order ks q=>.tup [sD "order",.tup (ks.map eE),q.d]
 | once q=>.tup [sD "once",q.d]
 | first c q=>.tup [sD "first",aM c,q.d]
 | join a b f=>.tup [sD "join",a.d,b.d,.tup (f.map prT)]
 | both a b=>.tup [sD "both",a.d,b.d]
noncomputable abbrev Wd:=yA (Str×Nat)
noncomputable def Wd.d(W:Wd):D:=.dict (W.map λp=>.str p.1) (W.map λp=>aM p.2)
noncomputable def Q.wd(W:Wd):Q->Nat
 | table c=>(W.lookup c).getD 0
 | sieve _ q | order _ q | once q | first _ q=>q.wd W
 | pick ps _=>ps.length
 | group ps f _=>ps.length+f.length
 | join a b _=>a.wd W+b.wd W
 | both a _=>a.wd W
noncomputable def bV(m:Nat)(c:yA D):Prop:=(∀ t∈c,Tst m t)/\c.length<=31
noncomputable def Q.ok(W:Wd):Q->Prop
 | table j=>∃ n,W.lookup j=ac n
 | sieve h q=>q.ok W/\(∀ c∈h,bV (q.wd W) c)/\h.length<=1000
 | pick ps q=>q.ok W/\(∀ p∈ps,p<q.wd W)/\ps.length<=1000
 | group ps i q=>q.ok W/\(∀ p∈ps,p<q.wd W)/\(∀ x∈i,x.2<q.wd W)/\ps.length<=1000/\i.length<=1000
 | order ks q=>q.ok W/\(∀ k∈ks,k.1<q.wd W)/\ks.length<=1000
 | once q | first _ q=>q.ok W
 | join a b f=>a.ok W/\b.ok W/\(∀ k∈f,k.1<a.wd W/\k.2<b.wd W)/\f.length<=5000
 | both a b=>a.ok W/\b.ok W/\a.wd W=b.wd W
noncomputable def Q.dp:Q->Nat
 | table _=>0
 | sieve _ q | order _ q | once q | first _ q | pick _ q | group _ _ q=>q.dp+1
 | join a b _ | both a b=>max a.dp b.dp+1
theorem dpS{d:Nat}:{n:Nat}->d+1<=n->∃ m,n=m+1/\d<=m
 | _+1,h=>⟨_,QQ,Nat.le_of_succ_le_succ h⟩
noncomputable def Q.cp:Q->Nat
 | table _=>0
 | sieve c q=>c.length+q.cp
 | pick _ q | group _ _ q | order _ q | once q | first _ q=>q.cp
 | join a b _ | both a b=>max a.cp b.cp
noncomputable def Q.pr:Q->Nat
 | table _=>0
 | sieve _ q | pick _ q | group _ _ q | order _ q | once q | first _ q=>q.pr
 | join a b c=>max c.length (max a.pr b.pr)
 | both a b=>max a.pr b.pr
noncomputable def qC:yA yF:=["count","sum","least","most"]
noncomputable def Q.nar(W:Wd)(k:Nat):Q->Prop
 | table _=>True
 | sieve _ q | pick _ q | order _ q | once q | first _ q=>q.nar W k
 | group _ c q=>q.nar W k/\∀ s∈c,s.1∈qC
 | join a b _=>a.nar W k/\b.nar W k/\a.wd W+b.wd W<=k
 | both a b=>a.nar W k/\b.nar W k
noncomputable abbrev st0(q C T:D)(w:yF):St:=[("query",(yz,q)),("clauses",(yz,C)),("widths",(yz,T)),("word",(yz,sD w))]
section
variable {P:yA (yF×Fn)} {X:CF} {m:Nat}
theorem mt(B:BW P)(n:Nat){c:yA D}(C:∀ t∈c,Tst m t)(u:c.length<=31):(af P X (n+1)).call "places_of" [.tup c]=ac (.list ((cL (c.flatMap fS)).map .int),yC):=by
 have f:2000<big:=by decide
 refine au B.po QQ ?_;refine aB (ai (d:=.list []) (fr:=yC) QQ) ?_;obtain⟨Fd,A,G⟩:=fU (cf:=af P X n) (body:=[.append "found" (.sub (.u "test") (.int 1)),.ite (.cmp .Eq (.sub (.u "test") (.int 2)) (.str "col")) [.append "found" (.sub (.u "test") (.int 3))] []]) (z:="test")
  (λa σ=>bF σ "found" (.list ((a.flatMap fS).map .int))) c [] [("clause",(yz,.tup c)),("found",(yC,.list []))] QQ (by
   rintro a E b σ i A;rw[AR] at i;have hit:E∈c:=by rw[i];simp
   have j:a.length<c.length:=by rw[i];simp
   have s:=pK a λt h=>C t (by rw[i];exact Ap _ h)
   obtain⟨w,p,I,J,⟨q,hq,rfl⟩ | ⟨o,L,rfl⟩⟩:=C E hit
   ·rw[D3,Dt,EI,gF,zd]
    refine aH (bN (d:=.int p) (ds:=(a.flatMap fS).map .int) (av (x:=tst w p "col" (.int q)) (y:=.int 1) (vr aw) vI QQ) (?_:bF _ _ _) (by rw[yI];exact om78 u f j s)) ?_
    ·exact bW QQ (bD QQ A)
    refine cD (k:=yC) (ax (av (x:=tst w p "col" (.int q)) (y:=.int 2) (vr (ag QQ (ao aw))) vI QQ) vS x0) QQ (λZ=>?_) nofun
    refine aH (bN (d:=.int q) (ds:=(a.flatMap fS).map .int++[.int p]) (av (x:=tst w p "col" (.int q)) (y:=.int 3) (vr (ag QQ (ao aw))) vI QQ) (?_:bF _ _ _) (by rw[yY,yI];simp only[Ae,EN];exact om79 u f j s)) (bq ⟨QQ,?_⟩)
    ·exact bW QQ dg
    ·rw[B1];exact dg
   ·rw[D3,Dt,EI,kY,zd]
    refine aH (bN (d:=.int p) (ds:=(a.flatMap fS).map .int) (av (x:=tst w p "is" o) (y:=.int 1) (vr aw) vI QQ) (?_:bF _ _ _) (by rw[yI];exact om78 u f j s)) ?_
    ·exact bW QQ (bD QQ A)
    exact cD (k:=yz) (ax (av (x:=tst w p "is" o) (y:=.int 2) (vr (ag QQ (ao aw))) vI QQ) vS eq_is) QQ nofun λZ=>bq ⟨QQ,dg⟩)
 have H:oH (.list ((c.flatMap fS).map .int))=ac (.list ((cL (c.flatMap fS)).map .int)):=by
  show (if _<63 then (pv _).map _ else _)=_
  have:=pK c C;rw[yT (by rw[yI];exact om80 u this),qX];rfl
 refine dW (x:=.tup c) (EX:=c) QQ QQ G (aE (aq (v_sset (x:=.list ((c.flatMap fS).map .int)) (vr (iy A)) H) QQ QQ) QQ)
theorem fall_call{g:yF}{ps:yA yF}{bd:yA MS}{n:Nat}{args:yA D}{Fd:St}(h:P.lookup g=ac ⟨ps,bd⟩)(a:args.length=ps.length)(k:bk (af P X n) bd ((ps.zip args).map λp=>(p.1,(yz,p.2)))=ac (.next,Fd)) :
  (af P X (n+1)).call g args=ac (.none,yz):=by rw[wE n args h a];show fin (bk _ bd _)=_;rw[k];rfl
theorem cW(B:BW P)(n:Nat){ls:D}{EX:yA D}(hi:ls.items=ac EX){w:Nat}(h:∀ d∈EX,∃ p:Nat,p<w/\d=.int p):(af P X (n+1)).call "need_columns" [ls,.int w]=ac (.none,yz):=by
 have f:∃ Fd,cF (dq (af P X n) [.ite (.bop .Or [.cmp .Lt (.u "place") (.int 0),.cmp .GtE (.u "place") (.u "many")]) [.bad] []] "place") EX (freeze ["places"] [("places",(yz,ls)),("many",(yz,.int w))])=ac (.next,Fd):=by
  obtain⟨Fd,_,j⟩:=fU (cf:=af P X n) (body:=[.ite (.bop .Or [.cmp .Lt (.u "place") (.int 0),.cmp .GtE (.u "place") (.u "many")]) [.bad] []]) (z:="place") (λZ σ=>Has σ "many" (.int w)) EX [] (freeze ["places"] [("places",(yz,ls)),("many",(yz,.int w))]) (bT (ae QQ ad)) (by
   rintro a o b σ c i;rw[AR] at c;obtain⟨p,s,rfl⟩:=h o (by rw[c];simp)
   have h1:ec .Lt (.int p) (.int 0)=ac (.bool yz):=by
    show ac (D.bool (decide ((p:Int)<0)))=_;rw[Ad (uF)]
   have t:ec .GtE (.int p) (.int w)=ac (.bool yz):=by
    show ac (D.bool (decide ((p:Int) ≥ w)))=_;rw[Ad (om81 s)]
   exact cD (k:=yz) (x:=.bool (yz||false)) (gB (k:=yz) (l:=yz) (ax (vr aw) vI h1) λZ=>bC (ax (vr aw) (vr (ag QQ i)) t)) QQ nofun λZ=>bq ⟨QQ,ag QQ i⟩)
  exact⟨Fd,j⟩
 obtain⟨Fd,j⟩:=f;obtain⟨m,u,rfl,q⟩:Out (af P X n) fC.body [("places",(yz,ls)),("many",(yz,.int w))] λm Z=>m=.next:=vz (d:=ls) QQ hi j (bq QQ)
 exact fall_call B.nc QQ q
theorem kt{α:Type}{l:yA α}{f:α->Nat}{w:Nat}(h:∀ x∈l,f x<w):∀ d∈l.map (λx=>D.int (f x)),∃ p:Nat,p<w/\d=.int p:=λd a=>by
 obtain⟨x,b,rfl⟩:=zn.mp a;exact⟨f x,h x b,QQ⟩
theorem cls_places{w:Nat}{c:yA D}(b:bV w c):∀ d∈(cL (c.flatMap fS)).map D.int,∃ p:Nat,p<w/\d=.int p:=λd f=>by
 obtain⟨z,hz,rfl⟩:=zn.mp f;obtain⟨t,h,hz⟩:=BQ.mp ((ii z _).mp hz);obtain⟨i,p,_,a,⟨q,hq,rfl⟩ | ⟨o,_,rfl⟩⟩:=b.1 t h
 ·rw[gF] at hz
  rcases yX.mp hz with rfl | hz
  ·exact⟨p,a,QQ⟩
  ·rw[y3.mp hz];exact⟨q,hq,QQ⟩
 ·rw[kY] at hz
  rw[y3.mp hz];exact⟨p,a,QQ⟩
theorem nZ{cf:CF}{ρ:yA (yF×D)}{z:yF}{E5:ME}{i:Int}{α:Type}{l:yA α}{g:α->D}{f:α->D}(c:evE cf ρ E5=ac (.tup (l.map g)))(j:l.length<=big)(h:∀ x∈l,aV (g x) (.int i)=ac (f x)) :
  evE cf ρ (.comp (.sub (.u z) (.int i)) z E5 [])=ac (.list (l.map f)):=by
 refine gQ c QQ (by rw[yI];exact j) ?_
 have:∀ a:yA α,(∀ x∈a,x∈l)->bS (kO cf ρ (.sub (.u z) (.int i)) z []) (a.map g)=ac (a.map f):=λa=>by
  induction a with
  | nil=>intro _;rfl
  | cons x a m=>
   intro b;rw[y8,bS,fN (d:=f x) (av (aC bO) vI (h x (b x (.head _))))];dsimp only;rw[m λy n=>b y (.tail _ n)]
   rfl
 exact this l λZ h=>h
end
set_option maxHeartbeats 400000
noncomputable def eG:yA D:=[.str (yB "table"),.str (yB "sieve"),.str (yB "pick"),.str (yB "join"),.str (yB "group"),.str (yB "order"),.str (yB "both"),.str (yB "once"),.str (yB "first")]
noncomputable def upon:yA yF:=["sieve","pick","group","order","once","first"]
theorem wd_mem{W:Wd}{nm:Str}{k:Nat}(h:W.lookup nm=ac k):mD (.str nm) W.d=ac yC/\aV W.d (.str nm)=ac (.int k):=by
 have j:dL (.str nm) (W.map λp=>D.str p.1)=yC:=by
  have:(W.map λp=>D.str p.1).all D.isCell=yC:=by rw[Bw];exact zk.mpr λZ Z=>QQ
  unfold dL;rw[this];rfl
 have go:∀ W:Wd,W.lookup nm=ac k->((W.map λp=>D.str p.1).any λx=>aN x (.str nm))=yC/\nQ (W.map λp=>D.str p.1) (W.map λp=>aM p.2) (.str nm)=ac (.int k):=λW=>by
  induction W with
  | nil=>intro h;cases h
  | cons p W m=>
   intro h;obtain⟨a,b⟩:=p;rw[y7] at h;have e:aN (.str a) (.str nm)=(a == nm):=rfl
   by_cases c:nm=a
   ·subst c
    rw[zg] at h;cases h;refine⟨by rw[y8,Ax,e,zg];rfl,?_⟩
    rw[y8,y8,nQ,e,zg];rfl
   ·rw[show (nm == a)=yz from by simpa using c] at h
    obtain⟨h1,f⟩:=m h;have i:(a == nm)=yz:=by simpa using λe=>c e.symm
    refine⟨by rw[y8,Ax,h1,EH],?_⟩
    rw[y8,y8,nQ,e,i];exact f
 obtain⟨h1,f⟩:=go W h;exact⟨by show (if dL _ _=yC then _ else _)=_;rw[yT j,h1],by show (if dL _ _=yC then _ else _)=_;rw[yT j];exact f⟩
section
variable {P:yA (yF×Fn)} {X:CF} {W:Wd}
theorem width_table(B:BW P)(f:X.glob "STEPS"=ac (.tup eG))(n:Nat){nm:Str}{k:Nat}(h:W.lookup nm=ac k):(af P X (n+1)).call "width" [(Q.table nm).d,W.d]=ac (.int k,yz):=by
 obtain⟨h1,i⟩:=wd_mem h;have j:(af P X n).glob "STEPS"=ac (.tup eG):=(se P X n "STEPS").trans f;have m:ec .NotIn (.str nm) W.d=ac (.bool yz):=by show (mD _ _).map _=_;rw[h1];rfl
 refine au B.wd QQ ?_;show Run _ _ [("query",(yz,.tup [sD "table",.str nm])),("widths",(yz,W.d))] _ _;generalize W.d=T at *;generalize af P X n=cf at *;unfold sD;exact aB (ai (aq (vsi ad QQ) QQ QQ)) (bc (ax (vr aw) (Eq.trans (sy _ _ _) j) QQ) QQ (λa=>zl a (dtt QQ)) λa=>bc (ax (vr aw) vS QQ) QQ (λc=>bc (ax (vsi (ag QQ (ao ad)) QQ) (vr (ag QQ (ao (ae QQ ad)))) m) QQ (λb=>oV b a) λa=>aE (aq (av (vr (ag QQ (ao (ae QQ ad)))) (vsi (ag QQ (ao ad)) QQ) i) QQ QQ) QQ) λa=>zl a (dtt QQ))
theorem eW(B:BW P)(j:X.glob "STEPS"=ac (.tup eG))(n:Nat){wd:yF}(h:wd∈upon){q I T:D}{a b:Nat}(i:aV q (.int 0)=ac (sD wd))(m:aV q (.int (-1))=ac I)
  (h1:(af P X n).call "width" [I,T]=ac (.int a,yz)) (o:(af P X n).call "width_upon" [q,.int a]=ac (.int b,yz)):(af P X (n+1)).call "width" [q,T]=ac (.int b,yz):=by
 have s:(af P X n).glob "STEPS"=ac (.tup eG):=(se P X n "STEPS").trans j;refine au B.wd QQ ?_;show Run _ _ [("query",(yz,q)),("widths",(yz,T))] _ _;generalize af P X n=cf at *;unfold sD at i;simp only[upon,yX,zK,Bf] at h
 rcases h with rfl | rfl | rfl | rfl | rfl | rfl
 all_goals exact aB (ai (aq (vsi ad i) QQ QQ)) (bc (ax (vr aw) (Eq.trans (sy _ _ _) s) QQ) QQ (λf=>zl f (dtt QQ)) λf=>bc (ax (vr aw) vS QQ) QQ (λc=>oV c f) λf=>bc (gB (ax (vr aw) vS QQ) λa=>bC (ax (vr aw) vS QQ)) QQ (λc=>oV c f) λf=>aE (aD (vv (ag QQ (ao ad)) (aa (am (aa (av (vr (ag QQ (ao ad))) ur m) (vv (ag QQ (ao (ae QQ ad))) vN)) h1) vN)) o) QQ)
theorem qy(B:BW P)(j:X.glob "STEPS"=ac (.tup eG))(n:Nat){wd:yF}(m:wd="join"\/wd="both"){q I J T:D}{a b c:Nat}(i:aV q (.int 0)=ac (sD wd))(h1:aV q (.int 1)=ac I)(o:aV q (.int 2)=ac J)
  (s:(af P X n).call "width" [I,T]=ac (.int a,yz)) (k2:(af P X n).call "width" [J,T]=ac (.int b,yz)) (t:(af P X n).call "width_of_two" [q,.int a,.int b]=ac (.int c,yz)):(af P X (n+1)).call "width" [q,T]=ac (.int c,yz):=by
 have u:(af P X n).glob "STEPS"=ac (.tup eG):=(se P X n "STEPS").trans j;refine au B.wd QQ ?_;show Run _ _ [("query",(yz,q)),("widths",(yz,T))] _ _;generalize af P X n=cf at *;unfold sD at i
 rcases m with rfl | rfl
 all_goals exact aB (ai (aq (vsi ad i) QQ QQ)) (bc (ax (vr aw) (Eq.trans (sy _ _ _) u) QQ) QQ (λf=>zl f (dtt QQ)) λf=>bc (ax (vr aw) vS QQ) QQ (λh=>oV h f) λf=>bc (gB (ax (vr aw) vS QQ) λa=>bC (ax (vr aw) vS QQ)) QQ (λf=>aB (ai (aD (aa (vsi (ag QQ (ao ad)) h1) (vv (ag QQ (ao (ae QQ ad))) vN)) s)) (aB (ai (aD (aa (vsi (ag QQ (ao (ag QQ (ao ad)))) o) (vv (ag QQ (ao (ag QQ (ao (ae QQ ad))))) vN)) k2)) (aE (aD (vv (ag QQ (ao (ag QQ (ao (ag QQ (ao ad)))))) (vv (ag QQ (ao aw)) (vv aw vN))) t) QQ))) λf=>zl f (dtt QQ))
end
set_option maxHeartbeats 400000
theorem vm{ps:yA Nat}{p:Nat}(h:p<ps.length):aV (.tup (ps.map aM)) (.int p)=ac (aM (ps.getD p 0)):=by
 refine sub_t (by rw[yI];exact h) ?_
 rw[Ag,yP h,yW,yP h];rfl
theorem lk_ne{σ:St}{x y:yF}{v w:yH×D}(h:(x == y)=yz)(k:σ.lookup x=ac v):(ay σ y w).lookup x=ac v:=by
 rw[aJ,yV (by rintro rfl;rw[zg] at h;cases h)];exact k
section
variable {P:yA (yF×Fn)} {X:CF}
section
variable {a:Nat}{I:D}
theorem l9{cf:CF}{σ:St}{w:yF}(b:w="sieve"\/w="order"\/w="once")(h1:Has σ "word" (sD w))(c:σ.lookup "within"=ac (yz,.int a)):Run cf (gT.body.drop 5) σ (.int a) yz:=by
 refine bc (k:=yz) (x:=.bool (yz&&yz)) (dh (k:=yz) (l:=yz) (ax (vr h1) vS ?_) nofun) QQ nofun λZ=>dK c
 unfold sD;rcases b with rfl | rfl | rfl <;> rfl
theorem upon_sieve(B:BW P)(n:Nat){cs:yA (yA D)}(i:∀ c∈cs,bV a c):(af P X (n+2)).call "width_upon" [.tup [sD "sieve",.tup (cs.map clD),I],.int a]=ac (.int a,yz):=by
 refine au B.wu QQ ?_;refine aB (ai (d:=sD "sieve") (fr:=yz) QQ) ?_;obtain⟨Fd,⟨b,j,m⟩,q⟩:=fU (cf:=af P X (n+1)) (body:=[.expr (.call "need_columns" [.call "places_of" [.u "clause"],.u "within"])]) (z:="clause")
  (λZ σ=>Has σ "word" (sD "sieve")/\σ.lookup "within"=ac (yz,.int a)/\Has σ "query" (.tup [sD "sieve",.tup (cs.map clD),I])) (cs.map clD) [] (freeze ["query"] (ay (settle (sD "sieve") ["query"] [("query",(yz,.tup [sD "sieve",.tup (cs.map clD),I])),("within",(yz,.int a))]) "word" (yz,sD "sieve")))
  ⟨bT aw,QQ,(bT (ag QQ (ao ad)))⟩ (by
   rintro x s y σ h ⟨b,j,m⟩;rw[AR] at h;obtain⟨c,f,rfl⟩:=zn.mp (by rw[h];simp:s∈cs.map clD)
   have t:=mt (X:=X) B n (i c f).1 (i c f).2;have k2:=cW (X:=X) B n (ls:=.list ((cL (c.flatMap fS)).map .int)) QQ (cls_places (i c f));have o:=lk_ne (y:="clause") (w:=(yz,clD c)) QQ j;refine aH (jA (d:=.none) (am (aa (am (vv aw vN) t) (vv ⟨_,o⟩ vN)) k2) QQ) (bq ⟨QQ,ag QQ b,o,ag QQ m⟩))
 refine bc (k:=yC) (ax (vr aw) vS QQ) QQ (λZ=>?_) nofun
 refine dW (x:=.tup (cs.map clD)) (EX:=cs.map clD) QQ QQ q ?_;unfold sD at b;refine bc (k:=yz) (ax (vr b) vS QQ) QQ nofun λZ=>bc (k:=yz) (ax (vr b) vS QQ) QQ nofun λZ=>bc (k:=yz) (ax (vr b) vS QQ) QQ nofun λZ=>?_
 exact l9 (.inl QQ) b j
theorem upon_pick(B:BW P)(n:Nat){ps:yA Nat}(b:∀ p∈ps,p<a):(af P X (n+2)).call "width_upon" [.tup [sD "pick",.tup (ps.map aM),I],.int a]=ac (.int ps.length,yz):=by
 have k2:=cW (X:=X) B n (ls:=.tup (ps.map aM)) (EX:=ps.map aM) QQ (kt (f:=λx=>x) b)
 refine au B.wu QQ ?_;refine aB (ai (d:=sD "pick") (fr:=yz) QQ) ?_;generalize af P X (n+1)=cf at *;refine bc (k:=yz) (ax (vr aw) vS QQ) QQ nofun λZ=>bc (k:=yC) (ax (vr aw) vS QQ) QQ (λZ=>?_) nofun
 refine aB (jA (d:=.none) (am (aa (d:=.tup (ps.map aM)) QQ (aa (d:=.int a) QQ vN)) k2) QQ) ?_;refine aE (aq (bR (aa (d:=.tup (ps.map aM)) QQ vN) ?_) QQ QQ) QQ;show ac (D.int ((ps.map aM).length:Nat))=_;rw[yI]
theorem upon_group(B:BW P)(n:Nat){ps:yA Nat}{b:yA (yF×Nat)}(h:∀ p∈ps,p<a)(i:∀ x∈b,x.2<a)(j:b.length<=1000):(af P X (n+2)).call "width_upon" [.tup [sD "group",.tup (ps.map aM),.tup (b.map dI),I],.int a]=ac (.int (ps.length+b.length:Nat),yz):=by
 have m:=cW (X:=X) B n (ls:=.tup (ps.map aM)) (EX:=ps.map aM) QQ (kt (f:=λx=>x) h)
 have k2:=cW (X:=X) B n (ls:=.list (b.map λx=>.int x.2)) QQ (kt (f:=λx:yF×Nat=>x.2) i)
 have c:2000<big:=by decide
 refine au B.wu QQ ?_;refine aB (ai (d:=sD "group") (fr:=yz) QQ) ?_;generalize af P X (n+1)=cf at *;refine bc (k:=yz) (ax (vr aw) vS QQ) QQ nofun λZ=>bc (k:=yz) (ax (vr aw) vS QQ) QQ nofun λZ=>bc (k:=yC) (ax (vr aw) vS QQ) QQ (λZ=>?_) nofun
 refine aB (jA (d:=.none) (am (aa (d:=.tup (ps.map aM)) QQ (aa (d:=.int a) QQ vN)) m) QQ) ?_;refine aB (jA (d:=.none) (am (aa (nZ (l:=b) (g:=dI) (f:=λx=>.int x.2) QQ (om82 j c) λx Z=>QQ) (aa (d:=.int a) QQ vN)) k2) QQ) ?_
 refine aE (aq (ak (bR (aa (d:=.tup (ps.map aM)) QQ vN) QQ) (bR (aa (d:=.tup (b.map dI)) QQ vN) QQ) ?_) QQ QQ) QQ;show ac (D.int (((ps.map aM).length:Nat)+((b.map dI).length:Nat):Int))=_;rw[yI,yI,Au]
theorem upon_order(B:BW P)(n:Nat){ks:yA (Nat×yH)}(c:∀ x∈ks,x.1<a)(h:ks.length<=1000):(af P X (n+2)).call "width_upon" [.tup [sD "order",.tup (ks.map eE),I],.int a]=ac (.int a,yz):=by
 have k2:=cW (X:=X) B n (ls:=.list (ks.map λx=>.int x.1)) QQ (kt (f:=λx:Nat×yH=>x.1) c)
 have b:2000<big:=by decide
 refine au B.wu QQ ?_;refine aB (ai (d:=sD "order") (fr:=yz) QQ) ?_;generalize af P X (n+1)=cf at *;refine bc (k:=yz) (ax (vr aw) vS QQ) QQ nofun λZ=>bc (k:=yz) (ax (vr aw) vS QQ) QQ nofun λZ=>bc (k:=yz) (ax (vr aw) vS QQ) QQ nofun λZ=>bc (k:=yC) (ax (vr aw) vS QQ) QQ (λZ=>?_) nofun
 refine aB (jA (d:=.none) (am (aa (nZ (l:=ks) (g:=eE) (f:=λx=>.int x.1) QQ (om82 h b) λx Z=>QQ) (aa (d:=.int a) QQ vN)) k2) QQ) ?_
 exact l9 (.inr (.inl QQ)) aw QQ
theorem upon_once(B:BW P)(n:Nat):(af P X (n+2)).call "width_upon" [.tup [sD "once",I],.int a]=ac (.int a,yz):=by
 refine au B.wu QQ ?_;refine aB (ai (d:=sD "once") (fr:=yz) QQ) ?_;generalize af P X (n+1)=cf at *;refine bc (k:=yz) (ax (vr aw) vS QQ) QQ nofun λZ=>bc (k:=yz) (ax (vr aw) vS QQ) QQ nofun λZ=>bc (k:=yz) (ax (vr aw) vS QQ) QQ nofun λZ=>bc (k:=yz) (ax (vr aw) vS QQ) QQ nofun λZ=>?_
 exact l9 (.inr (.inr QQ)) aw QQ
theorem upon_first(B:BW P)(n:Nat){c:Nat}:(af P X (n+2)).call "width_upon" [.tup [sD "first",aM c,I],.int a]=ac (.int a,yz):=by
 have b:ec .Lt (.int c) (.int 0)=ac (.bool yz):=by
  show ac (D.bool (decide ((c:Int)<0)))=_;rw[Ad (uF)]
 refine au B.wu QQ ?_;refine aB (ai (d:=sD "first") (fr:=yz) QQ) ?_;generalize af P X (n+1)=cf at *;refine bc (k:=yz) (ax (vr aw) vS QQ) QQ nofun λZ=>bc (k:=yz) (ax (vr aw) vS QQ) QQ nofun λZ=>bc (k:=yz) (ax (vr aw) vS QQ) QQ nofun λZ=>bc (k:=yz) (ax (vr aw) vS QQ) QQ nofun λZ=>?_
 refine bc (k:=yz) (x:=.bool (yC&&yz)) (dh (k:=yC) (l:=yz) (ax (vr aw) vS QQ) λZ=>bC (ax (av (x:=.tup [sD "first",aM c,I]) (y:=.int 1) QQ QQ QQ) vI b)) QQ nofun λZ=>dK QQ
theorem two_join(B:BW P)(n:Nat){prs:yA (Nat×Nat)}{J:D}{b:Nat}(h:∀ x∈prs,x.1<a/\x.2<b)(j:prs.length<=5000):(af P X (n+2)).call "width_of_two" [.tup [sD "join",I,J,.tup (prs.map prT)],.int a,.int b]=ac (.int (a+b:Nat),yz):=by
 have m:=cW (X:=X) B n (ls:=.list (prs.map λx=>.int x.1)) QQ (kt (f:=λx=>x.1) λx i=>(h x i).1)
 have k2:=cW (X:=X) B n (ls:=.list (prs.map λx=>.int x.2)) QQ (kt (f:=λx=>x.2) λx i=>(h x i).2)
 have c:5000<=big:=by decide
 refine au B.w2 QQ ?_;generalize af P X (n+1)=cf at *;refine bc (k:=yC) (ax (av (x:=.tup [sD "join",I,J,.tup (prs.map prT)]) (y:=.int 0) QQ QQ QQ) vS QQ) QQ (λZ=>?_) nofun
 refine aB (jA (d:=.none) (am (aa (nZ (l:=prs) (g:=prT) (f:=λx=>.int x.1) QQ (om83 j c) λx Z=>QQ) (aa (d:=.int a) QQ vN)) m) QQ) ?_
 refine aB (jA (d:=.none) (am (aa (nZ (l:=prs) (g:=prT) (f:=λx=>.int x.2) QQ (om83 j c) λx Z=>QQ) (aa (d:=.int b) QQ vN)) k2) QQ) ?_
 exact aE (aq (ak (x:=.int a) (y:=.int b) QQ QQ (by rw[Au];rfl)) QQ QQ) QQ
theorem two_both(B:BW P)(n:Nat){J:D}:(af P X (n+1)).call "width_of_two" [.tup [sD "both",I,J],.int a,.int a]=ac (.int a,yz):=by
 have e:ec .NotEq (.int a) (.int a)=ac (.bool yz):=by show ac (D.bool (!((a:Int) == a)))=_;rw[zg];rfl
 refine au B.w2 QQ ?_;generalize af P X n=cf at *;refine bc (k:=yz) (ax (av (x:=.tup [sD "both",I,J]) (y:=.int 0) QQ QQ QQ) vS QQ) QQ nofun λZ=>?_
 exact bc (k:=yz) (ax (x:=.int a) (y:=.int a) QQ QQ e) QQ nofun λZ=>dK QQ
theorem oy(B:BW P)(o:X.glob "STEPS"=ac (.tup eG)){W:Wd}:∀ (q:Q) (n:Nat),q.ok W->q.dp<=n->(af P X (n+3)).call "width" [q.d,W.d]=ac (.int (q.wd W),yz):=by
 intro q
 induction q with
 | table z=>
  rintro n ⟨k,h⟩ _;have:=width_table B o (n+2) h;rw[this,Q.wd,h];rfl
 | sieve A q j=>rintro n ⟨h1,m,_⟩ i;obtain⟨n,rfl,f⟩:=dpS i;exact eW B o _ (wd:="sieve") (by decide) QQ QQ (j n h1 f) (upon_sieve B (n+1) m)
 | pick ps q j=>rintro n ⟨h1,m,_⟩ i;obtain⟨n,rfl,f⟩:=dpS i;exact eW B o _ (wd:="pick") (by decide) QQ QQ (j n h1 f) (upon_pick B (n+1) m)
 | group ps C q j=>rintro n ⟨h1,m,s,_,w⟩ i;obtain⟨n,rfl,f⟩:=dpS i;exact eW B o _ (wd:="group") (by decide) QQ QQ (j n h1 f) (upon_group B (n+1) m s w)
 | order ks q j=>rintro n ⟨h1,m,s⟩ i;obtain⟨n,rfl,f⟩:=dpS i;exact eW B o _ (wd:="order") (by decide) QQ QQ (j n h1 f) (upon_order B (n+1) m s)
 | once q j=>rintro n h1 i;obtain⟨n,rfl,f⟩:=dpS i;exact eW B o _ (wd:="once") (by decide) QQ QQ (j n h1 f) (upon_once B (n+1))
 | first c q j=>rintro n h1 i;obtain⟨n,rfl,f⟩:=dpS i;exact eW B o _ (wd:="first") (by decide) QQ QQ (j n h1 f) (upon_first B (n+1))
 | join a b y t u=>rintro n ⟨h1,m,s,w⟩ i;obtain⟨n,rfl,f⟩:=dpS i;exact qy B o _ (.inl QQ) QQ QQ QQ (t n h1 (yD (zB _ _) f)) (u n m (yD (zz _ _) f)) (two_join B (n+1) s w)
 | both a b t u=>
  rintro n ⟨h1,m,s⟩ i;obtain⟨n,rfl,f⟩:=dpS i;have k2:=u n m (yD (zz _ _) f);rw[<- s] at k2;exact qy B o _ (.inr QQ) QQ QQ QQ (t n h1 (yD (zB _ _) f)) k2 (two_both B (n+2))
end
end
set_option maxHeartbeats 400000
noncomputable def tT:Fn:=⟨["one","other"],[
  .ret (.bop .And [.cmp .Eq (.isi (.u "one") "str") (.isi (.u "other") "str"),.cmp .Eq (.u "one") (.u "other")])]⟩
noncomputable def sr:Fn:=⟨["test","row"],[
  .x0 "one" (.sub (.u "row") (.sub (.u "test") (.int 1))),
  .x0 "other" (.sub (.u "test") (.int 3)),
  .ite (.cmp .Eq (.sub (.u "test") (.int 2)) (.str "col")) [.x0 "other" (.sub (.u "row") (.sub (.u "test") (.int 3)))] [],
  .x0 "word" (.sub (.u "test") (.int 0)),
  .ite (.cmp .Eq (.u "word") (.str "same")) [.ret (.call "alike" [.u "one",.u "other"])] [],
  .ite (.cmp .Eq (.u "word") (.str "unlike")) [.ret (.not (.call "alike" [.u "one",.u "other"]))] [],
  .ite (.cmp .Eq (.u "word") (.str "before")) [.ret (.call "before" [.u "one",.u "other"])] [],
  .ite (.cmp .Eq (.u "word") (.str "upto")) [.ret (.bop .Or [.call "before" [.u "one",.u "other"],.call "alike" [.u "one",.u "other"]])] [],
  .ite (.cmp .Eq (.u "word") (.str "behind")) [.ret (.call "before" [.u "other",.u "one"])] [],
  .ret (.bop .Or [.call "before" [.u "other",.u "one"],.call "alike" [.u "one",.u "other"]])]⟩
noncomputable def pJ:Fn:=⟨["clause","row"],[
  .for_ "test" (.u "clause") [.ite (.call "does" [.u "test",.u "row"]) [.ret (.bool yC)] []],
  .ret (.bool yz)]⟩
noncomputable def pI:Fn:=⟨["clauses","row"],[
  .for_ "clause" (.u "clauses") [.ite (.not (.call "holds" [.u "clause",.u "row"])) [.ret (.bool yz)] []],
  .ret (.bool yC)]⟩
noncomputable def nD:Fn:=⟨["row","places"],[
  .ret (.blt "tuple" [.comp (.sub (.u "row") (.u "place")) "place" (.u "places") []])]⟩
noncomputable def pH:Fn:=⟨["one","other","pairs"],[
  .for_ "pair" (.u "pairs") [.ite (.not (.call "alike" [.sub (.u "one") (.sub (.u "pair") (.int 0)),.sub (.u "other") (.sub (.u "pair") (.int 1))])) [.ret (.bool yz)] []],
  .ret (.bool yC)]⟩
noncomputable def uP:Fn:=⟨["first","second","pairs"],[
  .x0 "found" (.lst []),
  .for_ "one" (.u "first") [.for_ "other" (.u "second") [.ite (.call "meets" [.u "one",.u "other",.u "pairs"]) [.append "found" (.bin .Add (.u "one") (.u "other"))] []]],
  .ret (.u "found")]⟩
noncomputable def k5:Fn:=⟨["one","rows"],[
  .x0 "word" (.sub (.u "one") (.int 0)),
  .x0 "place" (.sub (.u "one") (.int 1)),
  .ite (.cmp .Eq (.u "word") (.str "count")) [.ret (.blt "len" [.u "rows"])] [],
  .ite (.cmp .Eq (.u "word") (.str "sum")) [.ret (.blt "sum" [.comp (.sub (.u "row") (.u "place")) "row" (.u "rows") [.not (.isi (.sub (.u "row") (.u "place")) "str")]])] [],
  .x0 "found" (.sub (.sub (.u "rows") (.int 0)) (.u "place")),
  .for_ "row" (.u "rows") [.ite (.bop .And [.cmp .Eq (.u "word") (.str "least"),.call "before" [.sub (.u "row") (.u "place"),.u "found"]]) [.x0 "found" (.sub (.u "row") (.u "place"))] [],.ite (.bop .And [.cmp .Eq (.u "word") (.str "most"),.call "before" [.u "found",.sub (.u "row") (.u "place")]]) [.x0 "found" (.sub (.u "row") (.u "place"))] []],
  .ret (.u "found")]⟩
noncomputable def k9:Fn:=⟨["rows","places","sums"],[
  .x0 "groups" (.dct [] []),
  .grp,
  .x0 "found" (.lst []),
  .for_ "own" (.u "groups") [.x0 "told" (.comp (.call "told_of" [.u "one",.sub (.u "groups") (.u "own")]) "one" (.u "sums") []),.append "found" (.bin .Add (.u "own") (.blt "tuple" [.u "told"]))],
  .ret (.u "found")]⟩
noncomputable def wq:Fn:=⟨["cell"],[
  .ret (.tup [.isi (.u "cell") "str",.u "cell"])]⟩
noncomputable def k7:Fn:=⟨["rows","keys"],[
  .x0 "found" (.lcp (.u "rows")),
  .forr "one" (.u "keys") [.x0 "place" (.sub (.u "one") (.int 0)),.ite (.sub (.u "one") (.int 1)) [.x0 "found" (.srt (.u "found") "rank" "row" "place" yC)] [.x0 "found" (.srt (.u "found") "rank" "row" "place" yz)]],
  .ret (.u "found")]⟩
noncomputable def sj:Fn:=⟨["rows"],[
  .x0 "known" (.dct [] []),
  .x0 "found" (.lst []),
  .for_ "row" (.u "rows") [.ite (.cmp .NotIn (.u "row") (.u "known")) [.setk "known" (.u "row") (.bool yC),.append "found" (.u "row")] []],
  .ret (.u "found")]⟩
noncomputable def k6:Fn:=⟨["query","rows"],[
  .x0 "word" (.sub (.u "query") (.int 0)),
  .ite (.cmp .Eq (.u "word") (.str "sieve")) [.ret (.comp (.u "row") "row" (.u "rows") [.call "keeps" [.sub (.u "query") (.int 1),.u "row"]])] [],
  .ite (.cmp .Eq (.u "word") (.str "pick")) [.ret (.comp (.call "cells_at" [.u "row",.sub (.u "query") (.int 1)]) "row" (.u "rows") [])] [],
  .ite (.cmp .Eq (.u "word") (.str "group")) [.ret (.call "grouped" [.u "rows",.sub (.u "query") (.int 1),.sub (.u "query") (.int 2)])] [],
  .ite (.cmp .Eq (.u "word") (.str "order")) [.ret (.call "ordered" [.u "rows",.sub (.u "query") (.int 1)])] [],
  .ite (.cmp .Eq (.u "word") (.str "once")) [.ret (.call "once" [.u "rows"])] [],
  .ret (.sl (.u "rows") .none (.sub (.u "query") (.int 1)))]⟩
noncomputable def kB:Fn:=⟨["query","tables"],[
  .x0 "word" (.sub (.u "query") (.int 0)),
  .ite (.cmp .NotIn (.u "word") (.glob "STEPS")) [.bad] [],
  .ite (.cmp .Eq (.u "word") (.str "table")) [.ite (.cmp .NotIn (.sub (.u "query") (.int 1)) (.u "tables")) [.bad] [],.ret (.lcp (.sub (.u "tables") (.sub (.u "query") (.int 1))))] [],
  .ite (.cmp .Eq (.u "word") (.str "join")) [.x0 "first" (.call "answer" [.sub (.u "query") (.int 1),.u "tables"]),.ret (.call "met" [.u "first",.call "answer" [.sub (.u "query") (.int 2),.u "tables"],.sub (.u "query") (.int 3)])] [],
  .ite (.cmp .Eq (.u "word") (.str "both")) [.x0 "first" (.call "answer" [.sub (.u "query") (.int 1),.u "tables"]),.ret (.bin .Add (.u "first") (.call "answer" [.sub (.u "query") (.int 2),.u "tables"]))] [],
  .ret (.call "stepped" [.u "query",.call "answer" [.sub (.u "query") (.neg (.int 1)),.u "tables"]])]⟩
structure BA(P:yA (yF×Fn)):Prop where
 before:P.lookup "before"=ac mT
 alike:P.lookup "alike"=ac tT
 does:P.lookup "does"=ac sr
 holds:P.lookup "holds"=ac pJ
 keeps:P.lookup "keeps"=ac pI
 cells_at:P.lookup "cells_at"=ac nD
 meets:P.lookup "meets"=ac pH
 met:P.lookup "met"=ac uP
 told_of:P.lookup "told_of"=ac k5
 grouped:P.lookup "grouped"=ac k9
 rank:P.lookup "rank"=ac wq
 ordered:P.lookup "ordered"=ac k7
 once:P.lookup "once"=ac sj
 stepped:P.lookup "stepped"=ac k6
 answer:P.lookup "answer"=ac kB
noncomputable def ji(w:yF)(a b:D):yH:=
 if w="same" then eu a b else if w="unlike" then !eu a b else if w="before" then aZ a b else if w="upto" then !aZ b a
 else if w="behind" then aZ b a else !aZ a b
noncomputable def othV(row:yA D)(a:yF)(o:D):D:=if a="col" then (match o with | .int q=>row.getD q.toNat .none | _=>.none) else o
noncomputable def tV(row:yA D)(t:D):yH:=match t with
 | .tup [.str w,.int p,.str a,o]=>["same","unlike","before","upto","behind","from"].any λx=>yB x == w&&ji x (row.getD p.toNat .none) (othV row (if a == yB "col" then "col" else "is") o)
 | _=>yz
theorem iL(row:yA D){w:yF}(a:w∈jh)(p:Nat)(b:yF)(o:D):tV row (tst w p b o)=ji w (row.getD p .none) (othV row (if b == "col" then "col" else "is") o):=by
 unfold tV tst;simp only[vx,Be];simp only[jh,yX,zK,Bf] at a
 rcases a with rfl | rfl | rfl | rfl | rfl | rfl <;> simp
section
variable {P:yA (yF×Fn)} {X:CF}
theorem sK{w:yF}(a:w∈jh):w="same"\/w="unlike"\/w="before"\/w="upto"\/w="behind"\/w="from":=by
 simpa only [jh,yX,zK,Bf] using a
theorem uj(B:BA P)(n:Nat)(a b:D)(c:a.isCell=yC)(f:b.isCell=yC):(af P X (n+1)).call "alike" [a,b]=ac (.bool (eu a b),yz):=by
 refine au B.alike QQ ?_;cases a <;> first | (cases c;done) | (cases b <;> first | (cases f;done) | rfl)
theorem jf(B:BA P)(n:Nat)(a b:D)(c:a.isCell=yC)(f:b.isCell=yC):(af P X (n+1)).call "before" [a,b]=ac (.bool (aZ a b),yz):=by
 refine au B.before QQ ?_;cases a <;> first | (cases c;done) | (cases b <;> first | (cases f;done) | rfl)
theorem mX{row:yA D}(b:∀ d∈row,d.isCell=yC){p:Nat}(a:p<row.length):(row.getD p .none).isCell=yC:=by
 rw[yW,yP a];exact b _ (Ay a)
variable {cf:CF} {σ:St} {t r:yA MS} {w w2:yF} {R:D} {fr:yH}
theorem skW(a:(yB w == yB w2)=yz)(h:Has σ "word" (sD w))(k:Run cf r σ R fr):Run cf (.ite (.cmp .Eq (.u "word") (.str w2)) t []::r) σ R fr:=
 bc (k:=yz) (x:=.bool yz) (ax (vr h) vS (by show ac (D.bool (yB w == yB w2))=_;rw[a])) QQ nofun λZ=>k
theorem mN(h:Has σ "word" (sD w))(k:Run cf (t++r) σ R fr):Run cf (.ite (.cmp .Eq (.u "word") (.str w)) t []::r) σ R fr:=
 bc (k:=yC) (x:=.bool yC) (ax (vr h) vS (by show ac (D.bool (yB w == yB w))=_;rw[zg])) QQ (λZ=>k) nofun
theorem rg(B:BA P)(n:Nat){w:yF}(y:w∈jh){a b:D}(f:a.isCell=yC)(h:b.isCell=yC){σ:St}(c:Has σ "word" (sD w))(m:Has σ "one" a)(o:Has σ "other" b):Run (af P X (n+1)) (sr.body.drop 4) σ (.bool (ji w a b)) yz:=by
 have j:=uj (X:=X) B n a b f h;have q:=jf (X:=X) B n a b f h;have s:=jf (X:=X) B n b a h f;have z:=tri f h;have t:=tri h f;rw[qe h f] at t;generalize af P X (n+1)=cf at *;have i:cn cf (vis σ) [.u "one",.u "other"]=ac [a,b]:=vv m (vv o vN);have u:cn cf (vis σ) [.u "other",.u "one"]=ac [b,a]:=vv o (vv m vN)
 rcases sK y with rfl | rfl | rfl | rfl | rfl | rfl
 ·exact mN c (aE (aD i j) QQ)
 ·exact skW (by decide +kernel) c (mN c (aE (aq (fP (am i j) QQ) QQ QQ) QQ))
 ·exact skW (by decide +kernel) c (skW (by decide +kernel) c (mN c (aE (aD i q) QQ)))
 ·show Run cf _ _ (.bool (!aZ b a)) _
  rw[<- t];exact skW (by decide +kernel) c (skW (by decide +kernel) c (skW (by decide +kernel) c (mN c (aE (aq (gB (am i q) λZ=>bC (am i j)) QQ QQ) QQ))))
 ·exact skW (by decide +kernel) c (skW (by decide +kernel) c (skW (by decide +kernel) c (skW (by decide +kernel) c (mN c (aE (aD u s) QQ)))))
 ·show Run cf _ _ (.bool (!aZ a b)) _
  rw[<- z];exact skW (by decide +kernel) c (skW (by decide +kernel) c (skW (by decide +kernel) c (skW (by decide +kernel) c (skW (by decide +kernel) c (aE (aq (gB (am u s) λZ=>bC (am i j)) QQ QQ) QQ)))))
theorem does_eq(B:BA P)(n:Nat){row:yA D}(h:∀ d∈row,d.isCell=yC){t:D}(j:Tst row.length t):(af P X (n+2)).call "does" [t,.tup row]=ac (.bool (tV row t),yz):=by
 obtain⟨w,p,c,i,a⟩:=j;have f:=mX h i;have h1:=sg i;refine au B.does QQ ?_
 rcases a with⟨q,hq,rfl⟩ | ⟨o,m,rfl⟩
 ·rw[show tV row (tst w p "col" (.int q))=ji w (row.getD p .none) (row.getD q .none) from iL row c p "col" (.int q)]
  have b:=mX h hq;refine aB (bh (d:=row.getD p .none) (fr:=yz) (aq (av (vr (ae QQ ad)) (av (x:=tst w p "col" (.int q)) (vr ad) vI QQ) h1) QQ QQ) f) (aB (bh (d:=.int q) (fr:=yz) (aq (av (x:=tst w p "col" (.int q)) (vr (ag QQ ad)) vI QQ) QQ QQ) QQ) (bc (k:=yC) (x:=.bool yC) (ax (av (x:=tst w p "col" (.int q)) (vr (ag QQ (ag QQ ad))) vI QQ) vS QQ) QQ (λZ=>?_) nofun))
  refine aB (bh (d:=row.getD q .none) (fr:=yz) (aq (av (vr (ag QQ (ag QQ (ae QQ ad)))) (av (x:=tst w p "col" (.int q)) (vr (ag QQ (ag QQ ad))) vI QQ) (sg hq)) QQ QQ) b) (aB (bh (d:=sD w) (fr:=yz) (aq (av (x:=tst w p "col" (.int q)) (vr (ag QQ (ag QQ (ag QQ ad)))) vI QQ) QQ QQ) QQ) ?_);exact rg B n c f b aw (ag QQ (ag QQ (ag QQ aw))) (ag QQ aw)
 ·rw[show tV row (tst w p "is" o)=ji w (row.getD p .none) o from iL row c p "is" o]
  have b:=m.cell;refine aB (bh (d:=row.getD p .none) (fr:=yz) (aq (av (vr (ae QQ ad)) (av (x:=tst w p "is" o) (vr ad) vI QQ) h1) QQ QQ) f) (aB (bh (d:=o) (fr:=yz) (aq (av (x:=tst w p "is" o) (vr (ag QQ ad)) vI QQ) QQ QQ) b) (bc (k:=yz) (x:=.bool yz) (ax (av (x:=tst w p "is" o) (vr (ag QQ (ag QQ ad))) vI QQ) vS QQ) QQ nofun λZ=>?_))
  exact aB (bh (d:=sD w) (fr:=yz) (aq (av (x:=tst w p "is" o) (vr (ag QQ (ag QQ ad))) vI QQ) QQ QQ) QQ) (rg B n c f b aw (ag QQ (ag QQ aw)) (ag QQ aw))
theorem holds_eq(B:BA P)(n:Nat){row:yA D}(h:∀ d∈row,d.isCell=yC){a:yA D}(i:∀ t∈a,Tst row.length t):(af P X (n+3)).call "holds" [.tup a,.tup row]=ac (.bool (a.any (tV row)),yz):=by
 refine au B.holds QQ ?_;show Run _ pJ.body [("clause",(yz,.tup a)),("row",(yz,.tup row))] _ _;obtain⟨Fd,j,k2⟩:=mE (cf:=af P X (n+2)) (body:=[.ite (.call "does" [.u "test",.u "row"]) [.ret (.bool yC)] []]) (z:="test") (tV row) (λσ=>Has σ "row" (.tup row)) yz (.bool yC) a (λt c σ b=>cD (am (vv aw (vv (ag QQ b) vN)) (does_eq B n h (i t c))) QQ (λq=>tn (aq vB QQ QQ) QQ (rX q QQ)) λq=>bq (rY q ⟨QQ,ag QQ b⟩)) _ (bT (ns:=["clause"]) (σ:=[("clause",(yz,.tup a)),("row",(yz,.tup row))]) (ae QQ ad))
 cases f:a.any (tV row) with
 | true=>exact mr (vr ad) QQ (j f)
 | false=>exact dW (vr ad) QQ (k2 f).2 (aE (aq vB QQ QQ) QQ)
end
section
variable {α:Type} {cf:CF} {body:yA MS} {z:yF} {g:α->D}
theorem gH(I:yA α->St->Prop):∀ (l a:yA α) (σ:St),I a σ->(∀ (b:yA α) (x:α) (σ:St),x∈l->b.length<a.length+l.length->I b σ->Out cf body (ay σ z (yz,g x)) λi Fd=>i=.next/\I (b++[x]) Fd)->∃ Fd,I (a++l) Fd/\cF (dq cf body z) (l.map g) σ=ac (.next,Fd)
 | [],a,σ,h,_=>⟨σ,(zm a).symm▸h,QQ⟩
 | x::l,a,σ,h,j=>by
  obtain⟨i,c,⟨rfl,n⟩,e⟩:=j a x σ (.head _) (Ak (Ac _)) h;obtain⟨f,o,q⟩:=gH I l (a++[x]) c n λb y s t m h=>j b y s (.tail _ t) (by rw[yY] at m;exact yZ m (y5 (by rw[Ah,z5 [x].length];rfl))) h
  exact⟨f,by rw[B7];exact o,by rw[y8,cy,e];exact q⟩
theorem findT(p:α->yH)(I:St->Prop)(fr:yH)(d:D):∀ (l:yA α),(∀ x∈l,∀ σ,I σ->Out cf body (ay σ z (yz,g x)) λc Fd=>if p x=yC then c=.ret fr d else c=.next/\I Fd) ->
  ∀ σ,I σ->∃ Fd,(l.any p=yC->cF (dq cf body z) (l.map g) σ=ac (.ret fr d,Fd))/\(l.any p=yz->I Fd/\cF (dq cf body z) (l.map g) σ=ac (.next,Fd))
 | [],_,σ,b=>⟨σ,nofun,λZ=>⟨b,QQ⟩⟩
 | x::r,h,σ,b=>by
  obtain⟨c,a,q,e⟩:=h x (.head _) σ b;rw[Ax,y8,cy,e];cases f:p x with
  | true=>
   rw[yT f] at q;subst q;exact⟨a,λZ=>QQ,nofun⟩
  | false=>
   rw[yV (by rw[f];exact yQ)] at q
   obtain⟨rfl,j⟩:=q;exact findT p I fr d r (λi m=>h i (.tail _ m)) a j
theorem s4(p:α->yH)(l:yA α){s:yF}{c:ME}{b:yH}{σ:St}(f:Has σ s (.tup (l.map g)))(I:St->Prop)(n:I (freeze [s] σ))(i:∀ x∈l,∀ σ,I σ->I (ay σ z (yz,g x))/\evE cf (vis (ay σ z (yz,g x))) c=ac (.bool (p x))) :
  Run cf [.for_ z (.u s) [.ite c [.ret (.bool b)] []],.ret (.bool (!b))] σ (.bool (if l.any p=yC then b else !b)) yz:=by
 obtain⟨Fd,o,k2⟩:=findT (cf:=cf) (body:=[.ite c [.ret (.bool b)] []]) (z:=z) (g:=g) p I yz (.bool b) l (λx j σ a=>cD (i x j σ a).2 QQ (λh=>tn (aq vB QQ QQ) QQ (by rw[yT h];rfl)) λh=>bq (by rw[h,yV yQ];exact⟨QQ,(i x j σ a).1⟩)) _ n
 cases m:l.any p with
 | true=>exact mr (vr f) QQ (o m)
 | false=>exact dW (vr f) QQ (k2 m).2 (aE (aq vB QQ QQ) QQ)
theorem gP{ρ:yA (yF×D)}{elt E5:ME}{f:α->D}{l:yA α}{d:D}(a:evE cf ρ E5=ac d)(hi:d.items=ac (l.map g))(b:l.length<=big)(h:∀ x∈l,evE cf ((z,g x)::ρ) elt=ac (f x)):evE cf ρ (.comp elt z E5 [])=ac (.list (l.map f)):=
 gQ a hi (by rw[yI];exact b) (pR _ _ _ _ λx c=>fN (h x c))
end
noncomputable abbrev Tab:=yA (yA D)
noncomputable def bB(m:Nat)(r:yA D):Prop:=r.length=m/\∀ d∈r,d.isCell=yC
noncomputable def aP(m:Nat)(t:Tab):Prop:=∀ r∈t,bB m r
noncomputable def az(t:Tab):D:=.list (t.map .tup)
noncomputable def aK(cs:yA (yA D))(row:yA D):yH:=cs.all λc=>c.any (tV row)
noncomputable def aQ(ps:yA Nat)(row:yA D):yA D:=ps.map λp=>row.getD p .none
noncomputable def br(prs:yA (Nat×Nat))(a b:yA D):yH:=prs.all λp=>eu (a.getD p.1 .none) (b.getD p.2 .none)
theorem vU{α:Type}(q:α->yH)(l:yA α):(if (l.any λx=>!q x)=yC then yz else !yz)=l.all q:=by
 rw[<- List.not_all_eq_any_not];cases l.all q <;> rfl
section
variable {P:yA (yF×Fn)} {X:CF}
theorem hZ{m p:Nat}{r:yA D}(a:bB m r)(b:p<m):aV (.tup r) (.int p)=ac (r.getD p .none):=sg (a.1.symm▸b)
theorem dC{m p:Nat}{r:yA D}(a:bB m r)(b:p<m):(r.getD p .none).isCell=yC:=mX a.2 (a.1.symm▸b)
theorem keeps_eq(B:BA P)(n:Nat){m:Nat}{row:yA D}(h:bB m row){cs:yA (yA D)}(i:∀ c∈cs,bV m c):(af P X (n+4)).call "keeps" [.tup (cs.map clD),.tup row]=ac (.bool (aK cs row),yz):=by
 refine au B.keeps QQ ?_;show Run _ pI.body [("clauses",(yz,.tup (cs.map clD))),("row",(yz,.tup row))] _ _;have q:=s4 (cf:=af P X (n+3)) (z:="clause") (g:=clD) (s:="clauses") (σ:=[("clauses",(yz,.tup (cs.map clD))),("row",(yz,.tup row))]) (c:=.not (.call "holds" [.u "clause",.u "row"])) (b:=yz) (λc=>!c.any (tV row)) cs ad (λσ=>Has σ "row" (.tup row)) (bT (ae QQ ad)) λc f σ a=>⟨ag QQ a,fP (am (vv aw (vv (ag QQ a) vN)) (holds_eq B n h.2 λt j=>h.1.symm▸(i c f).1 t j)) QQ⟩
 rw[vU] at q;exact q
theorem uc(B:BA P)(n:Nat){m:Nat}{row:yA D}(b:bB m row){ps:yA Nat}(c:∀ p∈ps,p<m)(h:ps.length<=big):(af P X (n+1)).call "cells_at" [.tup row,.tup (ps.map aM)]=ac (.tup (aQ ps row),yz):=by
 refine au B.cells_at QQ (aE (aq (bR (aa (gP (g:=aM) (l:=ps) (f:=λp=>row.getD p .none) (vr (ae QQ ad)) QQ h λp a=>av (aC (bj QQ (aF ad))) (aC bO) (hZ b (c p a))) vN) QQ) QQ QQ) QQ)
theorem meets_eq(B:BA P)(n:Nat){m k:Nat}{a b:yA D}(j:bB m a)(o:bB k b){prs:yA (Nat×Nat)}(i:∀ p∈prs,p.1<m/\p.2<k):(af P X (n+2)).call "meets" [.tup a,.tup b,.tup (prs.map prT)]=ac (.bool (br prs a b),yz):=by
 refine au B.meets QQ ?_;show Run _ pH.body [("one",(yz,.tup a)),("other",(yz,.tup b)),("pairs",(yz,.tup (prs.map prT)))] _ _;have q:=s4 (cf:=af P X (n+1)) (z:="pair") (g:=prT) (s:="pairs") (σ:=[("one",(yz,.tup a)),("other",(yz,.tup b)),("pairs",(yz,.tup (prs.map prT)))]) (c:=.not (.call "alike" [.sub (.u "one") (.sub (.u "pair") (.int 0)),.sub (.u "other") (.sub (.u "pair") (.int 1))])) (b:=yz) (λp=>!eu (a.getD p.1 .none) (b.getD p.2 .none)) prs (ae QQ (ae QQ ad)) (λσ=>Has σ "one" (.tup a)/\Has σ "other" (.tup b)) ⟨bT ad,bT (ae QQ ad)⟩ λp f σ h=>⟨⟨ag QQ h.1,ag QQ h.2⟩,
  fP (am (aa (av (vr (ag QQ h.1)) (av (x:=prT p) (vr aw) vI QQ) (hZ j (i p f).1)) (aa (av (vr (ag QQ h.2)) (av (x:=prT p) (vr aw) vI QQ) (hZ o (i p f).2)) vN)) (uj B n _ _ (dC j (i p f).1) (dC o (i p f).2))) QQ⟩
 rw[vU] at q;exact q
end
noncomputable def iR(prs:yA (Nat×Nat))(b c:Tab):Tab:=b.flatMap λa=>(c.filter (br prs a)).map (a++·)
theorem oW(prs:yA (Nat×Nat))(b c:Tab):(iR prs b c).length<=b.length * c.length:=by
 induction b with
 | nil=>exact za _
 | cons a b f=>
  show (_++iR prs b c).length<=_;rw[yY,yI,Ae,Nat.succ_mul,z5];exact ze f (z7 _ _)
theorem qT(prs:yA (Nat×Nat))(c b:Tab)(a:yA D):iR prs (c++[a]) b=iR prs c b++(b.filter (br prs a)).map (a++·):=by
 unfold iR;rw[D3,Dt,EI,zm]
theorem ez(t:Tab)(r:yA D):az (t++[r])=.list (t.map .tup++[.tup r]):=by unfold az;rw[zd];rfl
section
variable {P:yA (yF×Fn)} {X:CF}
noncomputable abbrev xE:yA MS:=[.ite (.call "meets" [.u "one",.u "other",.u "pairs"]) [.append "found" (.bin .Add (.u "one") (.u "other"))] []]
structure MetI(t2:Tab)(prs:yA (Nat×Nat))(acc:Tab)(σ:St):Prop where
 s:Has σ "second" (az t2)
 p:Has σ "pairs" (.tup (prs.map prT))
 f:bF σ "found" (az acc)
theorem met_in(B:BA P)(n:Nat){m k:Nat}{a:yA D}{f acc:Tab}(o:bB m a)(q:aP k f)(w:m+k<=big){prs:yA (Nat×Nat)}(y:∀ p∈prs,p.1<m/\p.2<k)(A:acc.length+f.length<=big){σ:St}(h1:Has σ "one" (.tup a))(I:MetI f prs acc σ) :
  ∃ Fd,MetI f prs (acc++(f.filter (br prs a)).map (a++·)) Fd/\cF (dq (af P X (n+2)) xE "other") (f.map .tup) σ=ac (.next,Fd):=by
 obtain⟨Fd,C,e⟩:=gH (cf:=af P X (n+2)) (body:=xE) (z:="other") (g:=D.tup) (λc σ=>Has σ "one" (.tup a)/\MetI f prs (acc++(c.filter (br prs a)).map (a++·)) σ) f [] σ ⟨h1,by rw[A7,EJ,zm];exact I⟩ (by
  rintro c b σ s E ⟨i,t,j,u⟩;refine cD (am (vv (ag QQ i) (vv aw (vv (ag QQ j) vN))) (meets_eq B n o (q b s) y)) QQ (λh=>?_) λh=>?_
  ·refine aH (bN (d:=.tup (a++b)) (ds:=((acc++(c.filter (br prs a)).map (a++·)).map .tup)) (ak (vr (ag QQ i)) (vr aw) (yT (by rw[o.1,(q b s).1];exact w))) (bW QQ (bD QQ u)) ?_) (bq ⟨QQ,ag QQ (ao (ag QQ i)),ag QQ (ao (ag QQ t)),ag QQ (ao (ag QQ j)),?_⟩)
   ·rw[yI,yY,yI]
    exact yZ (Nat.add_lt_add_left (yO (z7 _ _) (z6 f.length▸E)) _) A
   ·rw[show acc++((c++[b]).filter (br prs a)).map (a++·)=acc++(c.filter (br prs a)).map (a++·)++[a++b] from by rw[zP,show[b].filter (br prs a)=[b] from zc h,zd,B1];rfl,ez]
    exact dg
  ·refine bq ⟨QQ,ag QQ i,ag QQ t,ag QQ j,?_⟩
   rw[zP,show[b].filter (br prs a)=[] from zw (by rw[h];nofun),zm]
   exact bD QQ u)
 exact⟨Fd,C.2,e⟩
theorem met_eq(B:BA P)(n:Nat){m k:Nat}{h c:Tab}(h1:aP m h)(o:aP k c)(q:h.length<=60)(i:c.length<=60)(s:m+k<=big){prs:yA (Nat×Nat)}(t:∀ p∈prs,p.1<m/\p.2<k) :
  (af P X (n+3)).call "met" [az h,az c,.tup (prs.map prT)]=ac (az (iR prs h c),yC):=by
 refine au B.met QQ ?_;show Run _ uP.body [("first",(yz,az h)),("second",(yz,az c)),("pairs",(yz,.tup (prs.map prT)))] _ _;refine aB (ai (d:=.list []) (fr:=yC) QQ) ?_;obtain⟨Fd,u,e⟩:=gH (cf:=af P X (n+2)) (body:=[.for_ "other" (.u "second") xE]) (z:="one") (g:=D.tup) (λb σ=>MetI c prs (iR prs b c) σ) h [] (freeze ["first"] (ay [("first",(yz,az h)),("second",(yz,az c)),("pairs",(yz,.tup (prs.map prT)))] "found" (yC,.list []))) ⟨bT (ag QQ (ae QQ ad)),bT (ag QQ (ae QQ (ae QQ ad))),gz QQ dg⟩ (by
  rintro b a σ w y ⟨j,A,C⟩;obtain⟨E,J,e⟩:=met_in (X:=X) (σ:=freeze ["second"] (ay σ "one" (yz,.tup a))) B n (h1 a w) o s t (acc:=iR prs b c) (yD (ze (yD (oW prs b c) (Dh (yD (zy (z6 h.length▸y)) q) i)) i) (by decide)) (bT aw) ⟨bT (ag QQ j),bT (ag QQ A),gz QQ (bD QQ C)⟩
  refine vz (vr (ag QQ j)) QQ e (bq ⟨QQ,?_⟩);rw[qT];exact J)
 exact dW (vr (ag QQ ad)) QQ e (dK u.f)
end
noncomputable def gG(acc:Tab)(r:yA D):Tab:=if (acc.any λx=>aA x r)=yC then acc else acc++[r]
noncomputable def aX(t:Tab):Tab:=t.foldl gG []
theorem eZ(t:Tab)(r:yA D):aX (t++[r])=gG (aX t) r:=by unfold aX;rw[Bg];rfl
theorem onceS_len(t:Tab)(r:yA D):(gG t r).length<=t.length+1:=by
 unfold gG;split
 ·exact AB _
 ·rw[yY];exact y0 _
theorem mB{t:Tab}:(∀ r∈aX t,r∈t)/\(aX t).length<=t.length:=by
 have a:∀ (l acc:Tab),(∀ r∈l.foldl gG acc,r∈acc\/r∈l)/\(l.foldl gG acc).length<=acc.length+l.length:=by
  intro l
  induction l with
  | nil=>exact λacc=>⟨λr h=>.inl h,y0 _⟩
  | cons x l b=>
   intro acc;have i:=b (gG acc x);refine⟨λr h=>(i.1 r h).elim (λh=>?_) λh=>.inr (.tail _ h),yD i.2 (yD (zs (onceS_len acc x) _) (y5 (by rw[Ah,z5 1];rfl)))⟩
   unfold gG at h;split at h
   ·exact .inl h
   ·exact (zA.mp h).elim .inl λh=>.inr (y3.mp h▸.head _)
 exact⟨λr h=>((a t []).1 r h).elim (λh=>nomatch h) id,yD (a t []).2 (y5 (z6 _))⟩
theorem sA{k d:D}:∀ {ks vs:yA D},ks.length=vs.length->(∀ x∈ks,aN x k=yz)->dG ks vs k d=(ks++[k],vs++[d])
 | [],[],_,_=>rfl
 | x::ks,v::vs,a,h=>by
  rw[om,h x (.head _),yV yQ,sA (Am a) λy b=>h y (.tail _ b)];rfl
theorem kW{m:Nat}{r:yA D}(h:bB m r):(D.tup r).isTK=yC:=zk.mpr h.2
theorem rG{m:Nat}{t:Tab}(h:aP m t):(t.map D.tup).all D.isTK=yC:=zk.mpr λd a=>(zn.mp a).elim λr q=>q.2▸kW (h r q.1)
section
variable {P:yA (yF×Fn)} {X:CF}
theorem jZ(acc:Tab)(r:yA D):((acc.map D.tup).any λx=>aN x (.tup r))=acc.any λx=>aA x r:=by rw[List.any_map];rfl
theorem once_eq(B:BA P)(n:Nat){m:Nat}{t:Tab}(h:aP m t)(y:t.length<big):(af P X (n+1)).call "once" [az t]=ac (az (aX t),yC):=by
 refine au B.once QQ ?_;show Run _ sj.body [("rows",(yz,az t))] _ _;refine aB (ai (d:=.dict [] []) (fr:=yC) QQ) (aB (ai (d:=.list []) (fr:=yC) QQ) ?_);obtain⟨Fd,A,e⟩:=gH (cf:=af P X n) (body:=[.ite (.cmp .NotIn (.u "row") (.u "known")) [.setk "known" (.u "row") (.bool yC),.append "found" (.u "row")] []]) (z:="row") (g:=D.tup) (λb σ=>aP m (aX b)/\(aX b).length<=b.length/\bF σ "known" (.dict ((aX b).map .tup) ((aX b).map λZ=>.bool yC))/\bF σ "found" (az (aX b))) t []
  (freeze ["rows"] (ay (ay [("rows",(yz,az t))] "known" (yC,.dict [] [])) "found" (yC,.list []))) ⟨(λZ h=>nomatch h),y0 _,gz QQ (bD QQ dg),gz QQ dg⟩ (by
  rintro b r σ i C ⟨f,j,o,w⟩;have E:mD (.tup r) (.dict ((aX b).map .tup) ((aX b).map λZ=>.bool yC))=ac ((aX b).any λx=>aA x r):=by
   rw[<- jZ];exact yT (by unfold dL;rw[kW (h r i),rG f];exact EH _)
  have G:evE (af P X n) (vis (ay σ "row" (yz,.tup r))) (.cmp .NotIn (.u "row") (.u "known"))=ac (.bool (!(aX b).any λx=>aA x r)):=ax (vr aw) (vr (ag QQ (iy o))) (by show (mD _ _).map _=_;rw[E];rfl)
  have c:(aX b).length<big:=yO j (zM (z6 t.length▸C) y);refine cD G QQ (λa=>?_) λa=>?_
  ·have a:((aX b).any λx=>aA x r)=yz:=by cases e:(aX b).any λx=>aA x r with | false=>rfl | true=>rw[e] at a;cases a
   have e1:aX (b++[r])=aX b++[r]:=by rw[eZ];unfold gG;rw[a,yV yQ]
   have s:∀ x∈(aX b).map D.tup,aN x (.tup r)=yz:=λx u=>Cz.mpr λq=>by
    have:=CU (p:=λx=>aN x (.tup r)).mpr ⟨x,u,q⟩
    rw[jZ,a] at this;cases this
   refine aH (uE (d:=.bool yC) (dk:=.tup r) (ks:=(aX b).map .tup) (vs:=(aX b).map λZ=>.bool yC) vB (vr aw) (bW QQ (bW QQ (bD QQ o))) ?_) ?_
   ·unfold dL;rw[kW (h r i),rG f,yI,Af c];cases (D.tup r).isCell&&((aX b).map D.tup).all D.isCell <;> rfl
   refine aH (bN (d:=.tup r) (ds:=(aX b).map .tup) (vr (ag QQ (ao (ao aw)))) (bW QQ (bD QQ (bW QQ (bW QQ (bD QQ w))))) (by rw[yI];exact c)) (bq ⟨QQ,?_,?_,?_,?_⟩)
   ·rw[e1];exact λx u=>(zA.mp u).elim (f x) λq=>y3.mp q▸h r i
   ·rw[e1,yY,yY];exact zb j
   ·rw[e1,zd,zd,sA (by rw[yI,yI]) s]
    exact bD QQ (bW QQ dg)
   ·rw[e1,ez];exact dg
  ·have a:((aX b).any λx=>aA x r)=yC:=by cases e:(aX b).any λx=>aA x r with | true=>rfl | false=>rw[e] at a;cases a
   have e1:aX (b++[r])=aX b:=by rw[eZ];unfold gG;rw[a,yT rfl]
   rw[e1];exact bq ⟨QQ,f,by rw[yY];exact zO j,bD QQ o,bD QQ w⟩)
 exact dW (vr (ag QQ (ao (ag QQ (ao ad))))) QQ e (dK A.2.2.2)
end
theorem jV{α:Type}{f:D->yK (yK D)}{h g:α->D}{p:α->yH}:∀ l:yA α,(∀ a∈l,f (h a)=ac (if p a=yC then ac (g a) else yS))->bS f (l.map h)=ac ((l.filter p).map g)
 | [],_=>rfl
 | a::l,H=>by
  rw[y8,bS,H a (.head _),jV l λb i=>H b (.tail _ i)]
  cases c:p a with
  | true=>rw[zc c];rfl
  | false=>rw[zw (by rw[c];nofun)];rfl
noncomputable def col(p:Nat)(t:Tab):yA D:=t.map (·.getD p .none)
noncomputable def eqW(w x:yF):yH:=yB w == yB x
noncomputable def uy(cs:yA D):Int:=(nK (cs.filter λc=>!dM c)).getD 0
noncomputable def gD(w:yF)(f c:D):D:=
 if (eqW w "most"&&aZ (if (eqW w "least"&&aZ c f)=yC then c else f) c)=yC then c else if (eqW w "least"&&aZ c f)=yC then c else f
noncomputable def oD(w:yF)(cs:yA D):D:=if eqW w "count"=yC then .int cs.length else if eqW w "sum"=yC then .int (uy cs) else cs.foldl (gD w) (cs.headD .none)
theorem mh:∀ {cs:yA D},(∀ c∈cs,c.isCell=yC)->nK (cs.filter λc=>!dM c)=ac (uy cs)
 | [],_=>rfl
 | c::cs,h=>by
  have a:=mh λd b=>h d (.tail _ b)
  unfold uy;refine aS (C:=λc=>nK ((c::cs).filter λc=>!dM c)=ac ((nK ((c::cs).filter λc=>!dM c)).getD 0)) (h c (.head _)) (λi=>?_) λx=>?_
  ·rw[zc rfl,nK,a];rfl
  ·rw[zw (by nofun),a];rfl
theorem tC{b:yH}{x y:D}(a:x.isCell=yC)(c:y.isCell=yC):(if b=yC then x else y).isCell=yC:=by
 cases b with
 | true=>exact a
 | false=>exact c
theorem stepT_cell{w:yF}{f c:D}(b:f.isCell=yC)(a:c.isCell=yC):(gD w f c).isCell=yC:=tC a (tC a b)
theorem mS{w:yF}:∀ {cs:yA D} {f:D},f.isCell=yC->(∀ c∈cs,c.isCell=yC)->(cs.foldl (gD w) f).isCell=yC
 | [],_,a,_=>a
 | c::cs,_,a,h=>mS (cs:=cs) (stepT_cell a (h c (.head _))) λd b=>h d (.tail _ b)
theorem told_cell{w:yF}{c:D}{cs:yA D}(h:∀ d∈c::cs,d.isCell=yC):(oD w (c::cs)).isCell=yC:=by
 unfold oD;split
 ·rfl
 ·split
  ·rfl
  ·exact mS (h c (.head _)) h
theorem jW{m p:Nat}{t:Tab}(h:aP m t)(a:p<m):∀ c∈col p t,c.isCell=yC:=λc b=>(zn.mp b).elim λr q=>q.2▸dC (h r q.1) a
theorem r5{c:D}(h:c.isCell=yC):pp c "str"=ac (dM c):=aS (C:=λc=>pp c "str"=ac (dM c)) h (λZ=>QQ) λZ=>QQ
section
variable {P:yA (yF×Fn)} {X:CF}
noncomputable abbrev xg:yA MS:=[.ite (.bop .And [.cmp .Eq (.u "word") (.str "least"),.call "before" [.sub (.u "row") (.u "place"),.u "found"]]) [.x0 "found" (.sub (.u "row") (.u "place"))] [],.ite (.bop .And [.cmp .Eq (.u "word") (.str "most"),.call "before" [.u "found",.sub (.u "row") (.u "place")]]) [.x0 "found" (.sub (.u "row") (.u "place"))] []]
structure iJ(w:yF)(p:Nat)(f:D)(σ:St):Prop where
 w:Has σ "word" (sD w)
 p:Has σ "place" (aM p)
 f:σ.lookup "found"=ac (yz,f)
theorem iJ.set{w:yF}{p:Nat}{f a:D}{σ:St}(I:iJ w p f σ):iJ w p a (ay σ "found" (yz,a)):=⟨ag QQ I.w,ag QQ I.p,by rw[aJ,yT rfl]⟩
theorem iJ.row{w:yF}{p:Nat}{f d:D}{σ:St}(I:iJ w p f σ):iJ w p f (ay σ "row" (yz,d)):=⟨ag QQ I.w,ag QQ I.p,by rw[aJ,yV (by decide)];exact I.f⟩
theorem told_turn(B:BA P)(n:Nat){w:yF}{p m:Nat}{f:D}{r:yA D}(b:f.isCell=yC)(j:bB m r)(o:p<m){σ:St}(I:iJ w p f σ)(h1:Has σ "row" (.tup r)):Out (af P X (n+1)) xg σ λi Fd=>i=.next/\iJ w p (gD w f (r.getD p .none)) Fd:=by
 have a:=dC j o;have c:∀ {σ f},iJ w p f σ->Has σ "row" (.tup r)->evE (af P X (n+1)) (vis σ) (.sub (.u "row") (.u "place"))=ac (r.getD p .none):=λI h=>av (vr h) (vr I.p) (hZ j o)
 have two:∀ {σ f},f.isCell=yC->iJ w p f σ->Has σ "row" (.tup r)->(∀ G,iJ w p (if (eqW w "most"&&aZ f (r.getD p .none))=yC then r.getD p .none else f) G->True)->Out (af P X (n+1)) (xg.drop 1) σ λi Fd=>i=.next/\iJ w p (if (eqW w "most"&&aZ f (r.getD p .none))=yC then r.getD p .none else f) Fd:=λ{σ f} b I h _=>
  cD (dh (k:=eqW w "most") (l:=aZ f (r.getD p .none)) (ax (vr I.w) vS QQ) λZ=>bC (am (vv ⟨_,I.f⟩ (aa (c I h) vN)) (jf B n _ _ b a))) QQ
   (λq=>aH (bh (aq (c I h) QQ QQ) a) (bq ⟨QQ,by rw[yT q];exact I.set⟩)) λq=>bq ⟨QQ,by rw[q,yV yQ];exact I⟩
 unfold gD;refine cD (dh (k:=eqW w "least") (l:=aZ (r.getD p .none) f) (ax (vr I.w) vS QQ) λZ=>bC (am (aa (c I h1) (vv ⟨_,I.f⟩ vN)) (jf B n _ _ a b))) QQ (λq=>?_) λq=>?_
 ·rw[yT q]
  exact aH (bh (aq (c I h1) QQ QQ) a) (two a I.set (ag QQ h1) λZ Z=>trivial)
 ·rw[q,yV yQ]
  exact two b I h1 λZ Z=>trivial
theorem told_eq(B:BA P)(n:Nat){m:Nat}{a:yA D}{o:Tab}(h:aP m (a::o))(N:(a::o).length<=big)(w:yF){p:Nat}(s:p<m):(af P X (n+2)).call "told_of" [dI (w,p),az (a::o)]=ac (oD w (col p (a::o)),yz):=by
 refine au B.told_of QQ ?_;show Run _ k5.body [("one",(yz,dI (w,p))),("rows",(yz,az (a::o)))] _ _;have A:=jW h s;refine aB (bh (d:=sD w) (fr:=yz) (aq (av (x:=dI (w,p)) (vr ad) vI QQ) QQ QQ) QQ) (aB (bh (d:=aM p) (fr:=yz) (aq (av (x:=dI (w,p)) (vr (ag QQ ad)) vI QQ) QQ QQ) QQ) ?_);unfold oD;have C:hY "len" [az (a::o)]=ac (.int (col p (a::o)).length):=by
  show ac (D.int (((a::o).map D.tup).length:Nat))=_;unfold col;rw[yI,yI]
 have L:∀ {σ:St} {x:yF},Has σ "word" (sD w)->evE (af P X (n+1)) (vis σ) (.cmp .Eq (.u "word") (.str x))=ac (.bool (eqW w x)):=λi=>ax (vr i) vS QQ
 have H:Has (ay (ay [("one",(yz,dI (w,p))),("rows",(yz,az (a::o)))] "word" (yz,sD w)) "place" (yz,aM p)) "word" (sD w):=ag QQ aw;have E:Has (ay (ay [("one",(yz,dI (w,p))),("rows",(yz,az (a::o)))] "word" (yz,sD w)) "place" (yz,aM p)) "rows" (az (a::o)):=ag QQ (ag QQ (ae QQ ad));have G:Has (ay (ay [("one",(yz,dI (w,p))),("rows",(yz,az (a::o)))] "word" (yz,sD w)) "place" (yz,aM p)) "place" (aM p):=aw;generalize ay (ay [("one",(yz,dI (w,p))),("rows",(yz,az (a::o)))] "word" (yz,sD w)) "place" (yz,aM p)=σ at *;refine bc (L H) QQ (λq=>?_) λq=>?_
 ·rw[yT q]
  exact aE (aq (bR (vv E vN) C) QQ QQ) QQ
 rw[q,yV yQ];refine bc (L H) QQ (λq=>?_) λq=>?_
 ·rw[yT q]
  have I:=mh A;unfold col at I;rw[By] at I;refine aE (aq (bR (aa (gQ (z:="row") (EX:=(a::o).map .tup) (vr E) QQ (by rw[yI];exact N) (jV (g:=λr:yA D=>r.getD p .none) (p:=λr=>!dM (r.getD p .none)) (a::o) λr u=>kC (fP (jw (av (aC bO) (aC (bj QQ (aF G))) (hZ (h r u) s)) (r5 (dC (h r u) s))) QQ) QQ λEP=>av (aC bO) (aC (bj QQ (aF G))) (hZ (h r u) s))) vN) (d:=.int (uy (col p (a::o)))) ?_) QQ QQ) QQ
  show (nK _).map D.int=_;rw[show nK (((a::o).filter λr=>!dM (r.getD p .none)).map λr=>r.getD p .none)=ac (uy (col p (a::o))) from I];rfl
 rw[q,yV yQ];have t:=h a (.head _);refine aB (bh (d:=a.getD p .none) (fr:=yz) (aq (av (av (x:=az (a::o)) (y:=.int 0) (d:=.tup a) (vr E) vI (lz (k:=0) (Ac _) QQ)) (vr G) (hZ t s)) QQ QQ) (dC t s)) ?_;obtain⟨Fd,O,e⟩:=gH (cf:=af P X (n+1)) (body:=xg) (z:="row") (g:=D.tup) (λb σ=>(b.all λr=>(r.getD p .none).isCell)=yC/\iJ w p ((col p b).foldl (gD w) (a.getD p .none)) σ) (a::o) [] (freeze ["rows"] (ay σ "found" (yz,a.getD p .none))) ⟨QQ,bT (ag QQ H),bT (ag QQ G),by rw[bw,aJ,yT rfl];rfl⟩ (by
  rintro b r σ u Z ⟨M,j⟩;have e1:(col p (b++[r])).foldl (gD w) (a.getD p .none)=gD w ((col p b).foldl (gD w) (a.getD p .none)) (r.getD p .none):=by unfold col;rw[zd,Bg];rfl
  have T:((col p b).foldl (gD w) (a.getD p .none)).isCell=yC:=mS (dC t s) λc U=>(zn.mp U).elim λr q=>q.2▸zk.mp M r q.1
  obtain⟨V,J,⟨Y,q2⟩,e⟩:=told_turn (X:=X) B n T (h r u) s (j.row (d:=.tup r)) aw;exact⟨V,J,⟨Y,by rw[EO,M];show ((r.getD p .none).isCell&&yC)=yC;rw[dC (h r u) s];rfl,e1▸q2⟩,e⟩)
 exact dW (vr (ag QQ E)) QQ e (dK O.2.f)
end
noncomputable abbrev Grp:=yA (yA D×Tab)
noncomputable def cO(k r:yA D):Grp->Grp
 | []=>[(k,[r])]
 | q::G=>if aA q.1 k=yC then (q.1,q.2++[r])::G else q::cO k r G
noncomputable def grV(q:yA D×Tab):D×yA D:=(.tup q.1,q.2.map .tup)
noncomputable def cr(ps:yA Nat)(t:Tab):Grp:=t.foldl (λG r=>cO (aQ ps r) r G) []
theorem xV(k r:yA D):∀ G:Grp,wU (.tup k) (.tup r) (G.map grV)=(cO k r G).map grV
 | []=>rfl
 | q::G=>by
  show (if aA q.1 k=yC then _ else _)=(if aA q.1 k=yC then _ else _:Grp).map grV
  cases aA q.1 k with
  | true=>
   show _::_=_::_;unfold grV;rw[zd];rfl
  | false=>exact y6 (grV q::·) (xV k r G)
structure wY(m k n:Nat)(G:Grp):Prop where
 ke:∀ q∈G,bB k q.1
 ro:∀ q∈G,q.2≠[]/\aP m q.2/\q.2.length<=n
 le:G.length<=n
 pw:(G.map (·.1)).Pairwise λa b=>aA a b=yz
theorem mR{k r:yA D}{x:yA D×Tab}:∀ {G:Grp},x∈cO k r G->x∈G\/x=(k,[r])\/∃ q∈G,x=(q.1,q.2++[r])
 | [],h=>.inr (.inl (y3.mp h))
 | q::G,h=>by
  unfold cO at h;split at h
  ·exact (yX.mp h).elim (λe=>.inr (.inr ⟨q,.head _,e⟩)) λh=>.inl (.tail _ h)
  ·exact (yX.mp h).elim (λe=>.inl (e▸.head _)) λh=>(mR h).imp (.tail _) λh=>h.imp id λ⟨p,a,e⟩=>⟨p,.tail _ a,e⟩
theorem k4(k r:yA D):∀ G:Grp,(cO k r G).map (·.1)=G.map (·.1)\/(cO k r G).map (·.1)=G.map (·.1)++[k]/\∀ q∈G,aA q.1 k=yz
 | []=>.inr ⟨QQ,λZ h=>nomatch h⟩
 | q::G=>by
  unfold cO;cases h:aA q.1 k with
  | true=>exact .inl QQ
  | false=>exact (k4 k r G).imp (λe=>y6 (q.1::·) e) λe=>⟨y6 (q.1::·) e.1,λx a=>(yX.mp a).elim (λz=>z▸h) (e.2 x)⟩
theorem wY.put{m k n:Nat}{G:Grp}{c r:yA D}(g:wY m k n G)(o:bB k c)(j:bB m r):wY m k (n+1) (cO c r G) where
 ke:=λq hq=>(mR hq).elim (g.ke q) λh=>h.elim (λe=>e▸o) λ⟨p,f,e⟩=>e▸g.ke p f
 ro:=λq hq=>(mR hq).elim (λh=>⟨(g.ro q h).1,(g.ro q h).2.1,zO (g.ro q h).2.2⟩) λh=>h.elim (λe=>e▸⟨(λh=>nomatch h),λx i=>y3.mp i▸j,zb (za _)⟩)
  λ⟨p,f,e⟩=>e▸⟨List.append_ne_nil_of_right_ne_nil _ (λh=>nomatch h),λx i=>(zA.mp i).elim ((g.ro p f).2.1 x) λh=>y3.mp h▸j,by rw[yY];exact zb (g.ro p f).2.2⟩
 le:=(k4 c r G).elim (λe=>zO (by have q:=y6 CZ e;rw[yI,yI] at q;exact q▸g.le)) λe=>by
  have q:=y6 CZ e.1;rw[yI,yY,yI] at q;exact q▸zb g.le
 pw:=(k4 c r G).elim (λe=>e▸g.pw) λe=>by
  rw[e.1,CS];exact⟨g.pw,List.pairwise_singleton _ _,λa s b t=>y3.mp t▸(zn.mp s).elim λq z=>z.2▸e.2 q z.1⟩
noncomputable def md(a:yA (yF×Nat))(t:Tab):yA D:=a.map λs=>oD s.1 (col s.2 t)
noncomputable def rM(a:yA (yF×Nat))(q:yA D×Tab):yA D:=q.1++md a q.2
noncomputable def eM(ps:yA Nat)(a:yA (yF×Nat))(t:Tab):Tab:=(cr ps t).map (rM a)
theorem gv{m:Nat}{row:yA D}(a:bB m row){ps:yA Nat}(b:∀ p∈ps,p<m):bB ps.length (aQ ps row):=⟨yI ..,λd c=>(zn.mp c).elim λp q=>q.2▸dC a (b p q.1)⟩
theorem iz{m:Nat}{ps:yA Nat}(c:∀ p∈ps,p<m){t:Tab}(h:aP m t):wY m ps.length t.length (cr ps t):=by
 have a:∀ (l:Tab) (G:Grp) (n:Nat),aP m l->wY m ps.length n G->wY m ps.length (n+l.length) (l.foldl (λG r=>cO (aQ ps r) r G) G):=by
  intro l
  induction l with
  | nil=>exact λG n Z g=>g
  | cons r l f=>exact λG n b g=>(by rw[Ae,z5 l.length,<- Ah];exact f _ (n+1) (λx i=>b x (.tail _ i)) (g.put (gv (b r (.head _)) c) (b r (.head _))))
 exact z6 t.length▸a t [] 0 h ⟨(λZ h=>nomatch h),(λZ h=>nomatch h),y0 _,.nil⟩
section
variable {P:yA (yF×Fn)} {X:CF} {cf:CF}
theorem wo{m:Nat}{ps:yA Nat}{pl:D}(a:∀ p∈ps,p<m)(b:∀ r,bB m r->cf.call "cells_at" [.tup r,pl]=ac (.tup (aQ ps r),yz)):∀ (t:Tab) (G:Grp),aP m t->nM cf pl (t.map .tup) (G.map grV)=ac ((t.foldl (λG r=>cO (aQ ps r) r G) G).map grV)
 | [],_,_=>rfl
 | r::t,G,h=>by
  have c:=h r (.head _);rw[y8,nM,b r c];show (if ((D.tup (aQ ps r)).isTK&&!yz)=yC then _ else _)=_
  rw[kW (gv c a),yT (show (yC&&!yz)=yC from rfl),xV];exact wo a b t _ λx f=>h x (.tail _ f)
theorem dU{r:yA D}(h:∀ d∈r,d.isCell=yC):aA r r=yC:=by
 induction r with
 | nil=>rfl
 | cons d r a=>
  show (bv d d&&aA r r)=yC;rw[a λx b=>h x (.tail _ b)]
  exact aS (C:=λd=>(bv d d&&yC)=yC) (h d (.head _)) (λi=>by show ((i == i)&&yC)=yC;rw[zg];rfl) λx=>by show ((x == x)&&yC)=yC;rw[zg];rfl
theorem wB{k:Nat}:∀ {G:Grp} {q:yA D×Tab},(∀ q∈G,bB k q.1)->(G.map (·.1)).Pairwise (λa b=>aA a b=yz)->q∈G->nQ (G.map λq=>.tup q.1) (G.map λq=>az q.2) (.tup q.1)=ac (az q.2)
 | p::G,q,f,c,hq=>by
  have c:=At.mp c;rw[y8,y8,oo];show (if aA p.1 q.1=yC then _ else _)=_
  rcases yX.mp hq with e | hq
  ·subst e
   rw[dU (f q (.head _)).2,yT rfl]
  ·rw[c.1 q.1 (zn.mpr ⟨q,hq,rfl⟩),yV yQ]
   exact wB (λx h=>f x (.tail _ h)) c.2 hq
noncomputable abbrev grBody:yA MS:=[.x0 "told" (.comp (.call "told_of" [.u "one",.sub (.u "groups") (.u "own")]) "one" (.u "sums") []),.append "found" (.bin .Add (.u "own") (.blt "tuple" [.u "told"]))]
theorem grouped_eq(B:BA P)(n:Nat){m:Nat}{t:Tab}(h:aP m t)(w:t.length<=60){ps:yA Nat}(o:∀ p∈ps,p<m)(i:ps.length<=1000){a:yA (yF×Nat)}(H:∀ s∈a,s.2<m)(j:a.length<=1000) :
  (af P X (n+3)).call "grouped" [az t,.tup (ps.map aM),.tup (a.map dI)]=ac (az (eM ps a t),yC):=by
 have g:=iz o h;have A:∀ {k:Nat},k<=1000->k<=big:=λh=>yD h (by decide)
 have I:nM (af P X (n+2)) (.tup (ps.map aM)) (t.map .tup) []=ac ((cr ps t).map grV):=wo o (λr J=>uc B (n+1) J o (A i)) t [] h
 have e1:((cr ps t).map grV).map (·.1)=(cr ps t).map λq=>D.tup q.1:=by rw[zV];rfl
 have L:((cr ps t).map grV).map (λq=>D.list q.2)=(cr ps t).map λq=>az q.2:=by rw[zV];rfl
 unfold eM;generalize cr ps t=G at *;refine au B.grouped QQ ?_;show Run _ k9.body [("rows",(yz,az t)),("places",(yz,.tup (ps.map aM))),("sums",(yz,.tup (a.map dI)))] _ _;refine aB (ai (d:=.dict [] []) (fr:=yC) QQ) (aB (p_grp (Fd:=[("rows",(yz,az t)),("places",(yz,.tup (ps.map aM))),("sums",(yz,.tup (a.map dI))),("groups",(yz,.dict (G.map λq=>.tup q.1) (G.map λq=>az q.2)))]) ?_) (aB (ai (d:=.list []) (fr:=yC) QQ) ?_))
 ·show (nM (af P X (n+2)) (.tup (ps.map aM)) (t.map .tup) []).map _=_
  rw[I,DW];unfold xU;rw[e1,L];rfl
 obtain⟨Fd,M,e⟩:=gH (cf:=af P X (n+2)) (body:=grBody) (z:="own") (g:=λq:yA D×Tab=>D.tup q.1) (λb σ=>Has σ "groups" (.dict (G.map λq=>.tup q.1) (G.map λq=>az q.2))/\Has σ "sums" (.tup (a.map dI))/\bF σ "found" (az (b.map (rM a)))) G []
  (freeze ["groups"] (ay [("rows",(yz,az t)),("places",(yz,.tup (ps.map aM))),("sums",(yz,.tup (a.map dI))),("groups",(yz,.dict (G.map λq=>.tup q.1) (G.map λq=>az q.2)))] "found" (yC,.list []))) ⟨bT (ag QQ (ae QQ (ae QQ (ae QQ ad)))),bT (ag QQ (ae QQ (ae QQ ad))),gz QQ dg⟩ (by
  rintro b q σ hq N ⟨C,E,O⟩;have u:aV (.dict (G.map λq=>.tup q.1) (G.map λq=>az q.2)) (.tup q.1)=ac (az q.2):=(yT (by
   unfold dL;rw[kW (g.ke q hq),show (G.map λq=>D.tup q.1).all D.isTK=yC from zk.mpr λd u=>(zn.mp u).elim λp z=>z.2▸kW (g.ke p z.1)]
   exact EH _)).trans (wB g.ke g.pw hq)
  have c:=g.ro q hq;have T:∀ s∈a,(af P X (n+2)).call "told_of" [dI s,az q.2]=ac (oD s.1 (col s.2 q.2),yz):=λs f=>by
   obtain⟨V,U⟩:=q;cases U with
   | nil=>exact zl QQ c.1
   | cons Y Z=>exact told_eq B n c.2.1 (yD c.2.2 (yD w (by decide))) s.1 (H s f)
  refine aH (ai (d:=.list (md a q.2)) (fr:=yC) (aq (gP (g:=dI) (l:=a) (vr (ag QQ E)) QQ (A j) λs f=>am (aa (aC bO) (aa (av (aC (bj QQ (aF (ag QQ C)))) (aC (bj QQ (aF aw))) u) vN)) (T s f)) QQ QQ)) ?_
  refine aH (bN (d:=.tup (rM a q)) (ds:=(b.map (rM a)).map .tup) (ak (x:=.tup q.1) (y:=.tup (md a q.2)) (vr (ag QQ (ao aw))) (bR (vv aw vN) QQ) (yT (by unfold md;rw[(g.ke q hq).1,yI];exact yD (ze i j) (by decide)))) (bW QQ (bD QQ (bW QQ (bD QQ O)))) ?_) (bq ⟨QQ,ag QQ (ao (ag QQ (ao (ag QQ C)))),ag QQ (ao (ag QQ (ao (ag QQ E)))),?_⟩)
  ·rw[yI,yI]
   exact yZ (yZ (z6 (CZ G)▸N) g.le) (yD w (by decide))
  ·rw[zd]
   show bF _ _ (az (_++[_]));rw[ez];exact dg)
 exact dW (vr (ag QQ (ae QQ (ae QQ (ae QQ ad))))) QQ (show cF _ ((G.map λq=>D.tup q.1)) _=_ from e) (dK M.2.2)
end
open PySem PySem.W
noncomputable def iN(k:Nat×yH)(l:Tab):Tab:=im [] k.2 (col k.1 l) l
noncomputable def eI(ks:yA (Nat×yH))(t:Tab):Tab:=ks.reverse.foldl (λl k=>iN k l) t
theorem vP{α a:Type}(f:α->a)(b:yH)(l:yA α):AL b (l.map f)=(AL b l).map f:=by
 cases b with
 | false=>rfl
 | true=>exact EK.symm
theorem vO{α:Type}{b:yH}{l:yA α}{x:α}:x∈AL b l↔x∈l:=by
 cases b with
 | false=>exact Iff.rfl
 | true=>exact DG
theorem uK{ks:yA D}{i:Nat}(h:i∈kix ks):i<ks.length:=AK.mp ((lO ks).mem_iff.mp h)
theorem srtL_map{ks:yA D}{l:Tab}(c:ks.length=l.length)(b:yH):im D.none b ks (l.map .tup)=(im [] b ks l).map .tup:=by
 unfold im;rw[<- vP D.tup b ((kix (AL b ks)).map _),zV,vP D.tup b l];refine y6 (AL b) (AH λi f=>?_)
 have a:i<(AL b l).length:=by have:=uK f;rw[BF] at this ⊢;rw[<- c];exact this
 show ((AL b l).map D.tup).getD i .none=.tup ((AL b l).getD i []);rw[yW,yW,Ag,yP a];rfl
theorem oa(k:Nat×yH)(l:Tab):(iN k l).length=l.length/\∀ r∈iN k l,r∈l:=by
 have b:(col k.1 l).length=l.length:=yI ..;refine⟨oI.trans b,λr c=>?_⟩
 unfold iN im at c;obtain⟨i,f,e⟩:=zn.mp (vO.mp c);have a:i<(AL k.2 l).length:=by have:=uK f;rw[BF] at this ⊢;rw[<- b];exact this
 rw[yW,yP a] at e;exact vO.mp (show r∈AL k.2 l from e▸Ay a)
section
variable {P:yA (yF×Fn)} {X:CF} {cf:CF}
theorem rank_eq(B:BA P)(n:Nat){c:D}(a:c.isCell=yC):(af P X (n+1)).call "rank" [c]=ac (.tup [.bool (dM c),c],yz):=
 au B.rank QQ (aE (aq (bA (aa (jw (vr ad) (r5 a)) (vv ad vN)) (yM QQ)) QQ QQ) QQ)
theorem qV(B:BA P)(n:Nat){m p:Nat}(a:p<m):∀ {l:Tab},aP m l->jk (gR (af P X (n+1)) "rank" (.int p)) (l.map .tup)=ac (col p l)
 | [],_=>rfl
 | r::l,h=>by
  have b:=h r (.head _);have f:=dC b a;have e:gR (af P X (n+1)) "rank" (.int p) (.tup r)=ac (.tup [.bool (dM (r.getD p .none)),r.getD p .none]):=by
   unfold gR;rw[hZ b a];show ((af P X (n+1)).call "rank" [_]).map _=_;rw[rank_eq B n f];rfl
  rw[y8,jk,e];show (match uL _ with | some c=>_ | none=>_)=_
  rw[show uL (.tup [.bool (dM (r.getD p .none)),r.getD p .none])=ac (r.getD p .none) from yT (by rw[f,zg];rfl),qV B n a λx i=>h x (.tail _ i)]
  rfl
theorem v_srt{ρ:yA (yF×D)}{a:ME}{f x p:yF}{rev:yH}{ds ks:yA D}{i:D}(b:evE cf ρ a=ac (.list ds))(c:lm ρ p i)(hz:ds.length<64)(h:jk (gR cf f i) ds=ac ks):evE cf ρ (.srt a f x p rev)=ac (.list (im .none rev ks ds)):=by
 rw[ev_srt,b];dsimp only;rw[show ρ.lookup p=ac i from c];show (if ds.length<64 then (jk _ ds).map _ else _)=_
 rw[yT hz,h];rfl
noncomputable abbrev ordB:yA MS:=[.x0 "place" (.sub (.u "one") (.int 0)),.ite (.sub (.u "one") (.int 1)) [.x0 "found" (.srt (.u "found") "rank" "row" "place" yC)] [.x0 "found" (.srt (.u "found") "rank" "row" "place" yz)]]
theorem ordered_eq(B:BA P)(n:Nat){m:Nat}{t:Tab}(h:aP m t)(s:t.length<64){ks:yA (Nat×yH)}(u:∀ k∈ks,k.1<m) :
  (af P X (n+2)).call "ordered" [az t,.tup (ks.map eE)]=ac (az (eI ks t),yC):=by
 refine au B.ordered QQ ?_;show Run _ k7.body [("rows",(yz,az t)),("keys",(yz,.tup (ks.map eE)))] _ _;refine aB (ai (d:=az t) (fr:=yC) QQ) ?_;obtain⟨Fd,w,e⟩:=gH (cf:=af P X (n+1)) (body:=ordB) (z:="one") (g:=eE) (λb σ=>aP m (b.foldl (λl k=>iN k l) t)/\(b.foldl (λl k=>iN k l) t).length=t.length/\bF σ "found" (az (b.foldl (λl k=>iN k l) t))) ks.reverse [] (freeze ["keys"] (ay (settle (az t) ["rows"] [("rows",(yz,az t)),("keys",(yz,.tup (ks.map eE)))]) "found" (yC,az t))) ⟨h,QQ,gz QQ dg⟩ (by
  rintro b k σ A _ ⟨a,c,j⟩;rw[Bg];show Out _ _ _ λC Fd=>C=.next/\aP m (iN k _)/\(iN k _).length=t.length/\bF Fd "found" (az (iN k _))
  generalize b.foldl (λl k=>iN k l) t=l at *
  have E:=u k (DG.mp A);have ok:=oa k l;have o:∀ {σ:St} {rev:yH},rev=k.2->Has σ "found" (az l)->Has σ "place" (aM k.1)->evF (af P X (n+1)) (vis σ) (.srt (.u "found") "rank" "row" "place" rev)=ac (az (iN k l),yC):=λ{σ rev} e G H=>by
   subst e;have q:=v_srt (cf:=af P X (n+1)) (x:="row") (f:="rank") (rev:=k.2) (vr G) (aF H) (by rw[yI,c];exact s) (qV B n E a)
   rw[srtL_map (ks:=col k.1 l) (l:=l) (yI ..)] at q;exact aq q QQ QQ
  refine aH (bh (d:=aM k.1) (fr:=yz) (aq (av (x:=eE k) (vr aw) vI QQ) QQ QQ) QQ) (cD (k:=k.2) (av (x:=eE k) (y:=.int 1) (d:=.bool k.2) (vr (ag QQ aw)) vI QQ) QQ (λq=>?_) λq=>?_)
  ·exact aH (ai (o q.symm (ag QQ (ag QQ (iy j))) aw)) (bq ⟨QQ,λr i=>a r (ok.2 r i),ok.1.trans c,dg⟩)
  ·exact aH (ai (o q.symm (ag QQ (ag QQ (iy j))) aw)) (bq ⟨QQ,λr i=>a r (ok.2 r i),ok.1.trans c,dg⟩))
 exact r_forr (vr (ag QQ (ao (ae QQ ad)))) (by rw[<- EK];exact e) (dK w.2.2)
end
section
variable {α:Type} {G:α->Prop} {lt ES EZ:α->α->yH} {l r r':yA α}
noncomputable def eqv(lt:α->α->yH)(x y:α):yH:=!lt x y&&!lt y x
structure Stb(G:α->Prop)(lt:α->α->yH)(l r:yA α):Prop where
 pw:r.Pairwise λa b=>lt b a=yz
 fl:∀ x,G x->r.filter (eqv lt x)=l.filter (eqv lt x)
structure WkG(G:α->Prop)(lt:α->α->yH):Prop where
 irr:∀ {a},G a->lt a a=yz
 tr:∀ {a b c},G a->G b->G c->lt a b=yC->lt b c=yC->lt a c=yC
 neg:∀ {a b c},G a->G b->G c->lt a b=yz->lt b c=yz->lt a c=yz
theorem iC{a:α}(h:lt a a=yz):eqv lt a a=yC:=by unfold eqv;rw[h];rfl
theorem xZ{a b:α}(h1:lt a b=yz)(c:lt b a=yz):eqv lt a b=yC:=by unfold eqv;rw[h1,c];rfl
theorem su{a b:α}(h:eqv lt a b=yC):lt a b=yz/\lt b a=yz:=by
 unfold eqv at h;have h:=zr.mp h;exact⟨Dr _ |>.mp h.1,Dr _ |>.mp h.2⟩
theorem sR(hi:∀ a,G a->lt a a=yz):∀ {r r':yA α},(∀ a∈r,G a)->(∀ a∈r',G a)->r.Pairwise (λa b=>lt b a=yz)->r'.Pairwise (λa b=>lt b a=yz)->(∀ x,G x->r.filter (eqv lt x)=r'.filter (eqv lt x))->r=r'
 | [],[],_,_,_,_,_=>rfl
 | [],b::r',_,h,_,_,c=>by
  have q:=c b (h b (.head _));rw[zc (iC (hi b (h b (.head _))))] at q;cases q
 | a::r,[],h1,_,_,_,c=>by
  have q:=c a (h1 a (.head _));rw[zc (iC (hi a (h1 a (.head _))))] at q;cases q
 | a::r,b::r',h1,h,j,m,c=>by
  have i:=h1 a (.head _);have n:=h b (.head _);have j:=At.mp j;have m:=At.mp m;have o:a∈b::r':=(zp.mp (c a i▸zp.mpr ⟨.head _,iC (hi a i)⟩)).1;have mb:b∈a::r:=(zp.mp ((c b n).symm▸zp.mpr ⟨.head _,iC (hi b n)⟩)).1;have e1:lt b a=yz:=(yX.mp mb).elim (λe=>e▸hi b n) (j.1 b)
  have s:lt a b=yz:=(yX.mp o).elim (λe=>e▸hi a i) (m.1 a)
  have q:=c a i;rw[zc (iC (hi a i)),zc (xZ s e1)] at q;have e:a=b:=(CV q).1;subst e;refine y6 (a::·) (sR hi (λx f=>h1 x (.tail _ f)) (λx f=>h x (.tail _ f)) j.2 m.2 λx t=>?_)
  have q:=c x t;cases f:eqv lt x a with
  | true=>rw[zc f,zc f] at q;exact (CV q).2
  | false=>rw[zw (by rw[f];exact yQ),zw (by rw[f];exact yQ)] at q;exact q
theorem Stb.uniq(hi:∀ a,G a->lt a a=yz)(h:Stb G lt l r)(h':Stb G lt l r')(g:∀ a∈r,G a)(c:∀ a∈r',G a):r=r':=sR hi g c h.pw h'.pw λx b=>(h.fl x b).trans (h'.fl x b).symm
noncomputable def nL(ES EZ:α->α->yH)(a b:α):yH:=ES a b||(!ES b a&&EZ a b)
theorem eqv_lex(x y:α):eqv (nL ES EZ) x y=(eqv ES x y&&eqv EZ x y):=by
 unfold eqv nL;cases ES x y <;> cases ES y x <;> cases EZ x y <;> cases EZ y x <;> rfl
theorem Stb.lex{f:yA α}(hi:∀ a,G a->ES a a=yz)(g:∀ a∈r,G a)(h1:Stb G ES f r)(h:Stb G EZ l f):Stb G (nL ES EZ) l r where
 fl:=λx i=>by
  rw[show eqv (nL ES EZ) x=λy=>eqv ES x y&&eqv EZ x y from funext (eqv_lex x)]
  show List.filter (λa=>eqv ES x a&&eqv EZ x a) r=List.filter (λa=>eqv ES x a&&eqv EZ x a) l
  rw[<- Aj,<- Aj,h.fl x i |>.symm,Aj,Aj]
  have:∀ t:yA α,List.filter (λa=>eqv ES x a&&eqv EZ x a) t=(t.filter (eqv ES x)).filter (eqv EZ x):=λt=>by
   rw[Aj];exact Bh λy Z=>Cf _ _
  rw[this,this,h1.fl x i]
 pw:=Bo.mpr λ{a b} c=>by
  have j:=Bo.mp h1.pw c;have m:=g a (c.subset (.head _));unfold nL;rw[j];cases e:ES a b with
  | true=>rfl
  | false=>
   have q:=c.filter (eqv ES a);rw[h1.fl a m,zc (iC (hi a m)),zc (xZ e j)] at q;have:=Bo.mp h.pw (q.trans List.filter_sublist);rw[this];rfl
theorem WkG.le_lt(W:WkG G lt){a b c:α}(i:G a)(j:G b)(m:G c)(h:lt b a=yz)(f:lt b c=yC):lt a c=yC:=by
 cases e:lt a c with
 | true=>rfl
 | false=>rw[W.neg j i m h e] at f;cases f
theorem WkG.lt_le(W:WkG G lt){a b c:α}(f:G a)(i:G b)(j:G c)(h:lt a b=yC)(m:lt c b=yz):lt a c=yC:=by
 cases e:lt a c with
 | true=>rfl
 | false=>rw[W.neg f j i e m] at h;cases h
theorem WkG.asym(W:WkG G lt){a b:α}(c:G a)(f:G b)(h:lt a b=yC):lt b a=yz:=by
 cases e:lt b a with
 | false=>rfl
 | true=>have:=W.tr c f c h e;rw[W.irr c] at this;cases this
theorem WkG.lex(j:WkG G ES)(s:WkG G EZ):WkG G (nL ES EZ) where
 irr:=λf=>by unfold nL;rw[j.irr f,s.irr f];rfl
 tr:=λ{a b c} f h i h1 m=>by
  unfold nL at *;cases x:ES a b with
  | true=>
   have:ES a c=yC:=j.lt_le f h i x (by cases y:ES c b with | false=>rfl | true=>rw[y,j.asym i h y] at m;cases m)
   rw[this];rfl
  | false=>
   rw[x] at h1;cases q:ES b a with
   | true=>rw[q] at h1;cases h1
   | false=>
    rw[q] at h1;cases y:ES b c with
    | true=>rw[j.le_lt f h i q y];rfl
    | false=>
     rw[y] at m;cases t:ES c b with
     | true=>rw[t] at m;cases m
     | false=>
      rw[t] at m;rw[j.neg f h i x y,j.neg i h f t q,s.tr f h i h1 m];rfl
 neg:=λ{a b c} f h i h1 m=>by
  unfold nL at *;have n:=Bz.mp h1;have o:=Bz.mp m;rw[j.neg f h i n.1 o.1];cases x:ES c a with
  | true=>rfl
  | false=>
   have z:ES b a=yz:=j.neg h i f o.1 x;have A:ES c b=yz:=j.neg i f h x n.1;have u:=n.2;have w:=o.2;rw[z] at u;rw[A] at w;exact s.neg f h i u w
end
section
variable {α:Type} {G:α->Prop} {lt:α->α->yH} {left:yA α} {z:α}
theorem stb_cons(W:WkG G lt){p q r:yA α}{a:α}(g:∀ y∈p++a::q,G y)(h1:∀ y∈p++q,lt y a=yz)(j:∀ y∈p,lt a y=yC)(m:∀ y∈r,y∈p++q)(h:Stb G lt (p++q) r):Stb G lt (p++a::q) (a::r) where
 pw:=At.mpr ⟨λy b=>h1 y (m y b),h.pw⟩
 fl:=λx i=>by
  have n:=g a (zQ _ (.head _));have c:=h.fl x i;rw[zP] at c ⊢;cases e:eqv lt x a with
  | true=>
   have o:p.filter (eqv lt x)=[]:=Cr.mpr λy b f=>by
    have:=W.le_lt i n (g y (Ap _ b)) (su e).2 (j y b);rw[(su f).1] at this;cases this
   rw[zc e,zc e,c,o];rfl
  | false=>
   have e:¬ eqv lt x a=yC:=by rw[e];exact yQ
   rw[zw e,zw e,c]
noncomputable def iF(lt:α->α->yH)(z:α)(left:yA α)(b i:Nat):Nat:=if lt (left.getD (i+1) z) (left.getD b z)=yC then i+1 else b
noncomputable def gN(lt:α->α->yH)(z:α)(left:yA α):Nat:=(zf (left.length - 1)).foldl (iF lt z left) 0
structure yy(lt:α->α->yH)(z:α)(left:yA α)(k b:Nat):Prop where
 le:b<=k
 mn:∀ j,j<=k->lt (left.getD j z) (left.getD b z)=yz
 fs:∀ j,j<b->lt (left.getD b z) (left.getD j z)=yC
theorem p7(W:WkG G lt)(g:∀ j,j<left.length->G (left.getD j z)):∀ k,k<left.length->yy lt z left k ((zf k).foldl (iF lt z left) 0)
 | 0,h=>⟨y0 _,λj a=>by rw[D9.mp a];exact W.irr (g 0 h),λj a=>zl a (AF j)⟩
 | k+1,h=>by
  have i:=p7 W g k (zS h);rw[List.range_succ,Bg];show yy lt z left (k+1) (iF lt z left _ k);generalize (zf k).foldl (iF lt z left) 0=b at *;have f:=g _ h;have m:∀ j,j<=k->G (left.getD j z):=λj a=>g j (yO a (zS h))
  have n:=m b i.le;unfold iF;cases e:lt (left.getD (k+1) z) (left.getD b z) with
  | true=>
   rw[yT rfl];have c:∀ j,j<=k->lt (left.getD (k+1) z) (left.getD j z)=yC:=λj a=>W.lt_le f n (m j a) e (i.mn j a)
   exact⟨y0 _,λj a=>(zI a).elim (λh=>W.asym f (m j (zx h)) (c j (zx h))) λh=>by rw[h];exact W.irr f,λj a=>c j (zx a)⟩
  | false=>
   rw[yV yQ];exact⟨zO i.le,λj a=>(zI a).elim (λh=>i.mn j (zx h)) λh=>h▸e,i.fs⟩
noncomputable def jy(left:yA α)(b:Nat):yA α:=left.take b++left.drop (b+1)
noncomputable def sZ(lt:α->α->yH)(z:α):Nat->yA α->yA α
 | 0,_=>[]
 | n+1,left=>left.getD (gN lt z left) z::sZ lt z n (jy left (gN lt z left))
theorem dN{left:yA α}{z:α}{j:Nat}(h:j<left.length):left.getD j z∈left:=by
 rw[yW,yP h];exact Ay h
theorem iA{α:Type}{l r:yA α}{z:α}{k:Nat}(h:k<l.length):(l++r).getD k z=l.getD k z:=by
 rw[yW,yW,B3 h]
theorem oJ{b:Nat}(h:b<left.length):left=left.take b++left.getD b z::left.drop (b+1):=by
 rw[yW,yP h];exact (CA b left).symm.trans (y6 _ (List.drop_eq_getElem_cons h))
theorem s5{b:Nat}(h:b<left.length):(jy left b).length+1=left.length:=by
 conv=>rhs;rw[oJ (z:=left[b]) h]
 unfold jy;rw[yY,yY,Ae];rfl
theorem lF{b:Nat}(_:b<left.length){y:α}(a:y∈jy left b):y∈left:=(zA.mp a).elim DX List.mem_of_mem_drop
theorem wK(W:WkG G lt)(g:∀ j,j<left.length->G (left.getD j z))(h:0<left.length):gN lt z left<left.length:=yO (p7 W g _ (AO h AI)).le (AO h AI)
theorem vg(W:WkG G lt):∀ (n:Nat) (left:yA α),left.length=n->(∀ a∈left,G a)->Stb G lt left (sZ lt z n left)/\∀ y∈sZ lt z n left,y∈left
 | 0,left,h,_=>by
  have:left=[]:=AJ.mp h;subst this;exact⟨⟨.nil,λZ Z=>QQ⟩,λZ h=>h⟩
 | n+1,left,h,g=>by
  have w:∀ j,j<left.length->G (left.getD j z):=λj f=>g _ (dN f)
  have A:0<left.length:=h▸Ac n;have i:=p7 W w _ (AO A AI);have m:=wK W w A;show Stb G lt left (left.getD (gN lt z left) z::sZ lt z n (jy left (gN lt z left)))/\∀ y∈left.getD (gN lt z left) z::sZ lt z n (jy left (gN lt z left)),y∈left;replace i:yy lt z left (left.length - 1) (gN lt z left):=i;generalize gN lt z left=b at *;have s:=vg W n (jy left b) (Am ((s5 m).trans h)) λa B=>g a (lF m B)
  have t:∀ y∈left,∃ j,j<left.length/\left.getD j z=y:=λy c=>by
   obtain⟨j,f,e⟩:=BK c;exact⟨j,f,by rw[yW,yP f];exact e⟩
  refine⟨?_,λy c=>(yX.mp c).elim (λe=>e▸dN m) λc=>lF m (s.2 y c)⟩
  have q:=stb_cons (p:=left.take b) (q:=left.drop (b+1)) (a:=left.getD b z) W (oJ m▸g) (λy c=>by
   obtain⟨j,f,rfl⟩:=t y (lF m c);exact i.mn j (Cy f)) (λy c=>by
   obtain⟨j,f,e⟩:=BK c;have u:=CR▸f
   have o:=(Nat.lt_min.mp u).1;have:=i.fs j o;rw[show left.getD j z=y from by rw[yW,yP (zM o m)];exact List.getElem_take.symm.trans e] at this
   exact this) s.2 s.1
  rw[<- oJ m] at q;exact q
end
open PySem PyProof.Rows PySem.W
section
variable {kl:Nat->Nat->yH} {n k m q i j:Nat} {p:zj Nat}
theorem io{α a:Type}(f:α->KasT a):∀ t:KasT α,cA kl (t.bind f)=cA kl (f (cA kl t))
 | .ret _=>rfl
 | .ask i j k=>io f (k (kl i j))
theorem oN(a:j<=p.size)(k:Nat):(C1 p i j).getD k 0=if i<=k/\k<j then p.getD (i+j - 1 - k) 0 else p.getD k 0:=by
 rw[Array.getD_eq_getD_getElem?,Array.getD_eq_getD_getElem?,Array.getD_eq_getD_getElem?];unfold C1;rw[getElem?_mirror_all a,apply_ite (Option.getD · 0)]
theorem bub_at{l:Nat}(a:k<p.size)(b:l<=k)(i:Nat):(bubble p k (k - l)).getD i 0=if i=l then p.getD k 0 else if l<i/\i<=k then p.getD (i - 1) 0 else p.getD i 0:=by
 rw[Array.getD_eq_getD_getElem?,Array.getD_eq_getD_getElem?,Array.getD_eq_getD_getElem?,Array.getD_eq_getD_getElem?,getElem?_bubble a _ (De _ _),Nat.sub_sub_self b,apply_ite (Option.getD · 0),apply_ite (Option.getD · 0)]
theorem vy{i m:Nat}(h:i<m):m - 1 - i<m:=yO (De _ _) (AO (yO (za _) h) AI)
theorem o_nx{i m:Nat}(h:i+1<m):m - 1 - i=m - 1 - (i+1)+1:=(Nat.succ_pred_eq_of_pos (Nat.sub_pos_of_lt (Nat.lt_pred_of_succ_lt h))).symm
theorem o_dn{i b m:Nat}(h1:b<=i)(h:i<m):b<=b+m - 1 - i:=by exact om73 h
theorem o_dm{i b m:Nat}(h1:b<=i)(h:i<m):b+m - 1 - i<m:=by exact om74 h1 h
theorem o_dl{i b m:Nat}(h:i+1<m):b+m - 1 - (i+1)<b+m - 1 - i:=by exact om75 h
theorem o_sp{b k:Nat}(h1:¬b<=k)(a:b<=k+1):b=k+1:=Bx a (Nat.not_le.mp h1)
structure Pre(kl:Nat->Nat->yH)(n k:Nat)(p:zj Nat):Prop where
 sz:p.size=n
 kn:k<=n
 so:∀ i j,i<j->j<k->Rk kl (p.getD i 0) (p.getD j 0)
 lo:∀ i,i<k->p.getD i 0<k
 hi:∀ i,k<=i->i<n->p.getD i 0=i
theorem sG(W:Wk kl)(h:∀ i,i+1<k->Rk kl (p.getD i 0) (p.getD (i+1) 0)):∀ i j,i<j->j<k->Rk kl (p.getD i 0) (p.getD j 0)
 | i,j+1,h1,a=>(zI (zx h1)).elim (λe=>(sG W h i j e (zS a)).tr W (h j a)) λe=>e▸h j a
theorem Pre.add(P:Pre kl n k p)(a:k<n)(h:∀ i,i<k->Rk kl (p.getD i 0) (p.getD k 0)):Pre kl n (k+1) p where
 sz:=P.sz
 kn:=a
 so:=λi j h1 b=>(zI (zx b)).elim (P.so i j h1) λe=>e▸h i (e▸h1)
 lo:=λi h=>(zI (zx h)).elim (λh=>zT (P.lo i h)) λe=>e▸(P.hi i (y5 e.symm) (e▸a)).symm▸Ab i
 hi:=λi h=>P.hi i (BB h)
theorem Pre.add'(W:Wk kl)(P:Pre kl n k p)(h1:1<=k)(a:k<n)(h:kl (p.getD k 0) (p.getD (k - 1) 0)=yz):Pre kl n (k+1) p:=P.add a λi b=>by
 have e:Rk kl (p.getD (k - 1) 0) (p.getD k 0):=.inr ⟨h,by rw[P.hi k (y0 _) a];exact P.lo _ (AO h1 AI)⟩
 exact (zI (Cy b)).elim (λh=>(P.so i _ h (AO h1 AI)).tr W e) λh=>h▸e
structure Asc(kl:Nat->Nat->yH)(n k:Nat)(p:zj Nat)(m:Nat):Prop where
 pre:Pre kl n m p
 le:k<=m
 st:m<n->kl (p.getD m 0) (p.getD (m - 1) 0)=yC
theorem rL(W:Wk kl):∀ f k,Pre kl n k p->1<=k->k+f=n->Asc kl n k p (cA kl (kas_asc p f k))
 | 0,k,P,_,h=>⟨P,y0 _,λq=>zl h (zC q)⟩
 | f+1,k,P,h1,h=>by
  have a:k<n:=h▸Ak (Ac f);show Asc kl n k p (cA kl (if kl (p.getD k 0) (p.getD (k - 1) 0)=yC then .ret k else kas_asc p f (k+1)))
  cases e:kl (p.getD k 0) (p.getD (k - 1) 0) with
  | true=>exact⟨P,y0 _,λZ=>e⟩
  | false=>
   have r:=rL W f (k+1) (P.add' W h1 a e) (zO h1) ((Nat.succ_add k f).trans h);exact⟨r.pre,BB r.le,r.st⟩
structure Ds(kl:Nat->Nat->yH)(n m:Nat)(p:zj Nat):Prop where
 sz:p.size=n
 mn:m<=n
 de:∀ i,i+1<m->Rk kl (p.getD (i+1) 0) (p.getD i 0)
 lo:∀ i,i<m->p.getD i 0<m
 hi:∀ i,m<=i->i<n->p.getD i 0=i
theorem Ds.pre(W:Wk kl)(D:Ds kl n m p):Pre kl n m (C1 p 0 m):=by
 have a:=oN (p:=p) (i:=0) (D.sz.symm▸D.mn:m<=p.size);have a1:∀ i,i<m->(C1 p 0 m).getD i 0=p.getD (m - 1 - i) 0:=λi h=>by rw[a,yT ⟨za _,h⟩,z6]
 refine⟨(mirror_size _ _ _ _).trans D.sz,D.mn,sG W λi h=>?_,λi h=>?_,λi h b=>?_⟩
 ·rw[a1 i (zS h),a1 _ h]
  have q:=vy (zS h);rw[o_nx h] at q ⊢;exact D.de _ q
 ·rw[a1 i h];exact D.lo _ (vy h)
 ·rw[a,yV λq=>zl q.2 (zU.mpr h)];exact D.hi i h b
theorem Pre.ds(P:Pre kl n k p):Ds kl n k (C1 p 0 k):=by
 have a:=oN (p:=p) (i:=0) (P.sz.symm▸P.kn:k<=p.size);have a1:∀ i,i<k->(C1 p 0 k).getD i 0=p.getD (k - 1 - i) 0:=λi h=>by rw[a,yT ⟨za _,h⟩,z6]
 refine⟨(mirror_size _ _ _ _).trans P.sz,P.kn,λi h=>?_,λi h=>?_,λi h b=>?_⟩
 ·rw[a1 i (zS h),a1 _ h];exact P.so _ _ (o_nx h▸Ab _) (vy (zS h))
 ·rw[a1 i h];exact P.lo _ (vy h)
 ·rw[a,yV λq=>zl q.2 (zU.mpr h)];exact P.hi i h b
structure Dn(kl:Nat->Nat->yH)(n m b:Nat)(p:zj Nat):Prop where
 sz:p.size=n
 mn:m<=n
 bm:b<m
 de:∀ i,i+1<b->Rk kl (p.getD (i+1) 0) (p.getD i 0)
 bd:0<b->∀ i,b<=i->i<m->kl (p.getD i 0) (p.getD (b - 1) 0)=yC
 eq:∀ i j,b<=i->i<j->j<m->kl (p.getD i 0) (p.getD j 0)=yz/\kl (p.getD j 0) (p.getD i 0)=yz/\p.getD i 0<p.getD j 0
 lo:∀ i,i<m->p.getD i 0<m
 hi:∀ i,m<=i->i<n->p.getD i 0=i
theorem Dn.ds{b:Nat}(D:Dn kl n m b p):Ds kl n m (C1 p b m):=by
 have a:=oN (p:=p) (i:=b) (D.sz.symm▸D.mn:m<=p.size);have j:=D.bm;refine⟨(mirror_size _ _ _ _).trans D.sz,D.mn,λi h=>?_,λi h=>?_,λi h f=>?_⟩
 ·rw[a,a]
  by_cases h1:b<=i
  ·rw[yT ⟨zO h1,h⟩,yT ⟨h1,zS h⟩]
   have:=D.eq (b+m - 1 - (i+1)) (b+m - 1 - i) (o_dn (zO h1) h) (o_dl h) (o_dm h1 (zS h));exact .inr ⟨this.2.1,this.2.2⟩
  ·rw[yV (c:=b<=i/\i<m) λq=>h1 q.1]
   by_cases f:b<=i+1
   ·rw[yT ⟨f,h⟩]
    have e:=o_sp h1 f;subst e;exact .inl (D.bd (Ac i) _ (o_dn (y0 _) h) (o_dm (y0 _) h))
   ·rw[yV λq=>f q.1];exact D.de i (Nat.not_le.mp f)
 ·rw[a];split
  ·next q=>exact D.lo _ (o_dm q.1 h)
  ·exact D.lo i h
 ·rw[a,yV λq=>zl q.2 (zU.mpr h)];exact D.hi i h f
theorem Dn.ds0(D:Dn kl n (m+1) m p):Ds kl n (m+1) p:=⟨D.sz,D.mn,λi h=>(zI (zx h)).elim (D.de i) λe=>by subst e;exact .inl (D.bd (Ac i) _ (y0 _) (Ab _)),D.lo,D.hi⟩
theorem Ds.dn(D:Ds kl n m p)(h:m<n)(b:kl (p.getD m 0) (p.getD (m - 1) 0)=yC):Dn kl n (m+1) m p where
 sz:=D.sz
 mn:=h
 bm:=Ab m
 de:=D.de
 bd:=λZ i h1 a=>(Bx h1 (zx a))▸b
 eq:=λi j h1 a c=>zl (yO h1 a) (zU.mpr (zx c))
 lo:=λi hi=>(zI (zx hi)).elim (λh=>zT (D.lo i h)) λe=>by rw[D.hi i (y5 e.symm) (e▸h)];exact hi
 hi:=λi h=>D.hi i (BB h)
theorem Dn.more(W:Wk kl){b:Nat}(D:Dn kl n m b p)(h:m<n)(h1:kl (p.getD m 0) (p.getD (m - 1) 0)=yz)(f:kl (p.getD (m - 1) 0) (p.getD m 0)=yz):Dn kl n (m+1) b p where
 sz:=D.sz
 mn:=h
 bm:=zT D.bm
 de:=D.de
 bd:=λo i c a=>(zI (zx a)).elim (D.bd o i c) λe=>e▸W.le_lt f (D.bd o (m - 1) (Cy D.bm) (AO (yO (za _) D.bm) AI))
 eq:=λi j c a t=>(zI (zx t)).elim (D.eq i j c a) λe=>by
  subst e;have s:p.getD i 0<p.getD j 0:=by rw[D.hi j (y0 _) h];exact D.lo i a
  rcases zI (Cy a) with q | q
  ·have z:=D.eq i (j - 1) c q (AO (yO (za _) a) AI)
   exact⟨W.neg z.1 f,W.neg h1 z.2.1,s⟩
  ·subst q;exact⟨f,h1,s⟩
 lo:=λi hi=>(zI (zx hi)).elim (λh=>zT (D.lo i h)) λe=>by rw[D.hi i (y5 e.symm) (e▸h)];exact hi
 hi:=λi h=>D.hi i (BB h)
noncomputable def DnR(kl:Nat->Nat->yH)(n:Nat)(r:zj Nat×Nat×Nat):Prop:=r.2.2+1<=r.2.1/\Dn kl n r.2.1 (r.2.1 - (r.2.2+1)) r.1
theorem lE(W:Wk kl):∀ f (p:zj Nat) m q,DnR kl n (p,m,q)->m+f=n->DnR kl n (cA kl (D6 f p m q))
 | 0,_,_,_,D,_=>D
 | f+1,p,m,q,D,h=>by
  have j:m<n:=h▸Ak (Ac f);have h':m+1+f=n:=(Nat.succ_add m f).trans h;obtain⟨hq,D⟩:=D;dsimp only at hq D;show DnR kl n (cA kl (if kl (p.getD m 0) (p.getD (m - 1) 0)=yC then (if q > 0 then D6 f (C1 p (m - (q+1)) m) (m+1) 0 else D6 f p (m+1) 0) else .ask (p.getD (m - 1) 0) (p.getD m 0) λd=>if d=yC then .ret (p,m,q) else D6 f p (m+1) (q+1)))
  have nx:∀ {p':zj Nat},Ds kl n m p'->kl (p'.getD m 0) (p'.getD (m - 1) 0)=yC->DnR kl n (p',m+1,0):=λo e=>⟨zb (za _),o.dn j e⟩
  cases e:kl (p.getD m 0) (p.getD (m - 1) 0) with
  | true=>
   rw[yT rfl]
   by_cases a:q > 0
   ·rw[yT a]
    refine lE W f _ _ _ (nx D.ds ?_) h';have b:=oN (p:=p) (i:=m - (q+1)) (D.sz.symm▸D.mn:m<=p.size);have c:=yZ (Ac q) hq;rw[b,b,yV λz=>zl z.2 (zY m),yT ⟨Nat.sub_le_sub_left (zb (za q)) m,AO c AI⟩,Nat.add_sub_assoc c,Nat.add_sub_cancel]
    exact W.lt_le e (D.eq _ _ (y0 _) (DZ (yZ (CO a) hq) (CO a)) (AO c AI)).1
   ·rw[yV a]
    have s:q=0:=D9.mp (zU.mp a);subst s;obtain⟨m,rfl⟩:∃ k,m=k+1:=⟨m - 1,(Cg hq).symm⟩;exact lE W f _ _ _ (nx D.ds0 e) h'
  | false=>
   rw[yV yQ];show DnR kl n (cA kl (if kl (p.getD (m - 1) 0) (p.getD m 0)=yC then .ret (p,m,q) else D6 f p (m+1) (q+1)))
   cases t:kl (p.getD (m - 1) 0) (p.getD m 0) with
   | true=>exact⟨hq,D⟩
   | false=>
    refine lE W f _ _ _ ⟨zb hq,?_⟩ h';show Dn kl n (m+1) (m+1 - (q+1+1)) p;rw[Nat.add_sub_add_right];exact D.more W j e t
noncomputable def PreR(kl:Nat->Nat->yH)(n:Nat)(r:Nat×zj Nat):Prop:=1<=r.1/\Pre kl n r.1 r.2
theorem qI(W:Wk kl)(D:Ds kl n m p)(h1:1<=m):PreR kl n (cA kl (kas_tail3 m n p)):=by
 unfold kas_tail3;rw[io];have r:=rL W (n - m) m (D.pre W) h1 (C4 D.mn);exact⟨yD h1 r.le,r.pre⟩
theorem lD(W:Wk kl)(D:Ds kl n m p)(h:m<n)(h1:1<=m)(c:kl (p.getD m 0) (p.getD (m - 1) 0)=yC):PreR kl n (cA kl (EE m n p)):=by
 unfold EE;rw[io];have r:=lE (n:=n) W (n - (m+1)) p (m+1) 0 ⟨zb (za _),D.dn h c⟩ (C4 h);generalize cA kl (D6 (n - (m+1)) p (m+1) 0)=t at *;obtain⟨i,m',q⟩:=t;obtain⟨hq,r⟩:=r;dsimp only at hq r ⊢;have a:1<=m':=yD (zb (za _)) hq
 by_cases b:q > 0
 ·rw[yT b];exact qI W r.ds a
 ·rw[yV b]
  have f:q=0:=D9.mp (zU.mp b);subst f;obtain⟨m',rfl⟩:∃ k,m'=k+1:=⟨m' - 1,(Cg hq).symm⟩;exact qI W r.ds0 a
theorem run_count(W:Wk kl)(P:Pre kl n 1 p)(h1:1<=n):PreR kl n (cA kl (kas_count n p)):=by
 unfold kas_count;rw[io];have r:=rL W (n - 1) 1 P (y0 _) (C4 h1);generalize cA kl (kas_asc p (n - 1) 1)=k at *
 by_cases b:(k == n)=yC
 ·rw[yT b];exact⟨r.le,r.pre⟩
 ·rw[yV b]
  have c:k<n:=Ck r.pre.kn λe=>b (AZ.mpr e)
  have st:=r.st c
  by_cases f:k > 1
  ·rw[yT f]
   show PreR kl n (cA kl (if kl (p.getD 0 0) (p.getD (k - 1) 0)=yC then .ret (k,p) else EE k n (C1 p 0 k)))
   cases e:kl (p.getD 0 0) (p.getD (k - 1) 0) with
   | true=>exact⟨r.le,r.pre⟩
   | false=>
    refine lD W r.pre.ds c r.le ?_;have a:=oN (p:=p) (i:=0) (r.pre.sz.symm▸r.pre.kn:k<=p.size);rw[a,a,yV λz=>zl z.2 (zY k),yT ⟨za _,AO r.le AI⟩,z6,CD]
    exact W.lt_le st e
  ·rw[yV f]
   have j:k=1:=Bx (zU.mp f) r.le;subst j;exact lD W ⟨r.pre.sz,r.pre.kn,λi h=>zl (AC h) (AF _),r.pre.lo,r.pre.hi⟩ c (y0 _) st
structure Plc(kl:Nat->Nat->yH)(k:Nat)(p:zj Nat)(l:Nat):Prop where
 le:l<=k
 lo:∀ i,i<l->kl (p.getD k 0) (p.getD i 0)=yz
 hi:∀ i,l<=i->i<k->kl (p.getD k 0) (p.getD i 0)=yC
theorem mm(W:Wk kl)(P:Pre kl n k p):∀ f l r,r - l<=f->l<=r->r<=k->(∀ i,i<l->kl (p.getD k 0) (p.getD i 0)=yz)->(∀ i,r<=i->i<k->kl (p.getD k 0) (p.getD i 0)=yC)->Plc kl k p (cA kl (kas_place p k f l r))
 | 0,l,r,h,h1,m,q,s=>⟨yD h1 m,q,λi b=>s i (yD (DI (D9.mp h)) b)⟩
 | f+1,l,r,h,h1,m,q,s=>by
  unfold kas_place
  by_cases a:l ≥ r
  ·rw[yT a];exact⟨yD h1 m,q,λi b=>s i (yD a b)⟩
  ·rw[yV a]
   have j:=xD (Nat.not_le.mp a);show Plc kl k p (cA kl (if kl (p.getD k 0) (p.getD ((l+r) / 2) 0)=yC then kas_place p k f l ((l+r) / 2) else kas_place p k f ((l+r) / 2+1) r))
   generalize (l+r) / 2=c at *;have o:c<k:=yZ j.2 m;cases e:kl (p.getD k 0) (p.getD c 0) with
   | true=>exact mm W P f l c (zx (yZ (Nat.sub_lt_sub_right j.1 j.2) h)) j.1 (zy o) q λi b t=>(zI b).elim (λh=>W.lt_le e ((P.so c i h t).le W)) λh=>h▸e
   | false=>exact mm W P f (c+1) r (zx (yZ (DZ (Nat.not_le.mp a) (Nat.lt_succ_of_le j.1)) h)) j.2 m (λi b=>(zI (zx b)).elim (λh=>W.neg e ((P.so i c h o).le W)) λh=>h▸e) s
theorem Pre.ins(W:Wk kl)(P:Pre kl n k p)(f:k<n){l:Nat}(L:Plc kl k p l):Pre kl n (k+1) (bubble p k (k - l)):=by
 have a:=bub_at (P.sz.symm▸f) L.le;have b:=P.hi k (y0 _) f;have le:=L.le;refine⟨(bubble_size _ _ _).trans P.sz,f,sG W λi h=>?_,λi h=>?_,λi h j=>?_⟩
 ·rw[a,a]
  rcases Nat.lt_trichotomy i l with c | c | c
  ·rw[yV (zC c),yV λz=>zl z.1 (Nat.lt_asymm c)]
   by_cases d:i+1=l
   ·rw[yT d];exact .inr ⟨L.lo i c,by rw[b];exact P.lo i (yZ c le)⟩
   ·rw[yV d,yV λz=>zl c (zU.mpr (zx z.1))];exact P.so _ _ (Ab i) (yZ (Ck c d) le)
  ·subst c
   rw[yT rfl,yV (Nat.succ_ne_self i),yT ⟨Ab i,zx h⟩];exact .inl (L.hi i (y0 _) (AC h))
  ·rw[yV (Dc c),yT (c:=l<i/\i<=k) ⟨c,zy (AC h)⟩,yV (c:=i+1=l) (Dc (zT c)),yT ⟨zT c,zx h⟩]
   exact P.so _ _ (AO (yO (za _) c) AI) (AC h)
 ·rw[a];split
  ·rw[b];exact Ab k
  ·next q=>
   split
   ·next z=>exact zT (P.lo _ (yZ (AO (yO (za _) z.1) AI) z.2))
   ·next z=>exact zT (P.lo _ (Ey λy=>z ⟨Ck (yD le y) λe=>q e.symm,zx h⟩))
 ·rw[a,yV (c:=i=l) λe=>zl (e▸h:k+1<=l) (zU.mpr le),yV λe=>zl h (zU.mpr e.2)];exact P.hi i (BB h) j
theorem vi(W:Wk kl):∀ f (p:zj Nat) k,Pre kl n k p->k+f=n->Pre kl n n (cA kl (kas_bin f p k))
 | 0,_,k,P,h=>(show k=n from h)▸P
 | f+1,p,k,P,h=>by
  unfold kas_bin;rw[io];have a:k<n:=h▸Ak (Ac f);have L:=mm W P k 0 k (y0 _) (za _) (y0 _) (λi h=>zl h (AF i)) λi h1 b=>zl b (zU.mpr h1)
  exact vi W f _ _ (P.ins W a L) ((Nat.succ_add k f).trans h)
theorem run_sort(W:Wk kl)(h1:1<=n):Pre kl n n (cA kl (kas_sort n)):=by
 unfold kas_sort;rw[io];have a:Pre kl n 1 (EF (zf n)):=by
  have e:∀ i,i<n->(EF (zf n)).getD i 0=i:=λi h=>by
   rw[Array.getD_eq_getD_getElem?,DK,D1 h];rfl
  exact⟨by rw[Cw,zJ],h1,λi j b c=>zl (yZ b (zx c)) (AF _),λi h=>by rw[e i (yZ h h1)];exact h,λi Z h=>e i h⟩
 have r:=run_count W a h1;generalize cA kl (kas_count n (EF (zf n)))=t at *
 by_cases h:t.1<n
 ·rw[yT h,Nat.max_eq_left r.1]
  exact vi W _ _ _ r.2 (C4 (zy h))
 ·rw[yV h]
  have e:t.1=n:=Bx r.2.kn (zU.mp h);exact e▸r.2
theorem Pre.pw(P:Pre kl n n p):p.toList.Pairwise (Rk kl):=Bs.mpr λi j b a h=>by
 have q:=P.so i j h (P.sz▸a);rw[Array.getD_eq_getD_getElem?,Array.getD_eq_getD_getElem?,<- zL,<- zL,yP b,yP a] at q;exact q
end
open PySem PySem.W
theorem cps_neg{a b c:yA Nat}(h1:¬ a<b)(f:¬ b<c):¬ a<c:=Eb.mpr (List.le_trans (Eb.mp f) (Eb.mp h1))
theorem wkD:WkG (λd:D=>d.isCell=yC) aL where
 irr:=λm=>aS (C:=λa=>aL a a=yz) m (λi=>Ad (Ej i)) λx=>Ad (List.lt_irrefl _)
 tr:=λ{a b c} m n h=>aS (C:=λa=>aL a b=yC->aL b c=yC->aL a c=yC) m
  (λi=>aS (C:=λb=>aL (.int i) b=yC->aL b c=yC->aL (.int i) c=yC) n
   (λj=>aS (C:=λc=>aL (.int i) (.int j)=yC->aL (.int j) c=yC->aL (.int i) c=yC) h (λk h1 f=>Af (AG (zG h1) (zG f))) λZ Z Z=>QQ)
   λy=>aS (C:=λc=>aL (.int i) (.str y)=yC->aL (.str y) c=yC->aL (.int i) c=yC) h (λk Z f=>nomatch f) λZ Z Z=>QQ)
  λx=>aS (C:=λb=>aL (.str x) b=yC->aL b c=yC->aL (.str x) c=yC) n (λj h1=>nomatch h1)
   λy=>aS (C:=λc=>aL (.str x) (.str y)=yC->aL (.str y) c=yC->aL (.str x) c=yC) h (λk Z f=>nomatch f) λz h1 f=>Af (List.lt_trans (zG h1) (zG f))
 neg:=λ{a b c} m n h=>aS (C:=λa=>aL a b=yz->aL b c=yz->aL a c=yz) m
  (λi=>aS (C:=λb=>aL (.int i) b=yz->aL b c=yz->aL (.int i) c=yz) n
   (λj=>aS (C:=λc=>aL (.int i) (.int j)=yz->aL (.int j) c=yz->aL (.int i) c=yz) h (λk h1 f=>Ad (Bl.mpr (zW (Bl.mp (AS f)) (Bl.mp (AS h1))))) λZ Z f=>nomatch f)
   λy h1=>nomatch h1)
  λx=>aS (C:=λb=>aL (.str x) b=yz->aL b c=yz->aL (.str x) c=yz) n
   (λj=>aS (C:=λc=>aL (.str x) (.int j)=yz->aL (.int j) c=yz->aL (.str x) c=yz) h (λZ Z Z=>QQ) λZ Z f=>nomatch f)
   λy=>aS (C:=λc=>aL (.str x) (.str y)=yz->aL (.str y) c=yz->aL (.str x) c=yz) h (λZ Z Z=>QQ) λz h1 f=>Ad (cps_neg (AS h1) (AS f))
theorem en{ds:yA D}(h:∀ d∈ds,d.isCell=yC)(p:Nat):(eB ds p).isCell=yC:=by
 unfold eB;rw[yW];cases e:ds[p]? with
 | none=>rfl
 | some d=>exact h d (List.mem_of_getElem? e)
theorem kix_pw{ks:yA D}(h:∀ d∈ks,d.isCell=yC):Wk (λi j=>aL (eB ks i) (eB ks j))/\(kix ks).Pairwise (Rk λi j=>aL (eB ks i) (eB ks j)):=by
 have W:Wk (λi j=>aL (eB ks i) (eB ks j)):=⟨λZ=>wkD.irr (en h _),wkD.tr (en h _) (en h _) (en h _),wkD.neg (en h _) (en h _) (en h _)⟩
 refine⟨W,?_⟩;unfold kix
 split
 ·next hl=>exact Bs.mpr λi j Z b a=>by rw[zJ] at b;exact zl (yO (Nat.succ_le_of_lt a) b) (zU.mpr (yD (zx hl) (zb (za _))))
 ·next hl=>exact (run_sort W (zy (zU.mp hl))).pw
theorem xK{p i:Nat}{l:Tab}(h:i<l.length):eB (col p l) i=(l.getD i []).getD p .none:=by
 unfold eB col;rw[yW,Ag,yW (l:=l),yP h];rfl
noncomputable def ltC(p:Nat)(a b:yA D):yH:=aL (a.getD p .none) (b.getD p .none)
theorem wkC{m p:Nat}(a:p<m):WkG (bB m) (ltC p):=⟨λb=>wkD.irr (dC b a),λb c f=>wkD.tr (dC b a) (dC c a) (dC f a),λb c f=>wkD.neg (dC b a) (dC c a) (dC f a)⟩
theorem u9{m p:Nat}(n:p<m){l:Tab}(h:aP m l):Stb (bB m) (ltC p) l ((kix (col p l)).map λi=>l.getD i []):=by
 have o:(col p l).length=l.length:=yI ..;obtain⟨W,pw⟩:=kix_pw (jW h n);have s:=lO (col p l);have lt:∀ {i},i∈kix (col p l)->i<l.length:=λc=>o▸uK c
 have kl:∀ {i j},i∈kix (col p l)->j∈kix (col p l)->aL (eB (col p l) i) (eB (col p l) j)=ltC p (l.getD i []) (l.getD j []):=λc f=>by rw[xK (lt c),xK (lt f)];rfl
 rw[o] at s;refine⟨AP.mpr (pw.imp_of_mem λc f q=>(kl f c).symm.trans (q.le W)),λx t=>?_⟩
 conv=>rhs;rw[<- tw (z:=([]:yA D)) l]
 rw[By,By];refine y6 (List.map _) (B5.eq_of_pairwise (le:=λa b:Nat=>a<b) (λa b Z Z h1 u=>zl h1 (Nat.lt_asymm u)) ?_ (Dy.filter _) (s.filter _))
 have ok:∀ {i},i∈kix (col p l)->bB m (l.getD i []):=λc=>h _ (dN (lt c))
 refine List.pairwise_filter.mpr (pw.imp_of_mem λ{i j} c f q e1 w=>q.elim (λq=>?_) (·.2))
 have q:aL (eB (col p l) i) (eB (col p l) j)=yC:=q;rw[kl c f,(wkC n).neg (ok c) t (ok f) (su e1).2 (su w).1] at q;cases q
theorem Stb.rev{α:Type}{G:α->Prop}{lt:α->α->yH}{l r:yA α}(h:Stb G lt l.reverse r):Stb G (λa b=>lt b a) l r.reverse where
 pw:=List.pairwise_reverse.mpr h.pw
 fl:=λx c=>by
  have e:eqv (λa b=>lt b a) x=eqv lt x:=funext λy=>Cf _ _
  rw[e,List.filter_reverse,h.fl x c,List.filter_reverse,DV]
noncomputable def ltK(k:Nat×yH)(a b:yA D):yH:=match k.2 with | true=>ltC k.1 b a | false=>ltC k.1 a b
theorem wkK{m:Nat}{k:Nat×yH}(i:k.1<m):WkG (bB m) (ltK k):=by
 have W:=wkC i;obtain⟨p,b⟩:=k;cases b with
 | false=>exact W
 | true=>exact⟨W.irr,λa c f h1 h=>W.tr f c a h h1,λa c f h1 h=>W.neg f c a h h1⟩
theorem ordS_stb{m:Nat}{k:Nat×yH}(a:k.1<m){l:Tab}(h:aP m l):Stb (bB m) (ltK k) l (iN k l):=by
 obtain⟨p,b⟩:=k;cases b with
 | false=>exact u9 a h
 | true=>
  have q:=(u9 (l:=l.reverse) a λr c=>h r (DG.mp c)).rev
  have e:col p l.reverse=(col p l).reverse:=EK;rw[e] at q;exact q
noncomputable def gS:yA (Nat×yH)->yA D->yA D->yH
 | []=>λZ Z=>yz
 | k::ks=>nL (ltK k) (gS ks)
theorem wkL{m:Nat}:∀ {ks:yA (Nat×yH)},(∀ k∈ks,k.1<m)->WkG (bB m) (gS ks)
 | [],_=>⟨λZ=>QQ,(λZ Z Z h=>nomatch h),λZ Z Z Z Z=>QQ⟩
 | k::ks,h=>(wkK (h k (.head _))).lex (wkL λx a=>h x (.tail _ a))
theorem orderV_cons(k:Nat×yH)(ks:yA (Nat×yH))(t:Tab):eI (k::ks) t=iN k (eI ks t):=by
 unfold eI;rw[Er,Bg];rfl
theorem kq{m:Nat}{t:Tab}(h:aP m t):∀ {ks:yA (Nat×yH)},(∀ k∈ks,k.1<m)->Stb (bB m) (gS ks) t (eI ks t)/\aP m (eI ks t)
 | [],_=>⟨⟨Bo.mpr λZ=>QQ,λZ Z=>QQ⟩,h⟩
 | k::ks,b=>by
  have i:=kq h λx c=>b x (.tail _ c)
  have b:=b k (.head _);have ok:aP m (iN k (eI ks t)):=λr f=>i.2 r ((oa k _).2 r f)
  rw[orderV_cons];exact⟨(ordS_stb b i.2).lex (λa j=>(wkK b).irr j) ok i.1,ok⟩
theorem order_sel{m:Nat}{t:Tab}(h:aP m t){ks:yA (Nat×yH)}(c:∀ k∈ks,k.1<m):sZ (gS ks) [] t.length t=eI ks t:=by
 have W:=wkL (m:=m) c;have o:=kq h c;have s:=vg (z:=([]:yA D)) W t.length t QQ h;exact s.1.uniq (λa b=>W.irr b) o.1 (λa b=>h a (s.2 a b)) o.2
section
variable {α:Type} {G:α->Prop} {lt:α->α->yH}
structure Mn(lt:α->α->yH)(l p q:yA α)(m:α):Prop where
 e:l=p++m::q
 mn:∀ y∈l,lt y m=yz
 fs:∀ y∈p,lt m y=yC
theorem rU(W:WkG G lt){step:α->α->α}(b:∀ f x,step f x=if lt x f=yC then x else f):∀ (cs l p q:yA α) (m:α),(∀ y∈l++cs,G y)->Mn lt l p q m->∃ i j,Mn lt (l++cs) i j (cs.foldl step m)
 | [],l,p,q,m,_,h=>⟨p,q,(zm l).symm▸h⟩
 | c::cs,l,p,q,m,g,h=>by
  have n:∀ y∈l,G y:=λy a=>g y (Ap _ a)
  have o:=g c (zQ _ (.head _));have s:G m:=n m (h.e▸zQ _ (.head _));rw[B7];rw[B7] at g;show ∃ i j,Mn lt (l++[c]++cs) i j (cs.foldl step (step m c));rw[b];cases e:lt c m with
  | true=>
   have up:∀ y∈l,lt c y=yC:=λy a=>W.lt_le o s (n y a) e (h.mn y a)
   exact rU W b cs (l++[c]) l [] c g ⟨QQ,λy a=>(zA.mp a).elim (λa=>W.asym o (n y a) (up y a)) λa=>by rw[y3.mp a];exact W.irr o,up⟩
  | false=>exact rU W b cs (l++[c]) p (q++[c]) m g ⟨by rw[h.e,B1];rfl,λy a=>(zA.mp a).elim (h.mn y) λa=>y3.mp a▸e,h.fs⟩
theorem tU(W:WkG G lt){step:α->α->α}(b:∀ f x,step f x=if lt x f=yC then x else f){c:α}{cs:yA α}(g:∀ y∈c::cs,G y):(c::cs).find? (λx=>!(c::cs).any λo=>lt o x)=ac ((c::cs).foldl step c):=by
 have i:=g c (.head _);obtain⟨p,q,h⟩:=rU W b cs [c] [] [] c g ⟨QQ,λy a=>by rw[y3.mp a];exact W.irr i,λZ a=>nomatch a⟩
 have e:(c::cs).foldl step c=cs.foldl step c:=by
  show cs.foldl step (step c c)=_;rw[b,W.irr i,yV yQ]
 rw[e];replace h:Mn lt (c::cs) p q (cs.foldl step c):=h;generalize cs.foldl step c=m at *;generalize c::cs=l at *;have j:m∈l:=h.e▸zQ _ (.head _);have h1:p.find? (λx=>!l.any λo=>lt o x)=yS:=List.find?_eq_none.mpr λy a=>by
  rw[CU.mpr ⟨m,j,h.fs y a⟩];exact yQ
 have n:(!l.any λo=>lt o m)=yC:=by
  rw[show (l.any λo=>lt o m)=yz from Dq.mpr λy a=>by rw[h.mn y a];exact yQ];rfl
 conv=>lhs;rw[h.e]
 rw[List.find?_append,<- h.e,h1,C6,n];rfl
end
theorem cP{a b:D}(f:a.isCell=yC)(c:b.isCell=yC):aZ a b=aL a b:=
 aS (C:=λa=>aZ a b=aL a b) f (λi=>aS (C:=λb=>aZ (.int i) b=aL (.int i) b) c (λZ=>QQ) λZ=>QQ) λx=>aS (C:=λb=>aZ (.str x) b=aL (.str x) b) c (λZ=>QQ) λZ=>QQ
theorem wkB:WkG (λd:D=>d.isCell=yC) aZ where
 irr:=λa=>(cP a a).trans (wkD.irr a)
 tr:=λa b c=>by rw[cP a b,cP b c,cP a c];exact wkD.tr a b c
 neg:=λa b c=>by rw[cP a b,cP b c,cP a c];exact wkD.neg a b c
theorem WkG.flip{α:Type}{G:α->Prop}{lt:α->α->yH}(W:WkG G lt):WkG G λa b=>lt b a:=⟨W.irr,λc f h h1 i=>W.tr h f c i h1,λc f h h1 i=>W.neg h f c i h1⟩
noncomputable def ni(w:yF)(cs:yA D)(c:D):yH:=(eqW w "least"&&!cs.any λo=>aZ o c)||(eqW w "most"&&!cs.any λo=>aZ c o)
noncomputable def iV(w:yF)(cs:yA D):D:=if eqW w "count"=yC then .int cs.length else if eqW w "sum"=yC then .int (uy cs) else (cs.find? (ni w cs)).getD .none
theorem told_law{w:yF}(hw:w∈qC){c:D}{cs:yA D}(h:∀ d∈c::cs,d.isCell=yC):iV w (c::cs)=oD w (c::cs):=by
 rcases yX.mp hw with rfl | hw
 ·rfl
 rcases yX.mp hw with rfl | hw
 ·rfl
 rcases yX.mp hw with rfl | hw
 ·show ((c::cs).find? (ni "least" (c::cs))).getD .none=(c::cs).foldl (gD "least") c
  rw[show ni "least" (c::cs)=λx=>!(c::cs).any λo=>aZ o x from funext λx=>Bool.or_false _,tU wkB (step:=gD "least") (λf x=>rfl) h];rfl
 rcases y3.mp hw with rfl
 show ((c::cs).find? (ni "most" (c::cs))).getD .none=(c::cs).foldl (gD "most") c;rw[show ni "most" (c::cs)=λx=>!(c::cs).any λo=>aZ x o from rfl,tU wkB.flip (step:=gD "most") (λf x=>rfl) h];rfl
noncomputable def fW(ps:yA Nat)(a b:yA D):yH:=aA (aQ ps a) (aQ ps b)
noncomputable def js(ps:yA Nat)(t:Tab)(k:Nat):yH:=!(t.take k).any λa=>fW ps a (t.getD k [])
noncomputable def cj(ps:yA Nat)(t:Tab)(k:Nat):yA D×Tab:=(aQ ps (t.getD k []),t.filter λa=>fW ps a (t.getD k []))
noncomputable def qU(ps:yA Nat)(t:Tab):Grp:=((zf t.length).filter (js ps t)).map (cj ps t)
theorem rj{a b:D}(c:a.isCell=yC)(h:bv a b=yC):a=b:=by
 revert h;refine aS (C:=λa=>bv a b=yC->a=b) c (λi=>?_) λx=>?_
 ·cases b <;> intro h <;> first | exact y6 D.int (eq_of_beq h) | cases h
 ·cases b <;> intro h <;> first | exact y6 D.str (eq_of_beq h) | cases h
theorem jx:∀ {a b:yA D},(∀ d∈a,d.isCell=yC)->aA a b=yC->a=b
 | [],[],_,_=>rfl
 | x::a,y::b,h,e=>by
  have e:=zr.mp (show (bv x y&&aA a b)=yC from e);rw[rj (h x (.head _)) e.1,jx (λd c=>h d (.tail _ c)) e.2]
theorem oM{a b:yA D}(f:∀ d∈a,d.isCell=yC)(h:∀ d∈b,d.isCell=yC):aA a b=aA b a:=by
 cases e:aA a b with
 | true=>have:=jx f e;subst this;exact e.symm
 | false=>cases c:aA b a with
  | false=>rfl
  | true=>have:=jx h c;subst this;rw[c] at e;cases e
noncomputable def si(k r:yA D)(q:yA D×Tab):yA D×Tab:=if aA q.1 k=yC then (q.1,q.2++[r]) else q
theorem mP{k r:yA D}:∀ {G:Grp},(∀ q∈G,aA q.1 k=yz)->cO k r G=G++[(k,[r])]/\G.map (si k r)=G
 | [],_=>⟨QQ,QQ⟩
 | q::G,h=>by
  have i:=mP (r:=r) λx a=>h x (.tail _ a)
  have e:=h q (.head _);unfold cO;rw[y8,i.2,i.1];unfold si;rw[e,yV yQ];exact⟨QQ,QQ⟩
theorem qZ{k r:yA D}(i:∀ d∈k,d.isCell=yC):∀ {G:Grp},(∀ q∈G,∀ d∈q.1,d.isCell=yC)->(G.map (·.1)).Pairwise (λa b=>aA a b=yz)->(∃ q∈G,aA q.1 k=yC)->cO k r G=G.map (si k r)
 | [],_,_,h=>h.elim λZ h=>nomatch h.1
 | q::G,f,pw,h=>by
  have pw:=At.mp pw;rw[y8];unfold cO;cases e:aA q.1 k with
  | true=>
   rw[yT rfl,(mP (k:=k) (r:=r) (G:=G) λx c=>by have:aA q.1 x.1=yz:=pw.1 x.1 (zn.mpr ⟨x,c,rfl⟩);rw[jx (f q (.head _)) e,oM i (f x (.tail _ c))] at this;exact this).2]
   unfold si;rw[yT e]
  | false=>
   rw[yV yQ,qZ i (λx c=>f x (.tail _ c)) pw.2 (h.elim λx c=>⟨x,(yX.mp c.1).elim (λz=>by rw[z,e] at c;cases c.2) id,c.2⟩)]
   unfold si;rw[e];rfl
theorem xJ{ps:yA Nat}:∀ (l:Tab) (G:Grp),(∀ q∈G,∃ f∈l.foldl (λG r=>cO (aQ ps r) r G) G,f.1=q.1)/\∀ a∈l,(∀ d∈aQ ps a,d.isCell=yC)->∃ q∈l.foldl (λG r=>cO (aQ ps r) r G) G,aA q.1 (aQ ps a)=yC
 | [],G=>⟨λq hq=>⟨q,hq,QQ⟩,λZ h=>nomatch h⟩
 | r::l,G=>by
  have i:=xJ (ps:=ps) l (cO (aQ ps r) r G);have st:∀ {G:Grp} {k:yA D},(∀ q∈G,∃ f∈cO k r G,f.1=q.1)/\((∀ d∈k,d.isCell=yC)->∃ q∈cO k r G,aA q.1 k=yC):=by
   intro G k
   induction G with
   | nil=>exact⟨(λZ h=>nomatch h),λj=>⟨_,.head _,dU j⟩⟩
   | cons p G n=>
    unfold cO;cases e:aA p.1 k with
    | true=>exact⟨λq hq=>(yX.mp hq).elim (λz=>⟨_,.head _,z▸rfl⟩) λhq=>⟨q,.tail _ hq,QQ⟩,λZ=>⟨_,.head _,e⟩⟩
    | false=>exact⟨λq hq=>(yX.mp hq).elim (λz=>⟨p,.head _,z▸rfl⟩) λhq=>(n.1 q hq).elim λx b=>⟨x,.tail _ b.1,b.2⟩,λj=>(n.2 j).elim λx b=>⟨x,.tail _ b.1,b.2⟩⟩
  refine⟨λq hq=>(st.1 q hq).elim λx b=>(i.1 x b.1).elim λy c=>⟨y,c.1,c.2.trans b.2⟩,λa m o=>(yX.mp m).elim (λz=>?_) λm=>i.2 a m o⟩
  subst z;exact (st.2 o).elim λx b=>(i.1 x b.1).elim λy c=>⟨y,c.1,by rw[c.2];exact b.2⟩
theorem pC{m:Nat}{ps:yA Nat}(A:∀ p∈ps,p<m):∀ (n:Nat) (t:Tab),t.length=n->aP m t->cr ps t=qU ps t
 | 0,t,u,_=>by rw[AJ.mp u];rfl
 | n+1,t,u,h=>by
  obtain⟨l,r,rfl⟩:∃ l r,t=l++[r]:=⟨t.dropLast,t.getLast (Ca u),(CG _).symm⟩;have j:l.length=n:=by rw[yY] at u;exact Am u
  have f:aP m l:=λx B=>h x (Ap _ B)
  have o:bB m r:=h r (zQ _ (.head _));have y:∀ {x},bB m x->∀ d∈aQ ps x,d.isCell=yC:=λB=>(gv B A).2
  have C:=pC A n l j f;have g:=iz A f;have e1:cr ps (l++[r])=cO (aQ ps r) r (cr ps l):=by unfold cr;rw[Bg];rfl
  have E:∀ k,k<n->(l++[r]).getD k []=l.getD k []:=λk b=>iA (j▸b)
  have G:(l++[r]).getD n []=r:=by rw[yW,Ai (y5 j),j,CD];rfl
  have ok:∀ k,k<n->bB m (l.getD k []):=λk b=>f _ (dN (j▸b))
  have I:(zf n).filter (js ps (l++[r]))=(zf n).filter (js ps l):=Bh λk b=>by
   have b:=AK.mp b;unfold js;rw[E k b,List.take_append_of_le_length (zy (j▸b))]
  have J:((zf n).filter (js ps l)).map (cj ps (l++[r]))=(qU ps l).map (si (aQ ps r) r):=by
   unfold qU;rw[zV,j];refine AH λk b=>?_
   have b:=AK.mp (zp.mp b).1;show cj ps (l++[r]) k=si (aQ ps r) r (cj ps l k);unfold si cj;rw[E k b,zP];have e:fW ps r (l.getD k [])=aA (aQ ps (l.getD k [])) (aQ ps r):=oM (y o) (y (ok k b));cases c:aA (aQ ps (l.getD k [])) (aQ ps r) with
   | true=>rw[zc (p:=λa=>fW ps a (l.getD k [])) (e.trans c)];rfl
   | false=>rw[zw (p:=λa=>fW ps a (l.getD k [])) (by rw[e,c];exact yQ),A7,zm];rfl
  have nx:js ps (l++[r]) n=!l.any λa=>fW ps a r:=by
   unfold js;rw[G,<- j,List.take_left]
  have L:qU ps (l++[r])=(cr ps l).map (si (aQ ps r) r)++if js ps (l++[r]) n=yC then [cj ps (l++[r]) n] else []:=by
   rw[C,<- J,<- I];unfold qU;rw[u,List.range_succ,zP,zd];refine y6 (_++·) ?_;cases c:js ps (l++[r]) n with
   | true=>rw[zc c];rfl
   | false=>rw[zw (by rw[c];exact yQ)];rfl
  rw[e1,L,nx];cases c:l.any λa=>fW ps a r with
  | true=>
   obtain⟨a,w,M⟩:=CU.mp c;obtain⟨q,hq,e⟩:=(xJ l []).2 a w (y (f a w));have N:=jx (g.ke q hq).2 e;rw[qZ (y o) (λq hq=>(g.ke q hq).2) g.pw ⟨q,hq,by rw[N];exact M⟩]
   exact (zm _).symm
  | false=>
   have H:∀ a∈l,fW ps a r=yz:=λa w=>Cz.mpr λz=>by have:=Dq.mp c a w;exact this z
   have s:∀ q∈cr ps l,aA q.1 (aQ ps r)=yz:=λq hq=>by
    rw[C] at hq;obtain⟨k,b,rfl⟩:=zn.mp hq;exact H _ (dN (AK.mp (zp.mp b).1))
   have i:=mP (r:=r) s;rw[i.1,i.2];refine y6 (_++·) ?_;show[(aQ ps r,[r])]=[cj ps (l++[r]) n];unfold cj;rw[G,zP,show l.filter (λa=>fW ps a r)=[] from Cr.mpr λa w=>by rw[H a w];exact yQ,zc (p:=λa=>fW ps a r) (show fW ps r r=yC from dU (y o))];rfl
set_option maxHeartbeats 400000
noncomputable def jN:Fn:=⟨["_law_cell"],[
  .ite (.cmp .Eq (.bin .Mod (.bin .FloorDiv (.u "_law_cell") (.int 4)) (.int 9)) (.int 1)) [.ret (.bin .Mod (.bin .FloorDiv (.u "_law_cell") (.int 36)) (.int 13))] [],
  .ret (.bin .Mod (.u "_law_cell") (.int 4))]⟩
noncomputable def iB:Fn:=⟨["_law_cell","_law_wide"],[
  .ite (.cmp .Eq (.u "_law_wide") (.int 0)) [.ret (.tup [])] [],
  .ret (.blt "tuple" [.comp (.bin .Mod (.call "_law_mixed" [.u "_law_cell",.bin .Add (.int 60) (.u "_law_k")]) (.u "_law_wide")) "_law_k" (.blt "range" [.call "_law_many" [.u "_law_cell"]]) []])]⟩
noncomputable def jI:Fn:=⟨["_law_cell","_law_wide"],[
  .x0 "_law_words" (.lst [.str "count",.str "sum",.str "least",.str "most"]),
  .x0 "_law_places" (.call "_law_places_by" [.bin .FloorDiv (.u "_law_cell") (.int 5),.u "_law_wide"]),
  .ret (.blt "tuple" [.comp (.tup [.sub (.u "_law_words") (.bin .Mod (.call "_law_mixed" [.u "_law_cell",.bin .Add (.int 80) (.u "_law_k")]) (.int 4)),.sub (.u "_law_places") (.u "_law_k")]) "_law_k" (.blt "range" [.blt "len" [.u "_law_places"]]) []])]⟩
noncomputable def jP:Fn:=⟨["_law_cell","_law_wide"],[
  .x0 "_law_places" (.call "_law_places_by" [.u "_law_cell",.u "_law_wide"]),
  .ret (.blt "tuple" [.comp (.tup [.sub (.u "_law_places") (.u "_law_k"),.cmp .Eq (.bin .Mod (.call "_law_mixed" [.u "_law_cell",.bin .Add (.int 90) (.u "_law_k")]) (.int 2)) (.int 1)]) "_law_k" (.blt "range" [.blt "len" [.u "_law_places"]]) []])]⟩
noncomputable def dE:Fn:=⟨["_law_cell","_law_many_here"],[
  .x0 "_law_count" (.sub (.lst [.int 0,.int 1,.int 1,.int 2]) (.bin .Mod (.u "_law_cell") (.int 4))),
  .ite (.cmp .Eq (.bin .Mod (.bin .FloorDiv (.u "_law_cell") (.int 4)) (.int 9)) (.int 1)) [.x0 "_law_count" (.bin .Mod (.bin .FloorDiv (.u "_law_cell") (.int 36)) (.int 13))] [],
  .ret (.blt "tuple" [.comp (.call "_law_clause_by" [.call "_law_mixed" [.u "_law_cell",.bin .Add (.int 20) (.u "_law_k")],.u "_law_many_here"]) "_law_k" (.blt "range" [.u "_law_count"]) []])]⟩
noncomputable def jo:Fn:=⟨["_law_cell","_law_one","_law_other"],[
  .ite (.bop .Or [.cmp .Eq (.u "_law_one") (.int 0),.cmp .Eq (.u "_law_other") (.int 0)]) [.ret (.tup [])] [],
  .x0 "_law_many_here" (.sub (.lst [.int 0,.int 0,.int 0,.int 0,.int 1,.bin .Mod (.bin .FloorDiv (.u "_law_cell") (.int 6)) (.int 13)]) (.bin .Mod (.u "_law_cell") (.int 6))),
  .ret (.blt "tuple" [.comp (.tup [.bin .Mod (.call "_law_mixed" [.u "_law_cell",.bin .Add (.int 70) (.u "_law_k")]) (.u "_law_one"),.bin .Mod (.call "_law_mixed" [.u "_law_cell",.bin .Add (.int 75) (.u "_law_k")]) (.u "_law_other")]) "_law_k" (.blt "range" [.u "_law_many_here"]) []])]⟩
noncomputable def fj:Fn:=⟨["_law_word","_law_cell","_law_top"],[
  .ite (.cmp .Lt (.u "_law_word") (.int 3)) [.ret (.tup [.tup [.str "sieve",.call "_law_clauses_by" [.u "_law_cell",.sub (.u "_law_top") (.int 1)],.sub (.u "_law_top") (.int 0)],.sub (.u "_law_top") (.int 1),.sub (.u "_law_top") (.int 2),.sub (.u "_law_top") (.int 3)])] [],
  .ite (.cmp .Eq (.u "_law_word") (.int 4)) [.x0 "_law_places" (.call "_law_places_by" [.u "_law_cell",.sub (.u "_law_top") (.int 1)]),.ret (.tup [.tup [.str "pick",.u "_law_places",.sub (.u "_law_top") (.int 0)],.blt "len" [.u "_law_places"],.sub (.u "_law_top") (.int 2),.sub (.u "_law_top") (.int 3)])] [],
  .ite (.bop .Or [.cmp .Eq (.u "_law_word") (.int 3),.cmp .Eq (.u "_law_word") (.int 5)]) [.x0 "_law_places" (.call "_law_places_by" [.u "_law_cell",.sub (.u "_law_top") (.int 1)]),.x0 "_law_sums" (.call "_law_sums_by" [.u "_law_cell",.sub (.u "_law_top") (.int 1)]),.ret (.tup [.tup [.str "group",.u "_law_places",.u "_law_sums",.sub (.u "_law_top") (.int 0)],.bin .Add (.blt "len" [.u "_law_places"]) (.blt "len" [.u "_law_sums"]),.sub (.u "_law_top") (.int 2),.sub (.u "_law_top") (.int 3)])] [],
  .ite (.cmp .Eq (.u "_law_word") (.int 6)) [.ret (.tup [.tup [.str "order",.call "_law_keys_by" [.u "_law_cell",.sub (.u "_law_top") (.int 1)],.sub (.u "_law_top") (.int 0)],.sub (.u "_law_top") (.int 1),.sub (.u "_law_top") (.int 2),.sub (.u "_law_top") (.int 3)])] [],
  .ite (.cmp .Eq (.u "_law_word") (.int 7)) [.ret (.tup [.tup [.str "once",.sub (.u "_law_top") (.int 0)],.sub (.u "_law_top") (.int 1),.sub (.u "_law_top") (.int 2),.sub (.u "_law_top") (.int 3)])] [],
  .x0 "_law_count" (.bin .Add (.int 1) (.bin .Mod (.u "_law_cell") (.int 6))),
  .ite (.cmp .Eq (.bin .Mod (.bin .FloorDiv (.u "_law_cell") (.int 6)) (.int 4)) (.int 1)) [.x0 "_law_count" (.bin .Mod (.bin .FloorDiv (.u "_law_cell") (.int 24)) (.int 70))] [],
  .ite (.cmp .Eq (.bin .Mod (.bin .FloorDiv (.u "_law_cell") (.int 6)) (.int 9)) (.int 2)) [.x0 "_law_count" (.bin .Mod (.bin .FloorDiv (.u "_law_cell") (.int 54)) (.bin .Pow (.int 10) (.int 40)))] [],
  .ret (.tup [.tup [.str "first",.u "_law_count",.sub (.u "_law_top") (.int 0)],.sub (.u "_law_top") (.int 1),.blt "min" [.sub (.u "_law_top") (.int 2),.u "_law_count"],.sub (.u "_law_top") (.int 3)])]⟩
noncomputable def fi:Fn:=⟨["_law_word","_law_cell","_law_one","_law_two"],[
  .ite (.bop .Or [.cmp .Gt (.bin .Add (.sub (.u "_law_one") (.int 3)) (.sub (.u "_law_two") (.int 3))) (.int 24),.bop .And [.cmp .Eq (.u "_law_word") (.str "join"),.cmp .Gt (.bin .Add (.sub (.u "_law_one") (.int 1)) (.sub (.u "_law_two") (.int 1))) (.int 14)]]) [.ret (.lst [])] [],
  .ite (.cmp .Eq (.u "_law_word") (.str "join")) [.ite (.cmp .Gt (.bin .Mult (.sub (.u "_law_one") (.int 2)) (.sub (.u "_law_two") (.int 2))) (.int 36)) [.x0 "_law_one" (.call "_law_around" [.int 8,.int 5,.u "_law_one"]),.x0 "_law_two" (.call "_law_around" [.int 8,.int 5,.u "_law_two"])] [],.x0 "_law_query" (.tup [.str "join",.sub (.u "_law_one") (.int 0),.sub (.u "_law_two") (.int 0),.call "_law_pairs_by" [.u "_law_cell",.sub (.u "_law_one") (.int 1),.sub (.u "_law_two") (.int 1)]]),.ret (.lst [.tup [.u "_law_query",.bin .Add (.sub (.u "_law_one") (.int 1)) (.sub (.u "_law_two") (.int 1)),.bin .Mult (.sub (.u "_law_one") (.int 2)) (.sub (.u "_law_two") (.int 2)),.bin .Add (.sub (.u "_law_one") (.int 3)) (.sub (.u "_law_two") (.int 3))]])] [],
  .ite (.bop .And [.cmp .Eq (.u "_law_word") (.str "both"),.cmp .Eq (.sub (.u "_law_one") (.int 1)) (.sub (.u "_law_two") (.int 1)),.cmp .LtE (.bin .Add (.sub (.u "_law_one") (.int 2)) (.sub (.u "_law_two") (.int 2))) (.int 36)]) [.ret (.lst [.tup [.tup [.str "both",.sub (.u "_law_one") (.int 0),.sub (.u "_law_two") (.int 0)],.sub (.u "_law_one") (.int 1),.bin .Add (.sub (.u "_law_one") (.int 2)) (.sub (.u "_law_two") (.int 2)),.bin .Add (.sub (.u "_law_one") (.int 3)) (.sub (.u "_law_two") (.int 3))]])] [],
  .ret (.lst [])]⟩
noncomputable def fE:Fn:=⟨["_law_top","_law_cell"],[
  .ite (.bop .And [.cmp .Eq (.bin .Mod (.bin .FloorDiv (.u "_law_cell") (.int 4)) (.int 2)) (.int 1),.cmp .Gt (.sub (.u "_law_top") (.int 1)) (.int 0)]) [.x0 "_law_word" (.sub (.lst [.str "from",.str "upto",.str "unlike"]) (.bin .Mod (.bin .FloorDiv (.u "_law_cell") (.int 12)) (.int 3))),.x0 "_law_test" (.tup [.u "_law_word",.bin .Mod (.call "_law_mixed" [.u "_law_cell",.int 8]) (.sub (.u "_law_top") (.int 1)),.str "is",.bin .Mod (.bin .FloorDiv (.u "_law_cell") (.int 36)) (.int 3)]),.ret (.tup [.tup [.str "sieve",.tup [.tup [.u "_law_test"]],.sub (.u "_law_top") (.int 0)],.sub (.u "_law_top") (.int 1),.sub (.u "_law_top") (.int 2),.sub (.u "_law_top") (.int 3)])] [],
  .ret (.call "_law_around" [.int 0,.bin .Add (.bin .Mult (.bin .FloorDiv (.call "_law_mixed" [.u "_law_cell",.int 6]) (.int 4)) (.int 4)) (.int 1),.u "_law_top"])]⟩
structure BN(P:yA (yF×Fn)):Prop extends BD P where
 mn:P.lookup "_law_many"=ac jN
 pb:P.lookup "_law_places_by"=ac iB
 sb:P.lookup "_law_sums_by"=ac jI
 kb:P.lookup "_law_keys_by"=ac jP
 cb:P.lookup "_law_clauses_by"=ac dE
 rb:P.lookup "_law_pairs_by"=ac jo
 ar:P.lookup "_law_around"=ac fj
 o2:P.lookup "_law_of_two"=ac fi
 so:P.lookup "_law_sieve_on"=ac fE
theorem mG{α:Type}{g:α->D}{R:α->Prop}:∀ {ds:yA D},(∀ d∈ds,∃ x,R x/\d=g x)->∃ xs:yA α,ds=xs.map g/\∀ x∈xs,R x
 | [],_=>⟨[],QQ,λZ h=>nomatch h⟩
 | d::ds,h=>by
  obtain⟨x,h1,rfl⟩:=h d (.head _);obtain⟨xs,rfl,a⟩:=mG λd b=>h d (.tail _ b)
  exact⟨x::xs,QQ,λy c=>(yX.mp c).elim (λe=>e▸h1) (a y)⟩
section
variable {P:yA (yF×Fn)} {X:CF}
theorem many_eq(B:BN P)(n:Nat)(c:Int):∃ m:Nat,m<=12/\(af P X (n+1)).call "_law_many" [.int c]=ac (.int m,yz):=by
 obtain⟨f,e1,h1⟩:=cm (c / 36) (k:=13) (by decide)
 obtain⟨h,a,o⟩:=cm c (k:=4) (by decide)
 have e1:c / 36 % 13=(f:Int):=e1;have a:c % 4=(h:Int):=a;have b:Rex (af P X n) jN.body [("_law_cell",(yz,.int c))] λd fr=>(∃ m:Nat,m<=12/\d=.int m)/\fr=yz:=by
  refine dQ (k:=c / 4 % 9 == 1) (ax (ak (ak (vr ad) vI (bo (by decide))) vI (aO (by decide))) vI QQ) QQ (λZ=>?_) λZ=>?_
  ·exact cH (aq (ak (ak (vr ad) vI (bo (by decide))) vI (aO (by decide))) QQ QQ) QQ ⟨⟨f,by omega,by rw[<- e1]⟩,QQ⟩
  ·exact cH (aq (ak (vr ad) vI (aO (by decide))) QQ QQ) QQ ⟨⟨h,by omega,by rw[<- a]⟩,QQ⟩
 obtain⟨d,fr,⟨⟨m,i,rfl⟩,rfl⟩,j⟩:=dJ (X:=X) (args:=[.int c]) B.mn QQ b;exact⟨m,i,j⟩
theorem mu(B:BN P)(n:Nat)(c:Int)(w:Nat):∃ ps:yA Nat,(∀ p∈ps,p<w)/\ps.length<=12/\(af P X (n+2)).call "_law_places_by" [.int c,.int w]=ac (.tup (ps.map aM),yz):=by
 by_cases b:w=0
 ·subst b
  exact⟨[],(λZ h=>nomatch h),za _,au B.pb QQ (bc (k:=yC) (x:=.bool yC) QQ QQ (λZ=>aE QQ QQ) nofun)⟩
 ·obtain⟨m,j,q⟩:=many_eq (X:=X) B n c
  have s:0<w:=by exact om38 b
  have a:(0:Int)<(w:Int):=by exact om135 b
  obtain⟨ds,o,q2,t⟩:=kR (cf:=af P X (n+1)) (ρ:=vis [("_law_cell",(yz,.int c)),("_law_wide",(yz,.int w))]) (elt:=.bin .Mod (.call "_law_mixed" [.u "_law_cell",.bin .Add (.int 60) (.u "_law_k")]) (.u "_law_wide")) (z:="_law_k") (E5:=.call "_law_many" [.u "_law_cell"]) (k:=m) (kJ j) (λd=>∃ p:Nat,p<w/\d=aM p) (am (vv ad vN) q) (by
   intro i _;obtain⟨r,_,u⟩:=mixed (X:=X) B.toBG n c (60+i);obtain⟨p,ep,A⟩:=cm r s;exact⟨aM p,⟨p,A,QQ⟩,by show _=ac (D.int p);rw[<- ep];exact ak (am (aa (aC (bj QQ (aF ad))) (aa (ak vI (aC bO) cU) vN)) u) (aC (bj QQ (aF (ae QQ ad)))) (aO a)⟩)
  obtain⟨ps,rfl,f⟩:=mG q2;have e:ec .Eq (.int w) (.int 0)=ac (.bool yz):=by
   show ac (D.bool ((w:Int) == 0))=_;rw[show ((w:Int) == 0)=yz from by rw[An];exact om137 b]
  refine⟨ps,f,by rw[yI] at o;exact th j o,au B.pb QQ ?_⟩
  exact bc (k:=yz) (ax (x:=.int w) (y:=.int 0) QQ QQ e) QQ nofun λZ=>aE (aq t QQ QQ) QQ
theorem sums_by(B:BN P)(n:Nat)(c:Int)(w:Nat):∃ b:yA (yF×Nat),(∀ x∈b,x.2<w/\x.1∈qC)/\b.length<=12/\(af P X (n+3)).call "_law_sums_by" [.int c,.int w]=ac (.tup (b.map dI),yz):=by
 obtain⟨ps,j,f,u⟩:=mu (X:=X) B n (c / 5) w;have q:2000<big:=by decide
 have h:hY "len" [.tup (ps.map aM)]=ac (.int ps.length):=by show ac (D.int ((ps.map aM).length:Nat))=_;rw[yI]
 obtain⟨ds,t,q2,y⟩:=kR (cf:=af P X (n+2)) (ρ:=vis [("_law_cell",(yz,.int c)),("_law_wide",(yz,.int w)),("_law_words",(yC,.list [sD "count",sD "sum",sD "least",sD "most"])),("_law_places",(yz,.tup (ps.map aM)))])
  (elt:=.tup [.sub (.u "_law_words") (.bin .Mod (.call "_law_mixed" [.u "_law_cell",.bin .Add (.int 80) (.u "_law_k")]) (.int 4)),.sub (.u "_law_places") (.u "_law_k")]) (z:="_law_k") (E5:=.blt "len" [.u "_law_places"]) (k:=ps.length) (kJ f) (λd=>∃ x:yF×Nat,(x.2<w/\x.1∈qC)/\d=dI x) (bR (vv (ae QQ (ae QQ (ae QQ ad))) vN) h) (by
   intro i m;obtain⟨r,_,A⟩:=mixed (X:=X) B.toBG (n+1) c (80+i);obtain⟨d,⟨s,rfl,C⟩,a⟩:=dy (l:=[sD "count",sD "sum",sD "least",sD "most"]) (by decide) r (R:=λd=>∃ s,d=sD s/\s∈qC) (by
    intro d a;simp only[yX,zK,Bf] at a
    rcases a with rfl | rfl | rfl | rfl <;> exact⟨_,QQ,by decide⟩)
   have a:aV (.list [sD "count",sD "sum",sD "least",sD "most"]) (.int (r % 4))=ac (sD s):=a;have E:=vm m;exact⟨dI (s,ps.getD i 0),⟨(s,ps.getD i 0),⟨by show ps.getD i 0<w;rw[yW,yP m];exact j _ (Ay m),C⟩,QQ⟩,bA (aa (av (aC (bj QQ (aF (ae QQ (ae QQ ad))))) (ak (am (aa (aC (bj QQ (aF ad))) (aa (ak vI (aC bO) cU) vN)) A) vI (aO (dtt QQ))) a) (aa (av (aC (bj QQ (aF (ae QQ (ae QQ (ae QQ ad)))))) (aC bO) E) vN)) (yM QQ)⟩)
 obtain⟨b,rfl,o⟩:=mG q2;refine⟨b,o,by rw[yI] at t;exact th f t,au B.sb QQ ?_⟩
 refine aB (ai (d:=.list [sD "count",sD "sum",sD "least",sD "most"]) (fr:=yC) QQ) ?_;refine aB (ai (aD (aa (d:=.int (c / 5)) QQ (aa (d:=.int w) QQ vN)) u)) ?_;exact aE (aq y QQ QQ) QQ
theorem keys_by(B:BN P)(n:Nat)(c:Int)(w:Nat):∃ ks:yA (Nat×yH),(∀ x∈ks,x.1<w)/\ks.length<=12/\(af P X (n+3)).call "_law_keys_by" [.int c,.int w]=ac (.tup (ks.map eE),yz):=by
 obtain⟨ps,f,a,o⟩:=mu (X:=X) B n c w;have b:hY "len" [.tup (ps.map aM)]=ac (.int ps.length):=by show ac (D.int ((ps.map aM).length:Nat))=_;rw[yI]
 obtain⟨ds,m,q2,q⟩:=kR (cf:=af P X (n+2)) (ρ:=vis [("_law_cell",(yz,.int c)),("_law_wide",(yz,.int w)),("_law_places",(yz,.tup (ps.map aM)))])
  (elt:=.tup [.sub (.u "_law_places") (.u "_law_k"),.cmp .Eq (.bin .Mod (.call "_law_mixed" [.u "_law_cell",.bin .Add (.int 90) (.u "_law_k")]) (.int 2)) (.int 1)]) (z:="_law_k") (E5:=.blt "len" [.u "_law_places"]) (k:=ps.length) (kJ a) (λd=>∃ x:Nat×yH,x.1<w/\d=eE x) (bR (vv (ae QQ (ae QQ ad)) vN) b) (by
   intro i h;obtain⟨r,_,s⟩:=mixed (X:=X) B.toBG (n+1) c (90+i);have t:=vm h;exact⟨eE (ps.getD i 0,r % 2 == 1),⟨(ps.getD i 0,r % 2 == 1),by show ps.getD i 0<w;rw[yW,yP h];exact f _ (Ay h),QQ⟩,bA (aa (av (aC (bj QQ (aF (ae QQ (ae QQ ad))))) (aC bO) t) (aa (ax (ak (am (aa (aC (bj QQ (aF ad))) (aa (ak vI (aC bO) cU) vN)) s) vI (aO (dtt QQ))) vI QQ) vN)) (yM QQ)⟩)
 obtain⟨u,rfl,j⟩:=mG q2;refine⟨u,j,by rw[yI] at m;exact th a m,au B.kb QQ ?_⟩
 refine aB (ai (aD (aa (d:=.int c) QQ (aa (d:=.int w) QQ vN)) o)) ?_;exact aE (aq q QQ QQ) QQ
theorem clauses_by(B:BN P)(n:Nat)(c:Int)(m:Nat)(A:m<=1000):∃ cs:yA (yA D),(∀ x∈cs,bV m x)/\cs.length<=12/\(af P X (n+5)).call "_law_clauses_by" [.int c,.int m]=ac (.tup (cs.map clD),yz):=by
 have a:∀ k:Nat,k<=12->Rex (af P X (n+4)) (dE.body.drop 2) [("_law_cell",(yz,.int c)),("_law_many_here",(yz,.int m)),("_law_count",(yz,.int k))] λd fr=>(∃ cs:yA (yA D),(∀ x∈cs,bV m x)/\cs.length<=12/\d=.tup (cs.map clD))/\fr=yz:=by
  intro k t;obtain⟨ds,u,q2,C⟩:=kR (cf:=af P X (n+4)) (ρ:=vis [("_law_cell",(yz,.int c)),("_law_many_here",(yz,.int m)),("_law_count",(yz,.int k))]) (elt:=.call "_law_clause_by" [.call "_law_mixed" [.u "_law_cell",.bin .Add (.int 20) (.u "_law_k")],.u "_law_many_here"]) (z:="_law_k") (E5:=.u "_law_count") (k:=k) (kJ t) (λd=>∃ x:yA D,bV m x/\d=clD x) QQ (by
   intro i _;obtain⟨r,_,f⟩:=mixed (X:=X) B.toBG (n+3) c (20+i);obtain⟨d,⟨w,rfl,h1,y⟩,b⟩:=clause_by (X:=X) B.toBD n r m A;exact⟨.tup w,⟨w,⟨h1,y⟩,QQ⟩,(am (aa (am (aa (aC (bj QQ (aF ad))) (aa (ak vI (aC bO) cU) vN)) f) (aa (aC (bj QQ (aF (ae QQ ad)))) vN)) b)⟩)
  obtain⟨cs,rfl,h⟩:=mG q2;exact cH (aq C QQ QQ) QQ ⟨⟨cs,h,by rw[yI] at u;exact th t u,QQ⟩,QQ⟩
 obtain⟨G,⟨j,rfl,h1⟩,o⟩:=dy (l:=[.int 0,.int 1,.int 1,.int 2]) (by decide) c (R:=λd=>∃ k:Nat,d=.int k/\k<=12) (by
  intro d b;simp only[yX,zK,Bf] at b
  rcases b with rfl | rfl | rfl | rfl <;> first | exact⟨0,QQ,by decide⟩ | exact⟨1,QQ,by decide⟩ | exact⟨2,QQ,by decide⟩)
 have o:aV (.list [.int 0,.int 1,.int 1,.int 2]) (.int (c % 4))=ac (.int j):=o;obtain⟨k2,q,y⟩:=cm (c / 36) (k:=13) (by decide)
 have q:c / 36 % 13=(k2:Int):=q;have s:Rex (af P X (n+4)) dE.body [("_law_cell",(yz,.int c)),("_law_many_here",(yz,.int m))] λd fr=>(∃ cs:yA (yA D),(∀ x∈cs,bV m x)/\cs.length<=12/\d=.tup (cs.map clD))/\fr=yz:=by
  refine bg (ai (d:=.int j) (fr:=yz) (aq (av (cR (aa vI (aa vI (aa vI (aa vI vN)))) (dtt QQ)) (ak (vr ad) vI (aO (dtt QQ))) o) QQ QQ)) ?_;refine dQ (k:=c / 4 % 9 == 1) (ax (ak (ak (vr (ag QQ (ao ad))) vI (bo (dtt QQ))) vI (aO (dtt QQ))) vI QQ) QQ (λZ=>?_) λZ=>a j h1
  refine bg (ai (d:=.int k2) (fr:=yz) (by rw[<- q];exact aq (ak (ak (vr (ag QQ (ao ad))) vI (bo (dtt QQ))) vI (aO (dtt QQ))) QQ QQ)) (a k2 (by omega))
 obtain⟨d,fr,⟨⟨cs,g1,E,rfl⟩,rfl⟩,f⟩:=dJ (X:=X) (args:=[.int c,.int m]) B.cb QQ s;exact⟨cs,g1,E,f⟩
theorem pairs_by(B:BN P)(n:Nat)(c:Int)(a b:Nat):∃ f:yA (Nat×Nat),(∀ k∈f,k.1<a/\k.2<b)/\f.length<=12/\(af P X (n+2)).call "_law_pairs_by" [.int c,.int a,.int b]=ac (.tup (f.map prT),yz):=by
 by_cases j:a=0\/b=0
 ·refine⟨[],(λZ h=>nomatch h),za _,au B.rb QQ ?_⟩
  have s:evE (af P X (n+1)) (vis [("_law_cell",(yz,.int c)),("_law_one",(yz,.int a)),("_law_other",(yz,.int b))]) (.bop .Or [.cmp .Eq (.u "_law_one") (.int 0),.cmp .Eq (.u "_law_other") (.int 0)])=ac (.bool ((a:Int) == 0||(b:Int) == 0)):=gB (k:=(a:Int) == 0) (l:=(b:Int) == 0) (ax (x:=.int a) (y:=.int 0) QQ QQ QQ) λZ=>bC (ax (x:=.int b) (y:=.int 0) QQ QQ QQ)
  have t:((a:Int) == 0||(b:Int) == 0)=yC:=by rcases j with rfl | rfl <;> simp
  exact bc (k:=yC) (s.trans (by rw[t])) QQ (λZ=>aE QQ QQ) nofun
 ·have I:0<a:=by exact om139 j
  have J:0<b:=by exact om140 j
  have u:(0:Int)<a:=by exact om141 j
  have w:(0:Int)<b:=by exact om142 j
  obtain⟨k2,A,L⟩:=cm (c / 6) (k:=13) (by decide)
  have A:c / 6 % 13=(k2:Int):=A;obtain⟨U,⟨o,rfl,h1⟩,C⟩:=dy (l:=[.int 0,.int 0,.int 0,.int 0,.int 1,.int (c / 6 % 13)]) (by simp) c (R:=λd=>∃ k:Nat,d=.int k/\k<=12) (by
   intro d G;simp only[yX,zK,Bf] at G
   rcases G with rfl | rfl | rfl | rfl | rfl | rfl <;> first | exact⟨0,QQ,by decide⟩ | exact⟨1,QQ,by decide⟩ | exact⟨k2,by rw[A],by omega⟩)
  have C:aV (.list [.int 0,.int 0,.int 0,.int 0,.int 1,.int (c / 6 % 13)]) (.int (c % 6))=ac (.int o):=C;obtain⟨ds,H,q2,M⟩:=kR (cf:=af P X (n+1)) (ρ:=vis [("_law_cell",(yz,.int c)),("_law_one",(yz,.int a)),("_law_other",(yz,.int b)),("_law_many_here",(yz,.int o))])
   (elt:=.tup [.bin .Mod (.call "_law_mixed" [.u "_law_cell",.bin .Add (.int 70) (.u "_law_k")]) (.u "_law_one"),.bin .Mod (.call "_law_mixed" [.u "_law_cell",.bin .Add (.int 75) (.u "_law_k")]) (.u "_law_other")]) (z:="_law_k") (E5:=.u "_law_many_here") (k:=o) (kJ h1) (λd=>∃ x:Nat×Nat,(x.1<a/\x.2<b)/\d=prT x) QQ (by
    intro i _;obtain⟨r,_,N⟩:=mixed (X:=X) B.toBG n c (70+i);obtain⟨r',_,E⟩:=mixed (X:=X) B.toBG n c (75+i);obtain⟨p,ep,O⟩:=cm r I;obtain⟨q,T,hq⟩:=cm r' J;refine⟨prT (p,q),⟨(p,q),⟨O,hq⟩,QQ⟩,?_⟩;show _=ac (D.tup [.int p,.int q]);rw[<- ep,<- T];exact bA (aa (ak (am (aa (aC (bj QQ (aF ad))) (aa (ak vI (aC bO) cU) vN)) N) (aC (bj QQ (aF (ae QQ ad)))) (aO u)) (aa (ak (am (aa (aC (bj QQ (aF ad))) (aa (ak vI (aC bO) cU) vN)) E) (aC (bj QQ (aF (ae QQ (ae QQ ad))))) (aO w)) vN)) (yM QQ))
  obtain⟨f,rfl,m⟩:=mG q2;refine⟨f,m,by rw[yI] at H;exact th h1 H,au B.rb QQ ?_⟩
  have s:evE (af P X (n+1)) (vis [("_law_cell",(yz,.int c)),("_law_one",(yz,.int a)),("_law_other",(yz,.int b))]) (.bop .Or [.cmp .Eq (.u "_law_one") (.int 0),.cmp .Eq (.u "_law_other") (.int 0)])=ac (.bool ((a:Int) == 0||(b:Int) == 0)):=gB (k:=(a:Int) == 0) (l:=(b:Int) == 0) (ax (x:=.int a) (y:=.int 0) QQ QQ QQ) λZ=>bC (ax (x:=.int b) (y:=.int 0) QQ QQ QQ)
  have t:((a:Int) == 0||(b:Int) == 0)=yz:=by rw[Bz,An,An];exact om143 j
  refine bc (k:=yz) (s.trans (by rw[t])) QQ nofun λZ=>?_
  refine aB (ai (d:=.int o) (fr:=yz) (aq (av (cR (aa vI (aa vI (aa vI (aa vI (aa vI (aa (ak (ak (aC QQ) vI (bo (dtt QQ))) vI (aO (dtt QQ))) vN)))))) (yM QQ)) (ak (aC QQ) vI (aO (dtt QQ))) C) QQ QQ)) ?_;exact aE (aq M QQ QQ) QQ
end
set_option maxHeartbeats 800000
noncomputable def Q.rb(R:Wd):Q->Nat->Prop
 | .table f,r=>∃ k,R.lookup f=ac k/\k<=r
 | .sieve _ q,r | .pick _ q,r | .group _ _ q,r | .order _ q,r | .once q,r=>q.rb R r
 | .first a q,r=>∃ r',q.rb R r'/\r'<=60/\min a r'<=r
 | .join a b _,r=>∃ c r2,a.rb R c/\b.rb R r2/\c<=60/\r2<=60/\c * r2<=r
 | .both a b,r=>∃ c r2,a.rb R c/\b.rb R r2/\c<=60/\r2<=60/\c+r2<=r
structure TpA(W R:Wd)(c dp:Nat)(q:Q)(rr k:Nat):Prop where
 ok:q.ok W
 wd:q.wd W<=24 * k
 k1:1<=k
 k2:k<=24
 r:rr<=60
 cp:q.cp<=c
 pr:q.pr<=12
 nar:q.nar W 5000
 dp:q.dp<=dp
 rb:q.rb R rr
theorem TpA.up{W R:Wd}{c dp c' a:Nat}{q:Q}{r k:Nat}(h:TpA W R c dp q r k)(h1:c<=c')(b:dp<=a):TpA W R c' a q r k:=⟨h.ok,h.wd,h.k1,h.k2,h.r,yD h.cp h1,h.pr,h.nar,yD h.dp b,h.rb⟩
noncomputable def aG(W:Wd)(q:Q)(r k:Nat):D:=.tup [q.d,.int (q.wd W),.int r,.int k]
section
variable {P:yA (yF×Fn)} {X:CF} {W R:Wd} {c dp:Nat} {q:Q} {r k:Nat}
theorem fe(B:BN P)(n:Nat)(w z:Int)(h:TpA W R c dp q r k):∃ f r',TpA W R (c+12) (dp+1) f r' k/\(af P X (n+6)).call "_law_around" [.int w,.int z,aG W q r k]=ac (aG W f r' k,yz):=by
 have U:q.wd W<=1000:=by exact om144 h.wd h.k2
 obtain⟨A,c1,c2,c3⟩:=clauses_by (X:=X) B n z (q.wd W) U;obtain⟨ps,I,C,J⟩:=mu (X:=X) B (n+3) z (q.wd W);obtain⟨b,s1,L,V⟩:=sums_by (X:=X) B (n+2) z (q.wd W);obtain⟨ks,Y,k2,Z⟩:=keys_by (X:=X) B (n+2) z (q.wd W);obtain⟨a0,Fg⟩:∃ a:Nat,1+z % 6=a:=⟨(1+z % 6).toNat,by exact om145⟩
 obtain⟨a1,e1⟩:∃ a:Nat,z / 24 % 70=a:=⟨(z / 24 % 70).toNat,by exact om146⟩
 have Fh:(0:Int)<10 ^ 40:=by decide
 obtain⟨a2,Fi⟩:∃ a:Nat,z / 54 % 10 ^ 40=a:=⟨(z / 54 % 10 ^ 40).toNat,(Bi (Aa _ (by decide))).symm⟩
 have j:eF .Pow (.int 10) (.int 40)=ac (.int (10 ^ 40)):=wL ⟨by decide +kernel,by decide +kernel,by decide,by decide⟩
 have m:eF .Mod (.int (z / 54)) (.int (10 ^ 40))=ac (.int a2):=by rw[<- Fi];exact aO Fh
 have u:∀ a:Nat,hY "min" [.int r,.int a]=ac (.int (min a r:Nat)):=λa=>by
  show ac (D.int (if (a:Int)<r then (a:Int) else r))=_
  congr 2
  split
  ·rw[Cj (om147 (by assumption))];try rfl
  ·rw[DC (om148 (by assumption))]
 have M:hY "len" [.tup (ps.map aM)]=ac (.int ps.length):=by show ac (D.int ((ps.map aM).length:Nat))=_;rw[yI]
 have Fj:hY "len" [.tup (b.map dI)]=ac (.int b.length):=by show ac (D.int ((b.map dI).length:Nat))=_;rw[yI]
 have N:=h.k1;have Fk:TpA W R (c+12) (dp+1) (.sieve A q) r k:=⟨⟨h.ok,c1,by exact kJ c2⟩,h.wd,h.k1,h.k2,h.r,by show A.length+q.cp<=_;have:=h.cp;exact om149 c2 this,h.pr,h.nar,zb h.dp,h.rb⟩
 have Fm:TpA W R (c+12) (dp+1) (.pick ps q) r k:=⟨⟨h.ok,I,by exact kJ C⟩,by show ps.length<=_;exact om150 C N,h.k1,h.k2,h.r,yD h.cp (te),h.pr,h.nar,zb h.dp,h.rb⟩
 have Fo:TpA W R (c+12) (dp+1) (.group ps b q) r k:=⟨⟨h.ok,I,λx G=>(s1 x G).1,by exact kJ C,by exact kJ L⟩,by show ps.length+b.length<=_;exact om152 C L N,h.k1,h.k2,h.r,yD h.cp (te),h.pr,⟨h.nar,λx G=>(s1 x G).2⟩,zb h.dp,h.rb⟩
 have Fp:TpA W R (c+12) (dp+1) (.order ks q) r k:=⟨⟨h.ok,Y,by exact kJ k2⟩,h.wd,h.k1,h.k2,h.r,yD h.cp (te),h.pr,h.nar,zb h.dp,h.rb⟩
 have Fq:TpA W R (c+12) (dp+1) (.once q) r k:=⟨h.ok,h.wd,h.k1,h.k2,h.r,yD h.cp (te),h.pr,h.nar,zb h.dp,h.rb⟩;have Fs:∀ a:Nat,TpA W R (c+12) (dp+1) (.first a q) (min a r) k:=λa=>⟨h.ok,h.wd,h.k1,h.k2,yD (DD _ _) h.r,yD h.cp (te),h.pr,h.nar,zb h.dp,r,h.rb,h.r,y0 _⟩
 have H:Rex (af P X (n+5)) fj.body [("_law_word",(yz,.int w)),("_law_cell",(yz,.int z)),("_law_top",(yz,aG W q r k))] λd fr=>(∃ f r',TpA W R (c+12) (dp+1) f r' k/\d=aG W f r' k)/\fr=yz:=by
  generalize af P X (n+5)=cf at *;have o:aV (aG W q r k) (.int 0)=ac q.d:=rfl;have i:aV (aG W q r k) (.int 1)=ac (.int (q.wd W)):=rfl;have s:aV (aG W q r k) (.int 2)=ac (.int r):=rfl;have t:aV (aG W q r k) (.int 3)=ac (.int k):=rfl;generalize aG W q r k=T at *;have fin:∀ (a:Nat) (σ:St),Has σ "_law_top" T->Has σ "_law_count" (.int a)->Rex cf [.ret (.tup [.tup [.str "first",.u "_law_count",.sub (.u "_law_top") (.int 0)],.sub (.u "_law_top") (.int 1),.blt "min" [.sub (.u "_law_top") (.int 2),.u "_law_count"],.sub (.u "_law_top") (.int 3)])] σ λd fr=>(∃ f r',TpA W R (c+12) (dp+1) f r' k/\d=aG W f r' k)/\fr=yz:=by
   intro a σ E O;have:=u a;refine cH (d:=aG W (.first a q) (min a r) k) (fr:=yz) (by unfold aG;show _=ac (D.tup [.tup [.str (yB "first"),.int a,q.d],.int (q.wd W),.int (min a r:Nat),.int k],_);exact aq (bA (aa (bA (aa vS (vv O (aa (vsi E o) vN))) (yM QQ)) (aa (vsi E i) (aa (bR (aa (vsi E s) (vv O vN)) this) (aa (vsi E t) vN)))) (yM QQ)) QQ QQ) QQ ⟨⟨_,_,Fs a,QQ⟩,QQ⟩
  refine dQ (k:=decide (w<3)) (ax (vr ad) vI QQ) QQ (λEP=>?_) λEP=>?_
  ·exact cH (d:=aG W (.sieve A q) r k) (fr:=yz) (by unfold aG;show _=ac (D.tup [.tup [.str (yB "sieve"),.tup (A.map clD),q.d],.int (q.wd W),.int r,.int k],_);exact aq (bA (aa (bA (aa vS (aa (am (vv (ae QQ ad) (aa (vsi (ae QQ (ae QQ ad)) i) vN)) c3) (aa (vsi (ae QQ (ae QQ ad)) o) vN))) (yM QQ)) (aa (vsi (ae QQ (ae QQ ad)) i) (aa (vsi (ae QQ (ae QQ ad)) s) (aa (vsi (ae QQ (ae QQ ad)) t) vN)))) (yM QQ)) QQ QQ) QQ ⟨⟨_,_,Fk,QQ⟩,QQ⟩
  refine dQ (k:=w == 4) (ax (vr ad) vI QQ) QQ (λEP=>?_) λEP=>?_
  ·refine bg (ai (d:=.tup (ps.map aM)) (fr:=yz) (aD (vv (ae QQ ad) (aa (vsi (ae QQ (ae QQ ad)) i) vN)) J)) ?_
   exact cH (d:=aG W (.pick ps q) r k) (fr:=yz) (by unfold aG;show _=ac (D.tup [.tup [.str (yB "pick"),.tup (ps.map aM),q.d],.int ps.length,.int r,.int k],_);exact aq (bA (aa (bA (aa vS (vv aw (aa (vsi (ag QQ (ao (ae QQ (ae QQ ad)))) o) vN))) (yM QQ)) (aa (bR (vv aw vN) M) (aa (vsi (ag QQ (ao (ae QQ (ae QQ ad)))) s) (aa (vsi (ag QQ (ao (ae QQ (ae QQ ad)))) t) vN)))) (yM QQ)) QQ QQ) QQ ⟨⟨_,_,Fm,QQ⟩,QQ⟩
  refine dQ (k:=w == 3||w == 5) (gB (ax (vr ad) vI QQ) λa=>bC (ax (vr ad) vI QQ)) QQ (λEP=>?_) λEP=>?_
  ·refine bg (ai (d:=.tup (ps.map aM)) (fr:=yz) (aD (vv (ae QQ ad) (aa (vsi (ae QQ (ae QQ ad)) i) vN)) J)) (bg (ai (d:=.tup (b.map dI)) (fr:=yz) (aD (vv (ag QQ (ao (ae QQ ad))) (aa (vsi (ag QQ (ao (ae QQ (ae QQ ad)))) i) vN)) V)) ?_)
   have y:((ps.length+b.length:Nat):Int)=(ps.length:Int)+b.length:=Au _ _;exact cH (d:=aG W (.group ps b q) r k) (fr:=yz) (by unfold aG;show _=ac (D.tup [.tup [.str (yB "group"),.tup (ps.map aM),.tup (b.map dI),q.d],.int (ps.length+b.length:Nat),.int r,.int k],_);rw[y];exact aq (bA (aa (bA (aa vS (vv (ag QQ (ao aw)) (vv aw (aa (vsi (ag QQ (ao (ag QQ (ao (ae QQ (ae QQ ad)))))) o) vN)))) (yM QQ)) (aa (ak (bR (vv (ag QQ (ao aw)) vN) M) (bR (vv aw vN) Fj) cU) (aa (vsi (ag QQ (ao (ag QQ (ao (ae QQ (ae QQ ad)))))) s) (aa (vsi (ag QQ (ao (ag QQ (ao (ae QQ (ae QQ ad)))))) t) vN)))) (yM QQ)) QQ QQ) QQ ⟨⟨_,_,Fo,QQ⟩,QQ⟩
  refine dQ (k:=w == 6) (ax (vr ad) vI QQ) QQ (λEP=>?_) λEP=>?_
  ·exact cH (d:=aG W (.order ks q) r k) (fr:=yz) (by unfold aG;show _=ac (D.tup [.tup [.str (yB "order"),.tup (ks.map eE),q.d],.int (q.wd W),.int r,.int k],_);exact aq (bA (aa (bA (aa vS (aa (am (vv (ae QQ ad) (aa (vsi (ae QQ (ae QQ ad)) i) vN)) Z) (aa (vsi (ae QQ (ae QQ ad)) o) vN))) (yM QQ)) (aa (vsi (ae QQ (ae QQ ad)) i) (aa (vsi (ae QQ (ae QQ ad)) s) (aa (vsi (ae QQ (ae QQ ad)) t) vN)))) (yM QQ)) QQ QQ) QQ ⟨⟨_,_,Fp,QQ⟩,QQ⟩
  refine dQ (k:=w == 7) (ax (vr ad) vI QQ) QQ (λEP=>?_) λEP=>?_
  ·exact cH (d:=aG W (.once q) r k) (fr:=yz) (by unfold aG;show _=ac (D.tup [.tup [.str (yB "once"),q.d],.int (q.wd W),.int r,.int k],_);exact aq (bA (aa (bA (aa vS (aa (vsi (ae QQ (ae QQ ad)) o) vN)) (yM QQ)) (aa (vsi (ae QQ (ae QQ ad)) i) (aa (vsi (ae QQ (ae QQ ad)) s) (aa (vsi (ae QQ (ae QQ ad)) t) vN)))) (yM QQ)) QQ QQ) QQ ⟨⟨_,_,Fq,QQ⟩,QQ⟩
  refine bg (ai (d:=.int a0) (fr:=yz) (by rw[<- Fg];exact aq (ak vI (ak (vr (ae QQ ad)) vI (aO (dtt QQ))) cU) QQ QQ)) ?_
  refine dQ (k:=z / 6 % 4 == 1) (ax (ak (ak (vr (ag QQ (ao (ae QQ ad)))) vI (bo (dtt QQ))) vI (aO (dtt QQ))) vI QQ) QQ (λEP=>?_) λEP=>?_
  ·refine bg (ai (d:=.int a1) (fr:=yz) (by rw[<- e1];exact aq (ak (ak (vr (ag QQ (ao (ae QQ ad)))) vI (bo (dtt QQ))) vI (aO (dtt QQ))) QQ QQ)) ?_
   refine dQ (k:=z / 6 % 9 == 2) (ax (ak (ak (vr (ag QQ (ao (ag QQ (ao (ae QQ ad)))))) vI (bo (dtt QQ))) vI (aO (dtt QQ))) vI QQ) QQ (λEP=>?_) λEP=>fin a1 _ (ag QQ (ao (ag QQ (ao (ae QQ (ae QQ ad)))))) aw
   exact bg (ai (d:=.int a2) (fr:=yz) (aq (ak (ak (vr (ag QQ (ao (ag QQ (ao (ae QQ ad)))))) vI (bo (dtt QQ))) (ak vI vI j) m) QQ QQ)) (fin a2 _ (ag QQ (ao (ag QQ (ao (ag QQ (ao (ae QQ (ae QQ ad)))))))) aw)
  ·refine dQ (k:=z / 6 % 9 == 2) (ax (ak (ak (vr (ag QQ (ao (ae QQ ad)))) vI (bo (dtt QQ))) vI (aO (dtt QQ))) vI QQ) QQ (λEP=>?_) λEP=>fin a0 _ (ag QQ (ao (ae QQ (ae QQ ad)))) aw
   exact bg (ai (d:=.int a2) (fr:=yz) (aq (ak (ak (vr (ag QQ (ao (ae QQ ad)))) vI (bo (dtt QQ))) (ak vI vI j) m) QQ QQ)) (fin a2 _ (ag QQ (ao (ag QQ (ao (ae QQ (ae QQ ad)))))) aw)
 obtain⟨d,fr,⟨⟨f,r',g1,rfl⟩,rfl⟩,Ft⟩:=dJ (X:=X) (args:=[.int w,.int z,aG W q r k]) B.ar QQ H;exact⟨f,r',g1,Ft⟩
theorem qc(B:BN P)(n:Nat):(af P X (n+1)).call "_law_around" [.int 8,.int 5,aG W q r k]=ac (aG W (.first 6 q) (min 6 r) k,yz):=by
 have a:hY "min" [.int r,.int 6]=ac (.int (min 6 r:Nat)):=by
  show ac (D.int (if (6:Int)<r then (6:Int) else r))=_
  congr 2
  split
  ·rw[Cj (om153 (by assumption))];try rfl
  ·rw[DC (om154 (by assumption))]
 refine au B.ar QQ ?_;show Run _ fj.body [("_law_word",(yz,.int 8)),("_law_cell",(yz,.int 5)),("_law_top",(yz,aG W q r k))] _ _;generalize af P X n=cf at *;refine bc (k:=yz) (x:=.bool yz) QQ QQ nofun λZ=>bc (k:=yz) (x:=.bool yz) QQ QQ nofun λZ=>bc (k:=yz) (x:=.bool yz) QQ QQ nofun λZ=>bc (k:=yz) (x:=.bool yz) QQ QQ nofun λZ=>bc (k:=yz) (x:=.bool yz) QQ QQ nofun λZ=>?_
 refine aB (ai (d:=.int 6) (fr:=yz) QQ) ?_;refine bc (k:=yz) (x:=.bool yz) QQ QQ nofun λZ=>bc (k:=yz) (x:=.bool yz) QQ QQ nofun λZ=>?_
 exact aE (aq (bA (aa (d:=.tup [.str (yB "first"),.int 6,q.d]) QQ (aa (d:=.int (q.wd W)) QQ (aa (bR (aa (d:=.int r) QQ (aa (d:=.int 6) QQ vN)) a) (aa (d:=.int k) QQ vN)))) (yM QQ)) QQ QQ) QQ
theorem sX(B:BN P)(n:Nat)(z:Int)(h:TpA W R c dp q r k):∃ a r',TpA W R (c+12) (dp+1) a r' k/\(af P X (n+7)).call "_law_sieve_on" [aG W q r k,.int z]=ac (aG W a r' k,yz):=by
 obtain⟨I,_,J⟩:=mixed (X:=X) B.toBG (n+5) z 6;obtain⟨C,E,g1,L⟩:=fe (X:=X) B n 0 (I / 4 * 4+1) h;obtain⟨G,_,M⟩:=mixed (X:=X) B.toBG (n+5) z 8;have o:Rex (af P X (n+6)) fE.body [("_law_top",(yz,aG W q r k)),("_law_cell",(yz,.int z))] λd fr=>(∃ a r',TpA W R (c+12) (dp+1) a r' k/\d=aG W a r' k)/\fr=yz:=by
  generalize af P X (n+6)=cf at *;have N:aV (aG W q r k) (.int 0)=ac q.d:=rfl;have u:aV (aG W q r k) (.int 1)=ac (.int (q.wd W)):=rfl;have O:aV (aG W q r k) (.int 2)=ac (.int r):=rfl;have T:aV (aG W q r k) (.int 3)=ac (.int k):=rfl;have b:∀ σ:St,Has σ "_law_top" (aG W q r k)->Has σ "_law_cell" (.int z)->Rex cf [.ret (.call "_law_around" [.int 0,.bin .Add (.bin .Mult (.bin .FloorDiv (.call "_law_mixed" [.u "_law_cell",.int 6]) (.int 4)) (.int 4)) (.int 1),.u "_law_top"])] σ λd fr=>(∃ a r',TpA W R (c+12) (dp+1) a r' k/\d=aG W a r' k)/\fr=yz:=λσ U V=>
   cH (d:=aG W C E k) (fr:=yz) (aD (aa vI (aa (ak (ak (ak (am (vv V (aa vI vN)) J) vI (bo (dtt QQ))) vI (ug (dtt QQ))) vI cU) (vv U vN))) L) QQ ⟨⟨C,E,g1,QQ⟩,QQ⟩
  refine dQ (k:=z / 4 % 2 == 1&&decide ((q.wd W:Int) > 0)) (dh (k:=z / 4 % 2 == 1) (l:=decide ((q.wd W:Int) > 0)) (by clear b;exact ax (ak (ak (vr (ae QQ ad)) vI (bo (dtt QQ))) vI (aO (dtt QQ))) vI QQ) λEP=>bC (ax (av (x:=aG W q r k) (y:=.int 1) QQ QQ u) vI QQ)) QQ (λH=>?_) λEP=>b _ ⟨_,QQ⟩ ⟨_,QQ⟩
  rw[Bb,BH] at H;have j:0<q.wd W:=by omega
  have f:(0:Int)<q.wd W:=H.2;obtain⟨dw,⟨s,Y,rfl⟩,i⟩:=dy (l:=[sD "from",sD "upto",sD "unlike"]) (by decide) (z / 12) (R:=λd=>∃ s,s∈jh/\d=sD s) (by
   intro d i;simp only[yX,zK,Bf] at i
   rcases i with rfl | rfl | rfl <;> exact⟨_,by decide,QQ⟩)
  have i:aV (.list [.str (yB "from"),.str (yB "upto"),.str (yB "unlike")]) (.int (z / 12 % 3))=ac (.str (yB s)):=i;obtain⟨p,ep,Z⟩:=cm G j;have Fg:uV (.int (z / 36 % 3)):=.inl ⟨_,QQ,by exact om155,by exact om156⟩
  have A:TpA W R (c+12) (dp+1) (.sieve [[tst s p "is" (.int (z / 36 % 3))]] q) r k:=by
   refine⟨⟨h.ok,λx w=>?_,yM QQ⟩,h.wd,h.k1,h.k2,h.r,by show 1+q.cp<=_;have:=h.cp;exact om157 this,h.pr,h.nar,zb h.dp,h.rb⟩
   rw[y3.mp w];exact⟨λt Fh=>by rw[y3.mp Fh];exact⟨s,p,Y,Z,.inr ⟨_,Fg,QQ⟩⟩,yM QQ⟩
  refine bg (ai (d:=.str (yB s)) (fr:=yz) (aq (av (cR (aa vS (aa vS (aa vS vN))) (dtt QQ)) (ak (ak (vr (ae QQ ad)) vI (bo (dtt QQ))) vI (aO (dtt QQ))) i) QQ QQ)) ?_;have w:eF .Mod (.int G) (.int (q.wd W))=ac (.int p):=by rw[<- ep];exact aO f
  refine bg (ai (d:=tst s p "is" (.int (z / 36 % 3))) (fr:=yz) (aq (bA (vv aw (aa (ak (am (vv (ag QQ (ao (ae QQ ad))) (aa vI vN)) M) (vsi (ag QQ (ao ad)) u) w) (aa vS (aa (ak (ak (vr (ag QQ (ao (ae QQ ad)))) vI (bo (dtt QQ))) vI (aO (dtt QQ))) vN)))) (yM QQ)) QQ QQ)) ?_;have m:Has (ay (settle (tst s p "is" (.int (z / 36 % 3))) (ME.names (.tup [.u "_law_word",.bin .Mod (.call "_law_mixed" [.u "_law_cell",.int 8]) (.sub (.u "_law_top") (.int 1)),.str "is",.bin .Mod (.bin .FloorDiv (.u "_law_cell") (.int 36)) (.int 3)])) (ay (settle (.str (yB s)) (ME.names (.sub (.lst [.str "from",.str "upto",.str "unlike"]) (.bin .Mod (.bin .FloorDiv (.u "_law_cell") (.int 12)) (.int 3)))) [("_law_top",(yz,aG W q r k)),("_law_cell",(yz,.int z))]) "_law_word" (yz,.str (yB s)))) "_law_test" (yz,tst s p "is" (.int (z / 36 % 3)))) "_law_top" (aG W q r k):=(ag QQ (ao (ag QQ (ao ad))));refine cH (d:=aG W (.sieve [[tst s p "is" (.int (z / 36 % 3))]] q) r k) (fr:=yz) (aq (bA (aa (bA (aa vS (aa (bA (aa (bA (vv aw vN) (yM QQ)) vN) (yM QQ)) (aa (vsi m N) vN))) (yM QQ)) (aa (vsi m u) (aa (vsi m O) (aa (vsi m T) vN)))) (yM QQ)) QQ QQ) QQ ⟨⟨_,_,A,QQ⟩,QQ⟩
 obtain⟨d,fr,⟨⟨a,r',h1,rfl⟩,rfl⟩,Fi⟩:=dJ (X:=X) (args:=[aG W q r k,.int z]) B.so QQ o;exact⟨a,r',h1,Fi⟩
end
noncomputable abbrev Tbs:=yA (Str×Tab)
noncomputable def Tbs.d(T:Tbs):D:=.dict (T.map λp=>.str p.1) (T.map λp=>az p.2)
noncomputable def Q.ans(T:Tbs):Q->Tab
 | .table h=>(T.lookup h).getD []
 | .sieve i q=>(q.ans T).filter (aK i)
 | .pick ps q=>(q.ans T).map (aQ ps)
 | .group ps j q=>eM ps j (q.ans T)
 | .order ks q=>eI ks (q.ans T)
 | .once q=>aX (q.ans T)
 | .first c q=>(q.ans T).take c
 | .join a b f=>iR f (a.ans T) (b.ans T)
 | .both a b=>a.ans T++b.ans T
noncomputable def rz(W R:Wd)(T:Tbs):Prop:=∀ nm k,W.lookup nm=ac k->∃ t,T.lookup nm=ac t/\aP k t/\∀ r,R.lookup nm=ac r->t.length<=r
theorem oP:∀ (ks:yA (Nat×yH)) (t:Tab),(ks.foldl (λl k=>iN k l) t).length=t.length/\∀ r∈ks.foldl (λl k=>iN k l) t,r∈t
 | [],_=>⟨QQ,λZ h=>h⟩
 | k::ks,t=>⟨(oP ks (iN k t)).1.trans (oa k t).1,λr h=>(oa k t).2 r ((oP ks (iN k t)).2 r h)⟩
theorem group_rows{m:Nat}{ps:yA Nat}{a:yA (yF×Nat)}{t:Tab}(h:aP m t)(i:∀ p∈ps,p<m)(j:∀ s∈a,s.2<m):aP (ps.length+a.length) (eM ps a t)/\(eM ps a t).length<=t.length:=by
 have g:=iz i h;refine⟨λr n=>?_,by unfold eM;rw[yI];exact g.le⟩
 obtain⟨q,hq,e⟩:=zn.mp n;subst e;have c:=g.ke q hq;have f:=g.ro q hq;refine⟨by unfold rM md;rw[yY,yI,c.1],λd b=>(zA.mp b).elim (c.2 d) λb=>(zn.mp b).elim λs z=>z.2▸?_⟩
 obtain⟨u,o⟩:=q;cases o with
 | nil=>exact zl QQ f.1
 | cons w y=>exact told_cell (jW f.2.1 (j s z.1))
theorem met_rows{m k:Nat}{prs:yA (Nat×Nat)}{a b:Tab}(h:aP m a)(i:aP k b):aP (m+k) (iR prs a b):=λr c=>by
 obtain⟨x,j,c⟩:=BQ.mp c;obtain⟨y,n,e⟩:=zn.mp c;have h1:=h x j;have f:=i y ((zp.mp n).1);exact e▸⟨by rw[yY,h1.1,f.1],λd o=>(zA.mp o).elim (h1.2 d) (f.2 d)⟩
theorem cw{W R:Wd}{T:Tbs}(L:rz W R T):∀ (q:Q) (r:Nat),q.ok W->q.rb R r->aP (q.wd W) (q.ans T)/\(q.ans T).length<=r:=by
 intro q
 induction q with
 | table B=>
  rintro r ⟨k,J⟩ ⟨U,h1,s⟩;obtain⟨t,e,A,M⟩:=L B k J;show aP ((W.lookup B).getD 0) ((T.lookup B).getD [])/\((T.lookup B).getD []).length<=r;rw[J,e];exact⟨A,yD (M _ h1) s⟩
 | sieve V q m=>rintro r ⟨h,_⟩ n;exact have i:=m r h n;⟨λx f=>i.1 x ((zp.mp f).1),yD (z7 _ _) i.2⟩
 | pick ps q m=>rintro r ⟨h,C,_⟩ n;exact have i:=m r h n;⟨λx f=>(zn.mp f).elim λy z=>z.2▸gv (i.1 y z.1) C,yD (y5 (yI ..)) i.2⟩
 | group ps X q m=>rintro r ⟨h,C,N,_⟩ n;exact have i:=m r h n;have g:=group_rows i.1 C N;⟨g.1,yD g.2 i.2⟩
 | order ks q m=>rintro r ⟨h,_⟩ n;exact have i:=m r h n;have o:=oP ks.reverse (q.ans T);⟨λx f=>i.1 x (o.2 x f),yD (y5 o.1) i.2⟩
 | once q m=>rintro r h n;exact have i:=m r h n;⟨λx f=>i.1 x (mB.1 x f),yD mB.2 i.2⟩
 | first c q m=>rintro r h ⟨r',n,_,s⟩;exact have i:=m r' h n;⟨λx f=>i.1 x (DX f),yD (y5 CR) (yD (Nat.le_min.mpr ⟨DQ _ _,yD (DD _ _) i.2⟩) s)⟩
 | join a b E u w=>rintro r ⟨G,H,_⟩ ⟨I,r2,h1,s,_,_,A⟩;exact have i:=u I G h1;have j:=w r2 H s;⟨met_rows i.1 j.1,yD (oW E _ _) (yD (Dh i.2 j.2) A)⟩
 | both a b u w=>rintro r ⟨G,H,O⟩ ⟨I,r2,h1,s,_,_,A⟩;exact have i:=u I G h1;have j:=w r2 H s;⟨λx f=>(zA.mp f).elim (i.1 x) λf=>O▸j.1 x f,yD (y5 yY) (yD (ze i.2 j.2) A)⟩
section
variable {P:yA (yF×Fn)} {X:CF} {cf:CF} {σ:St} {t r:yA MS} {w w2:yF} {R:D} {fr:yH}
noncomputable def qA:yA yF:=["sieve","pick","group","order","once","first"]
theorem u3:∀ w∈qA,(yB w == yB "table")=yz/\(yB w == yB "join")=yz/\(yB w == yB "both")=yz:=by decide +kernel
theorem steps_in:∀ w∈"table"::"join"::"both"::qA,ec .NotIn (sD w) (.tup eG)=ac (.bool yz):=by
 intro w a;simp only[qA,yX,zK,Bf] at a
 rcases a with rfl | rfl | rfl | rfl | rfl | rfl | rfl | rfl | rfl <;> rfl
theorem ot(B:BA P)(a:X.glob "STEPS"=ac (.tup eG))(n:Nat){q T:D}(b:w∈"table"::"join"::"both"::qA)(c:aV q (.int 0)=ac (sD w))(k:Run (af P X n) (kB.body.drop 2) [("query",(yz,q)),("tables",(yz,T)),("word",(yz,sD w))] R fr):(af P X (n+1)).call "answer" [q,T]=ac (R,fr):=by
 refine au B.answer QQ ?_;show Run _ kB.body [("query",(yz,q)),("tables",(yz,T))] _ _;refine aB (bh (d:=sD w) (fr:=yz) (aq (vsi ad c) QQ QQ) QQ) (bc (k:=yz) (x:=.bool yz) (ax (vr aw) (Eq.trans (sy _ _ _) ((se P X n "STEPS").trans a)) (steps_in w b)) QQ nofun λZ=>k)
theorem iH(B:BA P)(h:X.glob "STEPS"=ac (.tup eG))(n:Nat){q I T A:D}{b:yH}(f:w∈qA)(i:aV q (.int 0)=ac (sD w))(j:aV q (.int (-1))=ac I)
  (m:(af P X n).call "answer" [I,T]=ac (A,b)) (k2:(af P X n).call "stepped" [q,A]=ac (R,fr)):(af P X (n+1)).call "answer" [q,T]=ac (R,fr):=by
 have a:=u3 w f;have c:Has [("query",(yz,q)),("tables",(yz,T)),("word",(yz,sD w))] "word" (sD w):=ae QQ (ae QQ ad);exact ot B h n (.tail _ (.tail _ (.tail _ f))) i (skW a.1 c (skW a.2.1 c (skW a.2.2 c (aE (aD (vv ad (aa (am (aa (av (vr ad) ur j) (vv (ae QQ ad) vN)) m) vN)) k2) QQ))))
theorem ans_join(B:BA P)(b:X.glob "STEPS"=ac (.tup eG))(n:Nat){I J S T A C:D}{c f:yH}(h:(af P X n).call "answer" [I,T]=ac (A,c))(k2:(af P X n).call "answer" [J,T]=ac (C,f))(i:(af P X n).call "met" [A,C,S]=ac (R,fr)) :
  (af P X (n+1)).call "answer" [.tup [sD "join",I,J,S],T]=ac (R,fr):=by
 have a:Has [("query",(yz,.tup [sD "join",I,J,S])),("tables",(yz,T)),("word",(yz,sD "join"))] "word" (sD "join"):=ae QQ (ae QQ ad);exact ot B b n (by decide) QQ (skW (by decide +kernel) a (mN a (aB (ai (aD (aa (av (x:=.tup [sD "join",I,J,S]) (y:=.int 1) (vr ad) vI QQ) (vv (ae QQ ad) vN)) h)) (aE (aD (vv aw (aa (am (aa (av (x:=.tup [sD "join",I,J,S]) (y:=.int 2) (vr (ag QQ (ao ad))) vI QQ) (vv (ag QQ (ao (ae QQ ad))) vN)) k2) (aa (av (x:=.tup [sD "join",I,J,S]) (y:=.int 3) (vr (ag QQ (ao ad))) vI QQ) vN))) i) QQ))))
theorem ans_both(B:BA P)(f:X.glob "STEPS"=ac (.tup eG))(n:Nat){I J T:D}{a b:Tab}{h i:yH}(j:a.length+b.length<=big)(m:(af P X n).call "answer" [I,T]=ac (az a,h))(k2:(af P X n).call "answer" [J,T]=ac (az b,i)) :
  (af P X (n+1)).call "answer" [.tup [sD "both",I,J],T]=ac (az (a++b),yC):=by
 have c:Has [("query",(yz,.tup [sD "both",I,J])),("tables",(yz,T)),("word",(yz,sD "both"))] "word" (sD "both"):=ae QQ (ae QQ ad);refine ot B f n (by decide) QQ (skW (by decide +kernel) c (skW (by decide +kernel) c (mN c (aB (ai (aD (aa (av (x:=.tup [sD "both",I,J]) (y:=.int 1) (vr ad) vI QQ) (vv (ae QQ ad) vN)) m)) (aE (aq (ak (x:=az a) (y:=az b) (vr aw) (am (aa (av (x:=.tup [sD "both",I,J]) (y:=.int 2) (vr (ag QQ (ao ad))) vI QQ) (vv (ag QQ (ao (ae QQ ad))) vN)) k2) ?_) QQ QQ) QQ)))))
 unfold az;rw[zd];exact yT (by rw[yI,yI];exact j)
end
section
variable {P:yA (yF×Fn)} {X:CF}
section
variable {A I R q:D}{t:Tab}
theorem mj(B:BA P)(n:Nat){fr:yH}{w:yF}(a:aV q (.int 0)=ac (sD w))(k:Run (af P X n) (k6.body.drop 1) [("query",(yz,q)),("rows",(yz,A)),("word",(yz,sD w))] R fr):(af P X (n+1)).call "stepped" [q,A]=ac (R,fr):=
 au B.stepped QQ (aB (bh (d:=sD w) (fr:=yz) (aq (vsi ad a) QQ QQ) QQ) k)
theorem ix{w:yF}:Has [("query",(yz,q)),("rows",(yz,A)),("word",(yz,sD w))] "word" (sD w):=ae QQ (ae QQ ad)
theorem wT{w:yF}:Has [("query",(yz,q)),("rows",(yz,A)),("word",(yz,sD w))] "rows" A:=ae QQ ad
theorem st_sieve(B:BA P)(n:Nat){m:Nat}(h:aP m t)(a:t.length<=big){cs:yA (yA D)}(b:∀ c∈cs,bV m c):(af P X (n+5)).call "stepped" [.tup [sD "sieve",.tup (cs.map clD),I],az t]=ac (az (t.filter (aK cs)),yC):=by
 refine mj B (n+4) QQ (mN ix (aE (aq (gQ (z:="row") (EX:=t.map .tup) (vr wT) QQ (by rw[yI];exact a) (jV (g:=D.tup) (p:=aK cs) t λr f=>kC (am (aa (av (x:=.tup [sD "sieve",.tup (cs.map clD),I]) (y:=.int 1) (aC (bj QQ (aF ad))) vI QQ) (aa (aC bO) vN)) (keeps_eq B n (h r f) b)) QQ λZ=>aC bO)) QQ QQ) QQ))
theorem st_pick(B:BA P)(n:Nat){m:Nat}(h:aP m t)(b:t.length<=big){ps:yA Nat}(c:∀ p∈ps,p<m)(a:ps.length<=big):(af P X (n+2)).call "stepped" [.tup [sD "pick",.tup (ps.map aM),I],az t]=ac (az (t.map (aQ ps)),yC):=by
 unfold az;rw[zV];exact mj B (n+1) QQ (skW (by decide +kernel) ix (mN ix (aE (aq (gP (g:=D.tup) (l:=t) (f:=D.tup ∘ aQ ps) (vr wT) QQ b λr i=>am (aa (aC bO) (aa (av (x:=.tup [sD "pick",.tup (ps.map aM),I]) (y:=.int 1) (aC (bj QQ (aF ad))) vI QQ) vN)) (uc B n (h r i) c a)) QQ QQ) QQ)))
theorem st_group(B:BA P)(n:Nat){S U:D}{fr:yH}(k:(af P X n).call "grouped" [A,S,U]=ac (R,fr)):(af P X (n+1)).call "stepped" [.tup [sD "group",S,U,I],A]=ac (R,fr):=
 mj B n QQ (skW (by decide +kernel) ix (skW (by decide +kernel) ix (mN ix (aE (aD (vv wT (aa (av (x:=.tup [sD "group",S,U,I]) (y:=.int 1) (vr ad) vI QQ) (aa (av (x:=.tup [sD "group",S,U,I]) (y:=.int 2) (vr ad) vI QQ) vN))) k) QQ))))
theorem st_order(B:BA P)(n:Nat){S:D}{fr:yH}(k:(af P X n).call "ordered" [A,S]=ac (R,fr)):(af P X (n+1)).call "stepped" [.tup [sD "order",S,I],A]=ac (R,fr):=
 mj B n QQ (skW (by decide +kernel) ix (skW (by decide +kernel) ix (skW (by decide +kernel) ix (mN ix (aE (aD (vv wT (aa (av (x:=.tup [sD "order",S,I]) (y:=.int 1) (vr ad) vI QQ) vN)) k) QQ)))))
theorem st_once(B:BA P)(n:Nat){fr:yH}(k:(af P X n).call "once" [A]=ac (R,fr)):(af P X (n+1)).call "stepped" [.tup [sD "once",I],A]=ac (R,fr):=
 mj B n QQ (skW (by decide +kernel) ix (skW (by decide +kernel) ix (skW (by decide +kernel) ix (skW (by decide +kernel) ix (mN ix (aE (aD (vv wT vN) k) QQ))))))
theorem st_first(B:BA P)(n:Nat){c:Nat}:(af P X (n+1)).call "stepped" [.tup [sD "first",aM c,I],az t]=ac (az (t.take c),yC):=by
 refine mj B n QQ (skW (by decide +kernel) ix (skW (by decide +kernel) ix (skW (by decide +kernel) ix (skW (by decide +kernel) ix (skW (by decide +kernel) ix (aE (aq (qp (x:=az t) (u:=.none) (v:=aM c) (vr wT) (gg _ _) (av (x:=.tup [sD "first",aM c,I]) (y:=.int 1) (vr ad) vI QQ) ?_) QQ QQ) QQ))))))
 have e:bnd (aM c) (t.map D.tup).length=ac c:=by
  show (if (0:Int)<=(c:Int) then ac (c:Int).toNat else yS)=_
  rw[yT (zN c)];rfl
 show ((bnd D.none 0).bind λa=>(bnd (aM c) (t.map D.tup).length).map λb=>D.list (((t.map D.tup).take b).drop a))=_
 rw[e];show ac (D.list (((t.map D.tup).take c).drop 0))=_;rw[List.drop_zero,<- El];rfl
theorem ux:∀ {T:Tbs} {nm:Str} {t:Tab},T.lookup nm=ac t->nQ (T.map λp=>D.str p.1) (T.map λp=>az p.2) (.str nm)=ac (az t)/\((T.map λp=>D.str p.1).any λx=>aN x (.str nm))=yC
 | [],_,_,h=>nomatch h
 | p::T,nm,t,h=>by
  rw[y7] at h;rw[y8,y8,oo,Ax];show (if (p.1 == nm)=yC then _ else _)=_/\((p.1 == nm)||_)=yC
  cases e:nm == p.1 with
  | true=>
   rw[e] at h;have a:=eq_of_beq e;rw[a,zg,yT rfl];exact⟨y6 ac (y6 az (yJ h)),QQ⟩
  | false=>
   rw[e] at h;have a:(p.1 == nm)=yz:=beq_false_of_ne λq=>by rw[q,zg] at e;cases e
   rw[a,yV yQ];exact ux h
theorem uw(T:Tbs)(nm:Str):dL (.str nm) (T.map λp=>D.str p.1)=yC:=by
 unfold dL;rw[show (T.map λp=>D.str p.1).all D.isCell=yC from zk.mpr λd a=>(zn.mp a).elim λp z=>z.2▸rfl];rfl
theorem ans_table(B:BA P)(a:X.glob "STEPS"=ac (.tup eG))(n:Nat){T:Tbs}{nm:Str}(h:T.lookup nm=ac t):(af P X (n+1)).call "answer" [.tup [sD "table",.str nm],T.d]=ac (az t,yC):=by
 have g:=ux h;have b:aV T.d (.str nm)=ac (az t):=(yT (uw T nm)).trans g.1;have c:ec .NotIn (.str nm) T.d=ac (.bool yz):=by
  show (mD (.str nm) T.d).map _=_;rw[show mD (.str nm) T.d=ac yC from (yT (uw T nm)).trans (y6 ac g.2)];rfl
 have f:Has [("query",(yz,.tup [sD "table",.str nm])),("tables",(yz,T.d)),("word",(yz,sD "table"))] "word" (sD "table"):=ae QQ (ae QQ ad);exact ot B a n (by decide) QQ (mN f (bc (k:=yz) (x:=.bool yz) (ax (x:=.str nm) (av (x:=.tup [sD "table",.str nm]) (y:=.int 1) (vr ad) vI QQ) (vr (ae QQ ad)) c) QQ nofun λZ=>aE (aq (xc (av (vr (ae QQ ad)) (av (x:=.tup [sD "table",.str nm]) (y:=.int 1) (vr ad) vI QQ) b) QQ) QQ QQ) QQ))
theorem answer_eq(B:BA P)(A:X.glob "STEPS"=ac (.tup eG)){W R:Wd}{T:Tbs}(z:rz W R T):∀ (q:Q) (r n:Nat),q.ok W->q.rb R r->r<=60->q.nar W 5000->q.dp<=n->(af P X (n+5)).call "answer" [q.d,T.d]=ac (az (q.ans T),yC):=by
 intro q
 induction q with
 | table M=>
  rintro r n ⟨k,N⟩ _ _ _ _;obtain⟨t,e,_⟩:=z M k N;have:=ans_table B A (n+4) (P:=P) (X:=X) e;show _=ac (az ((T.lookup M).getD []),yC);rw[e];exact this
 | sieve U q y=>rintro r n h s m f u;obtain⟨n,rfl,o⟩:=dpS u;exact have a:=cw z q r h.1 s;iH B A _ (w:="sieve") (by decide) QQ QQ (y r n h.1 s m f o) (st_sieve B n a.1 (yD a.2 (yD m (by decide))) h.2.1)
 | pick ps q y=>rintro r n h s m f u;obtain⟨n,rfl,o⟩:=dpS u;exact have a:=cw z q r h.1 s;iH B A _ (w:="pick") (by decide) QQ QQ (y r n h.1 s m f o) (st_pick B (n+3) a.1 (yD a.2 (yD m (by decide))) h.2.1 (yD h.2.2 (by decide)))
 | group ps V q y=>rintro r n h s m f u;obtain⟨n,rfl,o⟩:=dpS u;exact have a:=cw z q r h.1 s;iH B A _ (w:="group") (by decide) QQ QQ (y r n h.1 s m f.1 o) (st_group B (n+4) (grouped_eq B (n+1) a.1 (yD a.2 m) h.2.1 h.2.2.2.1 h.2.2.1 h.2.2.2.2))
 | order ks q y=>rintro r n h s m f u;obtain⟨n,rfl,o⟩:=dpS u;exact have a:=cw z q r h.1 s;iH B A _ (w:="order") (by decide) QQ QQ (y r n h.1 s m f o) (st_order B (n+4) (ordered_eq B (n+2) a.1 (yO a.2 (yO m (by decide))) h.2.1))
 | once q y=>rintro r n h s m f u;obtain⟨n,rfl,o⟩:=dpS u;exact have a:=cw z q r h s;iH B A _ (w:="once") (by decide) QQ QQ (y r n h s m f o) (st_once B (n+4) (once_eq B (n+3) a.1 (yO a.2 (yO m (by decide)))))
 | first c q y=>rintro r n h ⟨r',s,L,_⟩ m f u;obtain⟨n,rfl,o⟩:=dpS u;exact iH B A _ (w:="first") (by decide) QQ QQ (y r' n h s L f o) (st_first B (n+4))
 | join a b O C E=>rintro r n h ⟨G,r2,h1,H,I,J,_⟩ m f u;obtain⟨n,rfl,o⟩:=dpS u;exact have i:=cw z a G h.1 h1;have j:=cw z b r2 h.2.1 H;ans_join B A _ (C G n h.1 h1 I f.1 (yD (zB _ _) o)) (E r2 n h.2.1 H J f.2.1 (yD (zz _ _) o)) (met_eq B (n+2) i.1 j.1 (yD i.2 I) (yD j.2 J) (yD f.2.2 (by decide)) h.2.2.1)
 | both a b C E=>rintro r n h ⟨G,r2,h1,H,I,J,_⟩ m f u;obtain⟨n,rfl,o⟩:=dpS u;exact have i:=cw z a G h.1 h1;have j:=cw z b r2 h.2.1 H;ans_both B A _ (yD (ze (yD i.2 I) (yD j.2 J)) (by decide)) (C G n h.1 h1 I f.1 (yD (zB _ _) o)) (E r2 n h.2.1 H J f.2 (yD (zz _ _) o))
end
end
noncomputable def gU:Fn:=⟨["_law_word","_law_one","_law_other"],[
  .ite (.bop .Or [.cmp .Eq (.u "_law_word") (.str "same"),.cmp .Eq (.u "_law_word") (.str "unlike")]) [.ret (.cmp .Eq (.call "_law_alike" [.u "_law_one",.u "_law_other"]) (.cmp .Eq (.u "_law_word") (.str "same")))] [],
  .ite (.bop .Or [.cmp .Eq (.u "_law_word") (.str "before"),.cmp .Eq (.u "_law_word") (.str "from")]) [.ret (.cmp .Eq (.call "_law_before" [.u "_law_one",.u "_law_other"]) (.cmp .Eq (.u "_law_word") (.str "before")))] [],
  .ret (.cmp .Eq (.call "_law_before" [.u "_law_other",.u "_law_one"]) (.cmp .Eq (.u "_law_word") (.str "behind")))]⟩
noncomputable def iY:Fn:=⟨["_law_clause","_law_row"],[
  .for_ "_law_test" (.u "_law_clause") [.x0 "_law_other" (.sub (.u "_law_test") (.int 3)),.ite (.cmp .Eq (.sub (.u "_law_test") (.int 2)) (.str "col")) [.x0 "_law_other" (.sub (.u "_law_row") (.sub (.u "_law_test") (.int 3)))] [],.ite (.call "_law_stands" [.sub (.u "_law_test") (.int 0),.sub (.u "_law_row") (.sub (.u "_law_test") (.int 1)),.u "_law_other"]) [.ret (.bool yC)] []],
  .ret (.bool yz)]⟩
noncomputable def gX:Fn:=⟨["_law_first","_law_second","_law_pairs"],[
  .x0 "_law_found" (.lst []),
  .for_ "_law_one" (.u "_law_first") [.for_ "_law_other" (.u "_law_second") [.ite (.not (.comp (.u "_law_pair") "_law_pair" (.u "_law_pairs") [.not (.call "_law_alike" [.sub (.u "_law_one") (.sub (.u "_law_pair") (.int 0)),.sub (.u "_law_other") (.sub (.u "_law_pair") (.int 1))])])) [.append "_law_found" (.bin .Add (.u "_law_one") (.u "_law_other"))] []]],
  .ret (.u "_law_found")]⟩
noncomputable def jn:Fn:=⟨["_law_one","_law_other","_law_places"],[
  .ret (.cmp .Eq (.comp (.sub (.u "_law_one") (.u "_law_place")) "_law_place" (.u "_law_places") []) (.comp (.sub (.u "_law_other") (.u "_law_place")) "_law_place" (.u "_law_places") []))]⟩
noncomputable def jH:Fn:=⟨["_law_word","_law_cells"],[
  .ite (.cmp .Eq (.u "_law_word") (.str "count")) [.ret (.blt "len" [.u "_law_cells"])] [],
  .ite (.cmp .Eq (.u "_law_word") (.str "sum")) [.ret (.blt "sum" [.comp (.u "_law_cell") "_law_cell" (.u "_law_cells") [.not (.isi (.u "_law_cell") "str")]])] [],
  .for_ "_law_cell" (.u "_law_cells") [.ite (.bop .And [.cmp .Eq (.u "_law_word") (.str "least"),.not (.comp (.u "_law_other") "_law_other" (.u "_law_cells") [.call "_law_before" [.u "_law_other",.u "_law_cell"]])]) [.ret (.u "_law_cell")] [],.ite (.bop .And [.cmp .Eq (.u "_law_word") (.str "most"),.not (.comp (.u "_law_other") "_law_other" (.u "_law_cells") [.call "_law_before" [.u "_law_cell",.u "_law_other"]])]) [.ret (.u "_law_cell")] []],
  .ret (.none)]⟩
noncomputable def fZ:Fn:=⟨["_law_rows","_law_places","_law_sums"],[
  .x0 "_law_found" (.lst []),
  .for_ "_law_k" (.blt "range" [.blt "len" [.u "_law_rows"]]) [.ite (.not (.comp (.u "_law_one") "_law_one" (.sl (.u "_law_rows") .none (.u "_law_k")) [.call "_law_row_like" [.u "_law_one",.sub (.u "_law_rows") (.u "_law_k"),.u "_law_places"]])) [.x0 "_law_group" (.comp (.u "_law_one") "_law_one" (.u "_law_rows") [.call "_law_row_like" [.u "_law_one",.sub (.u "_law_rows") (.u "_law_k"),.u "_law_places"]]),.x0 "_law_head" (.comp (.sub (.sub (.u "_law_rows") (.u "_law_k")) (.u "_law_place")) "_law_place" (.u "_law_places") []),.x0 "_law_more" (.comp (.call "_law_told" [.sub (.u "_law_pair") (.int 0),.comp (.sub (.u "_law_one") (.sub (.u "_law_pair") (.int 1))) "_law_one" (.u "_law_group") []]) "_law_pair" (.u "_law_sums") []),.append "_law_found" (.blt "tuple" [.bin .Add (.u "_law_head") (.u "_law_more")])] []],
  .ret (.u "_law_found")]⟩
noncomputable def i9:Fn:=⟨["_law_one","_law_other","_law_keys"],[
  .for_ "_law_key" (.u "_law_keys") [.ite (.not (.call "_law_alike" [.sub (.u "_law_one") (.sub (.u "_law_key") (.int 0)),.sub (.u "_law_other") (.sub (.u "_law_key") (.int 0))])) [.ite (.sub (.u "_law_key") (.int 1)) [.ret (.call "_law_before" [.sub (.u "_law_other") (.sub (.u "_law_key") (.int 0)),.sub (.u "_law_one") (.sub (.u "_law_key") (.int 0))])] [],.ret (.call "_law_before" [.sub (.u "_law_one") (.sub (.u "_law_key") (.int 0)),.sub (.u "_law_other") (.sub (.u "_law_key") (.int 0))])] []],
  .ret (.bool yz)]⟩
noncomputable def fY:Fn:=⟨["_law_rows","_law_keys"],[
  .x0 "_law_left" (.lcp (.u "_law_rows")),
  .x0 "_law_found" (.lst []),
  .while_ (.u "_law_left") [.x0 "_law_best" (.int 0),.for_ "_law_k" (.blt "range" [.int 1,.blt "len" [.u "_law_left"]]) [.ite (.call "_law_ahead" [.sub (.u "_law_left") (.u "_law_k"),.sub (.u "_law_left") (.u "_law_best"),.u "_law_keys"]) [.x0 "_law_best" (.u "_law_k")] []],.append "_law_found" (.sub (.u "_law_left") (.u "_law_best")),.x0 "_law_left" (.bin .Add (.sl (.u "_law_left") .none (.u "_law_best")) (.sl (.u "_law_left") (.bin .Add (.u "_law_best") (.int 1)) .none))],
  .ret (.u "_law_found")]⟩
noncomputable def lV:Fn:=⟨["_law_query"],[
  .ret (.sub (.u "_law_query") (.inn (.sub (.u "_law_query") (.int 0))))]⟩
noncomputable def jQ:Fn:=⟨["_law_query","_law_rows"],[
  .ite (.cmp .Eq (.sub (.u "_law_query") (.int 0)) (.str "sieve")) [.ret (.comp (.u "_law_row") "_law_row" (.u "_law_rows") [.not (.comp (.u "_law_one") "_law_one" (.sub (.u "_law_query") (.int 1)) [.not (.call "_law_holds" [.u "_law_one",.u "_law_row"])])])] [],
  .ite (.cmp .Eq (.sub (.u "_law_query") (.int 0)) (.str "pick")) [.ret (.comp (.blt "tuple" [.comp (.sub (.u "_law_row") (.u "_law_place")) "_law_place" (.sub (.u "_law_query") (.int 1)) []]) "_law_row" (.u "_law_rows") [])] [],
  .ite (.cmp .Eq (.sub (.u "_law_query") (.int 0)) (.str "group")) [.ret (.call "_law_grouped" [.u "_law_rows",.sub (.u "_law_query") (.int 1),.sub (.u "_law_query") (.int 2)])] [],
  .ite (.cmp .Eq (.sub (.u "_law_query") (.int 0)) (.str "order")) [.ret (.call "_law_ordered" [.u "_law_rows",.sub (.u "_law_query") (.int 1)])] [],
  .ite (.cmp .Eq (.sub (.u "_law_query") (.int 0)) (.str "first")) [.ret (.sl (.u "_law_rows") .none (.sub (.u "_law_query") (.int 1)))] [],
  .x0 "_law_found" (.lst []),
  .for_ "_law_row" (.u "_law_rows") [.ite (.cmp .NotIn (.u "_law_row") (.u "_law_found")) [.append "_law_found" (.u "_law_row")] []],
  .ret (.u "_law_found")]⟩
noncomputable def dA:Fn:=⟨["_law_query","_law_tables_here"],[
  .ite (.cmp .Eq (.sub (.u "_law_query") (.int 0)) (.str "table")) [.ret (.sub (.u "_law_tables_here") (.sub (.u "_law_query") (.int 1)))] [],
  .ite (.cmp .Eq (.sub (.u "_law_query") (.int 0)) (.str "join")) [.ret (.call "_law_joined" [.call "_law_answer" [.sub (.u "_law_query") (.int 1),.u "_law_tables_here"],.call "_law_answer" [.sub (.u "_law_query") (.int 2),.u "_law_tables_here"],.sub (.u "_law_query") (.int 3)])] [],
  .ite (.cmp .Eq (.sub (.u "_law_query") (.int 0)) (.str "both")) [.ret (.bin .Add (.call "_law_answer" [.sub (.u "_law_query") (.int 1),.u "_law_tables_here"]) (.call "_law_answer" [.sub (.u "_law_query") (.int 2),.u "_law_tables_here"]))] [],
  .ret (.call "_law_done" [.u "_law_query",.call "_law_answer" [.call "_law_inner" [.u "_law_query"],.u "_law_tables_here"]])]⟩
noncomputable def gf:Fn:=⟨["_law_found","_law_due"],[
  .ite (.bop .Or [.isi (.u "_law_due") "str",.isi (.u "_law_found") "bool"]) [.ret (.bop .And [.isi (.u "_law_found") "str",.isi (.u "_law_due") "str",.cmp .Eq (.u "_law_found") (.u "_law_due")])] [],
  .ret (.bop .And [.isi (.u "_law_found") "int",.cmp .Eq (.u "_law_found") (.u "_law_due")])]⟩
noncomputable def gV:Fn:=⟨["_law_found","_law_due"],[
  .ite (.bop .Or [.not (.isi (.u "_law_found") "tuple"),.cmp .NotEq (.blt "len" [.u "_law_found"]) (.blt "len" [.u "_law_due"])]) [.ret (.bool yz)] [],
  .ret (.not (.comp (.u "_law_k") "_law_k" (.blt "range" [.blt "len" [.u "_law_due"]]) [.not (.call "_law_cell_is" [.sub (.u "_law_found") (.u "_law_k"),.sub (.u "_law_due") (.u "_law_k")])]))]⟩
noncomputable def fF:Fn:=⟨["_law_found","_law_due"],[
  .ite (.bop .Or [.not (.isi (.u "_law_found") "list"),.cmp .NotEq (.blt "len" [.u "_law_found"]) (.blt "len" [.u "_law_due"])]) [.ret (.bool yz)] [],
  .ret (.not (.comp (.u "_law_k") "_law_k" (.blt "range" [.blt "len" [.u "_law_due"]]) [.not (.call "_law_row_is" [.sub (.u "_law_found") (.u "_law_k"),.sub (.u "_law_due") (.u "_law_k")])]))]⟩
structure BL(P:yA (yF×Fn)):Prop where
 alike:P.lookup "_law_alike"=ac iZ
 before:P.lookup "_law_before"=ac gY
 stands:P.lookup "_law_stands"=ac gU
 holds:P.lookup "_law_holds"=ac iY
 joined:P.lookup "_law_joined"=ac gX
 rowLike:P.lookup "_law_row_like"=ac jn
 told:P.lookup "_law_told"=ac jH
 grouped:P.lookup "_law_grouped"=ac fZ
 ahead:P.lookup "_law_ahead"=ac i9
 ordered:P.lookup "_law_ordered"=ac fY
 inner:P.lookup "_law_inner"=ac lV
 done:P.lookup "_law_done"=ac jQ
 answer:P.lookup "_law_answer"=ac dA
 cellIs:P.lookup "_law_cell_is"=ac gf
 rowIs:P.lookup "_law_row_is"=ac gV
 rowsAre:P.lookup "_law_rows_are"=ac fF
theorem not_any_filter{α a:Type}(p:α->yH)(g:α->a)(l:yA α):(!(!((l.filter p).map g).isEmpty))=!l.any p:=by
 induction l with
 | nil=>rfl
 | cons x l b=>
  rw[Ax];cases h:p x with
  | true=>rw[zc h];rfl
  | false=>rw[zw (by rw[h];exact yQ),Eh];exact b
section
variable {α:Type} {cf:CF} {body:yA MS} {z:yF} {g:α->D} {ρ:yA (yF×D)}
theorem lx{p:α->yH}{l:yA α}{E5 c:ME}{d:D}(a:evE cf ρ E5=ac d)(hi:d.items=ac (l.map g))(b:l.length<=big)(f:∀ x∈l,evE cf ((z,g x)::ρ) c=ac (.bool (p x))):evE cf ρ (.not (.comp (.u z) z E5 [c]))=ac (.bool (!l.any p)):=by
 rw[<- not_any_filter p g l];exact fP (gQ a hi (by rw[yI];exact b) (jV l λx h=>kC (f x h) QQ λZ=>aC bO)) QQ
theorem ut{p:α->yH}{l:yA α}{E5 c:ME}{d:D}(a:evE cf ρ E5=ac d)(hi:d.items=ac (l.map g))(b:l.length<=big)(f:∀ x∈l,evE cf ((z,g x)::ρ) c=ac (.bool (p x))):evE cf ρ (.comp (.u z) z E5 [c])=ac (.list ((l.filter p).map g)):=
 gQ a hi (by rw[yI];exact b) (jV l λx h=>kC (f x h) QQ λZ=>aC bO)
theorem xX(p:α->yH)(f:α->D)(I:St->Prop):∀ (l:yA α),(∀ x∈l,∀ σ,I σ->Out cf body (ay σ z (yz,g x)) λc Fd=>if p x=yC then c=.ret yz (f x) else c=.next/\I Fd) ->
  ∀ σ,I σ->∃ Fd,(∀ x,l.find? p=ac x->cF (dq cf body z) (l.map g) σ=ac (.ret yz (f x),Fd))/\(l.find? p=yS->I Fd/\cF (dq cf body z) (l.map g) σ=ac (.next,Fd))
 | [],_,σ,b=>⟨σ,nofun,λZ=>⟨b,QQ⟩⟩
 | x::r,h,σ,b=>by
  obtain⟨c,a,q,e⟩:=h x (.head _) σ b;rw[C6,y8,cy,e];cases j:p x with
  | true=>
   rw[yT j] at q;subst q;exact⟨a,λy m=>yJ m▸rfl,nofun⟩
  | false=>
   rw[yV (by rw[j];exact yQ)] at q
   obtain⟨rfl,n⟩:=q;exact xX p f I r (λi o=>h i (.tail _ o)) a n
end
section
variable {P:yA (yF×Fn)} {X:CF}
theorem r4(B:BL P)(n:Nat){a b:D}(c:a.isCell=yC)(f:b.isCell=yC):(af P X (n+1)).call "_law_alike" [a,b]=ac (.bool (eu a b),yz):=by
 refine au B.alike QQ ?_;cases a <;> first | (cases c;done) | (cases b <;> first | (cases f;done) | rfl)
theorem iU(B:BL P)(n:Nat){a b:D}(c:a.isCell=yC)(f:b.isCell=yC):(af P X (n+1)).call "_law_before" [a,b]=ac (.bool (aZ a b),yz):=by
 refine au B.before QQ ?_;cases a <;> first | (cases c;done) | (cases b <;> first | (cases f;done) | rfl)
noncomputable def u8(w:yF)(a b:D):yH:=if (eqW w "same"||eqW w "unlike")=yC then eu a b == eqW w "same" else if (eqW w "before"||eqW w "from")=yC then aZ a b == eqW w "before" else aZ b a == eqW w "behind"
theorem bq_t(x:yH):(x == yC)=x:=by cases x <;> rfl
theorem bq_f(x:yH):(x == yz)=!x:=by cases x <;> rfl
theorem stands_word{w:yF}(c:w∈jh)(a b:D):u8 w a b=ji w a b:=by
 rcases sK c with rfl | rfl | rfl | rfl | rfl | rfl
 ·exact bq_t _
 ·exact bq_f _
 ·exact bq_t _
 ·exact bq_f _
 ·exact bq_t _
 ·exact bq_f _
theorem lstands(B:BL P)(n:Nat){w:yF}(c:w∈jh){a b:D}(f:a.isCell=yC)(h:b.isCell=yC):(af P X (n+2)).call "_law_stands" [sD w,a,b]=ac (.bool (ji w a b),yz):=by
 rw[<- stands_word c];refine au B.stands QQ ?_;show Run _ gU.body [("_law_word",(yz,sD w)),("_law_one",(yz,a)),("_law_other",(yz,b))] _ _;have c:∀ x:yF,evE (af P X (n+1)) (vis [("_law_word",(yz,sD w)),("_law_one",(yz,a)),("_law_other",(yz,b))]) (.cmp .Eq (.u "_law_word") (.str x))=ac (.bool (eqW w x)):=λx=>ax (vr ad) vS QQ
 unfold u8;refine bc (gB (c _) λZ=>bC (c _)) QQ (λq=>?_) λq=>?_
 ·rw[yT q]
  exact aE (aq (ax (am (vv (ae QQ ad) (vv (ae QQ (ae QQ ad)) vN)) (r4 B n f h)) (c _) QQ) QQ QQ) QQ
 rw[q,yV yQ];refine bc (gB (c _) λZ=>bC (c _)) QQ (λq=>?_) λq=>?_
 ·rw[yT q]
  exact aE (aq (ax (am (vv (ae QQ ad) (vv (ae QQ (ae QQ ad)) vN)) (iU B n f h)) (c _) QQ) QQ QQ) QQ
 ·rw[q,yV yQ]
  exact aE (aq (ax (am (vv (ae QQ (ae QQ ad)) (vv (ae QQ ad) vN)) (iU B n h f)) (c _) QQ) QQ QQ) QQ
noncomputable abbrev rW:yA MS:=[.x0 "_law_other" (.sub (.u "_law_test") (.int 3)),.ite (.cmp .Eq (.sub (.u "_law_test") (.int 2)) (.str "col")) [.x0 "_law_other" (.sub (.u "_law_row") (.sub (.u "_law_test") (.int 3)))] [],.ite (.call "_law_stands" [.sub (.u "_law_test") (.int 0),.sub (.u "_law_row") (.sub (.u "_law_test") (.int 1)),.u "_law_other"]) [.ret (.bool yC)] []]
theorem lholds_turn(B:BL P)(n:Nat){m:Nat}{row:yA D}(f:bB m row){t:D}(C:Tst m t){σ:St}(i:Has σ "_law_row" (.tup row))(a:Has σ "_law_test" t):Out (af P X (n+2)) rW σ λh Fd=>if tV row t=yC then h=.ret yz (.bool yC) else h=.next/\Has Fd "_law_row" (.tup row):=by
 obtain⟨w,p,j,s,E⟩:=C;have fin:∀ {c:yF} {o b:D} {σ:St},b.isCell=yC->tV row (tst w p c o)=ji w (row.getD p .none) b->Has σ "_law_row" (.tup row)->Has σ "_law_test" (tst w p c o)->Has σ "_law_other" b->Out (af P X (n+2)) (rW.drop 2) σ λh Fd=>if tV row (tst w p c o)=yC then h=.ret yz (.bool yC) else h=.next/\Has Fd "_law_row" (.tup row):=λ{c o b σ} G e u z H=>by
  rw[e];exact cD (am (aa (av (x:=tst w p c o) (d:=sD w) (vr z) vI QQ) (aa (av (vr u) (av (x:=tst w p c o) (y:=.int 1) (vr z) vI QQ) (hZ f s)) (vv H vN))) (lstands B n j (dC f s) G)) QQ (λq=>tn (aq vB QQ QQ) QQ (rX q QQ)) λq=>bq (rY q ⟨QQ,u⟩)
 rcases E with⟨q,hq,rfl⟩ | ⟨o,A,rfl⟩
 ·refine aH (bh (d:=.int q) (fr:=yz) (aq (av (x:=tst w p "col" (.int q)) (vr a) vI QQ) QQ QQ) QQ) (cD (k:=yC) (x:=.bool yC) (ax (av (x:=tst w p "col" (.int q)) (vr (ag QQ a)) vI QQ) vS QQ) QQ (λZ=>?_) nofun)
  exact aH (bh (d:=row.getD q .none) (fr:=yz) (aq (av (vr (ag QQ i)) (av (x:=tst w p "col" (.int q)) (vr (ag QQ a)) vI QQ) (hZ f hq)) QQ QQ) (dC f hq)) (fin (dC f hq) (iL row j p "col" (.int q)) (ag QQ (ag QQ i)) (ag QQ (ag QQ a)) aw)
 ·refine aH (bh (d:=o) (fr:=yz) (aq (av (x:=tst w p "is" o) (vr a) vI QQ) QQ QQ) A.cell) (cD (k:=yz) (x:=.bool yz) (ax (av (x:=tst w p "is" o) (vr (ag QQ a)) vI QQ) vS QQ) QQ nofun λZ=>?_)
  exact fin A.cell (iL row j p "is" o) (ag QQ i) (ag QQ a) aw
theorem lholds(B:BL P)(n:Nat){m:Nat}{row:yA D}(h:bB m row){a:yA D}(i:∀ t∈a,Tst m t):(af P X (n+3)).call "_law_holds" [.tup a,.tup row]=ac (.bool (a.any (tV row)),yz):=by
 refine au B.holds QQ ?_;show Run _ iY.body [("_law_clause",(yz,.tup a)),("_law_row",(yz,.tup row))] _ _;obtain⟨Fd,j,k2⟩:=mE (cf:=af P X (n+2)) (body:=rW) (z:="_law_test") (tV row) (λσ=>Has σ "_law_row" (.tup row)) yz (.bool yC) a (λt b σ c=>lholds_turn B n h (i t b) (ag QQ c) aw) _ (bT (ns:=["_law_clause"]) (σ:=[("_law_clause",(yz,.tup a)),("_law_row",(yz,.tup row))]) (ae QQ ad))
 cases f:a.any (tV row) with
 | true=>exact mr (vr ad) QQ (j f)
 | false=>exact dW (vr ad) QQ (k2 f).2 (aE (aq vB QQ QQ) QQ)
end
section
variable {P:yA (yF×Fn)} {X:CF}
theorem nr{α:Type}(q:α->yH)(l:yA α):(!l.any λx=>!q x)=l.all q:=by
 rw[<- List.not_all_eq_any_not,Bool.not_not]
noncomputable abbrev uM:yA MS:=[.ite (.not (.comp (.u "_law_pair") "_law_pair" (.u "_law_pairs") [.not (.call "_law_alike" [.sub (.u "_law_one") (.sub (.u "_law_pair") (.int 0)),.sub (.u "_law_other") (.sub (.u "_law_pair") (.int 1))])])) [.append "_law_found" (.bin .Add (.u "_law_one") (.u "_law_other"))] []]
structure wP(t2:Tab)(prs:yA (Nat×Nat))(acc:Tab)(σ:St):Prop where
 s:Has σ "_law_second" (az t2)
 p:Has σ "_law_pairs" (.tup (prs.map prT))
 f:bF σ "_law_found" (az acc)
theorem join_in(B:BL P)(n:Nat){m k:Nat}{a:yA D}{f acc:Tab}(q:bB m a)(s:aP k f)(C:m+k<=big){prs:yA (Nat×Nat)}(t:prs.length<=big)(j:∀ p∈prs,p.1<m/\p.2<k)(E:acc.length+f.length<=big){σ:St}(h1:Has σ "_law_one" (.tup a))(I:wP f prs acc σ) :
  ∃ Fd,wP f prs (acc++(f.filter (br prs a)).map (a++·)) Fd/\cF (dq (af P X (n+1)) uM "_law_other") (f.map .tup) σ=ac (.next,Fd):=by
 obtain⟨Fd,G,e⟩:=gH (cf:=af P X (n+1)) (body:=uM) (z:="_law_other") (g:=D.tup) (λc σ=>Has σ "_law_one" (.tup a)/\wP f prs (acc++(c.filter (br prs a)).map (a++·)) σ) f [] σ ⟨h1,by rw[A7,EJ,zm];exact I⟩ (by
  rintro c b σ u H ⟨o,y,w,A⟩;refine cD (k:=br prs a b) (x:=.bool (br prs a b)) ?_ QQ (λh=>?_) λh=>?_
  ·unfold br
   rw[<- nr];exact lx (g:=prT) (l:=prs) (vr (ag QQ w)) QQ t λp i=>fP (am (aa (av (aC (bj QQ (aF (ag QQ o)))) (av (x:=prT p) (aC bO) vI QQ) (hZ q (j p i).1)) (aa (av (aC (bj QQ (aF aw))) (av (x:=prT p) (aC bO) vI QQ) (hZ (s b u) (j p i).2)) vN)) (r4 B n (dC q (j p i).1) (dC (s b u) (j p i).2))) QQ
  ·refine aH (bN (d:=.tup (a++b)) (ds:=((acc++(c.filter (br prs a)).map (a++·)).map .tup)) (ak (vr (ag QQ o)) (vr aw) (yT (by rw[q.1,(s b u).1];exact C))) (bW QQ (bD QQ A)) ?_) (bq ⟨QQ,ag QQ (ao (ag QQ o)),ag QQ (ao (ag QQ y)),ag QQ (ao (ag QQ w)),?_⟩)
   ·rw[yI,yY,yI]
    exact yZ (Nat.add_lt_add_left (yO (z7 _ _) (z6 f.length▸H)) _) E
   ·rw[show acc++((c++[b]).filter (br prs a)).map (a++·)=acc++(c.filter (br prs a)).map (a++·)++[a++b] from by rw[zP,show[b].filter (br prs a)=[b] from zc h,zd,B1];rfl,ez]
    exact dg
  ·refine bq ⟨QQ,ag QQ o,ag QQ y,ag QQ w,?_⟩
   rw[zP,show[b].filter (br prs a)=[] from zw (by rw[h];nofun),zm]
   exact bD QQ A)
 exact⟨Fd,G.2,e⟩
theorem ljoined(B:BL P)(n:Nat){m k:Nat}{h c:Tab}(h1:aP m h)(q:aP k c)(s:h.length<=60)(j:c.length<=60)(t:m+k<=big){prs:yA (Nat×Nat)}(i:prs.length<=big)(u:∀ p∈prs,p.1<m/\p.2<k) :
  (af P X (n+2)).call "_law_joined" [az h,az c,.tup (prs.map prT)]=ac (az (iR prs h c),yC):=by
 refine au B.joined QQ ?_;show Run _ gX.body [("_law_first",(yz,az h)),("_law_second",(yz,az c)),("_law_pairs",(yz,.tup (prs.map prT)))] _ _;refine aB (ai (d:=.list []) (fr:=yC) QQ) ?_;obtain⟨Fd,w,e⟩:=gH (cf:=af P X (n+1)) (body:=[.for_ "_law_other" (.u "_law_second") uM]) (z:="_law_one") (g:=D.tup) (λb σ=>wP c prs (iR prs b c) σ) h [] (freeze ["_law_first"] (ay [("_law_first",(yz,az h)),("_law_second",(yz,az c)),("_law_pairs",(yz,.tup (prs.map prT)))] "_law_found" (yC,.list []))) ⟨bT (ag QQ (ae QQ ad)),bT (ag QQ (ae QQ (ae QQ ad))),gz QQ dg⟩ (by
  rintro b a σ y A ⟨o,C,E⟩;obtain⟨G,J,e⟩:=join_in (X:=X) (σ:=freeze ["_law_second"] (ay σ "_law_one" (yz,.tup a))) B n (h1 a y) q t i u (acc:=iR prs b c) (yD (ze (yD (oW prs b c) (Dh (yD (zy (z6 h.length▸A)) s) j)) j) (by decide)) (bT aw) ⟨bT (ag QQ o),bT (ag QQ C),gz QQ (bD QQ E)⟩
  refine vz (vr (ag QQ o)) QQ e (bq ⟨QQ,?_⟩);rw[qT];exact J)
 exact dW (vr (ag QQ ad)) QQ e (dK w.f)
theorem eqS_cell{a b:D}(f:a.isCell=yC)(c:b.isCell=yC):eqS a b=ac (bv a b):=
 aS (C:=λa=>eqS a b=ac (bv a b)) f (λi=>aS (C:=λb=>eqS (.int i) b=ac (bv (.int i) b)) c (λZ=>QQ) λZ=>QQ) λx=>aS (C:=λb=>eqS (.str x) b=ac (bv (.str x) b)) c (λZ=>QQ) λZ=>QQ
theorem nF:∀ {a b:yA D},a.length=b.length->(∀ d∈a,d.isCell=yC)->(∀ d∈b,d.isCell=yC)->jS a b=ac (aA a b)
 | [],[],_,_,_=>rfl
 | x::a,y::b,i,f,h=>by
  show (eqS x y).bind _=_;rw[eqS_cell (f x (.head _)) (h y (.head _))];show (jS a b).map _=_;rw[nF (Am i) (λd c=>f d (.tail _ c)) λd c=>h d (.tail _ c)];rfl
theorem llike(B:BL P)(n:Nat){m:Nat}{a b:yA D}(i:bB m a)(j:bB m b){ps:yA Nat}(h:∀ p∈ps,p<m)(o:ps.length<=big):(af P X (n+1)).call "_law_row_like" [.tup a,.tup b,.tup (ps.map aM)]=ac (.bool (fW ps a b),yz):=by
 refine au B.rowLike QQ (aE (aq (ax (x:=.list (aQ ps a)) (y:=.list (aQ ps b)) (d:=.bool (fW ps a b)) (gP (g:=aM) (l:=ps) (f:=λp=>a.getD p .none) (vr (ae QQ (ae QQ ad))) QQ o λp c=>av (aC (bj QQ (aF ad))) (aC bO) (hZ i (h p c))) (gP (g:=aM) (l:=ps) (f:=λp=>b.getD p .none) (vr (ae QQ (ae QQ ad))) QQ o λp c=>av (aC (bj QQ (aF (ae QQ ad)))) (aC bO) (hZ j (h p c))) ?_) QQ QQ) QQ)
 show (if (aQ ps a).length=(aQ ps b).length then jS (aQ ps a) (aQ ps b) else ac yz).map D.bool=_
 have e:(aQ ps a).length=(aQ ps b).length:=(yI ..).trans (yI ..).symm;rw[yT e,nF e (gv i h).2 (gv j h).2];rfl
theorem ltold(B:BL P)(n:Nat)(w:yF){cs:yA D}(h:∀ c∈cs,c.isCell=yC)(s:cs.length<=big):(af P X (n+2)).call "_law_told" [sD w,.list cs]=ac (iV w cs,yz):=by
 refine au B.told QQ ?_;show Run _ jH.body [("_law_word",(yz,sD w)),("_law_cells",(yz,.list cs))] _ _;have a:∀ {σ:St} (x:yF),Has σ "_law_word" (sD w)->evE (af P X (n+1)) (vis σ) (.cmp .Eq (.u "_law_word") (.str x))=ac (.bool (eqW w x)):=λx i=>ax (vr i) vS QQ
 unfold iV;refine bc (a _ ad) QQ (λq=>?_) λq=>?_
 ·rw[yT q]
  exact aE (aq (bR (vv (ae QQ ad) vN) QQ) QQ QQ) QQ
 rw[q,yV yQ];refine bc (a _ ad) QQ (λq=>?_) λq=>?_
 ·rw[yT q]
  have e:∀ l:yA D,l=l.map id:=λl=>(List.map_id l).symm
  refine aE (aq (bR (aa (ut (g:=λd:D=>d) (l:=cs) (p:=λc=>!dM c) (vr (ae QQ ad)) (by show ac cs=_;rw[DY]) s λc b=>fP (jw (aC bO) (r5 (h c b))) QQ) vN) (d:=.int (uy cs)) ?_) QQ QQ) QQ
  rw[DY];show (nK _).map D.int=_;rw[mh h];rfl
 rw[q,yV yQ];obtain⟨Fd,t,k2⟩:=xX (cf:=af P X (n+1)) (body:=[.ite (.bop .And [.cmp .Eq (.u "_law_word") (.str "least"),.not (.comp (.u "_law_other") "_law_other" (.u "_law_cells") [.call "_law_before" [.u "_law_other",.u "_law_cell"]])]) [.ret (.u "_law_cell")] [],.ite (.bop .And [.cmp .Eq (.u "_law_word") (.str "most"),.not (.comp (.u "_law_other") "_law_other" (.u "_law_cells") [.call "_law_before" [.u "_law_cell",.u "_law_other"]])]) [.ret (.u "_law_cell")] []]) (z:="_law_cell") (g:=λd:D=>d) (ni w cs) (λd=>d) (λσ=>Has σ "_law_word" (sD w)/\Has σ "_law_cells" (.list cs)) cs (by
  rintro c b σ ⟨E,G⟩;have j:=ag (y:="_law_cell") (v:=(yz,c)) QQ E;have u:=ag (y:="_law_cell") (v:=(yz,c)) QQ G;have f:(ay σ "_law_cell" (yz,c)).lookup "_law_cell"=ac (yz,c):=by rw[aJ,yT rfl]
  generalize ay σ "_law_cell" (yz,c)=σ at *;have A:∀ {p:D->yH} {e:ME},(∀ o∈cs,evE (af P X (n+1)) (("_law_other",o)::vis σ) e=ac (.bool (p o)))->evE (af P X (n+1)) (vis σ) (.not (.comp (.u "_law_other") "_law_other" (.u "_law_cells") [e]))=ac (.bool (!cs.any p)):=λH=>lx (g:=λd:D=>d) (vr u) (by show ac cs=_;rw[DY]) s H
  have n1:=A (p:=λo=>aZ o c) (e:=.call "_law_before" [.u "_law_other",.u "_law_cell"]) λo m=>am (aa (aC bO) (aa (aC (bj QQ (aF ⟨_,f⟩))) vN)) (iU B n (h o m) (h c b))
  have n2:=A (p:=λo=>aZ c o) (e:=.call "_law_before" [.u "_law_cell",.u "_law_other"]) λo m=>am (aa (aC (bj QQ (aF ⟨_,f⟩))) (aa (aC bO) vN)) (iU B n (h c b) (h o m))
  unfold ni;refine cD (dh (a _ j) λZ=>bC n1) QQ (λq=>?_) λq=>?_
  ·rw[q];exact⟨_,_,QQ,qx (x_rx f)⟩
  rw[q,Eh];exact cD (dh (a _ j) λZ=>bC n2) QQ (λq=>by rw[q];exact⟨_,_,QQ,qx (x_rx f)⟩) λq=>bq (rY q ⟨QQ,j,u⟩)) (freeze ["_law_cells"] [("_law_word",(yz,sD w)),("_law_cells",(yz,.list cs))]) ⟨bT ad,bT (ae QQ ad)⟩
 rw[DY] at t k2;cases C:cs.find? (ni w cs) with
 | some x=>exact mr (vr (ae QQ ad)) QQ (t x C)
 | none=>exact dW (vr (ae QQ ad)) QQ (k2 C).2 (aE (aq (gg _ _) QQ QQ) QQ)
end
noncomputable def pc(a:yA (yF×Nat))(q:yA D×Tab):yA D:=q.1++a.map λs=>iV s.1 (col s.2 q.2)
theorem lN{α:Type}{g:α->D}{l:yA α}{z:α}{k:Nat}(h:k<l.length):aV (.list (l.map g)) (.int k)=ac (g (l.getD k z)):=lz (by rw[yI];exact h) (by rw[Ag,yW,yP h];rfl)
theorem wH(k n:Nat):bnd (.int (k:Int)) n=ac k:=by
 show (if (0:Int)<=(k:Int) then ac (k:Int).toNat else yS)=_
 rw[yT (zN k)];rfl
theorem mF{l:yA D}(k:Nat):slD (.list l) .none (.int k)=ac (.list (l.take k)):=by
 show ((bnd D.none 0).bind λa=>(bnd (.int k) l.length).map λb=>D.list ((l.take b).drop a))=_
 have e:=wH k l.length;rw[e];rfl
section
variable {P:yA (yF×Fn)} {X:CF}
structure GrI(t:Tab)(ps:yA Nat)(ss:yA (yF×Nat))(acc:Tab)(σ:St):Prop where
 r:Has σ "_law_rows" (az t)
 p:Has σ "_law_places" (.tup (ps.map aM))
 s:Has σ "_law_sums" (.tup (ss.map dI))
 f:bF σ "_law_found" (az acc)
theorem GrI.set{t:Tab}{ps:yA Nat}{a:yA (yF×Nat)}{acc:Tab}{σ:St}(I:GrI t ps a acc σ){x:yF}{v:yH×D}(h1:("_law_rows" == x)=yz)(b:("_law_places" == x)=yz)(c:("_law_sums" == x)=yz)(h:("_law_found" == x)=yz):GrI t ps a acc (ay σ x v):=⟨ag h1 I.r,ag b I.p,ag c I.s,bD h I.f⟩
theorem GrI.st{t:Tab}{ps:yA Nat}{a:yA (yF×Nat)}{acc:Tab}{σ:St}(I:GrI t ps a acc σ){d:D}{ns:yA yF}(h:ns.contains "_law_found"=yz):GrI t ps a acc (settle d ns σ):=⟨ao I.r,ao I.p,ao I.s,bW h I.f⟩
noncomputable abbrev lgrB:yA MS:=[.ite (.not (.comp (.u "_law_one") "_law_one" (.sl (.u "_law_rows") .none (.u "_law_k")) [.call "_law_row_like" [.u "_law_one",.sub (.u "_law_rows") (.u "_law_k"),.u "_law_places"]])) [.x0 "_law_group" (.comp (.u "_law_one") "_law_one" (.u "_law_rows") [.call "_law_row_like" [.u "_law_one",.sub (.u "_law_rows") (.u "_law_k"),.u "_law_places"]]),.x0 "_law_head" (.comp (.sub (.sub (.u "_law_rows") (.u "_law_k")) (.u "_law_place")) "_law_place" (.u "_law_places") []),.x0 "_law_more" (.comp (.call "_law_told" [.sub (.u "_law_pair") (.int 0),.comp (.sub (.u "_law_one") (.sub (.u "_law_pair") (.int 1))) "_law_one" (.u "_law_group") []]) "_law_pair" (.u "_law_sums") []),.append "_law_found" (.blt "tuple" [.bin .Add (.u "_law_head") (.u "_law_more")])] []]
theorem lgr_turn(B:BL P)(n:Nat){m:Nat}{t acc:Tab}(h:aP m t)(M:t.length<=60)(E:acc.length<60){ps:yA Nat}(Y:∀ p∈ps,p<m)(w:ps.length<=1000){c:yA (yF×Nat)}(Z:∀ s∈c,s.2<m)(G:c.length<=1000){k:Nat}(N:k<t.length){σ:St}(I:GrI t ps c acc σ)(b:Has σ "_law_k" (.int k)) :
  Out (af P X (n+2)) lgrB σ λFh Fd=>Fh=.next/\GrI t ps c (acc++if js ps t k=yC then [pc c (cj ps t k)] else []) Fd:=by
 have O:∀ {k:Nat},k<=1000->k<=big:=λh=>yD h (by decide)
 have A:∀ {k:Nat},k<=60->k<=big:=λh=>yD h (by decide)
 have H:bB m (t.getD k []):=h _ (dN N);have Fg:∀ {ρ:yA (yF×D)},lm ρ "_law_rows" (az t)->lm ρ "_law_k" (.int k)->evE (af P X (n+2)) ρ (.sub (.u "_law_rows") (.u "_law_k"))=ac (.tup (t.getD k [])):=λi j=>av (aC i) (aC j) (lN (g:=D.tup) (z:=([]:yA D)) N)
 have o:∀ {σ:St} {a:yA D},bB m a->Has σ "_law_rows" (az t)->Has σ "_law_k" (.int k)->Has σ "_law_places" (.tup (ps.map aM))->evE (af P X (n+2)) (("_law_one",.tup a)::vis σ) (.call "_law_row_like" [.u "_law_one",.sub (.u "_law_rows") (.u "_law_k"),.u "_law_places"])=ac (.bool (fW ps a (t.getD k []))):=λT Fi Fj Fk=>am (aa (aC bO) (aa (Fg (bj QQ (aF Fi)) (bj QQ (aF Fj))) (aa (aC (bj QQ (aF Fk))) vN))) (llike B (n+1) T H Y (O w))
 refine cD (k:=js ps t k) (x:=.bool (js ps t k)) ?_ QQ (λq=>?_) λq=>?_
 ·exact lx (g:=D.tup) (l:=t.take k) (d:=.list ((t.map D.tup).take k)) (qp (vr I.r) (gg _ _) (vr b) (mF k)) (by rw[<- El];rfl) (A (yD (List.length_take_le _ _) (yD (zy N) M))) λa E=>o (h a (DX E)) I.r b I.p
 ·rw[yT q]
  have u:(t.filter λa=>fW ps a (t.getD k [])).length<=big:=A (yD (z7 _ _) M)
  refine aH (ai (d:=az (cj ps t k).2) (fr:=yC) (aq (ut (g:=D.tup) (l:=t) (vr I.r) QQ (A M) λa E=>o (h a E) I.r b I.p) QQ QQ)) ?_
  have C:=(I.st (d:=az (cj ps t k).2) (ns:=ME.names (.comp (.u "_law_one") "_law_one" (.u "_law_rows") [.call "_law_row_like" [.u "_law_one",.sub (.u "_law_rows") (.u "_law_k"),.u "_law_places"]])) QQ).set (x:="_law_group") (v:=(yC,az (cj ps t k).2)) QQ QQ QQ QQ;have Fm:=ag (x:="_law_k") (y:="_law_group") (v:=(yC,az (cj ps t k).2)) QQ (ao (e:=az (cj ps t k).2) (ns:=ME.names (.comp (.u "_law_one") "_law_one" (.u "_law_rows") [.call "_law_row_like" [.u "_law_one",.sub (.u "_law_rows") (.u "_law_k"),.u "_law_places"]])) b);have g1:Has (ay (settle (az (cj ps t k).2) (ME.names (.comp (.u "_law_one") "_law_one" (.u "_law_rows") [.call "_law_row_like" [.u "_law_one",.sub (.u "_law_rows") (.u "_law_k"),.u "_law_places"]])) σ) "_law_group" (yC,az (cj ps t k).2)) "_law_group" (az (cj ps t k).2):=aw;generalize ay (settle (az (cj ps t k).2) (ME.names (.comp (.u "_law_one") "_law_one" (.u "_law_rows") [.call "_law_row_like" [.u "_law_one",.sub (.u "_law_rows") (.u "_law_k"),.u "_law_places"]])) σ) "_law_group" (yC,az (cj ps t k).2)=Fo at *;refine aH (ai (d:=.list (cj ps t k).1) (fr:=yC) (aq (gP (g:=aM) (l:=ps) (f:=λp=>(t.getD k []).getD p .none) (vr C.p) QQ (O w) λp U=>av (Fg (bj QQ (aF C.r)) (bj QQ (aF Fm))) (aC bO) (hZ H (Y p U))) QQ QQ)) ?_
  refine aH (ai (d:=.list (c.map λs=>iV s.1 (col s.2 (cj ps t k).2))) (fr:=yC) (aq (gP (g:=dI) (l:=c) (vr (ag QQ (ao C.s))) QQ (O G) λs J=>am (aa (av (x:=dI s) (d:=sD s.1) (aC bO) vI QQ) (aa (gP (g:=D.tup) (l:=(cj ps t k).2) (f:=λr=>r.getD s.2 .none) (aC (bj QQ (aF (ag QQ (ao g1))))) QQ u λr V=>av (aC bO) (av (x:=dI s) (y:=.int 1) (aC (bj QQ bO)) vI QQ) (hZ (h r (zp.mp V).1) (Z s J))) vN)) (ltold B n s.1 (jW (λr V=>h r (zp.mp V).1) (Z s J)) (by unfold col;rw[yI];exact u))) QQ QQ)) ?_
  have L:(cj ps t k).1.length+(c.map λs=>iV s.1 (col s.2 (cj ps t k).2)).length<=big:=by rw[show (cj ps t k).1.length=ps.length from yI ..,yI];exact yD (ze w G) (by decide)
  refine aH (bN (d:=.tup (pc c (cj ps t k))) (ds:=acc.map .tup) (bR (aa (ak (x:=.list (cj ps t k).1) (y:=.list (c.map λs=>iV s.1 (col s.2 (cj ps t k).2))) (d:=.list (pc c (cj ps t k))) (vr (ag QQ (ao aw))) (vr aw) (yj L)) vN) QQ) (bW QQ (bD QQ (bW QQ (bD QQ (bW QQ C.f))))) (by rw[yI];exact yZ E (by decide))) (bq ⟨QQ,?_⟩)
  exact⟨ag QQ (ao (ag QQ (ao (ag QQ (ao C.r))))),ag QQ (ao (ag QQ (ao (ag QQ (ao C.p))))),ag QQ (ao (ag QQ (ao (ag QQ (ao C.s))))),by rw[ez];exact dg⟩
 ·rw[q,yV yQ]
  exact bq ⟨QQ,(zm acc).symm▸I⟩
theorem snoc_if{ps:yA Nat}{t:Tab}{f:Nat->yA D}(b:yA Nat)(k:Nat):((b++[k]).filter (js ps t)).map f=(b.filter (js ps t)).map f++if js ps t k=yC then [f k] else []:=by
 rw[zP,zd];cases e:js ps t k with
 | true=>rw[zc e];rfl
 | false=>rw[zw (by rw[e];exact yQ)];rfl
theorem lgrouped(B:BL P)(n:Nat){m:Nat}{t:Tab}(h:aP m t)(o:t.length<=60){ps:yA Nat}(q:∀ p∈ps,p<m)(u:ps.length<=1000){a:yA (yF×Nat)}(C:∀ s∈a,s.2<m)(w:a.length<=1000)(H:∀ s∈a,s.1∈qC) :
  (af P X (n+3)).call "_law_grouped" [az t,.tup (ps.map aM),.tup (a.map dI)]=ac (az (eM ps a t),yC):=by
 have e1:eM ps a t=((zf t.length).filter (js ps t)).map λk=>pc a (cj ps t k):=by
  unfold eM;rw[pC q t.length t rfl h];unfold qU;rw[zV];refine AH λk c=>y6 ((cj ps t k).1++·) (AH λs j=>?_)
  have c:=AK.mp (zp.mp c).1;have y:bB m (t.getD k []):=h _ (dN c);have A:t.getD k []∈(cj ps t k).2:=zp.mpr ⟨dN c,dU (gv y q).2⟩;have ok:aP m (cj ps t k).2:=λr J=>h r (zp.mp J).1
  generalize (cj ps t k).2=G at *;cases G with
  | nil=>cases A
  | cons M N=>exact (told_law (H s j) (jW ok (C s j))).symm
 rw[e1];refine au B.grouped QQ ?_;show Run _ fZ.body [("_law_rows",(yz,az t)),("_law_places",(yz,.tup (ps.map aM))),("_law_sums",(yz,.tup (a.map dI)))] _ _;refine aB (ai (d:=.list []) (fr:=yC) QQ) ?_;obtain⟨Fd,L,e⟩:=gH (cf:=af P X (n+2)) (body:=lgrB) (z:="_law_k") (g:=λi:Nat=>D.int (i:Int)) (λb σ=>GrI t ps a ((b.filter (js ps t)).map λk=>pc a (cj ps t k)) σ) (zf t.length) [] (freeze ["_law_rows"] (ay [("_law_rows",(yz,az t)),("_law_places",(yz,.tup (ps.map aM))),("_law_sums",(yz,.tup (a.map dI)))] "_law_found" (yC,.list []))) ⟨bT (ag QQ ad),bT (ag QQ (ae QQ ad)),bT (ag QQ (ae QQ (ae QQ ad))),gz QQ dg⟩ (by
  intro b k σ c E I;rw[snoc_if];exact lgr_turn B n h o (by rw[yI];rw[zJ] at E;exact yO (z7 _ _) (yZ (z6 t.length▸E) o)) q u C w (AK.mp c) (I.set QQ QQ QQ QQ) aw)
 exact dW (x:=.rng 0 t.length) (bR (aa (d:=.int t.length) (bR (vv (ag QQ ad) vN) (by show ac (D.int ((t.map D.tup).length:Nat))=_;rw[yI])) vN) (jd (yD o (by decide)))) (dS t.length) e (dK L.f)
end
theorem alike_lt{a b:D}(f:a.isCell=yC)(h:b.isCell=yC):eu a b=(!aL a b&&!aL b a):=by
 have c:=tri f h;rw[cP f h,cP h f] at c;cases h1:aL a b with
 | true=>rw[h1] at c;exact (Bz.mp c).2
 | false=>
  rw[h1] at c;cases i:aL b a with
  | false=>rw[i] at c;exact c
  | true=>
   cases e:eu a b with
   | false=>rfl
   | true=>rw[rj f e,wkD.irr h] at i;cases i
noncomputable def nAl(a b:yA D)(k:Nat×yH):yH:=!eu (a.getD k.1 .none) (b.getD k.1 .none)
theorem ty{m:Nat}{a b:yA D}(c:bB m a)(f:bB m b):∀ {ks:yA (Nat×yH)},(∀ k∈ks,k.1<m)->gS ks a b=match ks.find? (nAl a b) with | some k=>ltK k a b | none=>yz
 | [],_=>rfl
 | k::ks,h=>by
  have j:=ty c f λx n=>h x (.tail _ n)
  have i:=h k (.head _);have e:nAl a b k=!(!ltK k a b&&!ltK k b a):=by
   unfold nAl ltK ltC;rw[alike_lt (dC c i) (dC f i)];cases k.2 with
   | true=>exact y6 (!·) (Cf _ _)
   | false=>rfl
  rw[C6];show nL (ltK k) (gS ks) a b=_;unfold nL;rw[e];cases h1:ltK k a b with
  | true=>exact h1.symm
  | false=>cases o:ltK k b a with
   | true=>exact h1.symm
   | false=>exact j
section
variable {P:yA (yF×Fn)} {X:CF}
theorem lahead(B:BL P)(n:Nat){m:Nat}{a b:yA D}(f:bB m a)(i:bB m b){ks:yA (Nat×yH)}(c:∀ k∈ks,k.1<m):(af P X (n+2)).call "_law_ahead" [.tup a,.tup b,.tup (ks.map eE)]=ac (.bool (gS ks a b),yz):=by
 refine au B.ahead QQ ?_;show Run _ i9.body [("_law_one",(yz,.tup a)),("_law_other",(yz,.tup b)),("_law_keys",(yz,.tup (ks.map eE)))] _ _;obtain⟨Fd,A,k2⟩:=xX (cf:=af P X (n+1)) (body:=[.ite (.not (.call "_law_alike" [.sub (.u "_law_one") (.sub (.u "_law_key") (.int 0)),.sub (.u "_law_other") (.sub (.u "_law_key") (.int 0))])) [.ite (.sub (.u "_law_key") (.int 1)) [.ret (.call "_law_before" [.sub (.u "_law_other") (.sub (.u "_law_key") (.int 0)),.sub (.u "_law_one") (.sub (.u "_law_key") (.int 0))])] [],.ret (.call "_law_before" [.sub (.u "_law_one") (.sub (.u "_law_key") (.int 0)),.sub (.u "_law_other") (.sub (.u "_law_key") (.int 0))])] []]) (z:="_law_key") (g:=eE) (nAl a b) (λk=>.bool (ltK k a b)) (λσ=>Has σ "_law_one" (.tup a)/\Has σ "_law_other" (.tup b)) ks (by
  rintro k j σ ⟨C,E⟩;have c:=c k j;have u:=ag (y:="_law_key") (v:=(yz,eE k)) QQ C;have w:=ag (y:="_law_key") (v:=(yz,eE k)) QQ E;have o:Has (ay σ "_law_key" (yz,eE k)) "_law_key" (eE k):=aw;generalize ay σ "_law_key" (yz,eE k)=σ at *;have s:evE (af P X (n+1)) (vis σ) (.sub (.u "_law_one") (.sub (.u "_law_key") (.int 0)))=ac (a.getD k.1 .none):=av (vr u) (av (x:=eE k) (vr o) vI QQ) (hZ f c);have t:evE (af P X (n+1)) (vis σ) (.sub (.u "_law_other") (.sub (.u "_law_key") (.int 0)))=ac (b.getD k.1 .none):=av (vr w) (av (x:=eE k) (vr o) vI QQ) (hZ i c);refine cD (fP (am (aa s (aa t vN)) (r4 B n (dC f c) (dC i c))) QQ) QQ (λq=>?_) λq=>bq (rY q ⟨QQ,u,w⟩)
  refine cD (k:=k.2) (av (x:=eE k) (y:=.int 1) (d:=.bool k.2) (vr o) vI QQ) QQ (λr=>?_) λr=>?_
  ·exact tn (aD (aa t (aa s vN)) (iU B n (dC i c) (dC f c))) QQ (rX q (by unfold ltK ltC;rw[r,cP (dC i c) (dC f c)]))
  ·exact tn (aD (aa s (aa t vN)) (iU B n (dC f c) (dC i c))) QQ (rX q (by unfold ltK ltC;rw[r,cP (dC f c) (dC i c)]))) (freeze ["_law_keys"] [("_law_one",(yz,.tup a)),("_law_other",(yz,.tup b)),("_law_keys",(yz,.tup (ks.map eE)))]) ⟨bT ad,bT (ae QQ ad)⟩
 rw[ty f i c];cases h:ks.find? (nAl a b) with
 | some k=>exact mr (vr (ae QQ (ae QQ ad))) QQ (A k h)
 | none=>exact dW (vr (ae QQ (ae QQ ad))) QQ (k2 h).2 (aE (aq vB QQ QQ) QQ)
structure yk(ks:yA (Nat×yH))(left acc:Tab)(σ:St):Prop where
 k:Has σ "_law_keys" (.tup (ks.map eE))
 l:Has σ "_law_left" (az left)
 f:bF σ "_law_found" (az acc)
noncomputable abbrev bestB:yA MS:=[.ite (.call "_law_ahead" [.sub (.u "_law_left") (.u "_law_k"),.sub (.u "_law_left") (.u "_law_best"),.u "_law_keys"]) [.x0 "_law_best" (.u "_law_k")] []]
noncomputable abbrev selB:yA MS:=[.x0 "_law_best" (.int 0),.for_ "_law_k" (.blt "range" [.int 1,.blt "len" [.u "_law_left"]]) bestB,.append "_law_found" (.sub (.u "_law_left") (.u "_law_best")),.x0 "_law_left" (.bin .Add (.sl (.u "_law_left") .none (.u "_law_best")) (.sl (.u "_law_left") (.bin .Add (.u "_law_best") (.int 1)) .none))]
theorem items_rng1(m:Nat):(D.rng 1 m).items=ac ((zf (m - 1)).map λi:Nat=>D.int (1+(i:Int))):=by
 show ac ((zf ((m:Int) - 1).toNat).map λ(i:Nat)=>D.int (1+(i:Int)))=_
 rw[show ((m:Int) - 1).toNat=m - 1 from by exact om1]
theorem rng1{m:Nat}(h:m<=60):hY "range" [.int 1,.int m]=ac (.rng 1 m):=by
 show (if _ then _ else _)=_
 have:60<=big:=by decide
 exact yT (om2 h this)
theorem list_drop{l:yA D}(k:Nat):slD (.list l) (.int k) .none=ac (.list (l.drop k)):=by
 show ((bnd (.int k) 0).bind λa=>(bnd D.none l.length).map λb=>D.list ((l.take b).drop a))=_
 have e:=wH k 0;rw[e];show ac (D.list ((l.take l.length).drop k))=_;rw[DF]
theorem sel_turn(B:BL P)(n:Nat){m:Nat}{left acc:Tab}(h:aP m left)(t:left.length<=60)(H:0<left.length)(L:acc.length<1000){ks:yA (Nat×yH)}(A:∀ k∈ks,k.1<m){σ:St}(I:yk ks left acc σ) :
  Out (af P X (n+2)) selB σ λu Fd=>u=.next/\yk ks (jy left (gN (gS ks) [] left)) (acc++[left.getD (gN (gS ks) [] left) []]) Fd:=by
 have W:=wkL (m:=m) A;have C:∀ j,j<left.length->bB m (left.getD j []):=λj w=>h _ (dN w)
 have sub:∀ {ρ:yA (yF×D)} {x:yF} {j:Nat},j<left.length->lm ρ "_law_left" (az left)->lm ρ x (.int j)->evE (af P X (n+2)) ρ (.sub (.u "_law_left") (.u x))=ac (.tup (left.getD j [])):=λw M N=>av (aC M) (aC N) (lN (g:=D.tup) (z:=([]:yA D)) w)
 refine aH (bh (d:=.int (0:Nat)) (fr:=yz) QQ QQ) ?_;obtain⟨Fd,⟨J,a,o⟩,e⟩:=gH (cf:=af P X (n+2)) (body:=bestB) (z:="_law_k") (g:=λi:Nat=>D.int (1+(i:Int))) (λb σ=>yk ks left acc σ/\b.foldl (iF (gS ks) [] left) 0<left.length/\Has σ "_law_best" (.int (b.foldl (iF (gS ks) [] left) 0:Nat))) (zf (left.length - 1)) [] (freeze ["_law_left"] (ay σ "_law_best" (yz,.int (0:Nat)))) ⟨⟨bT (ag QQ I.k),bT (ag QQ I.l),gz QQ (bD QQ I.f)⟩,H,bT aw⟩ (by
  rintro b i σ O V ⟨J,a,o⟩;rw[Bg];show Out _ _ _ λu Fd=>u=.next/\yk ks left acc Fd/\iF (gS ks) [] left (b.foldl (iF (gS ks) [] left) 0) i<left.length/\Has Fd "_law_best" (.int (iF (gS ks) [] left (b.foldl (iF (gS ks) [] left) 0) i:Nat))
  generalize b.foldl (iF (gS ks) [] left) 0=c at *;have s:i+1<left.length:=Nat.add_lt_of_lt_sub (AK.mp O);have T:(1+(i:Int))=((i+1:Nat):Int):=by rw[Au,Int.add_comm];rfl
  rw[T];unfold iF;refine cD (am (aa (sub s (aF (ag QQ J.l)) (aF aw)) (aa (sub a (aF (ag QQ J.l)) (aF (ag QQ o))) (vv (ag QQ J.k) vN))) (lahead B n (C _ s) (C _ a) A)) QQ (λq=>?_) λq=>?_
  ·rw[yT q]
   exact aH (bh (d:=.int (i+1:Nat)) (fr:=yz) (aq (vr aw) QQ QQ) QQ) (bq ⟨QQ,⟨ag QQ (ag QQ J.k),ag QQ (ag QQ J.l),bD QQ (bD QQ J.f)⟩,s,aw⟩)
  ·rw[q,yV yQ]
   exact bq ⟨QQ,⟨ag QQ J.k,ag QQ J.l,bD QQ J.f⟩,a,ag QQ o⟩)
 refine vz (d:=.rng 1 left.length) (bR (aa vI (aa (d:=.int left.length) (bR (vv (ag QQ I.l) vN) (by show ac (D.int ((left.map D.tup).length:Nat))=_;rw[yI])) vN)) (rng1 t)) (items_rng1 left.length) e ?_
 replace a:gN (gS ks) [] left<left.length:=a;replace o:Has Fd "_law_best" (.int (gN (gS ks) [] left:Nat)):=o;generalize gN (gS ks) [] left=c at *;refine aH (bN (d:=.tup (left.getD c [])) (ds:=acc.map .tup) (sub a (aF J.l) (aF o)) (bW QQ J.f) (by rw[yI];exact yZ L (by decide))) ?_
 have E:=ag (x:="_law_left") (y:="_law_found") (v:=(yC,.list (acc.map .tup++[.tup (left.getD c [])]))) QQ (ao (e:=.tup (left.getD c [])) (ns:=["_law_left","_law_best"]) J.l);have G:=ag (x:="_law_best") (y:="_law_found") (v:=(yC,.list (acc.map .tup++[.tup (left.getD c [])]))) QQ (ao (e:=.tup (left.getD c [])) (ns:=["_law_left","_law_best"]) o);have k2:=ag (x:="_law_keys") (y:="_law_found") (v:=(yC,.list (acc.map .tup++[.tup (left.getD c [])]))) QQ (ao (e:=.tup (left.getD c [])) (ns:=["_law_left","_law_best"]) J.k);have U:D.list ((left.map D.tup).take c++(left.map D.tup).drop (c+1))=az (jy left c):=by unfold az jy;rw[zd,El,List.map_drop]
 refine aH (ai (d:=az (jy left c)) (fr:=yC) (aq (ak (x:=.list ((left.map D.tup).take c)) (y:=.list ((left.map D.tup).drop (c+1))) (qp (vr E) (gg _ _) (vr G) (mF c)) (qp (vr E) (ak (d:=.int (c+1:Nat)) (vr G) vI (by rw[Au];rfl)) (gg _ _) (list_drop (c+1))) ?_) QQ QQ)) (bq ⟨QQ,ag QQ (ao k2),aw,?_⟩)
 ·rw[<- U]
  exact yT (yD (ze (List.length_take_le' _ _) (yD (y5 B9) (De _ _))) (by rw[yI];exact yD (ze t t) (by decide)))
 ·rw[ez];exact bD QQ (bW QQ dg)
theorem qH(B:BL P)(n:Nat){m:Nat}{ks:yA (Nat×yH)}(a:∀ k∈ks,k.1<m):∀ (k:Nat) (left acc:Tab) (f:Nat) (σ:St),left.length=k->k<=60->k<f->acc.length+k<1000->aP m left->yk ks left acc σ->∃ Fd,bF Fd "_law_found" (az (acc++sZ (gS ks) [] k left))/\eX (gK (af P X (n+2)) (.u "_law_left")) (λσ=>bk (af P X (n+2)) selB σ) f σ=ac (.next,Fd)
 | k,left,acc,0,σ,_,_,h,_,_,_=>zl h (AF _)
 | 0,left,acc,f+1,σ,e,_,_,_,_,I=>by
  have:left=[]:=AJ.mp e;subst this;refine⟨σ,by rw[show sZ (gS ks) [] 0 ([]:Tab)=[] from rfl,zm];exact I.f,?_⟩
  rw[eX,show gK (af P X (n+2)) (.u "_law_left") σ=ac yz from by unfold gK;rw[aC (aF I.l)];rfl]
 | k+1,left,acc,f+1,σ,e,q,u,s,h,I=>by
  have b:0<left.length:=e▸Ac k;obtain⟨E,c,⟨rfl,J⟩,w⟩:=sel_turn (X:=X) B n h (e▸q) b (yO (y9 _ _) s) a I;have t:=wK (z:=([]:yA D)) (wkL (m:=m) a) (λj y=>h _ (dN y)) b
  obtain⟨i,o,A⟩:=qH B n a k _ _ f c (Am ((s5 t).trans e)) (BB q) (AC u) (by rw[yY];show acc.length+1+k<1000;rw[Ah,z5 1];exact s) (λr C=>h r (lF t C)) J
  refine⟨i,by rw[B1] at o;exact o,?_⟩
  rw[eX,show gK (af P X (n+2)) (.u "_law_left") σ=ac yC from by
   unfold gK;rw[aC (aF I.l)];cases left with
   | nil=>cases b
   | cons=>rfl]
  dsimp only;rw[w];exact A
theorem lordered(B:BL P)(n:Nat){m:Nat}{t:Tab}(h:aP m t)(a:t.length<=60){ks:yA (Nat×yH)}(b:∀ k∈ks,k.1<m):(af P X (n+3)).call "_law_ordered" [az t,.tup (ks.map eE)]=ac (az (eI ks t),yC):=by
 refine au B.ordered QQ ?_;show Run _ fY.body [("_law_rows",(yz,az t)),("_law_keys",(yz,.tup (ks.map eE)))] _ _;refine aB (ai (d:=az t) (fr:=yC) (aq (xc (vr ad) QQ) QQ QQ)) (aB (ai (d:=.list []) (fr:=yC) QQ) ?_);obtain⟨Fd,o,e⟩:=qH (X:=X) B n b t.length t [] wR (ay (settle (.list []) [] (ay (settle (az t) ["_law_rows"] [("_law_rows",(yz,az t)),("_law_keys",(yz,.tup (ks.map eE)))]) "_law_left" (yC,az t))) "_law_found" (yC,.list [])) QQ a (yO a (by decide)) (by rw[EN,z6];exact yO a (by decide)) h ⟨ag QQ (ao (ag QQ (ao (ae QQ ad)))),ag QQ (ao aw),dg⟩
 rw[AR,order_sel h b] at o;exact r_while e (dK o)
end
section
variable {P:yA (yF×Fn)} {X:CF} {cf:CF} {σ:St} {t r:yA MS} {w w2:yF} {R q:D} {fr:yH}
section
variable {I A:D}{m:Nat}
theorem skQ(a:(yB w == yB w2)=yz)(h:Has σ "_law_query" q)(b:aV q (.int 0)=ac (sD w))(k:Run cf r σ R fr):Run cf (.ite (.cmp .Eq (.sub (.u "_law_query") (.int 0)) (.str w2)) t []::r) σ R fr:=
 bc (k:=yz) (x:=.bool yz) (ax (vsi h b) vS (by show ac (D.bool (yB w == yB w2))=_;rw[a])) QQ nofun λZ=>k
theorem tM(h:Has σ "_law_query" q)(a:aV q (.int 0)=ac (sD w))(k:Run cf (t++r) σ R fr):Run cf (.ite (.cmp .Eq (.sub (.u "_law_query") (.int 0)) (.str w)) t []::r) σ R fr:=
 bc (k:=yC) (x:=.bool yC) (ax (vsi h a) vS (by show ac (D.bool (yB w == yB w))=_;rw[zg])) QQ (λZ=>k) nofun
theorem mH(B:BL P)(n:Nat){q R:D}{fr:yH}(k:Run (af P X n) jQ.body [("_law_query",(yz,q)),("_law_rows",(yz,A))] R fr):(af P X (n+1)).call "_law_done" [q,A]=ac (R,fr):=au B.done QQ k
theorem hq{q:D}:Has [("_law_query",(yz,q)),("_law_rows",(yz,A))] "_law_query" q:=ad
theorem hrw{q:D}:Has [("_law_query",(yz,q)),("_law_rows",(yz,A))] "_law_rows" A:=ae QQ ad
theorem ld_sieve(B:BL P)(n:Nat){t:Tab}(h:aP m t)(f:t.length<=big){cs:yA (yA D)}(a:cs.length<=big)(i:∀ c∈cs,bV m c):(af P X (n+4)).call "_law_done" [.tup [sD "sieve",.tup (cs.map clD),I],az t]=ac (az (t.filter (aK cs)),yC):=by
 refine mH B (n+3) (tM hq QQ (aE (aq (ut (g:=D.tup) (l:=t) (p:=aK cs) (vr hrw) QQ f λr j=>?_) QQ QQ) QQ))
 unfold aK;rw[<- nr];exact lx (g:=clD) (l:=cs) (d:=.tup (cs.map clD)) (av (x:=.tup [sD "sieve",.tup (cs.map clD),I]) (y:=.int 1) (aC (bj QQ (aF hq))) vI QQ) QQ a λc b=>fP (am (aa (aC bO) (aa (aC (bj QQ bO)) vN)) (lholds B n (h r j) (i c b).1)) QQ
theorem ld_pick(B:BL P)(n:Nat){t:Tab}(h:aP m t)(c:t.length<=big){ps:yA Nat}(i:∀ p∈ps,p<m)(a:ps.length<=big):(af P X (n+1)).call "_law_done" [.tup [sD "pick",.tup (ps.map aM),I],az t]=ac (az (t.map (aQ ps)),yC):=by
 unfold az;rw[zV];exact mH B n (skQ (by decide +kernel) hq QQ (tM hq QQ (aE (aq (gP (g:=D.tup) (l:=t) (f:=D.tup ∘ aQ ps) (vr hrw) QQ c λr j=>bR (aa (gP (g:=aM) (l:=ps) (f:=λp=>r.getD p .none) (av (x:=.tup [sD "pick",.tup (ps.map aM),I]) (y:=.int 1) (aC (bj QQ (aF hq))) vI QQ) QQ a λp b=>av (aC (bj QQ bO)) (aC bO) (hZ (h r j) (i p b))) vN) QQ) QQ QQ) QQ)))
theorem ld_group(B:BL P)(n:Nat){R S U:D}{fr:yH}(k:(af P X n).call "_law_grouped" [A,S,U]=ac (R,fr)):(af P X (n+1)).call "_law_done" [.tup [sD "group",S,U,I],A]=ac (R,fr):=
 mH B n (skQ (by decide +kernel) hq QQ (skQ (by decide +kernel) hq QQ (tM hq QQ (aE (aD (vv hrw (aa (av (x:=.tup [sD "group",S,U,I]) (y:=.int 1) (vr hq) vI QQ) (aa (av (x:=.tup [sD "group",S,U,I]) (y:=.int 2) (vr hq) vI QQ) vN))) k) QQ))))
theorem ld_order(B:BL P)(n:Nat){R S:D}{fr:yH}(k:(af P X n).call "_law_ordered" [A,S]=ac (R,fr)):(af P X (n+1)).call "_law_done" [.tup [sD "order",S,I],A]=ac (R,fr):=
 mH B n (skQ (by decide +kernel) hq QQ (skQ (by decide +kernel) hq QQ (skQ (by decide +kernel) hq QQ (tM hq QQ (aE (aD (vv hrw (aa (av (x:=.tup [sD "order",S,I]) (y:=.int 1) (vr hq) vI QQ) vN)) k) QQ)))))
theorem ld_first(B:BL P)(n:Nat){t:Tab}{c:Nat}:(af P X (n+1)).call "_law_done" [.tup [sD "first",aM c,I],az t]=ac (az (t.take c),yC):=by
 refine mH B n (skQ (by decide +kernel) hq QQ (skQ (by decide +kernel) hq QQ (skQ (by decide +kernel) hq QQ (skQ (by decide +kernel) hq QQ (tM hq QQ (aE (aq (qp (x:=az t) (u:=.none) (v:=aM c) (d:=az (t.take c)) (vr hrw) (gg _ _) (av (x:=.tup [sD "first",aM c,I]) (y:=.int 1) (vr hq) vI QQ) ((mF c).trans ?_)) QQ QQ) QQ))))))
 unfold az;rw[El]
theorem ld_once(B:BL P)(n:Nat){t:Tab}(h:aP m t)(s:t.length<big):(af P X (n+1)).call "_law_done" [.tup [sD "once",I],az t]=ac (az (aX t),yC):=by
 refine mH B n (skQ (by decide +kernel) hq QQ (skQ (by decide +kernel) hq QQ (skQ (by decide +kernel) hq QQ (skQ (by decide +kernel) hq QQ (skQ (by decide +kernel) hq QQ (aB (ai (d:=.list []) (fr:=yC) QQ) ?_))))))
 obtain⟨Fd,u,e⟩:=gH (cf:=af P X n) (body:=[.ite (.cmp .NotIn (.u "_law_row") (.u "_law_found")) [.append "_law_found" (.u "_law_row")] []]) (z:="_law_row") (g:=D.tup) (λb σ=>aP m (aX b)/\(aX b).length<=b.length/\bF σ "_law_found" (az (aX b))) t []
  (freeze ["_law_rows"] (ay [("_law_query",(yz,.tup [sD "once",I])),("_law_rows",(yz,az t))] "_law_found" (yC,.list []))) ⟨(λZ h=>nomatch h),y0 _,gz QQ dg⟩ (by
  rintro b r σ o w ⟨f,i,j⟩;have y:mD (.tup r) (az (aX b))=ac ((aX b).any λx=>aA x r):=by
   rw[<- jZ];exact yT (by rw[kW (h r o),rG f];rfl)
  have A:evE (af P X n) (vis (ay σ "_law_row" (yz,.tup r))) (.cmp .NotIn (.u "_law_row") (.u "_law_found"))=ac (.bool (!(aX b).any λx=>aA x r)):=ax (vr aw) (vr (ag QQ (iy j))) (by show (mD _ _).map _=_;rw[y];rfl)
  have c:(aX b).length<big:=yO i (zM (z6 t.length▸w) s);refine cD A QQ (λa=>?_) λa=>?_
  ·have a:((aX b).any λx=>aA x r)=yz:=by cases e:(aX b).any λx=>aA x r with | false=>rfl | true=>rw[e] at a;cases a
   have e1:aX (b++[r])=aX b++[r]:=by rw[eZ];unfold gG;rw[a,yV yQ]
   refine aH (bN (d:=.tup r) (ds:=(aX b).map .tup) (vr aw) (bW QQ (bD QQ j)) (by rw[yI];exact c)) (bq ⟨QQ,?_,?_,?_⟩)
   ·rw[e1];exact λx C=>(zA.mp C).elim (f x) λq=>y3.mp q▸h r o
   ·rw[e1,yY,yY];exact zb i
   ·rw[e1,ez];exact dg
  ·have a:((aX b).any λx=>aA x r)=yC:=by cases e:(aX b).any λx=>aA x r with | true=>rfl | false=>rw[e] at a;cases a
   have e1:aX (b++[r])=aX b:=by rw[eZ];unfold gG;rw[a,yT rfl]
   rw[e1];exact bq ⟨QQ,f,by rw[yY];exact zO i,bD QQ j⟩)
 exact dW (vr (ag QQ hrw)) QQ e (dK u.2.2)
theorem linner(B:BL P)(n:Nat){w:yF}{q:D}(a:aV q (.int 0)=ac (sD w))(h1:aV q (.int (sa (yB w)))=ac I):(af P X (n+1)).call "_law_inner" [q]=ac (I,yz):=
 au B.inner QQ (aE (aq (av (vr ad) (v_inn (vsi ad a)) h1) QQ QQ) QQ)
end
noncomputable abbrev laS(q T:D):St:=[("_law_query",(yz,q)),("_law_tables_here",(yz,T))]
theorem ku(B:BL P)(n:Nat){q I T A R:D}{c fr:yH}(f:w∈qA)(b:aV q (.int 0)=ac (sD w))(h:aV q (.int (sa (yB w)))=ac I)
  (i:(af P X (n+1)).call "_law_answer" [I,T]=ac (A,c)) (k2:(af P X (n+1)).call "_law_done" [q,A]=ac (R,fr)):(af P X (n+2)).call "_law_answer" [q,T]=ac (R,fr):=by
 have a:=u3 w f;refine au B.answer QQ ?_;show Run _ dA.body (laS q T) _ _;exact skQ a.1 ad b (skQ a.2.1 ad b (skQ a.2.2 ad b (aE (aD (vv ad (aa (am (aa (am (vv ad vN) (linner B n b h)) (vv (ae QQ ad) vN)) i) vN)) k2) QQ)))
theorem la_join(B:BL P)(n:Nat){I J S T A C R:D}{a b fr:yH}(c:(af P X n).call "_law_answer" [I,T]=ac (A,a))(k2:(af P X n).call "_law_answer" [J,T]=ac (C,b))(f:(af P X n).call "_law_joined" [A,C,S]=ac (R,fr)) :
  (af P X (n+1)).call "_law_answer" [.tup [sD "join",I,J,S],T]=ac (R,fr):=by
 refine au B.answer QQ ?_;show Run _ dA.body (laS (.tup [sD "join",I,J,S]) T) _ _;exact skQ (by decide +kernel) ad QQ (tM ad QQ (aE (aD (aa (am (aa (av (x:=.tup [sD "join",I,J,S]) (y:=.int 1) (vr ad) vI QQ) (vv (ae QQ ad) vN)) c) (aa (am (aa (av (x:=.tup [sD "join",I,J,S]) (y:=.int 2) (vr ad) vI QQ) (vv (ae QQ ad) vN)) k2) (aa (av (x:=.tup [sD "join",I,J,S]) (y:=.int 3) (vr ad) vI QQ) vN))) f) QQ))
theorem la_both(B:BL P)(n:Nat){I J T:D}{a b:Tab}{c f:yH}(h:a.length+b.length<=big)(i:(af P X n).call "_law_answer" [I,T]=ac (az a,c))(k2:(af P X n).call "_law_answer" [J,T]=ac (az b,f)) :
  (af P X (n+1)).call "_law_answer" [.tup [sD "both",I,J],T]=ac (az (a++b),yC):=by
 refine au B.answer QQ ?_;show Run _ dA.body (laS (.tup [sD "both",I,J]) T) _ _;refine skQ (by decide +kernel) ad QQ (skQ (by decide +kernel) ad QQ (tM ad QQ (aE (aq (ak (x:=az a) (y:=az b) (am (aa (av (x:=.tup [sD "both",I,J]) (y:=.int 1) (vr ad) vI QQ) (vv (ae QQ ad) vN)) i) (am (aa (av (x:=.tup [sD "both",I,J]) (y:=.int 2) (vr ad) vI QQ) (vv (ae QQ ad) vN)) k2) ?_) QQ QQ) QQ)))
 unfold az;rw[zd];exact yT (by rw[yI,yI];exact h)
theorem la_table(B:BL P)(n:Nat){T:Tbs}{nm:Str}{t:Tab}(h:T.lookup nm=ac t):(af P X (n+1)).call "_law_answer" [.tup [sD "table",.str nm],T.d]=ac (az t,yz):=by
 have a:aV T.d (.str nm)=ac (az t):=(yT (uw T nm)).trans (ux h).1;refine au B.answer QQ ?_;show Run _ dA.body (laS (.tup [sD "table",.str nm]) T.d) _ _;exact tM ad QQ (aE (aq (av (vr (ae QQ ad)) (av (x:=.tup [sD "table",.str nm]) (y:=.int 1) (vr ad) vI QQ) a) QQ QQ) QQ)
theorem rZ(B:BL P){W R:Wd}{T:Tbs}(z:rz W R T):∀ (q:Q) (r n:Nat),q.ok W->q.rb R r->r<=60->q.nar W 5000->q.dp<=n->∃ fr,(af P X (n+5)).call "_law_answer" [q.d,T.d]=ac (az (q.ans T),fr):=by
 intro q
 induction q with
 | table M=>
  rintro r n ⟨k,N⟩ _ _ _ _;obtain⟨t,e,_⟩:=z M k N;have:=la_table B (n+4) (P:=P) (X:=X) e;show ∃ fr,_=ac (az ((T.lookup M).getD []),fr);rw[e];exact⟨_,this⟩
 | sieve U q y=>rintro r n h s m f u;obtain⟨n,rfl,o⟩:=dpS u;exact have a:=cw z q r h.1 s;let ⟨_,e⟩:=y r n h.1 s m f o;⟨_,ku B _ (w:="sieve") (by decide) QQ QQ e (ld_sieve B (n+1) a.1 (yD a.2 (yD m (by decide))) (yD h.2.2 (by decide)) h.2.1)⟩
 | pick ps q y=>rintro r n h s m f u;obtain⟨n,rfl,o⟩:=dpS u;exact have a:=cw z q r h.1 s;let ⟨_,e⟩:=y r n h.1 s m f o;⟨_,ku B _ (w:="pick") (by decide) QQ QQ e (ld_pick B (n+4) a.1 (yD a.2 (yD m (by decide))) h.2.1 (yD h.2.2 (by decide)))⟩
 | group ps V q y=>rintro r n h s m f u;obtain⟨n,rfl,o⟩:=dpS u;exact have a:=cw z q r h.1 s;let ⟨_,e⟩:=y r n h.1 s m f.1 o;⟨_,ku B _ (w:="group") (by decide) QQ QQ e (ld_group B (n+4) (lgrouped B (n+1) a.1 (yD a.2 m) h.2.1 h.2.2.2.1 h.2.2.1 h.2.2.2.2 f.2))⟩
 | order ks q y=>rintro r n h s m f u;obtain⟨n,rfl,o⟩:=dpS u;exact have a:=cw z q r h.1 s;let ⟨_,e⟩:=y r n h.1 s m f o;⟨_,ku B _ (w:="order") (by decide) QQ QQ e (ld_order B (n+4) (lordered B (n+1) a.1 (yD a.2 m) h.2.1))⟩
 | once q y=>rintro r n h s m f u;obtain⟨n,rfl,o⟩:=dpS u;exact have a:=cw z q r h s;let ⟨_,e⟩:=y r n h s m f o;⟨_,ku B _ (w:="once") (by decide) QQ QQ e (ld_once B (n+4) a.1 (yO a.2 (yO m (by decide))))⟩
 | first c q y=>rintro r n h ⟨r',s,J,_⟩ m f u;obtain⟨n,rfl,o⟩:=dpS u;exact let ⟨_,e⟩:=y r' n h s J f o;⟨_,ku B _ (w:="first") (by decide) QQ QQ e (ld_first B (n+4))⟩
 | join a b O A C=>rintro r n h ⟨E,r2,h1,G,H,I,_⟩ m f u;obtain⟨n,rfl,o⟩:=dpS u;exact have i:=cw z a E h.1 h1;have j:=cw z b r2 h.2.1 G;let ⟨_,e1⟩:=A E n h.1 h1 H f.1 (yD (zB _ _) o);let ⟨_,L⟩:=C r2 n h.2.1 G I f.2.1 (yD (zz _ _) o);⟨_,la_join B _ e1 L (ljoined B (n+3) i.1 j.1 (yD i.2 H) (yD j.2 I) (yD f.2.2 (by decide)) (yD h.2.2.2 (by decide)) h.2.2.1)⟩
 | both a b A C=>rintro r n h ⟨E,r2,h1,G,H,I,_⟩ m f u;obtain⟨n,rfl,o⟩:=dpS u;exact have i:=cw z a E h.1 h1;have j:=cw z b r2 h.2.1 G;let ⟨_,e1⟩:=A E n h.1 h1 H f.1 (yD (zB _ _) o);let ⟨_,L⟩:=C r2 n h.2.1 G I f.2 (yD (zz _ _) o);⟨_,la_both B _ (yD (ze (yD i.2 H) (yD j.2 I)) (by decide)) e1 L⟩
end
theorem any_no{α:Type}(l:yA α):(l.any λZ=>yz)=yz:=Dq.mpr λZ Z=>yQ
theorem vF(n:Nat):ec .NotEq (.int n) (.int n)=ac (.bool yz):=by
 show ac (D.bool (!((n:Int) == (n:Int))))=_;rw[zg];rfl
section
variable {P:yA (yF×Fn)} {X:CF}
theorem lcell_is(B:BL P)(n:Nat){c:D}(a:c.isCell=yC):(af P X (n+1)).call "_law_cell_is" [c,c]=ac (.bool yC,yz):=by
 refine au B.cellIs QQ ?_;refine aS (C:=λc=>Run (af P X n) gf.body [("_law_found",(yz,c)),("_law_due",(yz,c))] (.bool yC) yz) a (λi=>?_) λx=>?_
 ·have e:ec .Eq (.int i) (.int i)=ac (.bool yC):=by show ac (D.bool (i == i))=_;rw[zg]
  refine bc (k:=yz) (gB (k:=yz) (l:=yz) (jw (vr (ae QQ ad)) QQ) λZ=>bC (jw (vr ad) QQ)) QQ nofun λZ=>?_
  exact aE (aq (dh (k:=yC) (l:=yC) (jw (vr ad) QQ) λZ=>bC (ax (vr ad) (vr (ae QQ ad)) e)) QQ QQ) QQ
 ·have e:ec .Eq (.str x) (.str x)=ac (.bool yC):=by show ac (D.bool (x == x))=_;rw[zg]
  refine bc (k:=yC) (gB (k:=yC) (l:=yC) (jw (vr (ae QQ ad)) QQ) nofun) QQ (λZ=>?_) nofun
  exact aE (aq (dh (k:=yC) (l:=yC&&yC) (jw (vr ad) QQ) λZ=>dh (k:=yC) (l:=yC) (jw (vr (ae QQ ad)) QQ) λZ=>bC (ax (vr ad) (vr (ae QQ ad)) e)) QQ QQ) QQ
theorem xe{cf:CF}{ρ:yA (yF×D)}{m:Nat}{E5 c:ME}(b:evE cf ρ E5=ac (.int m))(a:m<=big)(f:∀ i:Nat,i<m->evE cf (("_law_k",.int i)::ρ) c=ac (.bool yz)):evE cf ρ (.not (.comp (.u "_law_k") "_law_k" (.blt "range" [E5]) [c]))=ac (.bool yC):=by
 have q:=lx (cf:=cf) (z:="_law_k") (g:=λi:Nat=>D.int (i:Int)) (p:=λZ=>yz) (l:=zf m) (bR (aa b vN) (jd a)) (dS m) (by rw[zJ];exact a) λi h=>f i (AK.mp h)
 rw[any_no] at q;exact q
theorem lrow_is(B:BL P)(n:Nat){m:Nat}{r:yA D}(a:bB m r)(f:m<=big):(af P X (n+2)).call "_law_row_is" [.tup r,.tup r]=ac (.bool yC,yz):=by
 refine au B.rowIs QQ ?_;show Run _ gV.body [("_law_found",(yz,.tup r)),("_law_due",(yz,.tup r))] _ _;have b:∀ {x:yF} {ρ:yA (yF×D)},lm ρ x (.tup r)->evE (af P X (n+1)) ρ (.blt "len" [.u x])=ac (.int m):=λi=>bR (aa (aC i) vN) (by show ac (D.int (r.length:Nat))=_;rw[a.1])
 refine bc (k:=yz) (gB (k:=yz) (l:=yz) (fP (k:=yC) (jw (vr ad) QQ) QQ) λZ=>bC (ax (b (aF ad)) (b (aF (ae QQ ad))) (vF m))) QQ nofun λZ=>?_
 exact aE (aq (xe (b (aF (ae QQ ad))) f λi c=>fP (k:=yC) (am (aa (av (aC (bj QQ (aF ad))) (aC bO) (hZ a c)) (aa (av (aC (bj QQ (aF (ae QQ ad)))) (aC bO) (hZ a c)) vN)) (lcell_is B n (dC a c))) QQ) QQ QQ) QQ
theorem lrows_are(B:BL P)(n:Nat){m:Nat}{t:Tab}(h:aP m t)(c:m<=big)(f:t.length<=big):(af P X (n+3)).call "_law_rows_are" [az t,az t]=ac (.bool yC,yz):=by
 refine au B.rowsAre QQ ?_;show Run _ fF.body [("_law_found",(yz,az t)),("_law_due",(yz,az t))] _ _;have a:∀ {x:yF} {ρ:yA (yF×D)},lm ρ x (az t)->evE (af P X (n+2)) ρ (.blt "len" [.u x])=ac (.int t.length):=λi=>bR (aa (aC i) vN) (by show ac (D.int ((t.map D.tup).length:Nat))=_;rw[yI])
 refine bc (k:=yz) (gB (k:=yz) (l:=yz) (fP (k:=yC) (jw (vr ad) QQ) QQ) λZ=>bC (ax (a (aF ad)) (a (aF (ae QQ ad))) (vF t.length))) QQ nofun λZ=>?_
 exact aE (aq (xe (a (aF (ae QQ ad))) f λi b=>fP (k:=yC) (am (aa (av (aC (bj QQ (aF ad))) (aC bO) (lN (g:=D.tup) (z:=([]:yA D)) b)) (aa (av (aC (bj QQ (aF (ae QQ ad)))) (aC bO) (lN (g:=D.tup) (z:=([]:yA D)) b)) vN)) (lrow_is B n (h _ (dN b)) c)) QQ) QQ QQ) QQ
end
set_option maxHeartbeats 800000
noncomputable def nb(W R:Wd)(c dp:Nat)(d:D):Prop:=d=.list []\/∃ q r k,TpA W R c dp q r k/\d=.list [aG W q r k]
section
variable {P:yA (yF×Fn)} {X:CF} {W R:Wd} {c dp:Nat} {q q2:Q} {r k r2 k2:Nat}
theorem ng(B:BN P)(n:Nat)(z:Int)(h:TpA W R c dp q r k)(f:TpA W R c dp q2 r2 k2):∃ d fr,nb W R (c+12) (dp+2) d/\(af P X (n+3)).call "_law_of_two" [sD "join",.int z,aG W q r k,aG W q2 r2 k2]=ac (d,fr):=by
 have E:=h.r;have Y:=f.r;have T:∀ (a b:Q) (i rb:Nat),TpA W R c (dp+1) a i k->TpA W R c (dp+1) b rb k2->a.wd W=q.wd W->b.wd W=q2.wd W->i * rb<=60->k+k2<=24->∀ σ:St,Has σ "_law_cell" (.int z)->Has σ "_law_one" (aG W a i k)->Has σ "_law_two" (aG W b rb k2) ->
   ∀ E2:yA MS,Rex (af P X (n+2)) (.x0 "_law_query" (.tup [.str "join",.sub (.u "_law_one") (.int 0),.sub (.u "_law_two") (.int 0),.call "_law_pairs_by" [.u "_law_cell",.sub (.u "_law_one") (.int 1),.sub (.u "_law_two") (.int 1)]])::.ret (.lst [.tup [.u "_law_query",.bin .Add (.sub (.u "_law_one") (.int 1)) (.sub (.u "_law_two") (.int 1)),.bin .Mult (.sub (.u "_law_one") (.int 2)) (.sub (.u "_law_two") (.int 2)),.bin .Add (.sub (.u "_law_one") (.int 3)) (.sub (.u "_law_two") (.int 3))]])::E2) σ λd EP=>nb W R (c+12) (dp+2) d:=by
  intro a b i rb o s FE FF G t σ Z H I E2;obtain⟨j,g1,U,Fg⟩:=pairs_by (X:=X) B n z (a.wd W) (b.wd W);have A:TpA W R (c+12) (dp+2) (.join a b j) (i * rb) (k+k2):=by
   have h1:=o.wd;have f:=s.wd;have Fh:=o.k1;have Fi:=o.cp;have Fj:=s.cp;have Fk:=o.pr;have Fm:=s.pr;have Fo:=o.dp;have Fp:=s.dp;exact⟨⟨o.ok,s.ok,g1,by exact om158 U⟩,by show a.wd W+b.wd W<=_;exact om159 h1 f,by exact om160 Fh,t,G,by show max _ _<=_;exact om161 Fi Fj,by show max _ (max _ _)<=_;exact om162 U Fk Fm,⟨o.nar,s.nar,by exact om163 t h1 f⟩,by show max _ _+1<=_;exact om164 Fo Fp,i,rb,o.rb,s.rb,o.r,s.r,y0 _⟩
  have Fq:aV (aG W a i k) (.int 0)=ac a.d:=rfl;have s1:aV (aG W a i k) (.int 1)=ac (.int (a.wd W)):=rfl;have Fs:aV (aG W a i k) (.int 2)=ac (.int i):=rfl;have Ft:aV (aG W a i k) (.int 3)=ac (.int k):=rfl;have Fu:aV (aG W b rb k2) (.int 0)=ac b.d:=rfl;have V:aV (aG W b rb k2) (.int 1)=ac (.int (b.wd W)):=rfl;have Fv:aV (aG W b rb k2) (.int 2)=ac (.int rb):=rfl;have Fw:aV (aG W b rb k2) (.int 3)=ac (.int k2):=rfl;have J:=o.r;have m:eF .Mult (.int i) (.int rb)=ac (.int (i * rb:Nat)):=by
   rw[EL];exact p9 (by unfold lim;exact om165 J)
  have w:eF .Add (.int (a.wd W)) (.int (b.wd W))=ac (.int (a.wd W+b.wd W:Nat)):=by rw[Au];rfl
  have u:eF .Add (.int k) (.int k2)=ac (.int (k+k2:Nat)):=by rw[Au];rfl
  refine bg (ai (d:=.tup [sD "join",a.d,b.d,.tup (j.map prT)]) (fr:=yz) (aq (bA (aa vS (aa (vsi H Fq) (aa (vsi I Fu) (aa (am (vv Z (aa (vsi H s1) (aa (vsi I V) vN))) Fg) vN)))) (yM QQ)) QQ QQ)) ?_;have L:∀ v,Has (ay (settle (.tup [sD "join",a.d,b.d,.tup (j.map prT)]) (ME.names (.tup [.str "join",.sub (.u "_law_one") (.int 0),.sub (.u "_law_two") (.int 0),.call "_law_pairs_by" [.u "_law_cell",.sub (.u "_law_one") (.int 1),.sub (.u "_law_two") (.int 1)]])) σ) "_law_query" v) "_law_one" (aG W a i k):=λEP=>ag QQ (ao H)
  have M:∀ v,Has (ay (settle (.tup [sD "join",a.d,b.d,.tup (j.map prT)]) (ME.names (.tup [.str "join",.sub (.u "_law_one") (.int 0),.sub (.u "_law_two") (.int 0),.call "_law_pairs_by" [.u "_law_cell",.sub (.u "_law_one") (.int 1),.sub (.u "_law_two") (.int 1)]])) σ) "_law_query" v) "_law_two" (aG W b rb k2):=λEP=>ag QQ (ao I)
  exact cH (d:=.list [aG W (.join a b j) (i * rb) (k+k2)]) (fr:=yC) (aq (cR (aa (bA (vv aw (aa (ak (vsi (L _) s1) (vsi (M _) V) w) (aa (ak (vsi (L _) Fs) (vsi (M _) Fv) m) (aa (ak (vsi (L _) Ft) (vsi (M _) Fw) u) vN)))) (yM QQ)) vN) (yM QQ)) QQ QQ) QQ (.inr ⟨_,_,_,A,QQ⟩)
 have c1:=qc (X:=X) (W:=W) (q:=q) (r:=r) (k:=k) B (n+1);have c2:=qc (X:=X) (W:=W) (q:=q2) (r:=r2) (k:=k2) B (n+1);have Fz:TpA W R c (dp+1) (.first 6 q) (min 6 r) k:=⟨h.ok,h.wd,h.k1,h.k2,by exact om166,h.cp,h.pr,h.nar,zb h.dp,r,h.rb,h.r,y0 _⟩
 have FA:TpA W R c (dp+1) (.first 6 q2) (min 6 r2) k2:=⟨f.ok,f.wd,f.k1,f.k2,by exact om166,f.cp,f.pr,f.nar,zb f.dp,r2,f.rb,f.r,y0 _⟩
 have N:Rex (af P X (n+2)) fi.body [("_law_word",(yz,sD "join")),("_law_cell",(yz,.int z)),("_law_one",(yz,aG W q r k)),("_law_two",(yz,aG W q2 r2 k2))] λd EP=>nb W R (c+12) (dp+2) d:=by
  refine dQ (k:=decide ((k:Int)+k2 > 24)||(yC&&decide ((q.wd W:Int)+q2.wd W > 14))) (gB (k:=decide ((k:Int)+k2 > 24)) (l:=yC&&decide ((q.wd W:Int)+q2.wd W > 14)) QQ λEP=>bC (dh (k:=yC) (l:=decide ((q.wd W:Int)+q2.wd W > 14)) QQ λEP=>bC QQ)) QQ (λEP=>cH (d:=.list []) (fr:=yC) QQ QQ (.inl QQ)) λt=>?_
  have t:=AS (Bz.mp t).1;refine dQ (k:=yC) (x:=.bool yC) QQ QQ (λEP=>?_) nofun
  have m:eF .Mult (.int r) (.int r2)=ac (.int (r * r2:Nat)):=by
   rw[EL];exact p9 (by unfold lim;exact om165 E)
  refine dQ (k:=decide (((r * r2:Nat):Int) > 36)) (ax (ak (x:=.int r) (y:=.int r2) QQ QQ m) vI QQ) QQ (λEP=>?_) λC=>?_
  ·refine bg (ai (aD (aa (d:=.int 8) QQ (aa (d:=.int 5) QQ (aa (d:=aG W q r k) QQ vN))) c1)) ?_
   refine bg (ai (aD (aa (d:=.int 8) QQ (aa (d:=.int 5) QQ (aa (d:=aG W q2 r2 k2) QQ vN))) c2)) ?_;have O:min 6 r * min 6 r2<=60:=yD (Dh (DQ 6 r) (DQ 6 r2)) (by decide)
   refine T (.first 6 q) (.first 6 q2) (min 6 r) (min 6 r2) Fz FA QQ QQ O (xz t) _ ?_ ?_ ?_ _
   ·exact ag QQ (ao (ag QQ (ao ⟨_,QQ⟩)))
   ·exact ag QQ (ao aw)
   ·exact aw
  ·have C:=AS C
   refine T q q2 r r2 (h.up (y0 _) (AB _)) (f.up (y0 _) (AB _)) QQ QQ (om168 C) (xz t) _ ?_ ?_ ?_ _
   all_goals exact⟨_,QQ⟩
 obtain⟨d,fr,C,E⟩:=dJ (X:=X) (args:=[sD "join",.int z,aG W q r k,aG W q2 r2 k2]) B.o2 QQ N;exact⟨d,fr,C,E⟩
theorem nh(B:BN P)(n:Nat)(z:Int)(h:TpA W R c dp q r k)(a:TpA W R c dp q2 r2 k2):∃ d fr,nb W R (c+12) (dp+2) d/\(af P X (n+3)).call "_law_of_two" [sD "both",.int z,aG W q r k,aG W q2 r2 k2]=ac (d,fr):=by
 have m:=h.r;have s:=a.r;have b:Rex (af P X (n+2)) fi.body [("_law_word",(yz,sD "both")),("_law_cell",(yz,.int z)),("_law_one",(yz,aG W q r k)),("_law_two",(yz,aG W q2 r2 k2))] λd Z=>nb W R (c+12) (dp+2) d:=by
  refine dQ (k:=decide ((k:Int)+k2 > 24)||(yz&&yC)) (gB (k:=decide ((k:Int)+k2 > 24)) (l:=yz&&yC) QQ λZ=>bC (dh (k:=yz) (l:=yC) QQ nofun)) QQ (λZ=>cH (d:=.list []) (fr:=yC) QQ QQ (.inl QQ)) λf=>?_
  have f:=AS (Bz.mp f).1;refine dQ (k:=yz) (x:=.bool yz) QQ QQ nofun λZ=>?_
  refine dQ (k:=yC&&((q.wd W:Int) == (q2.wd W:Int)&&decide ((r:Int)+r2<=36))) (dh (k:=yC) QQ λZ=>dh (k:=(q.wd W:Int) == (q2.wd W:Int)) (l:=decide ((r:Int)+r2<=36)) (ax (x:=.int (q.wd W)) (y:=.int (q2.wd W)) QQ QQ QQ) λZ=>bC (ax (x:=.int ((r:Int)+r2)) (y:=.int 36) QQ QQ QQ)) QQ (λo=>?_) λZ=>cH (d:=.list []) (fr:=yC) QQ QQ (.inl QQ)
  rw[Bool.true_and,Bb,AZ,BH] at o;obtain⟨i,j⟩:=o;have i:q.wd W=q2.wd W:=by exact om97 i
  have A:TpA W R (c+12) (dp+2) (.both q q2) (r+r2) (k+k2):=by
   have h1:=h.wd;have t:=h.k1;have u:=h.cp;have w:=a.cp;have C:=h.pr;have E:=a.pr;have G:=h.dp;have H:=a.dp;exact⟨⟨h.ok,a.ok,i⟩,by show q.wd W<=_;exact om169 h1,by exact om160 t,by exact xz f,by exact om170 j,by show max _ _<=_;exact om161 u w,by show max _ _<=_;exact om171 C E,⟨h.nar,a.nar⟩,by show max _ _+1<=_;exact om172 G H,r,r2,h.rb,a.rb,h.r,a.r,y0 _⟩
  refine cH (d:=.list [aG W (.both q q2) (r+r2) (k+k2)]) (fr:=yC) ?_ QQ (.inr ⟨_,_,_,A,QQ⟩);unfold aG;rw[Au,Au]
  rfl
 obtain⟨d,fr,I,m⟩:=dJ (X:=X) (args:=[sD "both",.int z,aG W q r k,aG W q2 r2 k2]) B.o2 QQ b;exact⟨d,fr,I,m⟩
end
set_option maxHeartbeats 800000
noncomputable def jG:Fn:=⟨["_law_cell"],[
  .ite (.cmp .Eq (.bin .Mod (.bin .FloorDiv (.u "_law_cell") (.int 35)) (.int 6)) (.int 2)) [.ret (.bin .Mod (.bin .FloorDiv (.u "_law_cell") (.int 210)) (.int 13))] [],
  .ret (.sub (.lst [.int 2,.int 1,.int 3,.int 2,.int 0]) (.bin .Mod (.u "_law_cell") (.int 5)))]⟩
noncomputable def jL:Fn:=⟨["_law_cell"],[
  .ret (.sub (.lst [.int 5,.int 7,.int 4,.int 8,.int 6,.int 2,.int 0]) (.bin .Mod (.bin .FloorDiv (.u "_law_cell") (.int 5)) (.int 7)))]⟩
noncomputable def lT:Fn:=⟨["_law_script"],[
  .x0 "_law_cell" (.call "_law_cell_at" [.u "_law_script",.int 0]),
  .x0 "_law_words" (.lst [.str "one",.str "join",.str "table",.str "first",.str "sieve",.str "pick",.str "group",.str "order",.str "both",.str "once"]),
  .x0 "_law_word" (.sub (.u "_law_words") (.bin .Mod (.bin .FloorDiv (.u "_law_cell") (.int 35)) (.int 10))),
  .x0 "_law_rest" (.bin .FloorDiv (.u "_law_cell") (.int 350)),
  .ite (.cmp .Eq (.bin .Mod (.u "_law_rest") (.int 2)) (.int 0)) [.ret (.lst [.u "_law_word",.bin .Add (.str "Two ") (.call "_law_sign_by" [.bin .FloorDiv (.u "_law_rest") (.int 2)]),.str ""])] [],
  .x0 "_law_at" (.bin .Mod (.bin .FloorDiv (.u "_law_rest") (.int 2)) (.bin .Add (.blt "len" [.u "_law_word"]) (.int 1))),
  .ret (.comp (.bin .Add (.bin .Add (.sl (.u "_law_word") .none (.u "_law_at")) (.call "_law_sign_by" [.bin .Add (.bin .FloorDiv (.u "_law_rest") (.int 18)) (.u "_law_k")])) (.sl (.u "_law_word") (.u "_law_at") .none)) "_law_k" (.blt "range" [.int 3]) [])]⟩
noncomputable def jO:Fn:=⟨["_law_script","_law_k"],[
  .x0 "_law_shape" (.call "_law_cell_at" [.u "_law_script",.u "_law_k"]),
  .ret (.tup [.tup [.str "table",.sub (.call "_law_names" [.u "_law_script"]) (.u "_law_k")],.call "_law_wide_by" [.u "_law_shape"],.call "_law_rows_of" [.u "_law_shape"],.int 1])]⟩
noncomputable def kM:Fn:=⟨["_law_script"],[
  .x0 "_law_names_here" (.call "_law_names" [.u "_law_script"]),
  .x0 "_law_widths_here" (.dct [] []),
  .for_ "_law_k" (.blt "range" [.int 3]) [.setk "_law_widths_here" (.sub (.u "_law_names_here") (.u "_law_k")) (.call "_law_wide_by" [.call "_law_cell_at" [.u "_law_script",.u "_law_k"]])],
  .ret (.u "_law_widths_here")]⟩
noncomputable def jJ:Fn:=⟨["_law_script"],[
  .x0 "_law_top" (.call "_law_leaf" [.u "_law_script",.int 0]),
  .x0 "_law_spare" (.call "_law_leaf" [.u "_law_script",.int 1]),
  .x0 "_law_tables_here" (.call "_law_tables" [.u "_law_script",.int 0]),
  .for_ "_law_k" (.blt "range" [.sub (.lst [.int 3,.int 5,.int 2,.int 8]) (.bin .Mod (.call "_law_cell_at" [.u "_law_script",.int 2]) (.int 4))]) [.ite (.cmp .GtE (.bin .Add (.int 6) (.bin .Mult (.int 2) (.u "_law_k"))) (.blt "len" [.u "_law_script"])) [.ret (.u "_law_top")] [],.x0 "_law_word" (.sub (.lst [.int 0,.int 5,.int 8,.int 5,.int 4,.int 5,.int 6,.int 7,.int 12,.int 9,.int 9,.int 9,.int 12]) (.bin .Mod (.sub (.u "_law_script") (.bin .Add (.int 6) (.bin .Mult (.int 2) (.u "_law_k")))) (.int 13))),.x0 "_law_cell" (.call "_law_cell_at" [.u "_law_script",.bin .Add (.int 7) (.bin .Mult (.int 2) (.u "_law_k"))]),.x0 "_law_made" (.lst []),.ite (.cmp .Lt (.u "_law_word") (.int 9)) [.x0 "_law_made" (.lst [.call "_law_around" [.u "_law_word",.u "_law_cell",.u "_law_top"]]),.ite (.bop .And [.bop .Or [.cmp .Eq (.u "_law_word") (.int 8),.cmp .Eq (.u "_law_word") (.int 5)],.cmp .Gt (.bin .Mod (.u "_law_cell") (.int 4)) (.int 0)]) [.x0 "_law_made" (.lst [.call "_law_sieve_on" [.sub (.u "_law_made") (.int 0),.u "_law_cell"]])] []] [.ite (.cmp .Lt (.u "_law_word") (.int 12)) [.x0 "_law_made" (.call "_law_of_two" [.str "join",.u "_law_cell",.sub (.lst [.u "_law_top",.u "_law_spare"]) (.bin .Mod (.bin .FloorDiv (.u "_law_cell") (.int 2)) (.int 2)),.sub (.lst [.u "_law_spare",.u "_law_top"]) (.bin .Mod (.bin .FloorDiv (.u "_law_cell") (.int 2)) (.int 2))]),.ite (.bop .And [.cmp .NotEq (.u "_law_made") (.lst []),.cmp .Gt (.bin .Mod (.u "_law_cell") (.int 4)) (.int 0)]) [.x0 "_law_made" (.lst [.call "_law_sieve_on" [.sub (.u "_law_made") (.int 0),.u "_law_cell"]])] []] [.ite (.cmp .Eq (.bin .Mod (.u "_law_cell") (.int 3)) (.int 1)) [.x0 "_law_made" (.call "_law_of_two" [.str "both",.u "_law_cell",.u "_law_top",.call "_law_around" [.sub (.lst [.int 0,.int 6,.int 7]) (.bin .Mod (.bin .FloorDiv (.u "_law_cell") (.int 3)) (.int 3)),.call "_law_mixed" [.u "_law_cell",.int 5],.u "_law_top"]])] []]],.ite (.bop .And [.cmp .NotEq (.u "_law_made") (.lst []),.cmp .Gt (.bin .Mod (.u "_law_cell") (.int 8)) (.int 0),.cmp .Eq (.call "_law_answer" [.sub (.sub (.u "_law_made") (.int 0)) (.int 0),.u "_law_tables_here"]) (.lst [])]) [] [.ite (.cmp .Eq (.u "_law_made") (.lst [])) [.x0 "_law_made" (.call "_law_of_two" [.str "both",.u "_law_cell",.u "_law_top",.u "_law_spare"])] [],.ite (.cmp .Eq (.u "_law_made") (.lst [])) [.x0 "_law_made" (.lst [.u "_law_spare"]),.x0 "_law_spare" (.u "_law_top")] [.ite (.cmp .GtE (.u "_law_word") (.int 9)) [.x0 "_law_spare" (.call "_law_leaf" [.u "_law_script",.bin .Mod (.bin .FloorDiv (.u "_law_cell") (.int 36)) (.int 3)])] []],.x0 "_law_top" (.sub (.u "_law_made") (.int 0))]],
  .ret (.u "_law_top")]⟩
noncomputable def lW:Fn:=⟨["_law_script"],[
  .x0 "_law_top" (.call "_law_stepped" [.u "_law_script"]),
  .x0 "_law_last" (.call "_law_cell_at" [.u "_law_script",.int 5]),
  .ite (.cmp .Eq (.bin .Mod (.bin .FloorDiv (.u "_law_last") (.int 3)) (.int 3)) (.int 1)) [.x0 "_law_top" (.call "_law_around" [.int 8,.bin .Mod (.bin .FloorDiv (.u "_law_last") (.int 9)) (.int 3),.u "_law_top"])] [],
  .ite (.cmp .Eq (.bin .Mod (.bin .FloorDiv (.u "_law_last") (.int 3)) (.int 3)) (.int 2)) [.x0 "_law_top" (.call "_law_around" [.int 5,.bin .Add (.bin .Mult (.bin .FloorDiv (.call "_law_mixed" [.u "_law_last",.int 4]) (.int 4)) (.int 4)) (.int 1),.u "_law_top"])] [],
  .x0 "_law_more" (.call "_law_around" [.int 0,.bin .Add (.bin .Mult (.bin .FloorDiv (.call "_law_mixed" [.u "_law_last",.int 9]) (.int 4)) (.int 4)) (.int 2),.u "_law_top"]),
  .ite (.bop .And [.cmp .Gt (.bin .Mod (.u "_law_last") (.int 3)) (.int 0),.bop .Or [.cmp .Eq (.bin .Mod (.u "_law_last") (.int 5)) (.int 0),.cmp .NotEq (.call "_law_answer" [.sub (.u "_law_more") (.int 0),.call "_law_tables" [.u "_law_script",.int 0]]) (.lst [])]]) [.x0 "_law_top" (.u "_law_more")] [],
  .x0 "_law_cell" (.bin .FloorDiv (.call "_law_cell_at" [.u "_law_script",.int 1]) (.int 35)),
  .x0 "_law_many_here" (.int 0),
  .ite (.cmp .Eq (.bin .Mod (.u "_law_cell") (.int 8)) (.int 1)) [.x0 "_law_many_here" (.bin .Mod (.bin .FloorDiv (.u "_law_cell") (.int 8)) (.int 6))] [],
  .ite (.cmp .Eq (.bin .Mod (.u "_law_cell") (.int 32)) (.int 5)) [.x0 "_law_top" (.call "_law_leaf" [.u "_law_script",.int 0]),.x0 "_law_many_here" (.int 38)] [],
  .for_ "_law_k" (.blt "range" [.u "_law_many_here"]) [.x0 "_law_top" (.call "_law_around" [.bin .Mod (.call "_law_mixed" [.u "_law_cell",.u "_law_k"]) (.int 9),.call "_law_mixed" [.u "_law_cell",.bin .Add (.int 50) (.u "_law_k")],.u "_law_top"])],
  .ret (.u "_law_top")]⟩
structure BE(P:yA (yF×Fn)):Prop extends BN P where
 wb:P.lookup "_law_wide_by"=ac jG
 ro:P.lookup "_law_rows_of"=ac jL
 nm:P.lookup "_law_names"=ac lT
 lf:P.lookup "_law_leaf"=ac jO
 ws:P.lookup "_law_widths"=ac kM
 st:P.lookup "_law_stepped"=ac jJ
 bu:P.lookup "_law_built"=ac lW
noncomputable def nY:yA yF:=["one","join","table","first","sieve","pick","group","order","both","once"]
theorem uA:∀ m<94,cu cS m≠cu cS ((m+1) % 94)/\cu cS m≠cu cS ((m+2) % 94):=by decide +kernel
theorem uh(x y:Str):(x++y).cps.toList=x.cps.toList++y.cps.toList:=D0
theorem str_ext{x y:Str}(h:x.cps.toList=y.cps.toList):x=y:=by
 obtain⟨⟨x⟩⟩:=x;obtain⟨⟨y⟩⟩:=y;have h:x=y:=h;rw[h]
theorem app_mid{U V x y:Str}(h:U++x++V=U++y++V):x=y:=by
 have h:=y6 (λs:Str=>s.cps.toList) h
 simp only[uh] at h;exact str_ext (List.append_cancel_left (List.append_cancel_right h))
theorem two_head:∀ s∈nY,(yB s).cps.toList.head?≠ac 84:=by decide +kernel
theorem two_list:(yB "Two ").cps.toList=[84,119,111,32]:=by decide +kernel
theorem empty_len:(yB "").length=0:=by decide +kernel
theorem w10_ne:∀ s∈nY,s≠"":=by decide
theorem w10_len:∀ s∈nY,(yB s).length<=8:=by decide +kernel
theorem md94{y:Int}{m:Nat}(k:Nat)(h:y % 94=m):((y+(k:Int)) % 94).toNat=(m+k) % 94:=by
 rw[<- Int.emod_add_emod,h,<- Au];rfl
section
variable {P:yA (yF×Fn)} {X:CF}
theorem names_eq(B:BE P)(ns:yA Int):∃ a b c:Str,(a≠b/\a≠c/\b≠c)/\∀ n,(af P X (n+2)).call "_law_names" [.list (ns.map .int)]=ac (.list [.str a,.str b,.str c],yC):=by
 have G:∀ n,(af P X (n+1)).call "_law_cell_at" [.list (ns.map .int),.int 0]=ac (.int (ns.getD 0 0),yz):=λn=>eO (X:=X) B.toBG n ns 0
 generalize ns.getD 0 0=z at *;generalize D.list (ns.map .int)=S at *;obtain⟨d,⟨s,A,rfl⟩,q⟩:=dy (l:=[.str (yB "one"),.str (yB "join"),.str (yB "table"),.str (yB "first"),.str (yB "sieve"),.str (yB "pick"),.str (yB "group"),.str (yB "order"),.str (yB "both"),.str (yB "once")]) (by decide) (z / 35) (R:=λd=>∃ s,s∈nY/\d=.str (yB s)) (by
  intro d q;simp only[yX,zK,Bf] at q
  rcases q with rfl | rfl | rfl | rfl | rfl | rfl | rfl | rfl | rfl | rfl <;> exact⟨_,by decide,QQ⟩)
 have q:aV (.list [.str (yB "one"),.str (yB "join"),.str (yB "table"),.str (yB "first"),.str (yB "sieve"),.str (yB "pick"),.str (yB "group"),.str (yB "order"),.str (yB "both"),.str (yB "once")]) (.int (z / 35 % 10))=ac (.str (yB s)):=q;have f:100<=big:=by decide
 have C:=w10_len s A;cases H:(z / 350 % 2 == 0) with
 | true=>
  have g:=λn=>rK (X:=X) B.toBG n (z / 350 / 2)
  have Y:=m7 (u:=yB "Two ") (v:=cu cS (z / 350 / 2 % 94).toNat) (by have h1:(cu cS (z / 350 / 2 % 94).toNat).length=1:=rfl;have Z:(yB "Two ").length=4:=(by decide +kernel);exact om173 f h1 Z)
  refine⟨yB s,yB "Two "++cu cS (z / 350 / 2 % 94).toNat,yB "",⟨λe=>?_,λe=>w10_ne s A (dR e),λe=>?_⟩,λn=>au B.nm QQ ?_⟩
  ·refine two_head s A ?_
   rw[e,uh,two_list];rfl
  ·have:=y6 Str.length e
   rw[fX,empty_len] at this;have h1:(cu cS (z / 350 / 2 % 94).toNat).length=1:=rfl;exact om174 this h1
  ·have c1:=G n;have g1:=g n
   exact aB (ai (aD (aa (aC QQ) (aa vI vN)) c1)) (aB (ai (aq (cR (aa vS (aa vS (aa vS (aa vS (aa vS (aa vS (aa vS (aa vS (aa vS (aa vS vN)))))))))) (dtt QQ)) QQ QQ)) (aB (ai (aq (av (vr aw) (ak (ak (vr (ag QQ (ao aw))) vI (bo (dtt QQ))) vI (aO (dtt QQ))) q) QQ QQ)) (aB (ai (aq (ak (vr (ag QQ (ao (ag QQ (ao aw))))) vI (bo (dtt QQ))) QQ QQ)) (bc (ax (ak (vr aw) vI (aO (dtt QQ))) vI QQ) QQ (λI=>aE (aq (cR (vv (ag QQ (ao aw)) (aa (ak vS (am (aa (ak (vr aw) vI (bo (dtt QQ))) vN) g1) Y) (aa vS vN))) (yM QQ)) QQ QQ) QQ) λI=>oV H I))))
 | false=>
  have E:(yB s).length<=big:=by exact om175 f C
  have Fg:=len_s E;have Fh:(0:Int)<((yB s).length:Int)+1:=by exact om27
  obtain⟨U,J,Fi⟩:=uz (yB s) (z / 350 / 2 % (((yB s).length:Int)+1)) E;obtain⟨V,Fj,Fk⟩:=xh (yB s) (z / 350 / 2 % (((yB s).length:Int)+1)) E;have t:∀ i j:Nat,cu cS i≠cu cS j->U++cu cS i++V≠U++cu cS j++V:=λi j h e=>h (app_mid e)
  obtain⟨m,y,o⟩:=cm (z / 350 / 18) (k:=94) (by decide)
  have y:z / 350 / 18 % 94=(m:Int):=y;have L:((z / 350 / 18+(0:Nat)) % 94).toNat=m:=(md94 0 y).trans (Nat.mod_eq_of_lt o);have e1:((z / 350 / 18+(1:Nat)) % 94).toNat=(m+1) % 94:=md94 1 y;have M:((z / 350 / 18+(2:Nat)) % 94).toNat=(m+2) % 94:=md94 2 y;have Fm:(m+2) % 94=((m+1) % 94+1) % 94:=(Nat.mod_add_mod (m+1) 94 1).symm;refine⟨U++cu cS ((z / 350 / 18+(0:Nat)) % 94).toNat++V,U++cu cS ((z / 350 / 18+(1:Nat)) % 94).toNat++V,U++cu cS ((z / 350 / 18+(2:Nat)) % 94).toNat++V,⟨t _ _ ?_,t _ _ ?_,t _ _ ?_⟩,λn=>au B.nm QQ ?_⟩
  ·rw[L,e1];exact (uA m o).1
  ·rw[L,M];exact (uA m o).2
  ·rw[e1,M,Fm];exact (uA _ (Nat.mod_lt _ (by decide))).1
  ·have c1:=G n
   have w:∀ σ:St,Has σ "_law_word" (.str (yB s))->Has σ "_law_at" (.int (z / 350 / 2 % (((yB s).length:Int)+1)))->Has σ "_law_rest" (.int (z / 350))->evE (af P X (n+1)) (vis σ) (.comp (.bin .Add (.bin .Add (.sl (.u "_law_word") .none (.u "_law_at")) (.call "_law_sign_by" [.bin .Add (.bin .FloorDiv (.u "_law_rest") (.int 18)) (.u "_law_k")])) (.sl (.u "_law_word") (.u "_law_at") .none)) "_law_k" (.blt "range" [.int 3]) [])=ac (.list ((zf 3).map λ(i:Nat)=>D.str (U++cu cS ((z / 350 / 18+(i:Int)) % 94).toNat++V))):=by
    intro σ N O Fo;refine gQ (x:=.rng 0 3) QQ (dS 3) (by decide) (pR _ _ _ _ λi EP=>fN ?_)
    have g1:=rK (X:=X) B.toBG n (z / 350 / 18+(i:Int));have T:(cu cS ((z / 350 / 18+(i:Int)) % 94).toNat).length=1:=rfl;have Fp:=m7 (u:=U) (v:=cu cS ((z / 350 / 18+(i:Int)) % 94).toNat) (om176 f C J T);have Fq:=m7 (u:=U++cu cS ((z / 350 / 18+(i:Int)) % 94).toNat) (v:=V) (by rw[fX];exact om177 f C J Fj T)
    exact ak (ak (qp (aC (bj QQ (aF N))) (gg _ _) (aC (bj QQ (aF O))) Fi) (am (aa (ak (ak (aC (bj QQ (aF Fo))) vI (bo (dtt QQ))) (aC bO) cU) vN) g1) Fp) (qp (aC (bj QQ (aF N))) (aC (bj QQ (aF O))) (gg _ _) Fk) Fq
   refine aB (ai (aD (aa (d:=S) QQ (aa (d:=.int 0) QQ vN)) c1)) ?_;refine aB (ai (d:=.list [.str (yB "one"),.str (yB "join"),.str (yB "table"),.str (yB "first"),.str (yB "sieve"),.str (yB "pick"),.str (yB "group"),.str (yB "order"),.str (yB "both"),.str (yB "once")]) (fr:=yC) QQ) ?_;refine aB (ai (d:=.str (yB s)) (fr:=yz) (aq (av (vr aw) (ak (ak (vr (ag QQ (ao aw))) vI (bo (dtt QQ))) vI (aO (dtt QQ))) q) QQ QQ)) ?_;refine aB (ai (d:=.int (z / 350)) (fr:=yz) (aq (ak (vr (ag QQ (ao (ag QQ (ao aw))))) vI (bo (dtt QQ))) QQ QQ)) ?_;refine bc (k:=yz) (x:=.bool yz) (by rw[<- H];exact ax (ak (vr aw) vI (aO (dtt QQ))) vI QQ) QQ nofun λEP=>?_
   refine aB (ai (d:=.int (z / 350 / 2 % (((yB s).length:Int)+1))) (fr:=yz) (aq (ak (ak (vr aw) vI (bo (dtt QQ))) (ak (bR (vv (ag QQ (ao aw)) vN) Fg) vI cU) (aO Fh)) QQ QQ)) ?_;exact aE (aq (w _ (ag QQ (ao (ag QQ (ao aw)))) (aw) (ag QQ (ao aw))) QQ QQ) QQ
end
set_option maxHeartbeats 800000
noncomputable def aR(c:Int):Nat:=if (c / 35 % 6 == 2)=yC then (c / 210 % 13).toNat else [2,1,3,2,0].getD (c % 5).toNat 0
theorem uY(c:Int):aR c<=12:=by
 unfold aR
 split
 ·exact om178
 ·obtain⟨m,e,a⟩:=cm c (k:=5) (by decide)
  have e:c % 5=m:=e;rw[e,Be];exact (by decide:∀ m<5,[2,1,3,2,0].getD m 0<=12) m a
section
variable {P:yA (yF×Fn)} {X:CF}
theorem ltS{P:Nat->Prop}{k:Nat}(h:P k)(r:∀ m,m<k->P m):∀ m,m<k+1->P m:=λm a=>(zI (zx a)).elim (r m) λe=>e▸h
theorem lv(B:BE P)(n:Nat)(c:Int):(af P X (n+1)).call "_law_wide_by" [.int c]=ac (.int (aR c),yz):=by
 refine au B.wb QQ ?_;unfold aR;cases h:(c / 35 % 6 == 2) with
 | true=>
  rw[yT rfl];have e:((c / 210 % 13).toNat:Int)=c / 210 % 13:=by exact om179
  rw[e];exact bc (ax (ak (ak (aC QQ) vI (bo (dtt QQ))) vI (aO (dtt QQ))) vI QQ) QQ (λa=>aE (aq (ak (ak (aC QQ) vI (bo (dtt QQ))) vI (aO (dtt QQ))) QQ QQ) QQ) λa=>oV h a
 | false=>
  rw[yV yQ];obtain⟨m,e,b⟩:=cm c (k:=5) (by decide)
  have e:c % 5=m:=e;have q:aV (.list [.int 2,.int 1,.int 3,.int 2,.int 0]) (.int (c % 5))=ac (.int ([2,1,3,2,0].getD (c % 5).toNat 0:Nat)):=by
   rw[e,Be];refine lz (by simpa using b) ?_
   have g:∀ m,m<5->[D.int 2,D.int 1,D.int 3,D.int 2,D.int 0][m]?=ac (D.int ([2,1,3,2,0].getD m 0:Nat)):=ltS QQ (ltS QQ (ltS QQ (ltS QQ (ltS QQ λZ h=>zl h (AF _)))))
   exact g m b
  exact bc (ax (ak (ak (aC QQ) vI (bo (dtt QQ))) vI (aO (dtt QQ))) vI QQ) QQ (λa=>oV a h) λa=>aE (aq (av (cR (aa vI (aa vI (aa vI (aa vI (aa vI vN))))) (dtt QQ)) (ak (aC QQ) vI (aO (dtt QQ))) q) QQ QQ) QQ
noncomputable def cT(c:Int):Nat:=match aV (.list [.int 5,.int 7,.int 4,.int 8,.int 6,.int 2,.int 0]) (.int (c / 5 % 7)) with
 | some (.int m)=>m.toNat
 | _=>0
theorem n6(B:BE P)(n:Nat)(c:Int):cT c<=8/\(af P X (n+1)).call "_law_rows_of" [.int c]=ac (.int (cT c),yz):=by
 obtain⟨d,⟨m,rfl,b⟩,q⟩:=dy (l:=[.int 5,.int 7,.int 4,.int 8,.int 6,.int 2,.int 0]) (by decide) (c / 5) (R:=λd=>∃ m:Nat,d=.int m/\m<=8) (by
  intro d a;simp only[yX,zK,Bf] at a
  rcases a with rfl | rfl | rfl | rfl | rfl | rfl | rfl <;> first | exact⟨5,QQ,by decide⟩ | exact⟨7,QQ,by decide⟩ | exact⟨4,QQ,by decide⟩ | exact⟨8,QQ,by decide⟩ | exact⟨6,QQ,by decide⟩ | exact⟨2,QQ,by decide⟩ | exact⟨0,QQ,by decide⟩)
 have q:aV (.list [.int 5,.int 7,.int 4,.int 8,.int 6,.int 2,.int 0]) (.int (c / 5 % 7))=ac (.int m):=q;have e:cT c=m:=by unfold cT;rw[q];exact Be m
 rw[e];refine⟨b,au B.ro QQ ?_⟩;exact aE (aq (av (cR (aa vI (aa vI (aa vI (aa vI (aa vI (aa vI (aa vI vN))))))) (dtt QQ)) (ak (ak (aC QQ) vI (bo (dtt QQ))) vI (aO (dtt QQ))) q) QQ QQ) QQ
noncomputable def W3(a b c:Str)(x y z:Nat):Wd:=[(a,x),(b,y),(c,z)]
theorem oG{a b:Str}(h:a≠b):aN (.str a) (.str b)=yz:=by
 show (a == b)=yz;rw[An];exact h
theorem widths_eq(B:BE P)(n:Nat)(ns:yA Int){a b c:Str}(y:a≠b)(A:a≠c)(C:b≠c)(L:(af P X (n+2)).call "_law_names" [.list (ns.map .int)]=ac (.list [.str a,.str b,.str c],yC)) :
  (af P X (n+3)).call "_law_widths" [.list (ns.map .int)]=ac ((W3 a b c (aR (ns.getD 0 0)) (aR (ns.getD 1 0)) (aR (ns.getD 2 0))).d,yC):=by
 have M:(af P X (n+2)).call "_law_cell_at" [.list (ns.map .int),.int 0]=ac (.int (ns.getD 0 0),yz):=eO (X:=X) B.toBG (n+1) ns 0;have c1:(af P X (n+2)).call "_law_cell_at" [.list (ns.map .int),.int 1]=ac (.int (ns.getD 1 0),yz):=eO (X:=X) B.toBG (n+1) ns 1;have c2:(af P X (n+2)).call "_law_cell_at" [.list (ns.map .int),.int 2]=ac (.int (ns.getD 2 0),yz):=eO (X:=X) B.toBG (n+1) ns 2;have N:=lv (X:=X) B (n+1) (ns.getD 0 0);have O:=lv (X:=X) B (n+1) (ns.getD 1 0);have w2:=lv (X:=X) B (n+1) (ns.getD 2 0);generalize ns.getD 0 0=f at *;generalize ns.getD 1 0=j at *;generalize ns.getD 2 0=E at *;generalize D.list (ns.map .int)=S at *;have nx:∀ (σ:St) (i:Int) (w z:Int) (nm:Str) (ks vs:yA D),Has σ "_law_script" S->Has σ "_law_names_here" (.list [.str a,.str b,.str c])->bF σ "_law_widths_here" (.dict ks vs)->dL (.str nm) ks=yC->ks.length<4 ->
   aV (.list [.str a,.str b,.str c]) (.int i)=ac (.str nm)->(af P X (n+2)).call "_law_cell_at" [S,.int i]=ac (.int z,yz)->(af P X (n+2)).call "_law_wide_by" [.int z]=ac (.int w,yz) ->
   ∃ Fd,(Has Fd "_law_script" S/\Has Fd "_law_names_here" (.list [.str a,.str b,.str c])/\bF Fd "_law_widths_here" (.dict (dG ks vs (.str nm) (.int w)).1 (dG ks vs (.str nm) (.int w)).2))/\bk (af P X (n+2)) [.setk "_law_widths_here" (.sub (.u "_law_names_here") (.u "_law_k")) (.call "_law_wide_by" [.call "_law_cell_at" [.u "_law_script",.u "_law_k"]])] (ay σ "_law_k" (yz,.int i))=ac (.next,Fd):=by
  intro σ i w z nm ks vs t u G T U V Y Z;have Fg:4<=big:=by decide
  obtain⟨H,Fd,⟨rfl,q⟩,e⟩:Out (af P X (n+2)) [.setk "_law_widths_here" (.sub (.u "_law_names_here") (.u "_law_k")) (.call "_law_wide_by" [.call "_law_cell_at" [.u "_law_script",.u "_law_k"]])] (ay σ "_law_k" (yz,.int i)) λH Fd=>H=.next/\(Has Fd "_law_script" S/\Has Fd "_law_names_here" (.list [.str a,.str b,.str c])/\bF Fd "_law_widths_here" (.dict (dG ks vs (.str nm) (.int w)).1 (dG ks vs (.str nm) (.int w)).2)):=by
   refine aH (uE (d:=.int w) (dk:=.str nm) (ks:=ks) (vs:=vs) (am (aa (am (vv (ag QQ t) (vv aw vN)) Y) vN) Z) (av (vr (ag QQ u)) (vr aw) V) (?_:bF _ _ _) (by rw[T,Af (om180 U Fg)];rfl)) (bq ⟨QQ,?_,?_,?_⟩)
   ·exact bW QQ (bW QQ (bD QQ G))
   ·exact ag QQ (ao (ao (ag QQ t)))
   ·exact ag QQ (ao (ao (ag QQ u)))
   ·exact dg
  exact⟨Fd,q,e⟩
 refine au B.ws QQ ?_;refine aB (ai (aD (aa (d:=S) QQ vN) L)) ?_;refine aB (ai (d:=.dict [] []) (fr:=yC) QQ) ?_;generalize h:ay (settle (.dict [] []) (ME.names (.dct [] [])) (ay (settle (.list [.str a,.str b,.str c]) (ME.names (.call "_law_names" [.u "_law_script"])) _) "_law_names_here" (yC,.list [.str a,.str b,.str c]))) "_law_widths_here" (yC,D.dict [] [])=σ;have t:Has σ "_law_script" S:=by rw[<- h];exact⟨_,QQ⟩
 have u:Has σ "_law_names_here" (.list [.str a,.str b,.str c]):=by rw[<- h];exact⟨_,QQ⟩
 have G:bF σ "_law_widths_here" (.dict [] []):=by rw[<- h];exact dg
 obtain⟨m,⟨Fh,Fi,Fj⟩,e1⟩:=nx (freeze (ME.names (.blt "range" [.int 3])) σ) 0 (aR f) f a [] [] (bT t) (bT u) (gz QQ G) QQ (yM QQ) QQ M N;have Fk:bF m "_law_widths_here" (.dict [.str a] [.int (aR f)]):=Fj;obtain⟨o,⟨Fm,Fo,I⟩,Fp⟩:=nx m 1 (aR j) j b [.str a] [.int (aR f)] Fh Fi Fk QQ (yM QQ) QQ c1 O;have k2:bF o "_law_widths_here" (.dict [.str a,.str b] [.int (aR f),.int (aR j)]):=by
  simp only[dG,oG y,BS,Co] at I;exact I
 obtain⟨s,⟨Ft,Fu,J⟩,Fq⟩:=nx o 2 (aR E) E c [.str a,.str b] [.int (aR f),.int (aR j)] Fm Fo k2 QQ (yM QQ) QQ c2 w2;have Fs:bF s "_law_widths_here" (.dict [.str a,.str b,.str c] [.int (aR f),.int (aR j),.int (aR E)]):=by
  simp only[dG,oG A,oG C,BS,Co] at J;exact J
 refine dW (x:=.rng 0 3) (EX:=[.int 0,.int 1,.int 2]) (Fd:=s) QQ QQ ?_ (dK Fs);rw[cy,e1];show cF _ _ _=_;rw[cy,Fp];show cF _ _ _=_;rw[cy,Fq];rfl
theorem leaf_eq(B:BE P)(n:Nat)(ns:yA Int){a b c:Str}(j:a≠b)(m:a≠c)(o:b≠c)(A:(af P X (n+2)).call "_law_names" [.list (ns.map .int)]=ac (.list [.str a,.str b,.str c],yC))(k:Nat)(C:k<3) :
  ∃ q r,TpA (W3 a b c (aR (ns.getD 0 0)) (aR (ns.getD 1 0)) (aR (ns.getD 2 0))) (W3 a b c (cT (ns.getD 0 0)) (cT (ns.getD 1 0)) (cT (ns.getD 2 0))) 0 0 q r 1/\(af P X (n+3)).call "_law_leaf" [.list (ns.map .int),.int k]=ac (aG (W3 a b c (aR (ns.getD 0 0)) (aR (ns.getD 1 0)) (aR (ns.getD 2 0))) q r 1,yz):=by
 obtain⟨f,h1,s,E⟩:∃ f,aV (.list [.str a,.str b,.str c]) (.int k)=ac (.str f)/\(W3 a b c (aR (ns.getD 0 0)) (aR (ns.getD 1 0)) (aR (ns.getD 2 0))).lookup f=ac (aR (ns.getD k 0))/\(W3 a b c (cT (ns.getD 0 0)) (cT (ns.getD 1 0)) (cT (ns.getD 2 0))).lookup f=ac (cT (ns.getD k 0)):=by
  have e1:∀ x:Str,(x == x)=yC:=λx=>zg x
  have G:(b == a)=yz:=by rw[An];exact j.symm
  have H:(c == a)=yz:=by rw[An];exact m.symm
  have I:(c == b)=yz:=by rw[An];exact o.symm
  have t:∀ x y z,(W3 a b c x y z).lookup a=ac x:=λx y z=>by unfold W3;rw[y7,e1]
  have u:∀ x y z,(W3 a b c x y z).lookup b=ac y:=λx y z=>by unfold W3;rw[y7,G];show Ea _ _=_;rw[y7,e1]
  have w:∀ x y z,(W3 a b c x y z).lookup c=ac z:=λx y z=>by unfold W3;rw[y7,H];show Ea _ _=_;rw[y7,I];show Ea _ _=_;rw[y7,e1]
  revert C k;exact ltS ⟨c,QQ,w _ _ _,w _ _ _⟩ (ltS ⟨b,QQ,u _ _ _,u _ _ _⟩ (ltS ⟨a,QQ,t _ _ _,t _ _ _⟩ λZ h=>zl h (AF _)))
 generalize W3 a b c (aR (ns.getD 0 0)) (aR (ns.getD 1 0)) (aR (ns.getD 2 0))=W at *;generalize W3 a b c (cT (ns.getD 0 0)) (cT (ns.getD 1 0)) (cT (ns.getD 2 0))=R at *;have J:=eO (X:=X) B.toBG (n+1) ns k;have L:=lv (X:=X) B (n+1) (ns.getD k 0);have M:=uY (ns.getD k 0);have N:=(n6 (X:=X) B (n+1) (ns.getD k 0)).1;have O:=(n6 (X:=X) B (n+1) (ns.getD k 0)).2;generalize cT (ns.getD k 0)=r at *;generalize ns.getD k 0=z at *;have i:(Q.table f).wd W=aR z:=by show (W.lookup f).getD 0=_;rw[s];rfl
 refine⟨.table f,r,⟨⟨_,s⟩,by rw[i];exact om181 M,by decide,by decide,by exact om182 N,y0 _,za _,trivial,y0 _,r,E,y0 _⟩,?_⟩
 unfold aG;rw[i];show _=ac (D.tup [.tup [.str (yB "table"),.str f],.int (aR z),.int r,.int 1],yz);generalize D.list (ns.map .int)=S at *;refine au B.lf QQ ?_;show Run _ jO.body [("_law_script",(yz,S)),("_law_k",(yz,.int k))] _ _;exact aB (ai (aD (vv ad (vv (ae QQ ad) vN)) J)) (aE (aq (bA (aa (bA (aa vS (aa (av (am (vv (ag QQ (ao ad)) vN) A) (vr (ag QQ (ao (ae QQ ad)))) h1) vN)) (yM QQ)) (aa (am (vv aw vN) L) (aa (am (vv aw vN) O) (aa vI vN)))) (yM QQ)) QQ QQ) QQ)
end
set_option maxHeartbeats 800000
theorem o_retv{cf:CF}{σ:St}{z:yF}{d:D}{fr:yH}{r:yA MS}{R:Fl->St->Prop}(h:σ.lookup z=ac (fr,d))(q:R (.ret fr d) σ):Out cf (.ret (.u z)::r) σ R:=⟨_,_,q,qx (x_rx h)⟩
theorem oX{cf:CF}{body:yA MS}{z:yF}(I:Nat->St->Prop)(R:D->yH->Prop)(N:Nat):∀ (EX:yA D) (k:Nat) (σ:St),k+EX.length<=N->I k σ->(∀ k it σ,k<N->it∈EX->I k σ->Out cf body (ay σ z (yz,it)) λf Fd=>(f=.next/\I (k+1) Fd)\/∃ d fr,f=.ret fr d/\R d fr) ->
  ∃ Fd,(I (k+EX.length) Fd/\cF (dq cf body z) EX σ=ac (.next,Fd))\/∃ d fr,R d fr/\cF (dq cf body z) EX σ=ac (.ret fr d,Fd)
 | [],k,σ,_,h,_=>⟨σ,.inl ⟨h,QQ⟩⟩
 | it::r,k,σ,j,h,m=>by
  rw[Ae] at j;obtain⟨f,a,q,e⟩:=m k it σ (om191 j) (.head _) h
  rcases q with⟨rfl,n⟩ | ⟨d,fr,rfl,q⟩
  ·obtain⟨b,c⟩:=oX I R N r (k+1) a (om192 j) n λk i s o t=>m k i s o (.tail _ t)
   refine⟨b,?_⟩;rw[cy,e,Ae,z5 r.length 1,<- Ah];exact c
  ·exact⟨a,.inr ⟨d,fr,q,by rw[cy,e];rfl⟩⟩
noncomputable def u7:yA MS:=[.ite (.cmp .Eq (.u "_law_made") (.lst [])) [.x0 "_law_made" (.lst [.u "_law_spare"]),.x0 "_law_spare" (.u "_law_top")] [.ite (.cmp .GtE (.u "_law_word") (.int 9)) [.x0 "_law_spare" (.call "_law_leaf" [.u "_law_script",.bin .Mod (.bin .FloorDiv (.u "_law_cell") (.int 36)) (.int 3)])] []],.x0 "_law_top" (.sub (.u "_law_made") (.int 0))]
noncomputable def u6:yA MS:=.ite (.cmp .Eq (.u "_law_made") (.lst [])) [.x0 "_law_made" (.call "_law_of_two" [.str "both",.u "_law_cell",.u "_law_top",.u "_law_spare"])] []::u7
noncomputable def rI:yA MS:=[.ite (.bop .And [.cmp .NotEq (.u "_law_made") (.lst []),.cmp .Gt (.bin .Mod (.u "_law_cell") (.int 8)) (.int 0),.cmp .Eq (.call "_law_answer" [.sub (.sub (.u "_law_made") (.int 0)) (.int 0),.u "_law_tables_here"]) (.lst [])]) [] u6]
noncomputable def sQ:yA MS:=[.ite (.cmp .GtE (.bin .Add (.int 6) (.bin .Mult (.int 2) (.u "_law_k"))) (.blt "len" [.u "_law_script"])) [.ret (.u "_law_top")] [],.x0 "_law_word" (.sub (.lst [.int 0,.int 5,.int 8,.int 5,.int 4,.int 5,.int 6,.int 7,.int 12,.int 9,.int 9,.int 9,.int 12]) (.bin .Mod (.sub (.u "_law_script") (.bin .Add (.int 6) (.bin .Mult (.int 2) (.u "_law_k")))) (.int 13))),.x0 "_law_cell" (.call "_law_cell_at" [.u "_law_script",.bin .Add (.int 7) (.bin .Mult (.int 2) (.u "_law_k"))]),.x0 "_law_made" (.lst []),.ite (.cmp .Lt (.u "_law_word") (.int 9)) [.x0 "_law_made" (.lst [.call "_law_around" [.u "_law_word",.u "_law_cell",.u "_law_top"]]),.ite (.bop .And [.bop .Or [.cmp .Eq (.u "_law_word") (.int 8),.cmp .Eq (.u "_law_word") (.int 5)],.cmp .Gt (.bin .Mod (.u "_law_cell") (.int 4)) (.int 0)]) [.x0 "_law_made" (.lst [.call "_law_sieve_on" [.sub (.u "_law_made") (.int 0),.u "_law_cell"]])] []] [.ite (.cmp .Lt (.u "_law_word") (.int 12)) [.x0 "_law_made" (.call "_law_of_two" [.str "join",.u "_law_cell",.sub (.lst [.u "_law_top",.u "_law_spare"]) (.bin .Mod (.bin .FloorDiv (.u "_law_cell") (.int 2)) (.int 2)),.sub (.lst [.u "_law_spare",.u "_law_top"]) (.bin .Mod (.bin .FloorDiv (.u "_law_cell") (.int 2)) (.int 2))]),.ite (.bop .And [.cmp .NotEq (.u "_law_made") (.lst []),.cmp .Gt (.bin .Mod (.u "_law_cell") (.int 4)) (.int 0)]) [.x0 "_law_made" (.lst [.call "_law_sieve_on" [.sub (.u "_law_made") (.int 0),.u "_law_cell"]])] []] [.ite (.cmp .Eq (.bin .Mod (.u "_law_cell") (.int 3)) (.int 1)) [.x0 "_law_made" (.call "_law_of_two" [.str "both",.u "_law_cell",.u "_law_top",.call "_law_around" [.sub (.lst [.int 0,.int 6,.int 7]) (.bin .Mod (.bin .FloorDiv (.u "_law_cell") (.int 3)) (.int 3)),.call "_law_mixed" [.u "_law_cell",.int 5],.u "_law_top"]])] []]]]++rI
theorem nb.up{W R:Wd}{c dp c' b:Nat}{d:D}(h:nb W R c dp d)(h1:c<=c')(f:dp<=b):nb W R c' b d:=h.elim .inl λ⟨q,r,k,a,e⟩=>.inr ⟨q,r,k,a.up h1 f,e⟩
theorem xF:ec .Eq (.list []) (.list [])=ac (.bool yC):=rfl
theorem xG(t:D):ec .Eq (.list [t]) (.list [])=ac (.bool yz):=rfl
theorem vK:ec .NotEq (.list []) (.list [])=ac (.bool yz):=rfl
theorem vJ(t:D):ec .NotEq (.list [t]) (.list [])=ac (.bool yC):=rfl
section
variable {P:yA (yF×Fn)} {X:CF} {W R:Wd} {TT:D}
structure fK(W R:Wd)(TT S:D)(c dp:Nat)(σ:St):Prop where
 tt:Has σ "_law_tables_here" TT
 sc:Has σ "_law_script" S
 tp:∃ q r k,TpA W R c dp q r k/\Has σ "_law_top" (aG W q r k)
 sp:∃ q r k,TpA W R c dp q r k/\Has σ "_law_spare" (aG W q r k)
section
variable {S d:D}{c dp:Nat}{σ:St}{w z:Int}
theorem sP{cf:CF}(a:∀ k:Nat,k<3->∃ q r,TpA W R 0 0 q r 1/\cf.call "_law_leaf" [S,.int k]=ac (aG W q r 1,yz))(I:fK W R TT S c dp σ)(h1:Has σ "_law_word" (.int w))(V:Has σ "_law_cell" (.int z))(b:Has σ "_law_made" d)(X:nb W R c dp d) :
  Out cf u7 σ λY Fd=>Y=.next/\fK W R TT S c dp Fd:=by
 obtain⟨j,f,⟨B,C,E,Z,Fg⟩,⟨q2,r2,k2,G,H⟩⟩:=I;have J:1<=big:=by decide
 rcases X with rfl | ⟨q,r,k,t,rfl⟩
 ·have h:aV (.list [aG W q2 r2 k2]) (.int 0)=ac (aG W q2 r2 k2):=rfl
  generalize n:aG W q2 r2 k2=i at *;generalize o:aG W B C E=L at *;refine cD (k:=yC) (x:=.bool yC) (ax (vr b) (cR vN (za _)) xF) QQ (λEP=>?_) nofun
  refine aH (ai (d:=.list [i]) (fr:=yC) (aq (cR (vv H vN) (yM QQ)) QQ QQ)) (aH (ai (d:=L) (fr:=frF (.u "_law_top") L) (aq (vr (ag QQ (ao Fg))) QQ QQ)) (aH (ai (d:=i) (fr:=frF (.sub (.u "_law_made") (.int 0)) i) (aq (av (x:=.list [i]) (y:=.int 0) (vr (ag QQ (ao aw))) vI h) QQ QQ)) (bq ⟨QQ,(ag QQ (ao (ag QQ (ao (ag QQ (ao j)))))),(ag QQ (ao (ag QQ (ao (ag QQ (ao f)))))),⟨q2,r2,k2,G,?_⟩,⟨B,C,E,Z,?_⟩⟩)))
  ·rw[n];exact aw
  ·rw[o];exact ag QQ (ao aw)
 ·have h:aV (.list [aG W q r k]) (.int 0)=ac (aG W q r k):=rfl
  generalize M:aG W q r k=T at *;refine cD (k:=yz) (x:=.bool yz) (ax (vr b) (cR vN (za _)) (xG _)) QQ nofun λEP=>?_
  refine cD (k:=decide (w ≥ 9)) (ax (vr h1) vI QQ) QQ (λEP=>?_) λEP=>?_
  ·obtain⟨m,s,u⟩:=cm (z / 36) (k:=3) (by decide)
   have s:z / 36 % 3=(m:Int):=s;obtain⟨N,O,Fh,U⟩:=a m u;rw[<- s] at U;generalize A:aG W N O 1=Fi at *;refine aH (ai (d:=Fi) (fr:=yz) (aD (vv f (aa (ak (ak (vr V) vI (bo (dtt QQ))) vI (aO (dtt QQ))) vN)) U)) (aH (ai (d:=T) (fr:=frF (.sub (.u "_law_made") (.int 0)) T) (aq (av (x:=.list [T]) (y:=.int 0) (vr (ag QQ (ao b))) vI h) QQ QQ)) (bq ⟨QQ,(ag QQ (ao (ag QQ (ao j)))),(ag QQ (ao (ag QQ (ao f)))),⟨q,r,k,t,?_⟩,⟨N,O,1,Fh.up (za _) (za _),?_⟩⟩))
   ·rw[M];exact aw
   ·rw[A];exact ag QQ (ao aw)
  ·refine aH (ai (d:=T) (fr:=frF (.sub (.u "_law_made") (.int 0)) T) (aq (av (x:=.list [T]) (y:=.int 0) (vr b) vI h) QQ QQ)) (bq ⟨QQ,(ag QQ (ao j)),(ag QQ (ao f)),⟨q,r,k,t,?_⟩,⟨q2,r2,k2,G,?_⟩⟩)
   ·rw[M];exact aw
   ·exact ag QQ (ao H)
theorem fK.up{c' a:Nat}(I:fK W R TT S c dp σ)(h1:c<=c')(b:dp<=a):fK W R TT S c' a σ:=
 ⟨I.tt,I.sc,let ⟨q,r,k,t,h⟩:=I.tp;⟨q,r,k,t.up h1 b,h⟩,let ⟨q,r,k,t,h⟩:=I.sp;⟨q,r,k,t.up h1 b,h⟩⟩
theorem fK.set{x:yF}{v:yH×D}{e:D}{ns:yA yF}(I:fK W R TT S c dp σ)(a:("_law_tables_here" == x)=yz)(h1:("_law_script" == x)=yz)(b:("_law_top" == x)=yz)(f:("_law_spare" == x)=yz):fK W R TT S c dp (ay (settle e ns σ) x v):=
 ⟨ag a (ao I.tt),ag h1 (ao I.sc),let ⟨q,r,k,t,h⟩:=I.tp;⟨q,r,k,t,ag b (ao h)⟩,let ⟨q,r,k,t,h⟩:=I.sp;⟨q,r,k,t,ag f (ao h)⟩⟩
theorem step_mid(B:BN P)(n:Nat)(a:∀ k:Nat,k<3->∃ q r,TpA W R 0 0 q r 1/\(af P X (n+7)).call "_law_leaf" [S,.int k]=ac (aG W q r 1,yz))(I:fK W R TT S c dp σ)(h1:Has σ "_law_word" (.int w))(b:Has σ "_law_cell" (.int z))(f:Has σ "_law_made" d)(h:nb W R (c+24) (dp+3) d) :
  Out (af P X (n+7)) u6 σ λi Fd=>i=.next/\fK W R TT S (c+24) (dp+3) Fd:=by
 obtain⟨y,A,⟨C,E,G,j,m⟩,⟨q2,r2,k2,o,s⟩⟩:=id I
 rcases h with rfl | ⟨q,r,k,t,rfl⟩
 ·obtain⟨H,fr,m',u⟩:=nh (X:=X) B (n+4) z j o
  refine cD (k:=yC) (x:=.bool yC) (ax (vr f) (cR vN (za _)) xF) QQ (λZ=>?_) nofun
  refine aH (ai (aD (aa vS (vv b (vv m (vv s vN)))) u)) ?_;exact sP a ((I.set QQ QQ QQ QQ).up (y9 _ _) (y9 _ _)) (ag QQ (ao h1)) (ag QQ (ao b)) aw (m'.up (xy) (om194))
 ·refine cD (k:=yz) (x:=.bool yz) (ax (vr f) (cR vN (za _)) (xG _)) QQ nofun λZ=>?_
  exact sP a (I.up (y9 _ _) (y9 _ _)) h1 b f (.inr ⟨q,r,k,t,QQ⟩)
theorem tab_nil(t:Tab):ec .Eq (az t) (.list [])=ac (.bool t.isEmpty):=by
 cases t with
 | nil=>rfl
 | cons r t=>show (if (List.map D.tup (r::t)).length=([]:yA D).length then jS (List.map D.tup (r::t)) [] else ac yz).map D.bool=_;rw[yV (λh=>nomatch h)];rfl
theorem step_ans(B:BN P)(n:Nat)(b:∀ q r k,TpA W R (c+24) (dp+3) q r k->∃ t fr,(af P X (n+7)).call "_law_answer" [q.d,TT]=ac (az t,fr))(a:∀ k:Nat,k<3->∃ q r,TpA W R 0 0 q r 1/\(af P X (n+7)).call "_law_leaf" [S,.int k]=ac (aG W q r 1,yz))(I:fK W R TT S c dp σ)(h1:Has σ "_law_word" (.int w))(i:Has σ "_law_cell" (.int z))(h:Has σ "_law_made" d)(j:nb W R (c+24) (dp+3) d) :
  Out (af P X (n+7)) rI σ λm Fd=>m=.next/\fK W R TT S (c+24) (dp+3) Fd:=by
 have f:=step_mid B n a I h1 i h j
 rcases j with rfl | ⟨q,r,k,t,rfl⟩
 ·exact cD (k:=yz) (x:=.bool yz) (dh (k:=yz) (l:=yz) (ax (vr h) (cR vN (za _)) vK) nofun) QQ nofun λZ=>f
 ·obtain⟨tb,fr,e⟩:=b q r k t
  exact cD (dh (k:=yC) (l:=decide (z % 8 > 0)&&tb.isEmpty) (ax (vr h) (cR vN (za _)) (vJ _)) λZ=>dh (k:=decide (z % 8 > 0)) (l:=tb.isEmpty) (ax (ak (vr i) vI (aO (by decide))) vI QQ) λZ=>bC (ax (am (aa (av (x:=aG W q r k) (y:=.int 0) (av (x:=.list [aG W q r k]) (y:=.int 0) (vr h) vI QQ) vI QQ) (vv I.tt vN)) e) (cR vN (za _)) (tab_nil tb))) QQ (λZ=>bq ⟨QQ,I.up (y9 _ _) (y9 _ _)⟩) λZ=>f
end
end
set_option maxHeartbeats 800000
section
variable {P:yA (yF×Fn)} {X:CF} {W R:Wd} {TT:D}
theorem fK.u{S:D}{c dp:Nat}{σ:St}{x:yF}{v:yH×D}(I:fK W R TT S c dp σ)(a:("_law_tables_here" == x)=yz)(h1:("_law_script" == x)=yz)(b:("_law_top" == x)=yz)(f:("_law_spare" == x)=yz):fK W R TT S c dp (ay σ x v):=
 ⟨ag a I.tt,ag h1 I.sc,let ⟨q,r,k,t,h⟩:=I.tp;⟨q,r,k,t,ag b h⟩,let ⟨q,r,k,t,h⟩:=I.sp;⟨q,r,k,t,ag f h⟩⟩
theorem nq{cf:CF}{z:yF}{e:ME}{r:yA MS}{σ:St}{d:D}{fr:yH}{Q:Fl->St->Prop}(h:evF cf (vis σ) e=ac (d,fr))(k:∀ Fd,(∀ x u,(x == z)=yz->Has σ x u->Has Fd x u)->Has Fd z d->Out cf r Fd Q):Out cf (.x0 z e::r) σ Q:=aH (ai h) (k _ (λx u a i=>ag a (ao i)) aw)
theorem fK.mv{S:D}{c dp:Nat}{σ Fd:St}{z:yF}(I:fK W R TT S c dp σ)(m:∀ x u,(x == z)=yz->Has σ x u->Has Fd x u)(a:("_law_tables_here" == z)=yz)(h1:("_law_script" == z)=yz)(b:("_law_top" == z)=yz)(f:("_law_spare" == z)=yz):fK W R TT S c dp Fd:=
 ⟨m _ _ a I.tt,m _ _ h1 I.sc,let ⟨q,r,k,t,h⟩:=I.tp;⟨q,r,k,t,m _ _ b h⟩,let ⟨q,r,k,t,h⟩:=I.sp;⟨q,r,k,t,m _ _ f h⟩⟩
theorem script_at(ns:yA Int){k:Nat}(h:k<ns.length):aV (.list (ns.map .int)) (.int k)=ac (.int (ns.getD k 0)):=
 lz (by rw[yI];exact h) (by rw[Ag,yP h,yW,yP h];rfl)
theorem s8(l:yA Int)(a:0<l.length)(z:Int):∃ w:Int,aV (.list (l.map .int)) (.int (z % (l.length:Int)))=ac (.int w):=by
 obtain⟨d,⟨w,rfl⟩,h⟩:=dy (l:=l.map .int) (by rw[yI];exact a) z (R:=λd=>∃ w:Int,d=.int w) λd b=>let ⟨w,_,e⟩:=zn.mp b;⟨w,e.symm⟩
 rw[yI] at h;exact⟨w,h⟩
theorem step_turn(B:BN P)(n:Nat){ns:yA Int}{c dp:Nat}(V:∀ q r k,TpA W R (c+24) (dp+3) q r k->∃ t fr,(af P X (n+7)).call "_law_answer" [q.d,TT]=ac (az t,fr))(H:∀ k:Nat,k<3->∃ q r,TpA W R 0 0 q r 1/\(af P X (n+7)).call "_law_leaf" [.list (ns.map .int),.int k]=ac (aG W q r 1,yz))(i:Nat){σ:St}(I:fK W R TT (.list (ns.map .int)) c dp σ) :
  Out (af P X (n+7)) sQ (ay σ "_law_k" (yz,.int i)) λJ Fd=>(J=.next/\fK W R TT (.list (ns.map .int)) (c+24) (dp+3) Fd)\/∃ d fr,J=.ret fr d/\∃ q r k,TpA W R c dp q r k/\d=aG W q r k:=by
 have C:hY "len" [.list (ns.map .int)]=ac (.int ns.length):=by show ac (D.int ((ns.map D.int).length:Nat))=_;rw[yI]
 have Fu:=eO (X:=X) B.toBG (n+6) ns (7+2 * i);have FT:((7+2 * i:Nat):Int)=7+2 * (i:Int):=by exact om195
 rw[FT] at Fu;generalize ns.getD (7+2 * i) 0=z at *;have T:=I.u (x:="_law_k") (v:=(yz,.int i)) QQ QQ QQ QQ;have L:Has (ay σ "_law_k" (yz,.int i)) "_law_k" (.int i):=aw;generalize ay σ "_law_k" (yz,.int i)=Fv at *;clear I;have fin:∀ {σ:St} {d:D} {w:Int},fK W R TT (.list (ns.map .int)) c dp σ->Has σ "_law_word" (.int w)->Has σ "_law_cell" (.int z)->Has σ "_law_made" d->nb W R (c+24) (dp+3) d ->
   Out (af P X (n+7)) rI σ λJ Fd=>(J=.next/\fK W R TT (.list (ns.map .int)) (c+24) (dp+3) Fd)\/∃ d fr,J=.ret fr d/\∃ q r k,TpA W R c dp q r k/\d=aG W q r k:=λI h1 Y FU FV=>
  let ⟨J,Fd,q,e⟩:=step_ans B n V H I h1 Y FU FV;⟨J,Fd,.inl q,e⟩
 have E:eF .Mult (.int 2) (.int i)=ac (.int (2 * i)):=p9 (by decide)
 have o:evE (af P X (n+7)) (vis Fv) (.bin .Add (.int 6) (.bin .Mult (.int 2) (.u "_law_k")))=ac (.int (6+2 * (i:Int))):=ak vI (ak vI (vr L) E) cU;refine cD (k:=decide (6+2 * (i:Int) ≥ ns.length)) (ax o (bR (vv T.sc vN) C) QQ) QQ (λEP=>?_) λFP=>?_
 ·obtain⟨Fk,Fm,u,M,fr,N⟩:=T.tp
  exact o_retv N (.inr ⟨_,fr,QQ,Fk,Fm,u,M,QQ⟩)
 have Fw:=script_at ns (k:=6+2 * i) (om196 (AS FP));have FW:((6+2 * i:Nat):Int)=6+2 * (i:Int):=by exact om197
 rw[FW] at Fw;generalize ns.getD (6+2 * i) 0=y at *;obtain⟨w,FQ⟩:=s8 [0,5,8,5,4,5,6,7,12,9,9,9,12] (by decide) y
 clear FP;refine nq (d:=.int w) (fr:=yz) (aq (av (x:=.list [.int 0,.int 5,.int 8,.int 5,.int 4,.int 5,.int 6,.int 7,.int 12,.int 9,.int 9,.int 9,.int 12]) QQ (ak (av (vr T.sc) o Fw) vI (aO (by decide))) FQ) QQ QQ) λFY Fo Z=>?_
 refine nq (d:=.int z) (fr:=yz) (aD (vv (Fo _ _ QQ T.sc) (aa (ak vI (ak vI (vr (Fo _ _ QQ L)) E) cU) vN)) Fu) λFZ Fz Fg=>?_
 refine nq (d:=.list []) (fr:=yC) QQ λFA Fp FE=>?_
 have Fh:=((T.mv Fo QQ QQ QQ QQ).mv Fz QQ QQ QQ QQ).mv Fp QQ QQ QQ QQ;have j:=Fp _ _ QQ (Fz _ _ QQ Z);have a:=Fp _ _ QQ Fg;clear C Fw Fu FQ Fo Fz Fp Z Fg o T L;obtain⟨F3,F4,⟨Fk,Fm,u,M,N⟩,⟨q2,r2,k2,FR,FS⟩⟩:=id Fh;refine cD (k:=decide (w<9)) (ax (vr j) vI QQ) QQ (λEP=>?_) λEP=>?_
 ·obtain⟨Fq,Fs,Ft,FF⟩:=fe (X:=X) B (n+1) w z M
  refine nq (d:=.list [aG W Fq Fs u]) (fr:=yC) (aq (cR (aa (am (vv j (vv a (vv N vN))) FF) vN) (yM QQ)) QQ QQ) λFi s b=>?_
  have U:=Fh.mv s QQ QQ QQ QQ;have h:=s _ _ QQ j;have f:=s _ _ QQ a;refine cD (k:=(w == 8||w == 5)&&decide (z % 4 > 0)) (dh (k:=w == 8||w == 5) (l:=decide (z % 4 > 0)) (gB (k:=w == 8) (l:=w == 5) (ax (vr h) vI QQ) λEP=>bC (ax (vr h) vI QQ)) λEP=>bC (ax (ak (vr f) vI (aO (by decide))) vI QQ)) QQ (λEP=>?_) λEP=>?_
  ·obtain⟨Fj,rb,tb,FG⟩:=sX (X:=X) B n z Ft
   refine nq (d:=.list [aG W Fj rb u]) (fr:=yC) (aq (cR (aa (am (aa (av (x:=.list [aG W Fq Fs u]) (y:=.int 0) (vr b) vI QQ) (vv f vN)) FG) vN) (yM QQ)) QQ QQ) λFH A O=>?_
   exact fin (U.mv A QQ QQ QQ QQ) (A _ _ QQ h) (A _ _ QQ f) O (.inr ⟨Fj,rb,u,tb.up (xx) (om199),QQ⟩)
  ·exact fin U h f b (.inr ⟨Fq,Fs,u,Ft.up (xy) (om200),QQ⟩)
 ·refine cD (k:=decide (w<12)) (ax (vr j) vI QQ) QQ (λEP=>?_) λEP=>?_
  ·obtain⟨d,fr,m,u1,u2,FJ,FK,FM,FN⟩:∃ d fr,∃ m:Nat,∃ u1 u2:D,nb W R (c+12) (dp+2) d/\aV (.list [aG W Fk Fm u,aG W q2 r2 k2]) (.int (z / 2 % 2))=ac u1/\aV (.list [aG W q2 r2 k2,aG W Fk Fm u]) (.int (z / 2 % 2))=ac u2/\(af P X (n+7)).call "_law_of_two" [sD "join",.int z,u1,u2]=ac (d,fr):=by
    rcases (show z / 2 % 2=0\/z / 2 % 2=1 by exact om201) with e | e
    ·rw[e]
     obtain⟨d,fr,h1,Y⟩:=ng (X:=X) B (n+4) z M FR;exact⟨d,fr,0,_,_,h1,QQ,QQ,Y⟩
    ·rw[e]
     obtain⟨d,fr,h1,Y⟩:=ng (X:=X) B (n+4) z FR M;exact⟨d,fr,0,_,_,h1,QQ,QQ,Y⟩
   have G:evE (af P X (n+7)) (vis FA) (.bin .Mod (.bin .FloorDiv (.u "_law_cell") (.int 2)) (.int 2))=ac (.int (z / 2 % 2)):=ak (ak (vr a) vI (bo (by decide))) vI (aO (by decide))
   refine nq (aD (aa vS (vv a (aa (av (cR (vv N (vv FS vN)) (yM QQ)) G FK) (aa (av (cR (vv FS (vv N vN)) (yM QQ)) G FM) vN)))) FN) λFi s b=>?_
   have U:=Fh.mv s QQ QQ QQ QQ;have h:=s _ _ QQ j;have f:=s _ _ QQ a
   rcases FJ with rfl | ⟨q,r,k,t,rfl⟩
   ·refine cD (k:=yz) (x:=.bool (yz&&yz)) (dh (k:=yz) (l:=yz) (ax (vr b) (cR vN (za _)) vK) nofun) QQ nofun λEP=>?_
    exact fin U h f b (.inl QQ)
   ·refine cD (k:=yC&&decide (z % 4 > 0)) (dh (k:=yC) (l:=decide (z % 4 > 0)) (ax (vr b) (cR vN (za _)) (vJ _)) λEP=>bC (ax (ak (vr f) vI (aO (by decide))) vI QQ)) QQ (λEP=>?_) λEP=>?_
    ·obtain⟨Fj,rb,tb,FG⟩:=sX (X:=X) B n z t
     refine nq (d:=.list [aG W Fj rb k]) (fr:=yC) (aq (cR (aa (am (aa (av (x:=.list [aG W q r k]) (y:=.int 0) (vr b) vI QQ) (vv f vN)) FG) vN) (yM QQ)) QQ QQ) λFH A O=>?_
     exact fin (U.mv A QQ QQ QQ QQ) (A _ _ QQ h) (A _ _ QQ f) O (.inr ⟨Fj,rb,k,tb.up (xx) (om202),QQ⟩)
    ·exact fin U h f b (.inr ⟨q,r,k,t.up (xy) (om194),QQ⟩)
  ·refine cD (k:=z % 3 == 1) (ax (ak (vr a) vI (aO (by decide))) vI QQ) QQ (λEP=>?_) λEP=>fin Fh j a FE (.inl QQ)
   obtain⟨v,FO⟩:=s8 [0,6,7] (by decide) (z / 3)
   have FO:aV (.list [.int 0,.int 6,.int 7]) (.int (z / 3 % 3))=ac (.int v):=FO;obtain⟨F0,_,A⟩:=mixed (X:=X) B.toBG (n+6) z 5;obtain⟨Fq,Fs,Ft,FF⟩:=fe (X:=X) B (n+1) v F0 M;obtain⟨d,fr,FJ,FN⟩:=nh (X:=X) B (n+4) z (M.up (y9 _ 12) (AB _)) Ft;refine nq (aD (aa vS (vv a (vv N (aa (am (aa (av (x:=.list [.int 0,.int 6,.int 7]) (y:=.int (z / 3 % 3)) QQ (ak (ak (vr a) vI (bo (by decide))) vI (aO (by decide))) FO) (aa (am (vv a (aa vI vN)) A) (vv N vN))) FF) vN)))) FN) λFi s b=>?_
   exact fin (Fh.mv s QQ QQ QQ QQ) (s _ _ QQ j) (s _ _ QQ a) b (FJ.up (xx) (om203))
end
set_option maxHeartbeats 800000
noncomputable def yf:yA MS:=[.for_ "_law_k" (.blt "range" [.u "_law_many_here"]) [.x0 "_law_top" (.call "_law_around" [.bin .Mod (.call "_law_mixed" [.u "_law_cell",.u "_law_k"]) (.int 9),.call "_law_mixed" [.u "_law_cell",.bin .Add (.int 50) (.u "_law_k")],.u "_law_top"])],.ret (.u "_law_top")]
noncomputable def yg:yA MS:=.ite (.cmp .Eq (.bin .Mod (.u "_law_cell") (.int 32)) (.int 5)) [.x0 "_law_top" (.call "_law_leaf" [.u "_law_script",.int 0]),.x0 "_law_many_here" (.int 38)] []::yf
noncomputable def yh:yA MS:=.x0 "_law_cell" (.bin .FloorDiv (.call "_law_cell_at" [.u "_law_script",.int 1]) (.int 35))::.x0 "_law_many_here" (.int 0)::.ite (.cmp .Eq (.bin .Mod (.u "_law_cell") (.int 8)) (.int 1)) [.x0 "_law_many_here" (.bin .Mod (.bin .FloorDiv (.u "_law_cell") (.int 8)) (.int 6))] []::yg
noncomputable def built4:yA MS:=.x0 "_law_more" (.call "_law_around" [.int 0,.bin .Add (.bin .Mult (.bin .FloorDiv (.call "_law_mixed" [.u "_law_last",.int 9]) (.int 4)) (.int 4)) (.int 2),.u "_law_top"])::.ite (.bop .And [.cmp .Gt (.bin .Mod (.u "_law_last") (.int 3)) (.int 0),.bop .Or [.cmp .Eq (.bin .Mod (.u "_law_last") (.int 5)) (.int 0),.cmp .NotEq (.call "_law_answer" [.sub (.u "_law_more") (.int 0),.call "_law_tables" [.u "_law_script",.int 0]]) (.lst [])]]) [.x0 "_law_top" (.u "_law_more")] []::yh
section
variable {P:yA (yF×Fn)} {X:CF} {W R:Wd}
theorem tab_nn(t:Tab):ec .NotEq (az t) (.list [])=ac (.bool (!t.isEmpty)):=by
 cases t with
 | nil=>rfl
 | cons r t=>show (if (List.map D.tup (r::t)).length=([]:yA D).length then jS (List.map D.tup (r::t)) [] else ac yz).map (λx=>D.bool (!x))=_;rw[yV (λh=>nomatch h)];rfl
noncomputable def uT(P:yA (yF×Fn))(X:CF)(W R:Wd)(S:D):Prop:=∀ n,∃ TT a,(af P X (n+5)).call "_law_tables" [S,.int 0]=ac (TT,a)/\∀ m q r k c dp,45<=m->dp<=40->TpA W R c dp q r k->∃ t fr,(af P X m).call "_law_answer" [q.d,TT]=ac (az t,fr)
noncomputable def gy(W R:Wd)(c dp:Nat)(d:D):Prop:=∃ q r k,TpA W R c dp q r k/\d=aG W q r k
theorem gy.up{c dp c' a:Nat}{d:D}(h:gy W R c dp d)(h1:c<=c')(b:dp<=a):gy W R c' a d:=let ⟨q,r,k,t,e⟩:=h;⟨q,r,k,t.up h1 b,e⟩
theorem stepped_eq(B:BE P)(n:Nat){ns:yA Int}(G:45<=n)(a:uT P X W R (.list (ns.map .int)))(b:∀ k:Nat,k<3->∃ q r,TpA W R 0 0 q r 1/\(af P X (n+7)).call "_law_leaf" [.list (ns.map .int),.int k]=ac (aG W q r 1,yz)) :
  ∃ d fr,gy W R 216 27 d/\(af P X (n+8)).call "_law_stepped" [.list (ns.map .int)]=ac (d,fr):=by
 have c2:(af P X (n+7)).call "_law_cell_at" [.list (ns.map .int),.int 2]=ac (.int (ns.getD 2 0),yz):=eO (X:=X) B.toBG (n+6) ns 2;obtain⟨y,A,M,N⟩:=b 0 (by decide)
 obtain⟨C,E,O,T⟩:=b 1 (by decide)
 obtain⟨TT,J,a,u⟩:=a (n+2);have a:(af P X (n+7)).call "_law_tables" [.list (ns.map .int),.int 0]=ac (TT,J):=a;have turn:=λk i σ (w:k<=8) (I:fK W R TT (.list (ns.map .int)) (24 * k) (3 * k) σ)=>step_turn B.toBN n (c:=24 * k) (dp:=3 * k) (λq r H h=>u (n+7) q r H _ _ (om204 G) (om205 w) h) b i I
 generalize ns.getD 2 0=z at *;generalize D.list (ns.map .int)=S at *;obtain⟨d,⟨m,rfl,o⟩,s⟩:=dy (l:=[.int 3,.int 5,.int 2,.int 8]) (by decide) z (R:=λd=>∃ m:Nat,d=.int m/\m<=8) (by
  intro d s;simp only[yX,zK,Bf] at s
  rcases s with rfl | rfl | rfl | rfl <;> first | exact⟨3,QQ,by decide⟩ | exact⟨5,QQ,by decide⟩ | exact⟨2,QQ,by decide⟩ | exact⟨8,QQ,by decide⟩)
 have s:aV (.list [.int 3,.int 5,.int 2,.int 8]) (.int (z % 4))=ac (.int m):=s;have U:8<=big:=by decide
 refine dJ (X:=X) (args:=[S]) B.st QQ ?_;refine bg (ai (aD (aa (d:=S) QQ (aa (d:=.int 0) QQ vN)) N)) ?_;refine bg (ai (aD (aa (d:=S) QQ (aa (d:=.int 1) QQ vN)) T)) ?_;refine bg (ai (aD (aa (d:=S) (vr (ag QQ (ao (ag QQ (ao ad))))) (aa vI vN)) a)) ?_;generalize f:ay (settle TT (ME.names (.call "_law_tables" [.u "_law_script",.int 0])) (ay (settle (aG W C E 1) (ME.names (.call "_law_leaf" [.u "_law_script",.int 1])) (ay (settle (aG W y A 1) (ME.names (.call "_law_leaf" [.u "_law_script",.int 0])) _) "_law_top" (yz,aG W y A 1))) "_law_spare" (yz,aG W C E 1))) "_law_tables_here" (J,TT)=σ;have V:Has σ "_law_tables_here" TT:=by rw[<- f];exact aw
 have L:Has σ "_law_script" S:=by rw[<- f];exact ag QQ (ao (ag QQ (ao (ag QQ (ao ad)))))
 have Y:Has σ "_law_top" (aG W y A 1):=by rw[<- f];exact ag QQ (ao (ag QQ (ao aw)))
 have Z:Has σ "_law_spare" (aG W C E 1):=by rw[<- f];exact ag QQ (ao aw)
 obtain⟨Fd,c⟩:=oX (cf:=af P X (n+7)) (body:=sQ) (z:="_law_k") (λk σ=>fK W R TT S (24 * k) (3 * k) σ) (λd EP=>gy W R 216 27 d) m ((zf m).map λ(i:Nat)=>D.int (i:Int)) 0 (freeze (ME.names (.blt "range" [.sub (.lst [.int 3,.int 5,.int 2,.int 8]) (.bin .Mod (.call "_law_cell_at" [.u "_law_script",.int 2]) (.int 4))])) σ) (by rw[yI,zJ];exact om206) ⟨bT V,bT L,⟨y,A,1,M,bT Y⟩,⟨C,E,1,O,bT Z⟩⟩ (by
  intro k Fh σ w hit I;obtain⟨i,_,rfl⟩:=zn.mp hit;obtain⟨Fg,Fd,q,e⟩:=turn k i σ (om207 o w) I;refine⟨Fg,Fd,?_,e⟩
  rcases q with q | ⟨d,fr,h1,q,r,H,t,h2⟩
  ·exact .inl q
  ·exact .inr ⟨d,fr,h1,q,r,H,t.up (om208 o w) (om209 o w),h2⟩)
 have j:evE (af P X (n+7)) (vis σ) (.blt "range" [.sub (.lst [.int 3,.int 5,.int 2,.int 8]) (.bin .Mod (.call "_law_cell_at" [.u "_law_script",.int 2]) (.int 4))])=ac (.rng 0 m):=
  bR (aa (av (x:=.list [.int 3,.int 5,.int 2,.int 8]) QQ (ak (am (vv L (aa vI vN)) c2) vI (aO (by decide))) s) vN) (jd (yD o U))
 rcases c with⟨I,e⟩ | ⟨d,fr,h,e⟩
 ·refine q_for j (dS m) e ?_
  obtain⟨q,r,k,t,fr,h⟩:=I.tp;rw[yI,zJ,z6] at t;exact xt h ⟨q,r,k,t.up (om210 o) (om211 o),QQ⟩
 ·exact q_forR j (dS m) e h
theorem p6(B:BN P)(n:Nat){c dp m:Nat}(j:m<=38){z:Int}{σ:St}{d:D}(a:gy W R c dp d)(h1:Has σ "_law_cell" (.int z))(o:Has σ "_law_top" d)(s:Has σ "_law_many_here" (.int m)):Rex (af P X (n+6)) yf σ λd Z=>gy W R (c+12 * m) (dp+m) d:=by
 have u:38<=big:=by decide
 obtain⟨Fd,e⟩:=oX (cf:=af P X (n+6)) (body:=[.x0 "_law_top" (.call "_law_around" [.bin .Mod (.call "_law_mixed" [.u "_law_cell",.u "_law_k"]) (.int 9),.call "_law_mixed" [.u "_law_cell",.bin .Add (.int 50) (.u "_law_k")],.u "_law_top"])]) (z:="_law_k") (λk σ=>Has σ "_law_cell" (.int z)/\∃ d,gy W R (c+12 * k) (dp+k) d/\Has σ "_law_top" d) (λZ Z=>False) m ((zf m).map λ(i:Nat)=>D.int (i:Int)) 0 (freeze (ME.names (.blt "range" [.u "_law_many_here"])) σ) (by rw[yI,zJ];exact om206) ⟨bT h1,d,a,bT o⟩ (by
  rintro k M σ N hit ⟨w,d,⟨q,r,A,t,rfl⟩,C⟩;obtain⟨i,_,rfl⟩:=zn.mp hit;obtain⟨x,_,E⟩:=mixed (X:=X) B.toBG (n+5) z i;obtain⟨y,_,G⟩:=mixed (X:=X) B.toBG (n+5) z (50+i);obtain⟨H,r',I,J⟩:=fe (X:=X) B n (x % 9) y t;have b:=ag (y:="_law_k") (v:=(yz,.int i)) QQ w;have L:=ag (y:="_law_k") (v:=(yz,.int i)) QQ C;have f:Has (ay σ "_law_k" (yz,.int i)) "_law_k" (.int i):=aw;generalize ay σ "_law_k" (yz,.int i)=σ at *;refine aH (ai (aD (aa (ak (am (vv b (vv f vN)) E) vI (aO (by decide))) (aa (am (vv b (aa (ak vI (vr f) cU) vN)) G) (vv L vN))) J)) ?_
  exact bq (.inl ⟨QQ,ag QQ (ao b),_,⟨H,r',A,I.up (om212) (om213),QQ⟩,aw⟩))
 rcases e with⟨⟨_,d,a,fr,h⟩,e⟩ | ⟨_,_,h,_⟩
 ·refine q_for (bR (vv s vN) (jd (yD j u))) (dS m) e ?_
  rw[yI,zJ,z6] at a;exact xt h a
 ·exact h.elim
theorem built_eq(B:BE P)(n:Nat){ns:yA Int}(E:45<=n)(j:uT P X W R (.list (ns.map .int)))(b:∀ n,∀ k:Nat,k<3->∃ q r,TpA W R 0 0 q r 1/\(af P X (n+3)).call "_law_leaf" [.list (ns.map .int),.int k]=ac (aG W q r 1,yz)) :
  ∃ d fr,gy W R 456 38 d/\(af P X (n+9)).call "_law_built" [.list (ns.map .int)]=ac (d,fr):=by
 have Y:(af P X (n+8)).call "_law_cell_at" [.list (ns.map .int),.int 5]=ac (.int (ns.getD 5 0),yz):=eO (X:=X) B.toBG (n+7) ns 5;have c1:(af P X (n+8)).call "_law_cell_at" [.list (ns.map .int),.int 1]=ac (.int (ns.getD 1 0),yz):=eO (X:=X) B.toBG (n+7) ns 1;obtain⟨Ft,Z,o,Fg⟩:=stepped_eq (X:=X) B n E j (b (n+4));obtain⟨TT,Fh,s,G⟩:=j (n+3);have s:(af P X (n+8)).call "_law_tables" [.list (ns.map .int),.int 0]=ac (TT,Fh):=s;obtain⟨Fi,Fj,Fk,Fm⟩:=b (n+5) 0 (by decide)
 generalize ns.getD 5 0=y at *;generalize ns.getD 1 0=z at *;generalize D.list (ns.map .int)=S at *;have U:∀ {σ:St} {d:D} {m:Nat},m<=7->gy W R 240 29 d->Has σ "_law_script" S->Has σ "_law_cell" (.int (z / 35))->Has σ "_law_top" d->Has σ "_law_many_here" (.int m)->Rex (af P X (n+8)) yg σ λd EP=>gy W R 456 38 d:=by
  intro σ d m L u w f M Fo;refine dQ (k:=z / 35 % 32 == 5) (ax (ak (vr f) vI (aO (by decide))) vI QQ) QQ (λEP=>?_) λEP=>?_
  ·refine bg (ai (aD (vv w (aa vI vN)) Fm)) ?_
   refine bg (ai (d:=.int (38:Nat)) (fr:=yz) QQ) ?_;obtain⟨d,fr,h,r⟩:=p6 (X:=X) (W:=W) B.toBN (n+2) (m:=38) (c:=0) (dp:=0) (by decide) ⟨Fi,Fj,1,Fk,QQ⟩ (ag QQ (ao (ag QQ (ao f)))) (ag QQ (ao aw)) aw
   exact⟨d,fr,h.up (om214) (om215),r⟩
  ·obtain⟨d,fr,h,r⟩:=p6 (X:=X) (W:=W) B.toBN (n+2) (om216 L) u f M Fo
   exact⟨d,fr,h.up (om217 L) (om218 L),r⟩
 have V:∀ {σ:St} {d:D},gy W R 240 29 d->Has σ "_law_script" S->Has σ "_law_top" d->Rex (af P X (n+8)) yh σ λd EP=>gy W R 456 38 d:=by
  intro σ d u w f;refine bg (ai (d:=.int (z / 35)) (fr:=yz) (aq (ak (am (vv w (aa vI vN)) c1) vI (bo (by decide))) QQ QQ)) ?_
  refine bg (ai (d:=.int (0:Nat)) (fr:=yz) QQ) ?_;refine dQ (k:=z / 35 % 8 == 1) (ax (ak (vr (ag QQ (ao aw))) vI (aO (by decide))) vI QQ) QQ (λEP=>?_) λEP=>?_
  ·obtain⟨m,Fp,L⟩:=cm (z / 35 / 8) (k:=6) (by decide)
   have Fq:eF .Mod (.int (z / 35 / 8)) (.int 6)=ac (.int m):=by rw[<- Fp];exact aO (by decide)
   refine bg (ai (d:=.int m) (fr:=yz) (aq (ak (ak (vr (ag QQ (ao aw))) vI (bo (by decide))) vI Fq) QQ QQ)) ?_
   exact U (m:=m) (by omega) u (ag QQ (ao (ag QQ (ao (ag QQ (ao w)))))) (ag QQ (ao (ag QQ (ao aw)))) (ag QQ (ao (ag QQ (ao (ag QQ (ao f)))))) aw
  ·exact U (m:=0) (om219) u (ag QQ (ao (ag QQ (ao w)))) (ag QQ (ao aw)) (ag QQ (ao (ag QQ (ao f)))) aw
 have N:∀ {σ:St} {d:D},gy W R 228 28 d->Has σ "_law_script" S->Has σ "_law_last" (.int y)->Has σ "_law_top" d->Rex (af P X (n+8)) built4 σ λd EP=>gy W R 456 38 d:=by
  intro σ d u w M f;obtain⟨q,r,k,t,rfl⟩:=id u;obtain⟨x,_,O⟩:=mixed (X:=X) B.toBG (n+7) y 9;obtain⟨a,r',C,H⟩:=fe (X:=X) B.toBN (n+2) 0 (x / 4 * 4+2) t;obtain⟨tb,fr,Fs⟩:=G (n+8) a r' k _ _ (om220 E) (by decide) C
  refine bg (ai (aD (aa vI (aa (ak (ak (ak (am (vv M (aa vI vN)) O) vI (bo (by decide))) vI (ug (by decide))) vI cU) (vv f vN))) H)) ?_
  have A:=ag (y:="_law_more") (v:=(yz,aG W a r' k)) QQ (ao (e:=aG W a r' k) (ns:=ME.names (.call "_law_around" [.int 0,.bin .Add (.bin .Mult (.bin .FloorDiv (.call "_law_mixed" [.u "_law_last",.int 9]) (.int 4)) (.int 4)) (.int 2),.u "_law_top"])) w);have T:=ag (y:="_law_more") (v:=(yz,aG W a r' k)) QQ (ao (e:=aG W a r' k) (ns:=ME.names (.call "_law_around" [.int 0,.bin .Add (.bin .Mult (.bin .FloorDiv (.call "_law_mixed" [.u "_law_last",.int 9]) (.int 4)) (.int 4)) (.int 2),.u "_law_top"])) f);have I:=ag (y:="_law_more") (v:=(yz,aG W a r' k)) QQ (ao (e:=aG W a r' k) (ns:=ME.names (.call "_law_around" [.int 0,.bin .Add (.bin .Mult (.bin .FloorDiv (.call "_law_mixed" [.u "_law_last",.int 9]) (.int 4)) (.int 4)) (.int 2),.u "_law_top"])) M);have J:Has (ay (settle (aG W a r' k) (ME.names (.call "_law_around" [.int 0,.bin .Add (.bin .Mult (.bin .FloorDiv (.call "_law_mixed" [.u "_law_last",.int 9]) (.int 4)) (.int 4)) (.int 2),.u "_law_top"])) σ) "_law_more" (yz,aG W a r' k)) "_law_more" (aG W a r' k):=aw;generalize ay (settle (aG W a r' k) (ME.names (.call "_law_around" [.int 0,.bin .Add (.bin .Mult (.bin .FloorDiv (.call "_law_mixed" [.u "_law_last",.int 9]) (.int 4)) (.int 4)) (.int 2),.u "_law_top"])) σ) "_law_more" (yz,aG W a r' k)=σ at *;refine dQ (k:=decide (y % 3 > 0)&&(y % 5 == 0||!tb.isEmpty)) (dh (k:=decide (y % 3 > 0)) (l:=y % 5 == 0||!tb.isEmpty) (ax (ak (vr I) vI (aO (by decide))) vI QQ) λEP=>bC (gB (k:=y % 5 == 0) (l:=!tb.isEmpty) (ax (ak (vr I) vI (aO (by decide))) vI QQ) λEP=>bC (ax (am (aa (av (x:=aG W a r' k) (y:=.int 0) (vr J) vI QQ) (aa (am (vv A (aa vI vN)) s) vN)) Fs) (cR vN (za _)) (tab_nn tb)))) QQ (λEP=>?_) λEP=>V (u.up (om221) (om222)) A T
  exact bg (ai (d:=aG W a r' k) (fr:=frF (.u "_law_more") (aG W a r' k)) (aq (vr J) QQ QQ)) (V ⟨a,r',k,C,QQ⟩ (ag QQ (ao A)) aw)
 have hq:∀ {σ:St},Has σ "_law_last" (.int y)->evE (af P X (n+8)) (vis σ) (.bin .Mod (.bin .FloorDiv (.u "_law_last") (.int 3)) (.int 3))=ac (.int (y / 3 % 3)):=λi=>ak (ak (vr i) vI (bo (by decide))) vI (aO (by decide))
 refine dJ (X:=X) (args:=[S]) B.bu QQ ?_;refine bg (ai (aD (aa (d:=S) QQ vN) Fg)) ?_;refine bg (ai (aD (vv (ag QQ (ao ad)) (aa vI vN)) Y)) ?_;refine dQ (k:=y / 3 % 3 == 1) (ax (hq aw) vI QQ) QQ (λh1=>?_) λEP=>?_
 ·obtain⟨q,r,k,t,rfl⟩:=o
  obtain⟨a,r',C,H⟩:=fe (X:=X) B.toBN (n+2) 8 (y / 9 % 3) t;refine bg (ai (aD (aa vI (aa (ak (ak (vr aw) vI (bo (by decide))) vI (aO (by decide))) (vv (ag QQ (ao aw)) vN))) H)) ?_
  rw[AZ] at h1;refine dQ (k:=yz) (x:=.bool yz) (ax (hq (ag QQ (ao aw))) vI (by rw[h1];rfl)) QQ nofun λEP=>?_
  exact N ⟨a,r',k,C,QQ⟩ (ag QQ (ao (ag QQ (ao (ag QQ (ao ad)))))) (ag QQ (ao aw)) aw
 ·refine dQ (k:=y / 3 % 3 == 2) (ax (hq aw) vI QQ) QQ (λEP=>?_) λEP=>N (o.up (om223) (om224)) (ag QQ (ao (ag QQ (ao ad)))) aw (ag QQ (ao aw))
  obtain⟨q,r,k,t,rfl⟩:=o;obtain⟨x,_,O⟩:=mixed (X:=X) B.toBG (n+7) y 4;obtain⟨a,r',C,H⟩:=fe (X:=X) B.toBN (n+2) 5 (x / 4 * 4+1) t;refine bg (ai (aD (aa vI (aa (ak (ak (ak (am (vv aw (aa vI vN)) O) vI (bo (by decide))) vI (ug (by decide))) vI cU) (vv (ag QQ (ao aw)) vN))) H)) ?_
  exact N ⟨a,r',k,C,QQ⟩ (ag QQ (ao (ag QQ (ao (ag QQ (ao ad)))))) (ag QQ (ao aw)) aw
end
noncomputable def jM:Fn:=⟨["_law_cell","_law_wide","_law_many_here"],[
  .x0 "_law_rows" (.lst []),
  .for_ "_law_at" (.blt "range" [.u "_law_many_here"]) [.x0 "_law_like" (.bin .Sub (.u "_law_at") (.bin .FloorDiv (.bin .Mod (.u "_law_at") (.int 3)) (.int 2))),.ite (.cmp .Eq (.bin .Mod (.u "_law_at") (.int 5)) (.int 4)) [.x0 "_law_like" (.int 0)] [],.append "_law_rows" (.blt "tuple" [.comp (.call "_law_thing_by" [.call "_law_mixed" [.u "_law_cell",.bin .Add (.bin .Mult (.int 13) (.u "_law_like")) (.u "_law_k")]]) "_law_k" (.blt "range" [.u "_law_wide"]) []])],
  .ret (.u "_law_rows")]⟩
noncomputable def kN:Fn:=⟨["_law_script","_law_more"],[
  .x0 "_law_names_here" (.call "_law_names" [.u "_law_script"]),
  .x0 "_law_tables_here" (.dct [] []),
  .for_ "_law_k" (.blt "range" [.int 3]) [.x0 "_law_shape" (.call "_law_cell_at" [.u "_law_script",.u "_law_k"]),.x0 "_law_cell" (.call "_law_mixed" [.call "_law_cell_at" [.u "_law_script",.bin .Add (.int 3) (.u "_law_k")],.bin .Add (.int 80) (.u "_law_more")]),.setk "_law_tables_here" (.sub (.u "_law_names_here") (.u "_law_k")) (.call "_law_rows_by" [.u "_law_cell",.call "_law_wide_by" [.u "_law_shape"],.call "_law_rows_of" [.u "_law_shape"]])],
  .ret (.u "_law_tables_here")]⟩
structure BT(P:yA (yF×Fn)):Prop extends BE P,BA P where
 rowsBy:P.lookup "_law_rows_by"=ac jM
 tables:P.lookup "_law_tables"=ac kN
noncomputable abbrev rowsB:yA MS:=[.x0 "_law_like" (.bin .Sub (.u "_law_at") (.bin .FloorDiv (.bin .Mod (.u "_law_at") (.int 3)) (.int 2))),.ite (.cmp .Eq (.bin .Mod (.u "_law_at") (.int 5)) (.int 4)) [.x0 "_law_like" (.int 0)] [],.append "_law_rows" (.blt "tuple" [.comp (.call "_law_thing_by" [.call "_law_mixed" [.u "_law_cell",.bin .Add (.bin .Mult (.int 13) (.u "_law_like")) (.u "_law_k")]]) "_law_k" (.blt "range" [.u "_law_wide"]) []])]
section
variable {P:yA (yF×Fn)} {X:CF}
theorem rows_by(B:BT P)(n:Nat)(c:Int){m k:Nat}(E:m<=1000)(s:k<=60):∃ t:Tab,aP m t/\t.length=k/\(af P X (n+3)).call "_law_rows_by" [.int c,.int m,.int k]=ac (az t,yC):=by
 obtain⟨Fd,⟨t,h1,f,o,_⟩,e⟩:=gH (cf:=af P X (n+2)) (body:=rowsB) (z:="_law_at") (g:=λi:Nat=>D.int (i:Int)) (λb σ=>∃ t:Tab,aP m t/\t.length=b.length/\bF σ "_law_rows" (az t)/\Has σ "_law_cell" (.int c)/\Has σ "_law_wide" (.int m)) (zf k) [] (freeze ["_law_many_here"] (ay [("_law_cell",(yz,.int c)),("_law_wide",(yz,.int m)),("_law_many_here",(yz,.int k))] "_law_rows" (yC,.list [])))
  ⟨[],(λZ h=>nomatch h),QQ,gz QQ dg,bT (ag QQ ad),bT (ag QQ (ae QQ ad))⟩ (by
  rintro b i σ _ u ⟨t,h1,f,o,w,y⟩;have fin:∀ (L:Int) (σ:St),bF σ "_law_rows" (az t)->Has σ "_law_cell" (.int c)->Has σ "_law_wide" (.int m)->Has σ "_law_like" (.int L)->Out (af P X (n+2)) (rowsB.drop 2) σ λG Fd=>G=.next/\∃ t:Tab,aP m t/\t.length=(b++[i]).length/\bF Fd "_law_rows" (az t)/\Has Fd "_law_cell" (.int c)/\Has Fd "_law_wide" (.int m):=λL σ H A C I=>by
   obtain⟨J,M,q2,N⟩:=kR (cf:=af P X (n+2)) (ρ:=vis σ) (z:="_law_k") (elt:=.call "_law_thing_by" [.call "_law_mixed" [.u "_law_cell",.bin .Add (.bin .Mult (.int 13) (.u "_law_like")) (.u "_law_k")]]) (E5:=.u "_law_wide") E uV (vr C) λj Z=>by
    obtain⟨r,_,a⟩:=mixed (X:=X) B.toBG (n+1) c (13 * L+j);obtain⟨d,O,q⟩:=sM (X:=X) B.toBG n r;exact⟨d,O,am (aa (am (aa (aC (bj QQ (aF A))) (aa (ak (ak vI (aC (bj QQ (aF I))) (p9 (by decide))) (aC bO) cU) vN)) a) vN) q⟩
   refine aH (bN (ds:=t.map .tup) N (bW QQ H) ?_) (bq ⟨QQ,t++[J],λr a=>(zA.mp a).elim (h1 r) λa=>y3.mp a▸⟨M,λd q=>(q2 d q).cell⟩,?_,?_,ag QQ (ao A),ag QQ (ao C)⟩)
   ·rw[yI,f]
    exact yZ (by rw[zJ,EN,z6] at u;exact u) (yD s (by decide))
   ·rw[yY,yY,f];rfl
   ·rw[ez];exact dg
  refine aH (bh (d:=.int (i - i % 3 / 2)) (fr:=yz) (aq (ak (vr aw) (ak (ak (vr aw) vI (aO (by decide))) vI (bo (by unfold lim;decide))) uR) QQ QQ) QQ) (cD (k:=(i:Int) % 5 == 4) (ax (ak (vr (ag QQ aw)) vI (aO (by decide))) vI QQ) QQ (λZ=>?_) λZ=>?_)
  ·exact aH (bh (d:=.int 0) (fr:=yz) (aq vI QQ QQ) QQ) (fin 0 _ (bD QQ (bD QQ (bD QQ o))) (ag QQ (ag QQ (ag QQ w))) (ag QQ (ag QQ (ag QQ y))) aw)
  ·exact fin _ _ (bD QQ (bD QQ o)) (ag QQ (ag QQ w)) (ag QQ (ag QQ y)) aw)
 refine⟨t,h1,f.trans (by rw[AR,zJ]),au B.rowsBy QQ ?_⟩
 exact aB (ai (d:=.list []) (fr:=yC) QQ) (dW (x:=.rng 0 k) (bR (aa (d:=.int k) (vr (ag QQ (ae QQ (ae QQ ad)))) vN) (jd (yD s (by decide)))) (dS k) e (dK o))
noncomputable abbrev tabsB:yA MS:=[.x0 "_law_shape" (.call "_law_cell_at" [.u "_law_script",.u "_law_k"]),.x0 "_law_cell" (.call "_law_mixed" [.call "_law_cell_at" [.u "_law_script",.bin .Add (.int 3) (.u "_law_k")],.bin .Add (.int 80) (.u "_law_more")]),.setk "_law_tables_here" (.sub (.u "_law_names_here") (.u "_law_k")) (.call "_law_rows_by" [.u "_law_cell",.call "_law_wide_by" [.u "_law_shape"],.call "_law_rows_of" [.u "_law_shape"]])]
structure TabI(S:D)(a b c:Str)(more:Int)(ks vs:yA D)(σ:St):Prop where
 s:Has σ "_law_script" S
 m:Has σ "_law_more" (.int more)
 n:Has σ "_law_names_here" (.list [.str a,.str b,.str c])
 t:bF σ "_law_tables_here" (.dict ks vs)
theorem mf(B:BT P)(n:Nat)(ns:yA Int){a b c:Str}{more:Int}{i:Nat}{nm:Str}{ks vs:yA D}(o:aV (.list [.str a,.str b,.str c]) (.int i)=ac (.str nm))(u:dL (.str nm) ks=yC)(w:ks.length<4)(h:∀ x∈ks,aN x (.str nm)=yz)(f:ks.length=vs.length){σ:St}(I:TabI (.list (ns.map .int)) a b c more ks vs σ) :
  ∃ t Fd,(aP (aR (ns.getD i 0)) t/\t.length=cT (ns.getD i 0))/\TabI (.list (ns.map .int)) a b c more (ks++[.str nm]) (vs++[az t]) Fd/\bk (af P X (n+4)) tabsB (ay σ "_law_k" (yz,.int i))=ac (.next,Fd):=by
 have c1:=eO (X:=X) B.toBG (n+3) ns i;have c2:=eO (X:=X) B.toBG (n+3) ns (3+i);obtain⟨x,_,y⟩:=mixed (X:=X) B.toBG (n+3) (ns.getD (3+i) 0) (80+more);obtain⟨t,z,A,C⟩:=rows_by (X:=X) B (n+1) x (m:=aR (ns.getD i 0)) (k:=cT (ns.getD i 0)) (yD (uY _) (by decide)) (yD (n6 (X:=X) B.toBE 0 _).1 (by decide))
 have E:=lv (X:=X) B.toBE (n+3) (ns.getD i 0);have w2:=(n6 (X:=X) B.toBE (n+3) (ns.getD i 0)).2;have G:((3+i:Nat):Int)=3+(i:Int):=Au 3 i;rw[G] at c2;obtain⟨j,Fd,⟨rfl,q⟩,e⟩:Out (af P X (n+4)) tabsB (ay σ "_law_k" (yz,.int i)) λj Fd=>j=.next/\TabI (.list (ns.map .int)) a b c more (ks++[.str nm]) (vs++[az t]) Fd:=by
  refine aH (bh (d:=.int (ns.getD i 0)) (fr:=yz) (aD (vv (ag QQ I.s) (vv aw vN)) c1) QQ) ?_;refine aH (bh (d:=.int x) (fr:=yz) (aD (aa (am (vv (ag QQ (ag QQ I.s)) (aa (ak vI (vr (ag QQ aw)) cU) vN)) c2) (aa (ak vI (vr (ag QQ (ag QQ I.m))) cU) vN)) y) QQ) ?_;refine aH (uE (d:=az t) (dk:=.str nm) (ks:=ks) (vs:=vs) (am (vv aw (aa (am (vv (ag QQ aw) vN) E) (aa (am (vv (ag QQ aw) vN) w2) vN))) C) (av (vr (ag QQ (ag QQ (ag QQ I.n)))) (vr (ag QQ (ag QQ aw))) o) (bW QQ (bW QQ (bD QQ (bD QQ (bD QQ I.t))))) (by rw[u,Af (zM w (by decide))];rfl)) (bq ⟨QQ,?_,?_,?_,?_⟩)
  ·exact ag QQ (ao (ao (ag QQ (ag QQ (ag QQ I.s)))))
  ·exact ag QQ (ao (ao (ag QQ (ag QQ (ag QQ I.m)))))
  ·exact ag QQ (ao (ao (ag QQ (ag QQ (ag QQ I.n)))))
  ·rw[sA f h];exact dg
 exact⟨t,Fd,⟨z,A⟩,q,e⟩
theorem for3{cf:CF}{body:yA MS}{z:yF}{σ a b c:St}{f h d2:D}(i:bk cf body (ay σ z (yz,f))=ac (.next,a))(e1:bk cf body (ay a z (yz,h))=ac (.next,b))(j:bk cf body (ay b z (yz,d2))=ac (.next,c)):cF (dq cf body z) [f,h,d2] σ=ac (.next,c):=by
 rw[cy,i];show cF _ _ _=_;rw[cy,e1];show cF _ _ _=_;rw[cy,j];rfl
theorem qE(B:BT P)(n:Nat)(ns:yA Int)(more:Int){a b c:Str}(q:a≠b)(s:a≠c)(u:b≠c)(C:(af P X (n+4)).call "_law_names" [.list (ns.map .int)]=ac (.list [.str a,.str b,.str c],yC)) :
  ∃ f j m,((aP (aR (ns.getD 0 0)) f/\f.length=cT (ns.getD 0 0))/\(aP (aR (ns.getD 1 0)) j/\j.length=cT (ns.getD 1 0))/\(aP (aR (ns.getD 2 0)) m/\m.length=cT (ns.getD 2 0)))/\(af P X (n+5)).call "_law_tables" [.list (ns.map .int),.int more]=ac (Tbs.d [(a,f),(b,j),(c,m)],yC):=by
 have E:TabI (.list (ns.map .int)) a b c more [] [] (freeze [] (ay (ay (freeze ["_law_script"] [("_law_script",(yz,.list (ns.map .int))),("_law_more",(yz,.int more))]) "_law_names_here" (yC,.list [.str a,.str b,.str c])) "_law_tables_here" (yC,.dict [] []))):=⟨bT (ag QQ (ag QQ (bT ad))),bT (ag QQ (ag QQ (bT (ae QQ ad)))),bT (ag QQ aw),gz QQ dg⟩;have o:∀ {x y:Str},x≠y->∀ z∈[D.str x],aN z (.str y)=yz:=λh z w=>y3.mp w▸oG h
 obtain⟨f,G,H,I,J⟩:=mf (X:=X) B n ns (i:=0) (nm:=a) (ks:=[]) (vs:=[]) QQ QQ (yM QQ) (λx (h:x∈[])=>nomatch h) QQ E
 obtain⟨j,L,M,N,e1⟩:=mf (X:=X) B n ns (i:=1) (nm:=b) (ks:=[.str a]) (vs:=[az f]) QQ QQ (yM QQ) (o q) QQ I;obtain⟨m,A,O,T,U⟩:=mf (X:=X) B n ns (i:=2) (nm:=c) (ks:=[.str a,.str b]) (vs:=[az f,az j]) QQ QQ (yM QQ) (λz w=>(yX.mp w).elim (λe=>e▸oG s) (o u z)) QQ N
 refine⟨f,j,m,⟨H,M,O⟩,au B.tables QQ ?_⟩;refine aB (ai (aD (vv ad vN) C)) (aB (ai (d:=.dict [] []) (fr:=yC) QQ) ?_);refine dW (x:=.rng 0 3) (EX:=[.int 0,.int 1,.int 2]) (Fd:=A) QQ QQ ?_ (dK T.t);exact for3 J e1 U
end
set_option maxHeartbeats 400000
noncomputable def q8:Fn:=⟨["clause","places"],[
  .x0 "found" (.lst []),
  .for_ "test" (.u "clause") [.x0 "other" (.sub (.u "test") (.int 3)),.ite (.cmp .Eq (.sub (.u "test") (.int 2)) (.str "col")) [.x0 "other" (.sub (.u "places") (.sub (.u "test") (.int 3)))] [],.append "found" (.tup [.sub (.u "test") (.int 0),.sub (.u "places") (.sub (.u "test") (.int 1)),.sub (.u "test") (.int 2),.u "other"])],
  .ret (.blt "tuple" [.u "found"])]⟩
noncomputable def wv:Fn:=⟨["clauses","query"],[
  .ite (.cmp .Eq (.u "clauses") (.lst [])) [.ret (.u "query")] [],
  .ret (.tup [.str "sieve",.blt "tuple" [.u "clauses"],.u "query"])]⟩
noncomputable def k8:Fn:=⟨["clause"],[
  .ret (.bop .And [.cmp .Eq (.blt "len" [.u "clause"]) (.int 1),.cmp .Eq (.sub (.sub (.u "clause") (.int 0)) (.int 0)) (.str "same"),.cmp .Eq (.sub (.sub (.u "clause") (.int 0)) (.int 2)) (.str "col")])]⟩
noncomputable def fB:Fn:=⟨["query","clauses","widths"],[
  .x0 "own" (.call "width" [.sub (.u "query") (.int 1),.u "widths"]),
  .x0 "many" (.bin .Add (.u "own") (.call "width" [.sub (.u "query") (.int 2),.u "widths"])),
  .x0 "moved" (.comp (.bin .Sub (.u "place") (.u "own")) "place" (.blt "range" [.u "many"]) []),
  .x0 "ahead" (.lst []),
  .x0 "behind" (.lst []),
  .x0 "pairs" (.lst []),
  .x0 "kept" (.lst []),
  .for_ "clause" (.u "clauses") [.x0 "places" (.call "places_of" [.u "clause"]),.ite (.bop .Or [.cmp .Eq (.u "places") (.lst []),.cmp .Lt (.sub (.u "places") (.neg (.int 1))) (.u "own")]) [.append "ahead" (.u "clause")] [.ite (.cmp .GtE (.sub (.u "places") (.int 0)) (.u "own")) [.append "behind" (.call "turned" [.u "clause",.u "moved"])] [.ite (.call "is_pair" [.u "clause"]) [.append "pairs" (.tup [.sub (.u "places") (.int 0),.bin .Sub (.sub (.u "places") (.int 1)) (.u "own")])] [.append "kept" (.u "clause")]]]],
  .x0 "first" (.call "placed" [.sub (.u "query") (.int 1),.u "ahead",.u "widths"]),
  .x0 "second" (.call "placed" [.sub (.u "query") (.int 2),.u "behind",.u "widths"]),
  .ret (.call "over" [.u "kept",.tup [.str "join",.u "first",.u "second",.bin .Add (.sub (.u "query") (.int 3)) (.blt "tuple" [.u "pairs"])]])]⟩
noncomputable def e9:Fn:=⟨["query","clauses","widths"],[
  .x0 "inner" (.lst []),
  .x0 "kept" (.lst []),
  .for_ "clause" (.u "clauses") [.x0 "places" (.call "places_of" [.u "clause"]),.ite (.bop .Or [.cmp .Eq (.u "places") (.lst []),.cmp .Lt (.sub (.u "places") (.neg (.int 1))) (.blt "len" [.sub (.u "query") (.int 1)])]) [.append "inner" (.call "turned" [.u "clause",.sub (.u "query") (.int 1)])] [.append "kept" (.u "clause")]],
  .ret (.call "over" [.u "kept",.tup [.str "group",.sub (.u "query") (.int 1),.sub (.u "query") (.int 2),.call "placed" [.sub (.u "query") (.int 3),.u "inner",.u "widths"]]])]⟩
noncomputable def kA:Fn:=⟨["query","clauses","widths"],[
  .x0 "word" (.sub (.u "query") (.int 0)),
  .ite (.cmp .Eq (.u "word") (.str "sieve")) [.ret (.call "placed" [.sub (.u "query") (.int 2),.bin .Add (.lcp (.sub (.u "query") (.int 1))) (.u "clauses"),.u "widths"])] [],
  .ite (.cmp .Eq (.u "word") (.str "pick")) [.x0 "inner" (.comp (.call "turned" [.u "clause",.sub (.u "query") (.int 1)]) "clause" (.u "clauses") []),.ret (.tup [.str "pick",.sub (.u "query") (.int 1),.call "placed" [.sub (.u "query") (.int 2),.u "inner",.u "widths"]])] [],
  .ite (.cmp .Eq (.u "word") (.str "order")) [.ret (.tup [.str "order",.sub (.u "query") (.int 1),.call "placed" [.sub (.u "query") (.int 2),.u "clauses",.u "widths"]])] [],
  .ite (.cmp .Eq (.u "word") (.str "once")) [.ret (.tup [.str "once",.call "placed" [.sub (.u "query") (.int 1),.u "clauses",.u "widths"]])] [],
  .ite (.cmp .Eq (.u "word") (.str "both")) [.x0 "first" (.call "placed" [.sub (.u "query") (.int 1),.u "clauses",.u "widths"]),.ret (.tup [.str "both",.u "first",.call "placed" [.sub (.u "query") (.int 2),.u "clauses",.u "widths"]])] [],
  .ite (.cmp .Eq (.u "word") (.str "join")) [.ret (.call "through_join" [.u "query",.u "clauses",.u "widths"])] [],
  .ite (.cmp .Eq (.u "word") (.str "group")) [.ret (.call "through_group" [.u "query",.u "clauses",.u "widths"])] [],
  .ite (.cmp .Eq (.u "word") (.str "first")) [.ret (.call "over" [.u "clauses",.tup [.str "first",.sub (.u "query") (.int 1),.call "placed" [.sub (.u "query") (.int 2),.lst [],.u "widths"]]])] [],
  .ret (.call "over" [.u "clauses",.u "query"])]⟩
noncomputable def wt:Fn:=⟨["query","widths"],[
  .expr (.call "width" [.u "query",.u "widths"]),
  .ret (.call "placed" [.u "query",.lst [],.u "widths"])]⟩
structure BP(P:yA (yF×Fn)):Prop extends BW P where
 tu:P.lookup "turned"=ac q8
 ov:P.lookup "over"=ac wv
 ip:P.lookup "is_pair"=ac k8
 tj:P.lookup "through_join"=ac fB
 tg:P.lookup "through_group"=ac e9
 pl:P.lookup "placed"=ac kA
 pn:P.lookup "plan"=ac wt
noncomputable def di(f:Nat->Nat)(t:D):D:=match t with
 | .tup [w,.int p,.str k,o]=>.tup [w,aM (f p.toNat),.str k,if k == yB "col" then (match o with | .int q=>aM (f q.toNat) | _=>.none) else o]
 | _=>.none
theorem kg(f:Nat->Nat)(w:yF)(p q:Nat):di f (tst w p "col" (.int q))=.tup [.str (yB w),aM (f p),.str (yB "col"),aM (f q)]:=by
 show D.tup [_,_,_,if _ then _ else _]=_
 rw[yT col_t];rfl
theorem ly(f:Nat->Nat)(w:yF)(p:Nat)(o:D):di f (tst w p "is" o)=.tup [.str (yB w),aM (f p),.str (yB "is"),o]:=by
 show D.tup [_,_,_,if _ then _ else _]=_
 rw[yV (by rw[ya];exact yQ)];rfl
theorem turnN_tst{m m':Nat}{f:Nat->Nat}{t:D}(c:Tst m t)(a:∀ p:Nat,(p:Int)∈fS t->f p<m'):Tst m' (di f t):=by
 obtain⟨w,p,b,_,⟨q,_,rfl⟩ | ⟨o,h,rfl⟩⟩:=c
 ·rw[gF] at a
  exact⟨w,f p,b,a p (.head _),.inl ⟨f q,a q (.tail _ (.head _)),kg f w p q⟩⟩
 ·rw[kY] at a
  exact⟨w,f p,b,a p (.head _),.inr ⟨o,h,ly f w p o⟩⟩
theorem qB{m m':Nat}{f:Nat->Nat}{c:yA D}(a:bV m c)(h:∀ t∈c,∀ p:Nat,(p:Int)∈fS t->f p<m'):bV m' (c.map (di f)):=
 ⟨λt i=>by
  obtain⟨u,b,rfl⟩:=zn.mp i;exact turnN_tst (a.1 u b) (h u b),by rw[yI];exact a.2⟩
theorem lG{m:Nat}{t:D}(b:Tst m t){z:Int}(hz:z∈fS t):∃ p:Nat,z=p/\p<m:=by
 obtain⟨w,p,_,a,⟨q,hq,rfl⟩ | ⟨o,_,rfl⟩⟩:=b
 ·rw[gF] at hz
  rcases yX.mp hz with rfl | hz
  ·exact⟨p,QQ,a⟩
  ·exact⟨q,y3.mp hz,hq⟩
 ·rw[kY] at hz
  exact⟨p,y3.mp hz,a⟩
section
variable {P:yA (yF×Fn)} {X:CF} {m:Nat}
theorem uu(B:BP P)(n:Nat){c:yA D}{pl:D}{f:Nat->Nat}(G:∀ t∈c,Tst m t)(C:c.length<=31)(A:∀ t∈c,∀ p:Nat,(p:Int)∈fS t->aV pl (.int p)=ac (aM (f p))):(af P X (n+1)).call "turned" [.tup c,pl]=ac (.tup (c.map (di f)),yz):=by
 have h:2000<big:=by decide
 refine au B.tu QQ ?_;refine aB (ai (d:=.list []) (fr:=yC) QQ) ?_;obtain⟨Fd,⟨_,u⟩,H⟩:=fU (cf:=af P X n) (body:=[.x0 "other" (.sub (.u "test") (.int 3)),.ite (.cmp .Eq (.sub (.u "test") (.int 2)) (.str "col")) [.x0 "other" (.sub (.u "places") (.sub (.u "test") (.int 3)))] [],.append "found" (.tup [.sub (.u "test") (.int 0),.sub (.u "places") (.sub (.u "test") (.int 1)),.sub (.u "test") (.int 2),.u "other"])]) (z:="test")
  (λa σ=>Has σ "places" pl/\bF σ "found" (.list (a.map (di f)))) c [] [("clause",(yz,.tup c)),("places",(yz,pl)),("found",(yC,.list []))] ⟨(ae QQ ad),QQ⟩ (by
   rintro a E b σ i ⟨j,u⟩;rw[AR] at i;have hit:E∈c:=by rw[i];simp
   have s:a.length<c.length:=by rw[i];simp
   obtain⟨w,p,J,_,⟨q,hq,rfl⟩ | ⟨o,I,rfl⟩⟩:=G E hit
   ·rw[zd,y8,EJ,kg]
    refine aH (ai (d:=.int q) (fr:=yz) (aq (av (x:=tst w p "col" (.int q)) (y:=.int 3) (vr aw) vI QQ) QQ QQ)) ?_;refine cD (k:=yC) (ax (av (x:=tst w p "col" (.int q)) (y:=.int 2) (vr (ag QQ (ao aw))) vI QQ) vS x0) QQ (λZ=>?_) nofun
    refine aH (ai (d:=aM (f q)) (fr:=yz) (aq (av (x:=pl) (y:=.int q) (vr (ag QQ (ao (ag QQ j)))) (av (x:=tst w p "col" (.int q)) (y:=.int 3) (vr (ag QQ (ao aw))) vI QQ) (A _ hit q (by rw[gF];exact .tail _ (.head _)))) QQ QQ)) ?_
    refine aH (bN (d:=.tup [.str (yB w),aM (f p),.str (yB "col"),aM (f q)]) (ds:=a.map (di f))
     (bA (aa (av (x:=tst w p "col" (.int q)) (y:=.int 0) (vr (ag QQ (ao (ag QQ (ao aw))))) vI QQ) (aa (av (x:=pl) (y:=.int p) (vr (ag QQ (ao (ag QQ (ao (ag QQ j)))))) (av (x:=tst w p "col" (.int q)) (y:=.int 1) (vr (ag QQ (ao (ag QQ (ao aw))))) vI QQ) (A _ hit p (by rw[gF];exact .head _))) (aa (av (x:=tst w p "col" (.int q)) (y:=.int 2) (vr (ag QQ (ao (ag QQ (ao aw))))) vI QQ) (vv aw vN)))) (yM QQ)) (?_:bF _ _ _) (by rw[yI];exact om84 C h s)) (bq ⟨QQ,?_,dg⟩)
    ·exact bW QQ (bD QQ (bW QQ (bD QQ (bW QQ (bD QQ u)))))
    ·exact ag QQ (ao (ag QQ (ao (ag QQ (ao (ag QQ j))))))
   ·rw[zd,y8,EJ,ly]
    refine aH (bh (d:=o) (fr:=yz) (aq (av (x:=tst w p "is" o) (y:=.int 3) (vr aw) vI QQ) QQ QQ) I.cell) ?_;refine cD (k:=yz) (ax (av (x:=tst w p "is" o) (y:=.int 2) (vr (ag QQ aw)) vI QQ) vS eq_is) QQ nofun λZ=>?_
    refine aH (bN (d:=.tup [.str (yB w),aM (f p),.str (yB "is"),o]) (ds:=a.map (di f))
     (bA (aa (av (x:=tst w p "is" o) (y:=.int 0) (vr (ag QQ aw)) vI QQ) (aa (av (x:=pl) (y:=.int p) (vr (ag QQ (ag QQ j))) (av (x:=tst w p "is" o) (y:=.int 1) (vr (ag QQ aw)) vI QQ) (A _ hit p (by rw[kY];exact .head _))) (aa (av (x:=tst w p "is" o) (y:=.int 2) (vr (ag QQ aw)) vI QQ) (vv aw vN)))) (yM QQ)) (?_:bF _ _ _) (by rw[yI];exact om84 C h s)) (bq ⟨QQ,?_,dg⟩)
    ·exact bW QQ (bD QQ (bD QQ u))
    ·exact ag QQ (ao (ag QQ (ag QQ j))))
 exact dW (x:=.tup c) (EX:=c) QQ QQ H (aE (aq (bR (aa (d:=.list (c.map (di f))) (vr (iy u)) vN) QQ) QQ QQ) QQ)
theorem n8(B:BP P)(n:Nat){cs:yA (yA D)}{q:D}(hq:q.isCell=yz):(af P X (n+1)).call "over" [.list (cs.map clD),q]=ac (if cs=[] then q else .tup [sD "sieve",.tup (cs.map clD),q],yz):=by
 refine au B.ov QQ ?_;cases cs with
 | nil=>
  rw[yT rfl];exact bc (k:=yC) (x:=.bool yC) QQ QQ (λZ=>dK QQ) nofun
 | cons c cs=>
  rw[yV (by nofun)]
  refine bc (k:=yz) (x:=.bool yz) QQ QQ nofun λZ=>?_
  exact aE (aq (bA (aa vS (aa (bR (aa (d:=.list ((c::cs).map clD)) QQ vN) QQ) (aa (d:=q) QQ vN))) (yM QQ)) QQ QQ) QQ
end
set_option maxHeartbeats 400000
noncomputable def gC(c:yA D):yA Int:=c.flatMap fS
noncomputable def cQ(Fb:Nat)(c:yA D):yH:=(gC c).all λz=>decide (z<Fb)
noncomputable def je(Fb:Nat)(c:yA D):yH:=(gC c).all λz=>decide ((Fb:Int)<=z)
noncomputable def pairT(t:D):yH:=match t with
 | .tup [.str w,_,.str k,_]=>w == yB "same"&&k == yB "col"
 | _=>yz
noncomputable def qN(c:yA D):yH:=match c with
 | [t]=>pairT t
 | _=>yz
theorem mz(t u:D)(r:yA D):qN (t::u::r)=yz:=rfl
noncomputable def cat(Fb:Nat)(c:yA D):Nat:=if cQ Fb c=yC then 0 else if je Fb c=yC then 1 else if qN c=yC then 2 else 3
theorem all_iff{l b:yA Int}(h:∀ z,z∈l↔z∈b)(p:Int->yH):l.all p=b.all p:=by
 rw[AY,zk,zk];exact⟨λq z a=>q z ((h z).mpr a),λq z a=>q z ((h z).mp a)⟩
theorem uS(c:yA D)(p:Int->yH):(cL (gC c)).all p=(gC c).all p:=all_iff (λz=>ii z _) p
theorem srt_last{l:yA Int}(h:l.Pairwise (·<·)){r:yA Int}{z:Int}(e:l=r++[z])(k:Int):(l.all λx=>decide (x<k))=decide (z<k):=by
 subst e;rw[CS] at h;rw[AY,zk,BH]
 constructor
 ·intro q;exact zG (q z (zQ _ (.head _)))
 ·intro q x hx
  refine Af ?_
  rcases zA.mp hx with hx | hx
  ·have:=h.2.2 x hx z (.head _);exact om85 q this
  ·rw[y3.mp hx];exact q
theorem srt_head{l:yA Int}{r:yA Int}{a:Int}(h:(a::r).Pairwise (·<·))(k:Int):((a::r).all λx=>decide (k<=x))=decide (k<=a):=by
 rw[At] at h;rw[AY,zk,BH]
 constructor
 ·intro q;exact zG (q a (.head _))
 ·intro q x hx
  refine Af ?_
  rcases yX.mp hx with rfl | hx
  ·exact q
  ·have:=h.1 x hx;exact om86 q this
theorem sub_last{r:yA D}{z:D}:aV (.list (r++[z])) (.int (-1))=ac z:=by
 show (idx (-1) (r++[z]).length).bind _=_;have:idx (-1) (r++[z]).length=ac r.length:=by
  unfold idx;rw[yV (om87),yT (by simp;exact om88)]
  simp;exact om89
 rw[this];simp
section
variable {cf:CF} {σ:St} {c:yA D}
theorem uZ{e:ME}{Fb:Nat}(h:Has σ "places" (.list ((cL (gC c)).map .int)))(he:evE cf (vis σ) e=ac (.int Fb)) :
  evE cf (vis σ) (.bop .Or [.cmp .Eq (.u "places") (.lst []),.cmp .Lt (.sub (.u "places") (.neg (.int 1))) e])=ac (.bool (cQ Fb c)):=by
 have a:=kf (gC c);unfold cQ;rw[<- uS];generalize cL (gC c)=l at *
 rcases List.eq_nil_or_concat l with rfl | ⟨r,z,rfl⟩
 ·exact gB (k:=yC) (l:=yC) (ax (vr h) (cR vN (za _)) QQ) nofun
 ·rw[List.concat_eq_append] at *
  rw[srt_last a rfl];have h1:ec .Eq (.list ((r++[z]).map .int)) (.list [])=ac (.bool yz):=by
   show (if ((r++[z]).map D.int).length=0 then _ else ac yz).map D.bool=_
   rw[yV (by simp)];rfl
  rw[zd] at h h1;exact gB (k:=yz) (l:=decide (z<Fb)) (ax (vr h) (cR vN (za _)) h1) λZ=>bC (ax (av (vr h) ur sub_last) he QQ)
theorem us_ne{Fb:Nat}(h:cQ Fb c=yz):∃ a r,cL (gC c)=a::r:=by
 cases e:cL (gC c) with
 | nil=>
  unfold cQ at h;rw[<- uS,e] at h;cases h
 | cons a r=>exact⟨a,r,QQ⟩
theorem v_behind{Fb:Nat}(f:cQ Fb c=yz)(h:Has σ "places" (.list ((cL (gC c)).map .int)))(i:Has σ "own" (.int Fb)) :
  evE cf (vis σ) (.cmp .GtE (.sub (.u "places") (.int 0)) (.u "own"))=ac (.bool (je Fb c)):=by
 have b:=kf (gC c);obtain⟨a,r,e⟩:=us_ne f;unfold je;rw[e] at h b;rw[<- uS,e,srt_head (l:=[]) b];exact ax (x:=.int a) (vsi h (lz (k:=0) (by simp) QQ)) (vr i) QQ
end
theorem tst_parts{m:Nat}{t:D}(a:Tst m t):∃ w k o p,t=.tup [.str w,.int p,.str k,o]/\(k=yB "col"\/k=yB "is"):=by
 obtain⟨w,p,_,_,⟨q,_,rfl⟩ | ⟨o,_,rfl⟩⟩:=a
 ·exact⟨_,_,_,_,QQ,.inl QQ⟩
 ·exact⟨_,_,_,_,QQ,.inr QQ⟩
section
variable {P:yA (yF×Fn)} {X:CF} {m:Nat}
theorem is_pair(B:BP P)(n:Nat){c:yA D}(a:bV m c):(af P X (n+1)).call "is_pair" [clD c]=ac (.bool (qN c),yz):=by
 refine au B.ip QQ ?_;show Run _ k8.body [("clause",(yz,.tup c))] _ _;generalize af P X n=cf at *
 match c,a with
 | [],_=>exact aE (aq (dh (k:=yz) (l:=yz) (ax (x:=.int 0) (y:=.int 1) QQ QQ QQ) nofun) QQ QQ) QQ
 | t::u::r,_=>
  have h1:ec .Eq (.int ((t::u::r).length:Nat)) (.int 1)=ac (.bool yz):=by
   show ac (D.bool (((t::u::r).length:Int) == 1))=_;rw[show ((((t::u::r).length:Nat):Int) == 1)=yz from by rw[An];simp;exact om90]
  rw[mz];exact aE (aq (dh (k:=yz) (l:=yz) (ax (bR (aa (d:=.tup (t::u::r)) QQ vN) QQ) vI h1) nofun) QQ QQ) QQ
 | [t],a=>
  obtain⟨w,k,o,p,rfl,b⟩:=tst_parts (a.1 t (.head _));have e:qN [.tup [.str w,.int p,.str k,o]]=(yC&&((w == yB "same")&&(k == yB "col"))):=rfl;rw[e];exact aE (aq (dh (k:=yC) (ax (x:=.int 1) (y:=.int 1) QQ QQ QQ) λZ=>dh (k:=w == yB "same") (l:=k == yB "col") (ax (av (x:=.tup [.str w,.int p,.str k,o]) (y:=.int 0) QQ QQ QQ) vS QQ) λZ=>bC (ax (av (x:=.tup [.str w,.int p,.str k,o]) (y:=.int 2) QQ QQ QQ) vS QQ)) QQ QQ) QQ
end
noncomputable def uC(Fb:Nat)(c:yA D):Nat×Nat:=match cL (gC c) with
 | a::b::_=>(a.toNat,b.toNat - Fb)
 | _=>(0,0)
theorem xw{Fb:Nat}{m:Nat}{c:yA D}(n:bV m c)(h:cat Fb c=2):∃ a b:Nat,cL (gC c)=[(a:Int),(b:Int)]/\a<Fb/\Fb<=b/\b<m/\uC Fb c=(a,b - Fb):=by
 unfold cat at h;split at h
 ·cases h
 rename_i h1
 split at h
 ·cases h
 rename_i j
 split at h
 case isFalse=>cases h
 rename_i i
 match c,n,i with
 | [],_,i=>cases i
 | t::u::r,_,i=>rw[mz] at i;cases i
 | [t],n,i=>
  obtain⟨w,p,z,y,⟨q,hq,rfl⟩ | ⟨o,A,rfl⟩⟩:=n.1 t (.head _)
  ·have e:gC [tst w p "col" (.int q)]=[(p:Int),(q:Int)]:=rfl
   unfold cQ at h1;unfold je at j;rw[e] at h1 j;simp only[AU,List.all_nil,CX,Bb,BH,not_and,Bl,Et] at h1 j;unfold uC;rw[e]
   by_cases f:p<q
   ·have s:cL [(p:Int),(q:Int)]=[(p:Int),(q:Int)]:=by
     show mL p (mL q [])=_;simp only[mL];rw[yT (om35 f)]
    rw[s];exact⟨p,q,QQ,by exact om91 j f,by exact om92 h1 f,hq,by simp⟩
   ·have s:cL [(p:Int),(q:Int)]=[(q:Int),(p:Int)]:=by
     show mL p (mL q [])=_;simp only[mL];rw[yV (om93 f),yV (om94 h1 j)]
    rw[s];exact⟨q,p,QQ,by exact om95 j f,by exact om96 h1 f,y,by simp⟩
  ·have i:((yB w == yB "same")&&(yB "is" == yB "col"))=yC:=i
   rw[ya,CB] at i;cases i
set_option maxHeartbeats 400000
noncomputable def bY(Fb:Nat)(cl:yA (yA D)):yA (yA D):=cl.filter λc=>cat Fb c == 0
noncomputable def aW(Fb:Nat)(cl:yA (yA D)):yA (yA D):=(cl.filter λc=>cat Fb c == 1).map λc=>c.map (di (· - Fb))
noncomputable def bL(Fb:Nat)(cl:yA (yA D)):yA (Nat×Nat):=(cl.filter λc=>cat Fb c == 2).map (uC Fb)
noncomputable def dD(Fb:Nat)(cl:yA (yA D)):yA (yA D):=cl.filter λc=>cat Fb c == 3
noncomputable def tA:yA MS:=[.x0 "places" (.call "places_of" [.u "clause"]),.ite (.bop .Or [.cmp .Eq (.u "places") (.lst []),.cmp .Lt (.sub (.u "places") (.neg (.int 1))) (.u "own")]) [.append "ahead" (.u "clause")] [.ite (.cmp .GtE (.sub (.u "places") (.int 0)) (.u "own")) [.append "behind" (.call "turned" [.u "clause",.u "moved"])] [.ite (.call "is_pair" [.u "clause"]) [.append "pairs" (.tup [.sub (.u "places") (.int 0),.bin .Sub (.sub (.u "places") (.int 1)) (.u "own")])] [.append "kept" (.u "clause")]]]]
structure JInv(Fb:Nat)(mv q T:D)(pre:yA (yA D))(σ:St):Prop where
 ow:Has σ "own" (.int Fb)
 mo:Has σ "moved" mv
 qu:Has σ "query" q
 wi:Has σ "widths" T
 ah:bF σ "ahead" (.list ((bY Fb pre).map clD))
 be:bF σ "behind" (.list ((aW Fb pre).map clD))
 pr:bF σ "pairs" (.list ((bL Fb pre).map prT))
 ke:bF σ "kept" (.list ((dD Fb pre).map clD))
theorem bn{α:Type}(p:α->yH)(l:yA α)(x:α):(l++[x]).filter p=l.filter p++if p x=yC then [x] else []:=by
 rw[zP,Az,A7]
section
variable {P:yA (yF×Fn)} {X:CF} {m:Nat}
theorem join_turn(B:BP P)(n:Nat){Fb N:Nat}{mv q T:D}(L:∀ p:Nat,Fb<=p->p<Fb+N->aV mv (.int p)=ac (aM (p - Fb))){pre:yA (yA D)}{c:yA D}(j:bV (Fb+N) c)(V:pre.length<=5000){σ:St}(I:JInv Fb mv q T pre σ) :
  Out (af P X (n+1)) tA (ay σ "clause" (yz,clD c)) λY Fd=>Y=.next/\JInv Fb mv q T (pre++[c]) Fd:=by
 obtain⟨Z,Fg,Fh,Fi,Fj,Fk,Fm,Fo⟩:=I;have h:5000<big:=by decide
 have Fp:(af P X (n+1)).call "places_of" [clD c]=ac (.list ((cL (gC c)).map .int),yC):=mt (X:=X) B.toBW n j.1 j.2;have Fq:=is_pair (X:=X) B n j;have y:∀ p:yA D->yH,(pre.filter p).length<=5000:=λp=>yD (z7 _ _) V
 have O:Has (ay σ "clause" (yz,clD c)) "clause" (clD c):=aw;have c1:Has (ay σ "clause" (yz,clD c)) "own" (.int Fb):=ag QQ Z;have c2:Has (ay σ "clause" (yz,clD c)) "moved" mv:=ag QQ Fg;have c3:Has (ay σ "clause" (yz,clD c)) "query" q:=ag QQ Fh;have Fs:Has (ay σ "clause" (yz,clD c)) "widths" T:=ag QQ Fi;have Ft:bF (ay σ "clause" (yz,clD c)) "ahead" (.list ((bY Fb pre).map clD)):=bD QQ Fj;have Fu:bF (ay σ "clause" (yz,clD c)) "behind" (.list ((aW Fb pre).map clD)):=bD QQ Fk;have Fv:bF (ay σ "clause" (yz,clD c)) "pairs" (.list ((bL Fb pre).map prT)):=bD QQ Fm;have Fw:bF (ay σ "clause" (yz,clD c)) "kept" (.list ((dD Fb pre).map clD)):=bD QQ Fo;generalize ay σ "clause" (yz,clD c)=i at *;refine aH (ai (aD (vv O vN) Fp)) ?_;generalize Fz:D.list ((cL (gC c)).map .int)=pl at *;have z:Has (ay (settle pl (ME.names (.call "places_of" [.u "clause"])) i) "places" (yC,pl)) "clause" (clD c):=ag QQ (ao O);have m:Has (ay (settle pl (ME.names (.call "places_of" [.u "clause"])) i) "places" (yC,pl)) "own" (.int Fb):=ag QQ (ao c1);have d2:Has (ay (settle pl (ME.names (.call "places_of" [.u "clause"])) i) "places" (yC,pl)) "moved" mv:=ag QQ (ao c2);have A:Has (ay (settle pl (ME.names (.call "places_of" [.u "clause"])) i) "places" (yC,pl)) "query" q:=ag QQ (ao c3);have C:Has (ay (settle pl (ME.names (.call "places_of" [.u "clause"])) i) "places" (yC,pl)) "widths" T:=ag QQ (ao Fs);have E:bF (ay (settle pl (ME.names (.call "places_of" [.u "clause"])) i) "places" (yC,pl)) "ahead" (.list ((bY Fb pre).map clD)):=bD QQ (bW QQ Ft);have G:bF (ay (settle pl (ME.names (.call "places_of" [.u "clause"])) i) "places" (yC,pl)) "behind" (.list ((aW Fb pre).map clD)):=bD QQ (bW QQ Fu);have H:bF (ay (settle pl (ME.names (.call "places_of" [.u "clause"])) i) "places" (yC,pl)) "pairs" (.list ((bL Fb pre).map prT)):=bD QQ (bW QQ Fv);have J:bF (ay (settle pl (ME.names (.call "places_of" [.u "clause"])) i) "places" (yC,pl)) "kept" (.list ((dD Fb pre).map clD)):=bD QQ (bW QQ Fw)
 have u:Has (ay (settle pl (ME.names (.call "places_of" [.u "clause"])) i) "places" (yC,pl)) "places" (.list ((cL (gC c)).map .int)):=Fz▸aw;generalize ay (settle pl (ME.names (.call "places_of" [.u "clause"])) i) "places" (yC,pl)=FA at *;have FK:∀ k,(cat Fb c == k)=decide (cat Fb c=k):=λk=>by rw[AY,AZ,BH]
 refine cD (k:=cQ Fb c) (uZ u (vr m)) QQ (λo=>?_) λo=>?_
 ·have f:cat Fb c=0:=by unfold cat;rw[yT o]
  refine aH (bN (d:=clD c) (ds:=(bY Fb pre).map clD) (vr z) (bW QQ E) (by rw[yI];exact yO (y _) h)) (bq ⟨QQ,ag QQ (ao m),ag QQ (ao d2),ag QQ (ao A),ag QQ (ao C),?_,?_,?_,?_⟩)
  ·unfold bY;rw[bn,f,zd];exact dg
  ·unfold aW;rw[bn,f,yV (by decide),zm];exact bD QQ (bW QQ G)
  ·unfold bL;rw[bn,f,yV (by decide),zm];exact bD QQ (bW QQ H)
  ·unfold dD;rw[bn,f,yV (by decide),zm];exact bD QQ (bW QQ J)
 refine cD (k:=je Fb c) (v_behind o u m) QQ (λw=>?_) λw=>?_
 ·have f:cat Fb c=1:=by unfold cat;rw[yV (by rw[o];exact yQ),yT w]
  have k2:(af P X (n+1)).call "turned" [clD c,mv]=ac (clD (c.map (di (· - Fb))),yz):=uu (X:=X) B n j.1 j.2 λt U p s=>by
   have FE:(p:Int)∈gC c:=BQ.mpr ⟨t,U,s⟩;have h1:=zG (zk.mp w _ FE);obtain⟨FF,e,M⟩:=lG (j.1 t U) s;have:p=FF:=by exact om97 e
   exact L p (om98 h1) (om99 e M)
  refine aH (bN (d:=clD (c.map (di (· - Fb)))) (ds:=(aW Fb pre).map clD) (am (vv z (vv d2 vN)) k2) (bW QQ G) (by unfold aW;rw[yI,yI];exact yO (y _) h)) (bq ⟨QQ,ag QQ (ao m),ag QQ (ao d2),ag QQ (ao A),ag QQ (ao C),?_,?_,?_,?_⟩)
  ·unfold bY;rw[bn,f,yV (by decide),zm];exact bD QQ (bW QQ E)
  ·unfold aW;rw[bn,f,yT (by decide),zd,zd];exact dg
  ·unfold bL;rw[bn,f,yV (by decide),zm];exact bD QQ (bW QQ H)
  ·unfold dD;rw[bn,f,yV (by decide),zm];exact bD QQ (bW QQ J)
 refine cD (k:=qN c) (am (vv z vN) Fq) QQ (λs=>?_) λs=>?_
 ·have f:cat Fb c=2:=by unfold cat;rw[yV (by rw[o];exact yQ),yV (by rw[w];exact yQ),yT s]
  obtain⟨a,b,e1,h1,FG,FM,FH⟩:=xw j f;rw[e1] at u;have FJ:evE (af P X (n+1)) (vis FA) (.tup [.sub (.u "places") (.int 0),.bin .Sub (.sub (.u "places") (.int 1)) (.u "own")])=ac (prT (uC Fb c)):=by
   rw[FH];show _=ac (D.tup [.int a,.int (b - Fb:Nat)]);rw[Ce FG];exact bA (aa (vsi u QQ) (aa (ak (x:=.int b) (vsi u QQ) (vr m) QQ) vN)) (yM QQ)
  refine aH (bN (d:=prT (uC Fb c)) (ds:=(bL Fb pre).map prT) FJ (bW QQ H) (by unfold bL;rw[yI,yI];exact yO (y _) h)) (bq ⟨QQ,ag QQ (ao m),ag QQ (ao d2),ag QQ (ao A),ag QQ (ao C),?_,?_,?_,?_⟩)
  ·unfold bY;rw[bn,f,yV (by decide),zm];exact bD QQ (bW QQ E)
  ·unfold aW;rw[bn,f,yV (by decide),zm];exact bD QQ (bW QQ G)
  ·unfold bL;rw[bn,f,yT (by decide),zd,zd];exact dg
  ·unfold dD;rw[bn,f,yV (by decide),zm];exact bD QQ (bW QQ J)
 ·have f:cat Fb c=3:=by unfold cat;rw[yV (by rw[o];exact yQ),yV (by rw[w];exact yQ),yV (by rw[s];exact yQ)]
  refine aH (bN (d:=clD c) (ds:=(dD Fb pre).map clD) (vr z) (bW QQ J) (by unfold dD;rw[yI];exact yO (y _) h)) (bq ⟨QQ,ag QQ (ao m),ag QQ (ao d2),ag QQ (ao A),ag QQ (ao C),?_,?_,?_,?_⟩)
  ·unfold bY;rw[bn,f,yV (by decide),zm];exact bD QQ (bW QQ E)
  ·unfold aW;rw[bn,f,yV (by decide),zm];exact bD QQ (bW QQ G)
  ·unfold bL;rw[bn,f,yV (by decide),zm];exact bD QQ (bW QQ H)
  ·unfold dD;rw[bn,f,yT (by decide),zd];exact dg
end
set_option maxHeartbeats 400000
noncomputable def nl(cs:yA (yA D))(q:D):D:=if cs=[] then q else .tup [sD "sieve",.tup (cs.map clD),q]
section
variable {P:yA (yF×Fn)} {X:CF}
theorem through_join(B:BP P)(n:Nat){Fb j:Nat}(U:Fb+j<=5000){I J T Da f:D}{prs:yA D}{cl:yA (yA D)}(A:∀ c∈cl,bV (Fb+j) c)(V:cl.length<=5000)(C:prs.length<=5000)
  (Fh:(af P X (n+1)).call "width" [I,T]=ac (.int Fb,yz)) (w2:(af P X (n+1)).call "width" [J,T]=ac (.int j,yz))
  (Fi:(af P X (n+1)).call "placed" [I,.list ((bY Fb cl).map clD),T]=ac (Da,yz)) (Fj:(af P X (n+1)).call "placed" [J,.list ((aW Fb cl).map clD),T]=ac (f,yz)) :
  (af P X (n+2)).call "through_join" [.tup [sD "join",I,J,.tup prs],.list (cl.map clD),T]=ac (nl (dD Fb cl) (.tup [sD "join",Da,f,.tup (prs++(bL Fb cl).map prT)]),yz):=by
 have m:20000<big:=by decide
 refine au B.tj QQ ?_;have Fk:=n8 (X:=X) B n (cs:=dD Fb cl) (q:=.tup [sD "join",Da,f,.tup (prs++(bL Fb cl).map prT)]) QQ;refine aB (ai (d:=.int Fb) (fr:=yz) (aD (aa (d:=I) QQ (aa (d:=T) QQ vN)) Fh)) ?_;refine aB (ai (d:=.int (Fb+j:Nat)) (fr:=yz) (aq (ak (x:=.int Fb) (y:=.int j) QQ (am (aa (d:=J) QQ (aa (d:=T) QQ vN)) w2) (by rw[Au];rfl)) QQ QQ)) ?_
 refine r_norm (Fd:=[("query",(yz,.tup [sD "join",I,J,.tup prs])),("clauses",(yz,.list (cl.map clD))),("widths",(yz,T)),("own",(yz,.int Fb)),("many",(yz,.int (Fb+j:Nat)))]) QQ ?_;have E:evE (af P X (n+1)) (vis [("query",(yz,.tup [sD "join",I,J,.tup prs])),("clauses",(yz,.list (cl.map clD))),("widths",(yz,T)),("own",(yz,.int Fb)),("many",(yz,.int (Fb+j:Nat)))]) (.comp (.bin .Sub (.u "place") (.u "own")) "place" (.blt "range" [.u "many"]) [])=ac (.list ((zf (Fb+j)).map λ(i:Nat)=>D.int ((i:Int) - Fb))):=by
  refine gQ (bR (aa (d:=.int (Fb+j:Nat)) QQ vN) (jd (om100 U m))) (dS _) (by rw[yI,zJ];exact om100 U m) ?_
  have:∀ l:yA Nat,bS (kO (af P X (n+1)) (vis [("query",(yz,.tup [sD "join",I,J,.tup prs])),("clauses",(yz,.list (cl.map clD))),("widths",(yz,T)),("own",(yz,.int Fb)),("many",(yz,.int (Fb+j:Nat)))]) (.bin .Sub (.u "place") (.u "own")) "place" []) (l.map λ(i:Nat)=>D.int (i:Int))=ac (l.map λ(i:Nat)=>D.int ((i:Int) - Fb)):=λl=>by
   induction l with
   | nil=>rfl
   | cons x l G=>
    rw[y8,bS,fN (d:=.int ((x:Int) - Fb)) (ak (x:=.int x) (y:=.int Fb) rfl rfl rfl)];dsimp only;rw[G];rfl
  exact this _
 refine aB (ai (aq E QQ QQ)) ?_;have u:∀ p:Nat,Fb<=p->p<Fb+j->aV (.list ((zf (Fb+j)).map λ(i:Nat)=>D.int ((i:Int) - Fb))) (.int p)=ac (aM (p - Fb)):=λp h1 Y=>
  lz (by rw[yI,zJ];exact Y) (by rw[Ag,D1 Y];show ac (D.int ((p:Int) - Fb))=ac (D.int ((p - Fb:Nat):Int));rw[Ce h1])
 generalize D.list ((zf (Fb+j)).map λ(i:Nat)=>D.int ((i:Int) - Fb))=mv at *
 refine aB (ai (d:=.list []) (fr:=yC) QQ) (aB (ai (d:=.list []) (fr:=yC) QQ) (aB (ai (d:=.list []) (fr:=yC) QQ) (aB (ai (d:=.list []) (fr:=yC) QQ) ?_)));have H:∀ σ:St,Has σ "own" (.int Fb)->Has σ "moved" mv->Has σ "query" (.tup [sD "join",I,J,.tup prs])->Has σ "widths" T->bF σ "ahead" (.list [])->bF σ "behind" (.list [])->bF σ "pairs" (.list [])->bF σ "kept" (.list [])->Has σ "clauses" (.list (cl.map clD))->Run (af P X (n+1)) (fB.body.drop 7) σ (nl (dD Fb cl) (.tup [sD "join",Da,f,.tup (prs++(bL Fb cl).map prT)])) yz:=by
  intro σ Fm Fo Fp Fq Fs Ft Fu Fv Fw;obtain⟨Fd,⟨pre,e,L⟩,Fz⟩:=fU (cf:=af P X (n+1)) (body:=tA) (z:="clause") (λa σ=>∃ pre,a=pre.map clD/\JInv Fb mv (.tup [sD "join",I,J,.tup prs]) T pre σ) (cl.map clD) [] (freeze ["clauses"] σ)
   ⟨[],QQ,bT Fm,bT Fo,bT Fp,bT Fq,gz QQ Fs,gz QQ Ft,gz QQ Fu,gz QQ Fv⟩ (by
    rintro a FA b σ t ⟨pre,rfl,L⟩;rw[AR] at t;obtain⟨c,M,rfl⟩:=zn.mp (by rw[t];simp:FA∈cl.map clD)
    have o:=y6 CZ t;simp only[yI,yY,Ae] at o;obtain⟨FT,Fd,⟨rfl,q⟩,q2⟩:=join_turn (X:=X) B n u (A c M) (om101 V o) L;exact⟨.next,Fd,⟨QQ,pre++[c],by rw[zd];rfl,q⟩,q2⟩)
  have FE:cl=pre:=by
   rw[AR] at e;have inj:∀ (l s:yA (yA D)),l.map clD=s.map clD->l=s:=λl=>by
    induction l with
    | nil=>intro s h;cases s <;> first | rfl | cases h
    | cons x l G=>intro s h;cases s with
     | nil=>cases h
     | cons y s=>
      rw[y8,y8,Ec.injEq] at h;rw[G s h.2,D.tup.inj h.1]
   exact inj _ _ e
  subst FE;obtain⟨FU,FV,Z,Fg,FF,FG,FH,FJ⟩:=L;refine dW (x:=.list (cl.map clD)) (EX:=cl.map clD) (vr Fw) QQ Fz ?_;refine aB (ai (aD (aa (vsi Z QQ) (vv (iy FF) (vv Fg vN))) Fi)) ?_;have a3:Has (ay (settle Da (ME.names (.call "placed" [.sub (.u "query") (.int 1),.u "ahead",.u "widths"])) Fd) "first" (yz,Da)) "query" (.tup [sD "join",I,J,.tup prs]):=ag QQ (ao Z);have a4:Has (ay (settle Da (ME.names (.call "placed" [.sub (.u "query") (.int 1),.u "ahead",.u "widths"])) Fd) "first" (yz,Da)) "widths" T:=ag QQ (ao Fg);have FK:Has (ay (settle Da (ME.names (.call "placed" [.sub (.u "query") (.int 1),.u "ahead",.u "widths"])) Fd) "first" (yz,Da)) "behind" (.list ((aW Fb cl).map clD)):=ag QQ (ao (iy FG));have FM:Has (ay (settle Da (ME.names (.call "placed" [.sub (.u "query") (.int 1),.u "ahead",.u "widths"])) Fd) "first" (yz,Da)) "pairs" (.list ((bL Fb cl).map prT)):=ag QQ (ao (iy FH));have FN:Has (ay (settle Da (ME.names (.call "placed" [.sub (.u "query") (.int 1),.u "ahead",.u "widths"])) Fd) "first" (yz,Da)) "kept" (.list ((dD Fb cl).map clD)):=ag QQ (ao (iy FJ));have FO:Has (ay (settle Da (ME.names (.call "placed" [.sub (.u "query") (.int 1),.u "ahead",.u "widths"])) Fd) "first" (yz,Da)) "first" Da:=aw;generalize ay (settle Da (ME.names (.call "placed" [.sub (.u "query") (.int 1),.u "ahead",.u "widths"])) Fd) "first" (yz,Da)=w at *;refine aB (ai (aD (aa (vsi a3 QQ) (vv FK (vv a4 vN))) Fj)) ?_;have FP:Has (ay (settle f (ME.names (.call "placed" [.sub (.u "query") (.int 2),.u "behind",.u "widths"])) w) "second" (yz,f)) "query" (.tup [sD "join",I,J,.tup prs]):=ag QQ (ao a3);have FQ:Has (ay (settle f (ME.names (.call "placed" [.sub (.u "query") (.int 2),.u "behind",.u "widths"])) w) "second" (yz,f)) "pairs" (.list ((bL Fb cl).map prT)):=ag QQ (ao FM);have FR:Has (ay (settle f (ME.names (.call "placed" [.sub (.u "query") (.int 2),.u "behind",.u "widths"])) w) "second" (yz,f)) "kept" (.list ((dD Fb cl).map clD)):=ag QQ (ao FN)
  have FS:Has (ay (settle f (ME.names (.call "placed" [.sub (.u "query") (.int 2),.u "behind",.u "widths"])) w) "second" (yz,f)) "first" Da:=ag QQ (ao FO);have N:Has (ay (settle f (ME.names (.call "placed" [.sub (.u "query") (.int 2),.u "behind",.u "widths"])) w) "second" (yz,f)) "second" f:=aw;have O:(bL Fb cl).length<=5000:=by unfold bL;rw[yI];exact yD (z7 _ _) V
  exact aE (aD (vv FR (aa (bA (aa vS (vv FS (vv N (aa (ak (vsi FP QQ) (bR (vv FQ vN) QQ) (bin_tt (by rw[yI];exact om102 C m O))) vN)))) (yM QQ)) vN)) Fk) QQ
 refine H _ ?_ ?_ ?_ ?_ ?_ ?_ ?_ ?_ ?_
 all_goals (repeat' (first | (with_reducible (first | assumption | exact aw | exact bO | exact dg | exact ad | apply iy;assumption)) | ((with_reducible (first | apply ag | apply bj | apply bD | apply ae | apply bW | apply gz));(focus (exact QQ))) | (with_reducible (first | apply aF | apply ao | apply bT))))
noncomputable def cg(ps:yA Nat)(cl:yA (yA D)):yA (yA D):=(cl.filter (cQ ps.length)).map λc=>c.map (di (ps.getD · 0))
noncomputable def dB(ps:yA Nat)(cl:yA (yA D)):yA (yA D):=cl.filter λc=>!cQ ps.length c
noncomputable def groupBody:yA MS:=[.x0 "places" (.call "places_of" [.u "clause"]),.ite (.bop .Or [.cmp .Eq (.u "places") (.lst []),.cmp .Lt (.sub (.u "places") (.neg (.int 1))) (.blt "len" [.sub (.u "query") (.int 1)])]) [.append "inner" (.call "turned" [.u "clause",.sub (.u "query") (.int 1)])] [.append "kept" (.u "clause")]]
theorem through_group(B:BP P)(n:Nat){m:Nat}{ps:yA Nat}{I T S Da:D}{cl:yA (yA D)}(E:∀ c∈cl,bV m c)(Fh:cl.length<=5000)
  (Fi:(af P X (n+1)).call "placed" [I,.list ((cg ps cl).map clD),T]=ac (Da,yz)) :
  (af P X (n+2)).call "through_group" [.tup [sD "group",.tup (ps.map aM),S,I],.list (cl.map clD),T]=ac (nl (dB ps cl) (.tup [sD "group",.tup (ps.map aM),S,Da]),yz):=by
 have A:20000<big:=by decide
 have Fj:=n8 (X:=X) B n (cs:=dB ps cl) (q:=.tup [sD "group",.tup (ps.map aM),S,Da]) QQ;refine au B.tg QQ ?_;refine aB (ai (d:=.list []) (fr:=yC) QQ) (aB (ai (d:=.list []) (fr:=yC) QQ) ?_);have G:∀ σ:St,Has σ "query" (.tup [sD "group",.tup (ps.map aM),S,I])->Has σ "widths" T->bF σ "inner" (.list [])->bF σ "kept" (.list [])->Has σ "clauses" (.list (cl.map clD))->Run (af P X (n+1)) (e9.body.drop 2) σ (nl (dB ps cl) (.tup [sD "group",.tup (ps.map aM),S,Da])) yz:=by
  intro σ H J L M Fk;obtain⟨Fd,⟨pre,e,N,Fm,Fo,Fp⟩,Fq⟩:=fU (cf:=af P X (n+1)) (body:=groupBody) (z:="clause") (λa σ=>∃ pre,a=pre.map clD/\Has σ "query" (.tup [sD "group",.tup (ps.map aM),S,I])/\Has σ "widths" T/\bF σ "inner" (.list ((cg ps pre).map clD))/\bF σ "kept" (.list ((dB ps pre).map clD))) (cl.map clD) [] (freeze ["clauses"] σ)
   ⟨[],QQ,bT H,bT J,gz QQ L,gz QQ M⟩ (by
    rintro a Fs b σ o ⟨pre,rfl,H,J,L,M⟩;rw[AR] at o;obtain⟨c,O,rfl⟩:=zn.mp (by rw[o];simp:Fs∈cl.map clD)
    have i:=y6 CZ o;simp only[yI,yY,Ae] at i;have f:=E c O;have Ft:(af P X (n+1)).call "places_of" [clD c]=ac (.list ((cL (gC c)).map .int),yC):=mt (X:=X) B.toBW n f.1 f.2;have U:∀ p:yA D->yH,(pre.filter p).length<big:=λp=>yO (z7 _ _) (om103 Fh A i)
    have V:Has (ay σ "clause" (yz,clD c)) "clause" (clD c):=aw;have c1:Has (ay σ "clause" (yz,clD c)) "query" (.tup [sD "group",.tup (ps.map aM),S,I]):=ag QQ H;have c2:Has (ay σ "clause" (yz,clD c)) "widths" T:=ag QQ J;have c3:bF (ay σ "clause" (yz,clD c)) "inner" (.list ((cg ps pre).map clD)):=bD QQ L;have Fu:bF (ay σ "clause" (yz,clD c)) "kept" (.list ((dB ps pre).map clD)):=bD QQ M;generalize ay σ "clause" (yz,clD c)=s at *;refine aH (ai (aD (vv V vN) Ft)) ?_;generalize Fv:D.list ((cL (gC c)).map .int)=pl at *;have Y:Has (ay (settle pl (ME.names (.call "places_of" [.u "clause"])) s) "places" (yC,pl)) "clause" (clD c):=ag QQ (ao V);have C:Has (ay (settle pl (ME.names (.call "places_of" [.u "clause"])) s) "places" (yC,pl)) "query" (.tup [sD "group",.tup (ps.map aM),S,I]):=ag QQ (ao c1);have d2:Has (ay (settle pl (ME.names (.call "places_of" [.u "clause"])) s) "places" (yC,pl)) "widths" T:=ag QQ (ao c2);have Z:bF (ay (settle pl (ME.names (.call "places_of" [.u "clause"])) s) "places" (yC,pl)) "inner" (.list ((cg ps pre).map clD)):=bD QQ (bW QQ c3);have Fg:bF (ay (settle pl (ME.names (.call "places_of" [.u "clause"])) s) "places" (yC,pl)) "kept" (.list ((dB ps pre).map clD)):=bD QQ (bW QQ Fu);have Fw:Has (ay (settle pl (ME.names (.call "places_of" [.u "clause"])) s) "places" (yC,pl)) "places" (.list ((cL (gC c)).map .int)):=Fv▸aw;generalize ay (settle pl (ME.names (.call "places_of" [.u "clause"])) s) "places" (yC,pl)=Fz at *;have u:evE (af P X (n+1)) (vis Fz) (.blt "len" [.sub (.u "query") (.int 1)])=ac (.int ps.length):=by
     have FA:hY "len" [.tup (ps.map aM)]=ac (.int ps.length):=by show ac (D.int ((ps.map aM).length:Nat))=_;rw[yI]
     exact bR (aa (vsi C QQ) vN) FA
    refine cD (k:=cQ ps.length c) (uZ Fw u) QQ (λw=>?_) λw=>?_
    ·have k2:(af P X (n+1)).call "turned" [clD c,.tup (ps.map aM)]=ac (clD (c.map (di (ps.getD · 0))),yz):=uu (X:=X) B n f.1 f.2 λt FE p FF=>by
      have FG:(p:Int)∈gC c:=BQ.mpr ⟨t,FE,FF⟩;have h1:=zG (zk.mp w _ FG);exact vm (vt h1)
     refine aH (bN (d:=clD (c.map (di (ps.getD · 0)))) (ds:=(cg ps pre).map clD) (am (vv Y (aa (vsi C QQ) vN)) k2) (bW QQ Z) (by unfold cg;rw[yI,yI];exact U _)) (bq ⟨QQ,pre++[c],by rw[zd];rfl,ag QQ (ao C),ag QQ (ao d2),?_,?_⟩)
     ·unfold cg;rw[bn,yT w,zd,zd];exact dg
     ·unfold dB;rw[bn,w,yV (by decide),zm];exact bD QQ (bW QQ Fg)
    ·refine aH (bN (d:=clD c) (ds:=(dB ps pre).map clD) (vr Y) (bW QQ Fg) (by unfold dB;rw[yI];exact U _)) (bq ⟨QQ,pre++[c],by rw[zd];rfl,ag QQ (ao C),ag QQ (ao d2),?_,?_⟩)
     ·unfold cg;rw[bn,yV (by rw[w];exact yQ),zm];exact bD QQ (bW QQ Z)
     ·unfold dB;rw[bn,w,yT (by decide),zd];exact dg)
  have FH:cl=pre:=by
   rw[AR] at e;have inj:∀ (l j:yA (yA D)),l.map clD=j.map clD->l=j:=λl=>by
    induction l with
    | nil=>intro j h;cases j <;> first | rfl | cases h
    | cons x l FJ=>intro j h;cases j with
     | nil=>cases h
     | cons y j=>
      rw[y8,y8,Ec.injEq] at h;rw[FJ j h.2,D.tup.inj h.1]
   exact inj _ _ e
  subst FH;refine dW (x:=.list (cl.map clD)) (EX:=cl.map clD) (vr Fk) QQ Fq ?_;exact aE (aD (vv (iy Fp) (aa (bA (aa vS (aa (vsi N QQ) (aa (vsi N QQ) (aa (am (aa (vsi N QQ) (vv (iy Fo) (vv Fm vN))) Fi) vN)))) (yM QQ)) vN)) Fj) QQ
 exact G _ ⟨_,QQ⟩ ⟨_,QQ⟩ QQ QQ ⟨_,QQ⟩
end
set_option maxHeartbeats 400000
noncomputable def jB(cs:yA (yA D))(q:Q):Q:=match cs with
 | []=>q
 | cs=>.sieve cs q
theorem n9(cs:yA (yA D))(q:Q):(jB cs q).d=nl cs q.d:=by
 cases cs with
 | nil=>rfl
 | cons c cs=>unfold nl;rw[yV (by nofun)];rfl
noncomputable def iq(ps:yA Nat)(cl:yA (yA D)):yA (yA D):=cl.map λc=>c.map (di (ps.getD · 0))
noncomputable def Q.placed(W:Wd):Q->yA (yA D)->Q
 | table i,f=>jB f (.table i)
 | sieve j q,f=>q.placed W (j++f)
 | pick ps q,f=>.pick ps (q.placed W (iq ps f))
 | group ps m q,f=>jB (dB ps f) (.group ps m (q.placed W (cg ps f)))
 | order ks q,f=>.order ks (q.placed W f)
 | once q,f=>.once (q.placed W f)
 | first c q,f=>jB f (.first c (q.placed W []))
 | join a b h,f=>jB (dD (a.wd W) f) (.join (a.placed W (bY (a.wd W) f)) (b.placed W (aW (a.wd W) f)) (h++bL (a.wd W) f))
 | both a b,f=>.both (a.placed W f) (b.placed W f)
theorem fO{Fb m:Nat}{c:yA D}(b:bV m c)(h:cQ Fb c=yC):bV Fb c:=by
 refine⟨λt f=>?_,b.2⟩
 have a:∀ z∈fS t,z<(Fb:Int):=λz a=>zG (zk.mp h z (BQ.mpr ⟨t,f,a⟩))
 obtain⟨w,p,i,s,⟨q,hq,rfl⟩ | ⟨o,j,rfl⟩⟩:=b.1 t f
 ·rw[gF] at a
  have h1:=a p (.head _);have n:=a q (.tail _ (.head _));exact⟨w,p,i,by exact vt h1,.inl ⟨q,by exact vt n,QQ⟩⟩
 ·rw[kY] at a
  have h1:=a p (.head _);exact⟨w,p,i,by exact vt h1,.inr ⟨o,j,QQ⟩⟩
theorem m9{Fb m:Nat}{cl:yA (yA D)}(h:∀ c∈cl,bV m c):∀ c∈bY Fb cl,bV Fb c:=λc b=>by
 obtain⟨h1,a⟩:=zp.mp b;have a:cat Fb c=0:=by simpa using a
 refine fO (h c h1) ?_;unfold cat at a;split at a
 ·assumption
 ·split at a
  ·cases a
  ·split at a <;> cases a
theorem li{Fb i:Nat}{cl:yA (yA D)}(h:∀ c∈cl,bV (Fb+i) c):∀ c∈aW Fb cl,bV i c:=λc n=>by
 obtain⟨b,h1,rfl⟩:=zn.mp n;obtain⟨h1,a⟩:=zp.mp h1;have a:cat Fb b=1:=by simpa using a
 have o:je Fb b=yC:=by
  unfold cat at a;split at a
  ·cases a
  ·split at a
   ·assumption
   ·split at a <;> cases a
 refine qB (h b h1) λt j p m=>?_
 have q:=zG (zk.mp o _ (BQ.mpr ⟨t,j,m⟩));obtain⟨s,e,f⟩:=lG ((h b h1).1 t j) m;exact om105 q e f
theorem u4{ps:yA Nat}{m:Nat}{c:yA D}(f:bV ps.length c)(h:∀ p∈ps,p<m):bV m (c.map (di (ps.getD · 0))):=qB f λt i p b=>by
 obtain⟨j,e,a⟩:=lG (f.1 t i) b;have:p=j:=by exact om97 e
 subst this;rw[yW,yP a];exact h _ (Ay a)
theorem oO{ps:yA Nat}{m:Nat}{cl:yA (yA D)}(h:∀ c∈cl,bV ps.length c)(a:∀ p∈ps,p<m):∀ c∈iq ps cl,bV m c:=λc b=>by
 obtain⟨f,h1,rfl⟩:=zn.mp b;exact u4 (h f h1) a
theorem mM{ps:yA Nat}{m m':Nat}{cl:yA (yA D)}(h:∀ c∈cl,bV m' c)(a:∀ p∈ps,p<m):∀ c∈cg ps cl,bV m c:=λc b=>by
 obtain⟨f,h1,rfl⟩:=zn.mp b;obtain⟨h1,i⟩:=zp.mp h1;exact u4 (fO (h f h1) i) a
section
variable {P:yA (yF×Fn)} {X:CF} {W:Wd}
theorem cV{cf:CF}{q C T R:D}{wd:yF}(h:Run cf (kA.body.drop 1) [("query",(yz,q)),("clauses",(yz,C)),("widths",(yz,T)),("word",(yz,sD wd))] R yz)(a:aV q (.int 0)=ac (sD wd)) :
  Run cf kA.body [("query",(yz,q)),("clauses",(yz,C)),("widths",(yz,T))] R yz:=
 aB (bh (d:=sD wd) (fr:=yz) (aq (av (x:=q) (y:=.int 0) QQ QQ a) QQ QQ) QQ) h
theorem sk{cf:CF}{σ:St}{w w2:yF}{t r:yA MS}{R:D}{fr:yH}(h:Has σ "word" (sD w))(a:(yB w == yB w2)=yz)(k:Run cf r σ R fr):Run cf (.ite (.cmp .Eq (.u "word") (.str w2)) t []::r) σ R fr:=
 bc (k:=yz) (x:=.bool yz) (ax (vr h) vS (by show ac (D.bool (yB w == yB w2))=_;rw[a])) QQ nofun λZ=>k
theorem hit{cf:CF}{σ:St}{w:yF}{t r:yA MS}{R:D}{fr:yH}(h:Has σ "word" (sD w))(k:Run cf (t++r) σ R fr):Run cf (.ite (.cmp .Eq (.u "word") (.str w)) t []::r) σ R fr:=
 bc (k:=yC) (x:=.bool yC) (ax (vr h) vS (by show ac (D.bool (yB w == yB w))=_;rw[zg])) QQ (λZ=>k) nofun
theorem lB(q C T:D)(w:yF):Has (st0 q C T w) "word" (sD w):=⟨yz,QQ⟩
theorem n2d{d n:Nat}(h:2 * (d+1)<=n):∃ a,n=a+2:=⟨n - 2,by exact om106 h⟩
theorem cN(B:BP P)(u:X.glob "STEPS"=ac (.tup eG)):∀ (q:Q) (cl:yA (yA D)) (n:Nat),q.ok W->(∀ c∈cl,bV (q.wd W) c)->q.cp+cl.length<=1000->q.nar W 5000->2 * q.dp<=n ->
  (af P X (n+6)).call "placed" [q.d,.list (cl.map clD),W.d]=ac ((q.placed W cl).d,yz)
 | .table I=>by
  intro cl n _ _ _ _ _;have L:(af P X (n+5)).call "over" [.list (cl.map clD),(Q.table I).d]=ac (nl cl (Q.table I).d,yz):=n8 (X:=X) B (n+4) QQ;rw[Q.placed,n9];refine au B.pl QQ (cV (wd:="table") ?_ QQ);have f:=lB (Q.table I).d (.list (cl.map clD)) W.d "table";refine sk f QQ (sk f QQ (sk f QQ (sk f QQ (sk f QQ (sk f QQ (sk f QQ (sk f QQ ?_)))))));exact aE (aD (aa (d:=.list (cl.map clD)) QQ (aa (d:=(Q.table I).d) QQ vN)) L) QQ
 | .sieve z q=>by
  intro cl n h m j o i;obtain⟨n,rfl⟩:=n2d i;have s:=cN B u q (z++cl) (n+1) h.1 (λc J=>(zA.mp J).elim (h.2.1 c) (m c)) (by rw[yY];have:(Q.sieve z q).cp=z.length+q.cp:=rfl;exact om107 j this) o (by have:(Q.sieve z q).dp=q.dp+1:=rfl;exact ti i this)
  have w:2000<big:=by decide
  have G:z.length+cl.length<=1000:=by have:(Q.sieve z q).cp=z.length+q.cp:=rfl;exact om109 j this
  refine au B.pl QQ (cV (wd:="sieve") ?_ QQ);have f:=lB (Q.sieve z q).d (.list (cl.map clD)) W.d "sieve";refine hit f ?_;refine aE (aD (aa (d:=q.d) QQ (aa (d:=.list ((z++cl).map clD)) (ak (xc (x:=.tup (z.map clD)) QQ QQ) (y:=.list (cl.map clD)) QQ ?_) (aa (d:=W.d) QQ vN))) s) QQ;rw[zd];exact yj (by rw[yI,yI];exact om110 w G)
 | .pick ps q=>by
  intro cl n h m j o i;obtain⟨n,rfl⟩:=n2d i;have s:=cN B u q (iq ps cl) (n+1) h.1 (oO m h.2.1) (by unfold iq;rw[yI];exact j) o (by have:(Q.pick ps q).dp=q.dp+1:=rfl;exact ti i this)
  have w:2000<big:=by decide
  refine au B.pl QQ (cV (wd:="pick") ?_ QQ);have f:=lB (Q.pick ps q).d (.list (cl.map clD)) W.d "pick";refine sk f QQ (hit f ?_);have T:evE (af P X (n+2+5)) (vis (st0 (Q.pick ps q).d (.list (cl.map clD)) W.d "pick")) (.comp (.call "turned" [.u "clause",.sub (.u "query") (.int 1)]) "clause" (.u "clauses") [])=ac (.list ((iq ps cl).map clD)):=by
   refine gQ (x:=.list (cl.map clD)) (EX:=cl.map clD) QQ QQ (by rw[yI];exact om111 j w) ?_
   have:∀ l:yA (yA D),(∀ c∈l,c∈cl)->bS (kO (af P X (n+2+5)) (vis (st0 (Q.pick ps q).d (.list (cl.map clD)) W.d "pick")) (.call "turned" [.u "clause",.sub (.u "query") (.int 1)]) "clause" []) (l.map clD)=ac ((iq ps l).map clD):=λl=>by
    induction l with
    | nil=>intro _;rfl
    | cons c l U=>
     intro J;have C:=m c (J c (.head _));have k:(af P X (n+2+5)).call "turned" [clD c,.tup (ps.map aM)]=ac (clD (c.map (di (ps.getD · 0))),yz):=uu (X:=X) B (n+6) C.1 C.2 λt V p Y=>by
      obtain⟨Z,e,M⟩:=lG (C.1 t V) Y;have:p=Z:=by exact om97 e
      subst this;exact vm M
     rw[y8,bS,fN (d:=clD (c.map (di (ps.getD · 0)))) (am (aa (d:=clD c) rfl (aa (d:=.tup (ps.map aM)) rfl vN)) k)];dsimp only;rw[U λx Fg=>J x (.tail _ Fg)]
     rfl
   exact this cl λEP h=>h
  refine aB (ai (aq T QQ QQ)) ?_;exact aE (aq (bA (aa vS (aa (d:=.tup (ps.map aM)) QQ (aa (am (aa (d:=q.d) QQ (vv aw (aa (d:=W.d) QQ vN))) s) vN))) (yM QQ)) QQ QQ) QQ
 | .order ks q=>by
  intro cl n h m j o i;obtain⟨n,rfl⟩:=n2d i;have s:=cN B u q cl (n+1) h.1 m j o (by have:(Q.order ks q).dp=q.dp+1:=rfl;exact ti i this)
  refine au B.pl QQ (cV (wd:="order") ?_ QQ);have f:=lB (Q.order ks q).d (.list (cl.map clD)) W.d "order";refine sk f QQ (sk f QQ (hit f ?_));exact aE (aq (bA (aa vS (aa (d:=.tup (ks.map eE)) QQ (aa (am (aa (d:=q.d) QQ (aa (d:=.list (cl.map clD)) QQ (aa (d:=W.d) QQ vN))) s) vN))) (yM QQ)) QQ QQ) QQ
 | .once q=>by
  intro cl n h m j o i;obtain⟨n,rfl⟩:=n2d i;have s:=cN B u q cl (n+1) h m j o (by have:(Q.once q).dp=q.dp+1:=rfl;exact ti i this)
  refine au B.pl QQ (cV (wd:="once") ?_ QQ);have f:=lB (Q.once q).d (.list (cl.map clD)) W.d "once";refine sk f QQ (sk f QQ (sk f QQ (hit f ?_)));exact aE (aq (bA (aa vS (aa (am (aa (d:=q.d) QQ (aa (d:=.list (cl.map clD)) QQ (aa (d:=W.d) QQ vN))) s) vN)) (yM QQ)) QQ QQ) QQ
 | .both a b=>by
  intro cl n h m j o i;obtain⟨n,rfl⟩:=n2d i;have e1:(Q.both a b).dp=max a.dp b.dp+1:=rfl;have A:(Q.both a b).cp=max a.cp b.cp:=rfl;have Fh:=zB a.dp b.dp;have Fi:=zz a.dp b.dp;have Fj:=zB a.cp b.cp;have Fk:=zz a.cp b.cp;have s:=cN B u a cl (n+1) h.1 m (om112 j A) o.1 (om113 i e1);have E:=cN B u b cl (n+1) h.2.1 (h.2.2▸m) (om114 j A) o.2 (om115 i e1);refine au B.pl QQ (cV (wd:="both") ?_ QQ);have f:=lB (Q.both a b).d (.list (cl.map clD)) W.d "both";refine sk f QQ (sk f QQ (sk f QQ (sk f QQ (hit f ?_))));refine aB (ai (aD (aa (d:=a.d) QQ (aa (d:=.list (cl.map clD)) QQ (aa (d:=W.d) QQ vN))) s)) ?_;have Fm:Has (ay (settle (a.placed W cl).d (ME.names (.call "placed" [.sub (.u "query") (.int 1),.u "clauses",.u "widths"])) (st0 (Q.both a b).d (.list (cl.map clD)) W.d "both")) "first" (yz,(a.placed W cl).d)) "query" (Q.both a b).d:=ag QQ (ao ⟨_,QQ⟩);have Fo:Has (ay (settle (a.placed W cl).d (ME.names (.call "placed" [.sub (.u "query") (.int 1),.u "clauses",.u "widths"])) (st0 (Q.both a b).d (.list (cl.map clD)) W.d "both")) "first" (yz,(a.placed W cl).d)) "clauses" (.list (cl.map clD)):=ag QQ (ao ⟨_,QQ⟩);have Fp:Has (ay (settle (a.placed W cl).d (ME.names (.call "placed" [.sub (.u "query") (.int 1),.u "clauses",.u "widths"])) (st0 (Q.both a b).d (.list (cl.map clD)) W.d "both")) "first" (yz,(a.placed W cl).d)) "widths" W.d:=ag QQ (ao ⟨_,QQ⟩);exact aE (aq (bA (aa vS (vv aw (aa (am (aa (vsi Fm QQ) (vv Fo (vv Fp vN))) E) vN))) (yM QQ)) QQ QQ) QQ
 | .join a b prs=>by
  intro cl n h m j o i;obtain⟨n,rfl⟩:=n2d i;have e1:(Q.join a b prs).dp=max a.dp b.dp+1:=rfl;have A:(Q.join a b prs).cp=max a.cp b.cp:=rfl;have Fh:=zB a.dp b.dp;have Fi:=zz a.dp b.dp;have Fj:=zB a.cp b.cp;have Fk:=zz a.cp b.cp;have Fq:(bY (a.wd W) cl).length<=cl.length:=z7 _ _;have N:(aW (a.wd W) cl).length<=cl.length:=by unfold aW;rw[yI];exact z7 _ _
  have s:=cN B u a (bY (a.wd W) cl) n h.1 (m9 m) (om116 j A Fq) o.1 (om117 i e1);have E:=cN B u b (aW (a.wd W) cl) n h.2.1 (li m) (om118 j A N) o.2.1 (om119 i e1);have Fs:=oy B.toBW u a (n+3) h.1 (om120 i e1);have w2:=oy B.toBW u b (n+3) h.2.1 (om121 i e1);have O:=through_join (X:=X) B (n+5) o.2.2 (prs:=prs.map prT) m (om122 j) (by rw[yI];exact h.2.2.2) Fs w2 s E
  rw[<- zd] at O;rw[Q.placed,n9];refine au B.pl QQ (cV (wd:="join") ?_ QQ);have f:=lB (Q.join a b prs).d (.list (cl.map clD)) W.d "join";refine sk f QQ (sk f QQ (sk f QQ (sk f QQ (sk f QQ (hit f ?_)))));exact aE (aD (aa (d:=(Q.join a b prs).d) QQ (aa (d:=.list (cl.map clD)) QQ (aa (d:=W.d) QQ vN))) O) QQ
 | .group ps H q=>by
  intro cl n h m j o i;obtain⟨n,rfl⟩:=n2d i;have e1:(Q.group ps H q).dp=q.dp+1:=rfl;have A:(Q.group ps H q).cp=q.cp:=rfl;have N:(cg ps cl).length<=cl.length:=by unfold cg;rw[yI];exact z7 _ _
  have s:=cN B u q (cg ps cl) n h.1 (mM m h.2.1) (om123 j A N) o.1 (om124 i e1);have Ft:=through_group (X:=X) B (n+5) (S:=.tup (H.map dI)) m (om122 j) s;rw[Q.placed,n9];refine au B.pl QQ (cV (wd:="group") ?_ QQ);have f:=lB (Q.group ps H q).d (.list (cl.map clD)) W.d "group";refine sk f QQ (sk f QQ (sk f QQ (sk f QQ (sk f QQ (sk f QQ (hit f ?_))))));exact aE (aD (aa (d:=(Q.group ps H q).d) QQ (aa (d:=.list (cl.map clD)) QQ (aa (d:=W.d) QQ vN))) Ft) QQ
 | .first c q=>by
  intro cl n h m j o i;obtain⟨n,rfl⟩:=n2d i;have e1:(Q.first c q).dp=q.dp+1:=rfl
  have A:(Q.first c q).cp=q.cp:=rfl
  have s:=cN B u q [] (n+1) h (λEP h=>nomatch h) (by show q.cp+0<=1000;exact om125 j A) o (ti i e1)
  have L:(af P X (n+2+5)).call "over" [.list (cl.map clD),.tup [sD "first",aM c,(q.placed W []).d]]=ac (nl cl (.tup [sD "first",aM c,(q.placed W []).d]),yz):=n8 (X:=X) B (n+6) QQ;rw[Q.placed,n9];refine au B.pl QQ (cV (wd:="first") ?_ QQ);have f:=lB (Q.first c q).d (.list (cl.map clD)) W.d "first"
  refine sk f QQ (sk f QQ (sk f QQ (sk f QQ (sk f QQ (sk f QQ (sk f QQ (hit f ?_)))))));exact aE (aD (aa (d:=.list (cl.map clD)) QQ (aa (bA (aa vS (aa (d:=aM c) QQ (aa (am (aa (d:=q.d) QQ (aa (d:=.list []) QQ (aa (d:=W.d) QQ vN))) s) vN))) (yM QQ)) vN)) L) QQ
theorem vn(B:BP P)(a:X.glob "STEPS"=ac (.tup eG))(q:Q)(n:Nat)(h:q.ok W)(c:q.cp<=1000)(f:q.nar W 5000)(b:2 * q.dp<=n):(af P X (n+7)).call "plan" [q.d,W.d]=ac ((q.placed W []).d,yz):=by
 have i:=oy B.toBW a q (n+3) h (om126 b);have k2:=cN B a q [] n h (λZ h=>nomatch h) c f b
 refine au B.pn QQ ?_;refine aB (jA (d:=.int (q.wd W)) (am (aa (d:=q.d) QQ (aa (d:=W.d) QQ vN)) i) QQ) ?_;exact aE (aD (aa (d:=q.d) QQ (aa (d:=.list []) QQ (aa (d:=W.d) QQ vN))) k2) QQ
end
set_option maxHeartbeats 400000
structure POk(W:Wd)(q:Q)(m c p d:Nat):Prop where
 ok:q.ok W
 wd:q.wd W=m
 cp:q.cp<=c
 pr:q.pr<=p
 dp:q.dp<=d
 nar:q.nar W 5000
theorem lI{W:Wd}{cs:yA (yA D)}{q:Q}{m c p d:Nat}(h:POk W q m c p d)(a:∀ x∈cs,bV m x)(b:cs.length<=1000):POk W (jB cs q) m (cs.length+c) p (d+1):=by
 cases cs with
 | nil=>exact⟨h.ok,h.wd,yD h.cp (zE _ _),h.pr,zO h.dp,h.nar⟩
 | cons x cs=>exact⟨⟨h.ok,λy f=>h.wd▸a y f,b⟩,h.wd,zu h.cp _,h.pr,zb h.dp,h.nar⟩
theorem tQ(Fb:Nat):∀ a:yA (yA D),(bY Fb a).length+(aW Fb a).length+(bL Fb a).length+(dD Fb a).length=a.length
 | []=>rfl
 | c::a=>by
  have f:=tQ Fb a;unfold bY aW bL dD at *;rw[yI,yI] at *;rw[Az,Az,Az,Az];have b:cat Fb c=0\/cat Fb c=1\/cat Fb c=2\/cat Fb c=3:=by
   unfold cat;split
   ·exact .inl QQ
   ·split
    ·exact .inr (.inl QQ)
    ·split
     ·exact .inr (.inr (.inl QQ))
     ·exact .inr (.inr (.inr QQ))
  rcases b with h | h | h | h <;> rw[h] <;> simp <;> omega
theorem qY(ps:yA Nat):∀ a:yA (yA D),(cg ps a).length+(dB ps a).length=a.length
 | []=>rfl
 | c::a=>by
  have b:=qY ps a;unfold cg dB at *;rw[yI] at *;rw[Az,Az];cases cQ ps.length c <;> simp <;> omega
theorem d2m{x y:Nat}(h:x<=y):2 * x+1<=2 * y+1:=by exact om127 h
theorem four_le(Fb:Nat)(cl:yA (yA D)):(bY Fb cl).length<=cl.length/\(aW Fb cl).length<=cl.length/\(bL Fb cl).length<=cl.length/\(bY Fb cl).length+(aW Fb cl).length+(dD Fb cl).length<=cl.length:=by
 have:=tQ Fb cl;exact om128 this
theorem four_up{a b k l m:Nat}(h:a+b+k<=l):k+(m+(a+b))<=m+l:=by exact om129 h
theorem POk.up{W:Wd}{q:Q}{m c p d c' p' a:Nat}(h:POk W q m c p d)(h1:c<=c')(b:p<=p')(f:d<=a):POk W q m c' p' a:=⟨h.ok,h.wd,yD h.cp h1,yD h.pr b,yD h.dp f,h.nar⟩
theorem d2{x y:Nat}(h:x<=2 * y+1):x+1<=2 * (y+1)+1:=by exact om130 h
theorem d2o{y:Nat}:2 * y+2+1<=2 * (y+1)+1:=by exact om131
theorem cM{W:Wd}:∀ (q:Q) (cl:yA (yA D)),q.ok W->(∀ c∈cl,bV (q.wd W) c)->q.cp+cl.length<=1000->q.pr+q.cp+cl.length<=5000->q.nar W 5000 ->
  POk W (q.placed W cl) (q.wd W) (q.cp+cl.length) (q.pr+q.cp+cl.length) (2 * q.dp+1)
 | .table J,cl,h,i,j,f,n=>
  have t:POk W (.table J) ((Q.table J).wd W) 0 0 0:=⟨h,QQ,y0 _,y0 _,y0 _,trivial⟩
  (lI t i (yD (zE _ _) j)).up (zE _ _) (za _) (y0 _)
 | .sieve cs q,cl,h,i,j,f,n=>by
  have e:cs.length+q.cp+cl.length=q.cp+(cs++cl).length:=by rw[yY];exact om132
  have L:q.pr+(cs.length+q.cp)+cl.length=q.pr+q.cp+(cs++cl).length:=by rw[yY];exact om133
  have:=cM q (cs++cl) h.1 (λc G=>(zA.mp G).elim (h.2.1 c) (i c)) (yD (y5 e.symm) j) (yD (y5 L.symm) f) n
  exact this.up (y5 e.symm) (y5 L.symm) (zs (zo 2 (AB _)) 1)
 | .pick ps q,cl,h,i,j,f,n=>by
  have u:(iq ps cl).length=cl.length:=by unfold iq;rw[yI]
  have:=cM q (iq ps cl) h.1 (oO i h.2.1) (by rw[u];exact j) (by rw[u];exact f) n
  rw[u] at this;exact⟨⟨this.ok,λp f=>by rw[this.wd];exact h.2.1 p f,h.2.2⟩,QQ,this.cp,this.pr,d2 this.dp,this.nar⟩
 | .group ps M q,cl,h,i,j,f,n=>by
  have H:=qY ps cl;have g1:(cg ps cl).length<=cl.length:=H▸y9 _ _;have w:(dB ps cl).length<=cl.length:=H▸zE _ _;have:=cM q (cg ps cl) h.1 (mM i h.2.1) (yD (zu g1 _) j) (yD (zu g1 _) f) n.1;have t:POk W (.group ps M (q.placed W (cg ps cl))) (ps.length+M.length) (q.cp+(cg ps cl).length) (q.pr+q.cp+cl.length) (2 * q.dp+2):=
   ⟨⟨this.ok,λp f=>by rw[this.wd];exact h.2.1 p f,λx z=>by rw[this.wd];exact h.2.2.1 x z,h.2.2.2⟩,QQ,this.cp,yD this.pr (zu g1 _),zb this.dp,⟨this.nar,n.2⟩⟩
  have h1:=lI (cs:=dB ps cl) t (λx z=>i x (zp.mp z).1) (yD w (yD (zE _ _) j))
  exact h1.up (by show _<=q.cp+cl.length;exact om134 H) (y0 _) d2o
 | .order ks q,cl,h,i,j,f,n=>
  have:=cM q cl h.1 i j f n
  ⟨⟨this.ok,λp f=>by rw[this.wd];exact h.2.1 p f,h.2.2⟩,this.wd,this.cp,this.pr,d2 this.dp,this.nar⟩
 | .once q,cl,h,i,j,f,n=>
  have:=cM q cl h i j f n
  ⟨this.ok,this.wd,this.cp,this.pr,d2 this.dp,this.nar⟩
 | .first c q,cl,h,i,j,f,n=>
  have:=cM q [] h (λZ h=>nomatch h) (yD (y9 _ _) j) (yD (y9 _ _) f) n
  have t:POk W (.first c (q.placed W [])) (q.wd W) q.cp (q.pr+q.cp) (2 * q.dp+2):=⟨this.ok,this.wd,this.cp,this.pr,zb this.dp,this.nar⟩
  (lI t i (yD (zE _ _) j)).up (y5 (z5 _ _)) (y9 _ _) d2o
 | .both a b,cl,h,i,j,f,n=>
  have c1:a.cp+cl.length<=(Q.both a b).cp+cl.length:=zs (zB _ _) _
  have c2:b.cp+cl.length<=(Q.both a b).cp+cl.length:=zs (zz _ _) _
  have A:a.pr+a.cp+cl.length<=(Q.both a b).pr+(Q.both a b).cp+cl.length:=zs (ze (zB _ _) (zB _ _)) _
  have B:b.pr+b.cp+cl.length<=(Q.both a b).pr+(Q.both a b).cp+cl.length:=zs (ze (zz _ _) (zz _ _)) _
  have o:=cM a cl h.1 i (yD c1 j) (yD A f) n.1
  have s:=cM b cl h.2.1 (h.2.2▸i) (yD c2 j) (yD B f) n.2
  ⟨⟨o.ok,s.ok,by rw[o.wd,s.wd];exact h.2.2⟩,o.wd,Bm.mpr ⟨yD o.cp c1,yD s.cp c2⟩,Bm.mpr ⟨yD o.pr A,yD s.pr B⟩,
   d2 (Bm.mpr ⟨yD o.dp (d2m (zB _ _)),yD s.dp (d2m (zz _ _))⟩),o.nar,s.nar⟩
 | .join a b m,cl,h,i,j,f,n=>by
  obtain⟨g1,w,C,N⟩:=four_le (a.wd W) cl;have c1:a.cp+(bY (a.wd W) cl).length<=max a.cp b.cp+cl.length:=ze (zB _ _) g1;have c2:b.cp+(aW (a.wd W) cl).length<=max a.cp b.cp+cl.length:=ze (zz _ _) w;have O:a.pr<=max m.length (max a.pr b.pr):=yD (zB _ _) (zz _ _);have T:b.pr<=max m.length (max a.pr b.pr):=yD (zz _ _) (zz _ _);have A:a.pr+a.cp+(bY (a.wd W) cl).length<=max m.length (max a.pr b.pr)+max a.cp b.cp+cl.length:=ze (ze O (zB _ _)) g1;have B:b.pr+b.cp+(aW (a.wd W) cl).length<=max m.length (max a.pr b.pr)+max a.cp b.cp+cl.length:=ze (ze T (zz _ _)) w;have U:m.length+(bL (a.wd W) cl).length<=max m.length (max a.pr b.pr)+max a.cp b.cp+cl.length:=ze (yD (zB _ _) (y9 _ _)) C;have o:=cM a (bY (a.wd W) cl) h.1 (m9 i) (yD c1 j) (yD A f) n.1;have s:=cM b (aW (a.wd W) cl) h.2.1 (li i) (yD c2 j) (yD B f) n.2.1;have lp:(m++bL (a.wd W) cl).length<=max m.length (max a.pr b.pr)+max a.cp b.cp+cl.length:=by rw[yY];exact U
  have t:POk W (.join (a.placed W (bY (a.wd W) cl)) (b.placed W (aW (a.wd W) cl)) (m++bL (a.wd W) cl)) (a.wd W+b.wd W) (max a.cp b.cp+((bY (a.wd W) cl).length+(aW (a.wd W) cl).length)) (max m.length (max a.pr b.pr)+max a.cp b.cp+cl.length) (2 * max a.dp b.dp+2):=by
   refine⟨⟨o.ok,s.ok,λk hk=>?_,yD lp f⟩,by show _+_=_;rw[o.wd,s.wd],
    Bm.mpr ⟨yD o.cp (ze (zB _ _) (y9 _ _)),yD s.cp (ze (zz _ _) (zE _ _))⟩,
    Bm.mpr ⟨lp,Bm.mpr ⟨yD o.pr A,yD s.pr B⟩⟩,
    zb (Bm.mpr ⟨yD o.dp (d2m (zB _ _)),yD s.dp (d2m (zz _ _))⟩),o.nar,s.nar,by rw[o.wd,s.wd];exact n.2.2⟩
   rw[o.wd,s.wd]
   rcases zA.mp hk with hk | hk
   ·exact h.2.2.1 k hk
   ·obtain⟨c,I,rfl⟩:=zn.mp hk
    obtain⟨G,E⟩:=zp.mp I;obtain⟨x,y,_,g1,w,C,e⟩:=xw (i c G) (by simpa using E)
    rw[e];have C:y<a.wd W+b.wd W:=C;exact⟨g1,B2 w C⟩
  have h1:=lI (cs:=dD (a.wd W) cl) t (λx z=>i x (zp.mp z).1) (yD (yD (zE _ _) N) (yD (zE _ _) j))
  exact h1.up (four_up N) (y0 _) d2o
section
variable {α:Type}{m Fb k:Nat}{t:D}{R:Wd}
theorem keeps_app(cs cl:yA (yA D))(r:yA D):aK (cs++cl) r=(aK cs r&&aK cl r):=EO
theorem mJ(t:Tab):t.filter (aK [])=t:=List.filter_eq_self.mpr λZ Z=>QQ
theorem tV_turn(c:Tst m t){row a:yA D}{f:Nat->Nat}(h:∀ p:Nat,(p:Int)∈fS t->row.getD p .none=a.getD (f p) .none):tV row t=tV a (di f t):=by
 obtain⟨w,p,b,j,⟨q,hq,rfl⟩ | ⟨o,n,rfl⟩⟩:=c
 ·rw[gF] at h
  have e1:=h p (.head _);have i:=h q (.tail _ (.head _));rw[kg];refine (iL row b p "col" (.int q)).trans (Eq.trans ?_ (iL a b (f p) "col" (.int (f q:Nat))).symm);show ji w (row.getD p .none) (row.getD q .none)=ji w (a.getD (f p) .none) (a.getD (f q) .none);rw[e1,i]
 ·rw[kY] at h
  have e1:=h p (.head _);rw[ly];refine (iL row b p "is" o).trans (Eq.trans ?_ (iL a b (f p) "is" o).symm);show ji w (row.getD p .none) o=ji w (a.getD (f p) .none) o;rw[e1]
theorem turn_id(a:Tst m t):di (λp=>p) t=t:=by
 obtain⟨w,p,b,c,⟨q,hq,rfl⟩ | ⟨o,f,rfl⟩⟩:=a
 ·exact kg _ _ _ _
 ·exact ly _ _ _ _
theorem qd{c:yA D}(j:∀ t∈c,Tst m t){row a:yA D}{f:Nat->Nat}(h:∀ t∈c,∀ p:Nat,(p:Int)∈fS t->row.getD p .none=a.getD (f p) .none):c.any (tV row)=(c.map (di f)).any (tV a):=by
 rw[List.any_map];have b:∀ l:yA D,(∀ t∈l,t∈c)->l.any (tV row)=l.any (tV a ∘ di f):=by
  intro l
  induction l with
  | nil=>exact λZ=>QQ
  | cons t l n=>exact λi=>by rw[Ax,Ax,n λx o=>i x (.tail _ o),tV_turn (j t (i t (.head _))) (h t (i t (.head _)))];rfl
 exact b c λZ h=>h
theorem ui{c:yA D}(b:∀ t∈c,Tst m t){row a:yA D}(h:∀ t∈c,∀ p:Nat,(p:Int)∈fS t->row.getD p .none=a.getD p .none):c.any (tV row)=c.any (tV a):=by
 rw[qd b (f:=λp=>p) h]
 have e:c.map (di λp=>p)=c:=(AH λt i=>turn_id (b t i)).trans (DY c)
 rw[e]
theorem ff{p q:α->yH}:∀ {l:yA α},(∀ x∈l,p x=q x)->l.all p=l.all q
 | [],_=>rfl
 | x::l,h=>by rw[AU,AU,h x (.head _),ff λy a=>h y (.tail _ a)]
theorem cells_getD{ps:yA Nat}{row:yA D}{p:Nat}(h:p<ps.length):(aQ ps row).getD p .none=row.getD (ps.getD p 0) .none:=by
 unfold aQ;rw[yW,Ag,yP h,yW (l:=ps),yP h];rfl
theorem uD(a:Tst m t){p:Nat}(h:(p:Int)∈fS t):p<m:=by
 obtain⟨b,e,h'⟩:=lG a h;exact AQ e▸h'
theorem oz{ps:yA Nat}{c:yA D}(a:∀ t∈c,Tst ps.length t){row x:yA D}:c.any (tV (aQ ps row++x))=(c.map (di (ps.getD · 0))).any (tV row):=
 qd a λt f p h=>by
  have b:=uD (a t f) h;rw[iA (by unfold aQ;rw[yI];exact b),cells_getD b]
theorem pick_keeps{ps:yA Nat}{cl:yA (yA D)}(b:∀ c∈cl,bV ps.length c)(row:yA D):aK (iq ps cl) row=aK cl (aQ ps row):=by
 unfold aK iq;rw[Bw];exact ff λc a=>by
  have:=oz (b c a).1 (row:=row) (x:=[]);rw[zm] at this;exact this.symm
theorem Stb.filter{G:α->Prop}{lt:α->α->yH}{l r:yA α}(h:Stb G lt l r)(p:α->yH):Stb G lt (l.filter p) (r.filter p) where
 pw:=h.pw.filter p
 fl:=λx b=>by
  rw[Aj,Aj];have e:∀ t:yA α,t.filter (λa=>eqv lt x a&&p a)=(t.filter (eqv lt x)).filter p:=λt=>by
   rw[Aj];exact Bh λZ Z=>Cf _ _
  rw[e,e,h.fl x b]
theorem order_filter{t:Tab}(h:aP m t){ks:yA (Nat×yH)}(b:∀ k∈ks,k.1<m)(p:yA D->yH):eI ks (t.filter p)=(eI ks t).filter p:=by
 have o:=kq h b;have o2:=kq (t:=t.filter p) (λr f=>h r (zp.mp f).1) b
 exact o2.1.uniq (λa c=>(wkL b).irr c) (o.1.filter p) o2.2 λa c=>o.2 a (zp.mp c).1
theorem xq{a b:yA D}(j:bB m a)(h:aA a b=yC):a=b:=by
 have cell:∀ {x y:D},x.isCell=yC->bv x y=yC->x=y:=λ{x y} n h=>by
  revert h;refine aS (C:=λx=>bv x y=yC->x=y) n (λi=>?_) λs=>?_
  ·cases y <;> intro h <;> first | exact y6 D.int (eq_of_beq h) | cases h
  ·cases y <;> intro h <;> first | exact y6 D.str (eq_of_beq h) | cases h
 have c:∀ {a b:yA D},(∀ d∈a,d.isCell=yC)->aA a b=yC->a=b:=by
  intro a
  induction a with
  | nil=>intro b _ h;cases b;rfl;cases h
  | cons x a o=>
   intro b f h;cases b with
   | nil=>cases h
   | cons y b=>
    have h:=zr.mp (show (bv x y&&aA a b)=yC from h);rw[cell (f x (.head _)) h.1,o (λd q=>f d (.tail _ q)) h.2]
 exact c j.2 h
theorem np(p:yA D->yH):∀ (n:Nat) (t:Tab),t.length=n->aP m t->aX (t.filter p)=(aX t).filter p
 | 0,t,a,_=>by rw[AJ.mp a];rfl
 | n+1,t,a,h=>by
  obtain⟨l,r,rfl⟩:∃ l r,t=l++[r]:=⟨t.dropLast,t.getLast (Ca a),(CG _).symm⟩;have b:aP m l:=λx j=>h x (Ap _ j)
  have i:=np p n l (by rw[yY] at a;exact Am a) b
  rw[zP,eZ];unfold gG;cases c:p r with
  | false=>
   rw[zw (by rw[c];exact yQ),A7,zm,i]
   split
   ·rfl
   ·rw[zP,zw (by rw[c];exact yQ),A7,zm]
  | true=>
   rw[zc c,A7,eZ,i];unfold gG;have e:(((aX l).filter p).any λx=>aA x r)=(aX l).any λx=>aA x r:=by
    rw[AY,CU,CU];exact⟨λ⟨x,h1,f⟩=>⟨x,(zp.mp h1).1,f⟩,λ⟨x,h1,f⟩=>⟨x,zp.mpr ⟨h1,xq (b x (mB.1 x h1)) f▸c⟩,f⟩⟩
   rw[e]
   split
   ·rfl
   ·rw[zP,zc c,A7]
theorem mQ(k r:yA D)(q:yA D×Tab)(G:Grp):cO k r (q::G)=if aA q.1 k=yC then (q.1,q.2++[r])::G else q::cO k r G:=rfl
theorem nB{k r:yA D}{p:yA D->yH}:∀ {G:Grp},(∀ q∈G,aA q.1 k=yC->q.1=k)->(cO k r G).filter (λq=>p q.1)=if p k=yC then cO k r (G.filter λq=>p q.1) else G.filter λq=>p q.1
 | [],_=>by
  show[(k,[r])].filter (λq=>p q.1)=_
  cases h:p k with
  | true=>rw[zc (p:=λq:yA D×Tab=>p q.1) h];rfl
  | false=>rw[zw (p:=λq:yA D×Tab=>p q.1) (by rw[h];exact yQ)];rfl
 | q::G,f=>by
  have i:=nB (r:=r) (p:=p) λx j=>f x (.tail _ j)
  have a:∀ (u:yA D×Tab) (l:Grp),p u.1=yC->(u::l).filter (λq=>p q.1)=u::l.filter λq=>p q.1:=λu l h=>zc (p:=λq:yA D×Tab=>p q.1) h
  have b:∀ (u:yA D×Tab) (l:Grp),p u.1=yz->(u::l).filter (λq=>p q.1)=l.filter λq=>p q.1:=λu l h=>zw (p:=λq:yA D×Tab=>p q.1) (by rw[h];exact yQ)
  rw[mQ];cases e:aA q.1 k with
  | true=>
   have c:=f q (.head _) e;rw[yT rfl];cases h:p k with
   | true=>rw[a _ _ (c.symm▸h),a _ _ (c.symm▸h),yT rfl,mQ,yT e]
   | false=>rw[b _ _ (c.symm▸h),b _ _ (c.symm▸h),yV yQ]
  | false=>
   rw[yV yQ];cases hq:p q.1 with
   | true=>
    rw[a _ _ hq,a _ _ hq,i];cases h:p k with
    | true=>rw[yT rfl,yT rfl,mQ,e,yV yQ]
    | false=>rw[yV yQ,yV yQ]
   | false=>rw[b _ _ hq,b _ _ hq,i]
theorem kL{ps:yA Nat}(a:∀ p∈ps,p<m){p' p:yA D->yH}(i:∀ r,p' r=p (aQ ps r)):∀ (n:Nat) (t:Tab),t.length=n->aP m t->cr ps (t.filter p')=(cr ps t).filter λq=>p q.1
 | 0,t,b,_=>by rw[AJ.mp b];rfl
 | n+1,t,b,h=>by
  obtain⟨l,r,rfl⟩:∃ l r,t=l++[r]:=⟨t.dropLast,t.getLast (Ca b),(CG _).symm⟩;have f:aP m l:=λx s=>h x (Ap _ s)
  have j:=kL a i n l (by rw[yY] at b;exact Am b) f
  have o:∀ l:Tab,cr ps (l++[r])=cO (aQ ps r) r (cr ps l):=λl=>by unfold cr;rw[Bg];rfl
  rw[zP,o l,nB λq hq e=>xq ((iz a f).ke q hq) e,<- i]
  cases c:p' r with
  | true=>rw[zc c,A7,o,j];rfl
  | false=>rw[zw (by rw[c];exact yQ),A7,zm,j];rfl
theorem all_split(p q:α->yH)(l:yA α):l.all q=((l.filter p).all q&&(l.filter λx=>!p x).all q):=by
 induction l with
 | nil=>rfl
 | cons x l a=>
  rw[AU,a];cases h:p x with
  | true=>rw[zc h,zw (by rw[h];exact yQ),AU,Bool.and_assoc]
  | false=>
   rw[zw (by rw[h];exact yQ),zc (by rw[h];rfl),AU]
   cases q x <;> cases (l.filter p).all q <;> rfl
theorem group_filter{ps:yA Nat}{b:yA (yF×Nat)}{t:Tab}(h:aP m t)(f:∀ p∈ps,p<m){w:Nat}{cl:yA (yA D)}(i:∀ c∈cl,bV w c):(eM ps b (t.filter (aK (cg ps cl)))).filter (aK (dB ps cl))=(eM ps b t).filter (aK cl):=by
 have j:∀ (r x:yA D),aK (cg ps cl) r=(cl.filter (cQ ps.length)).all λc=>c.any (tV (aQ ps r++x)):=λr x=>by
  unfold aK cg;rw[Bw];exact ff λc a=>(oz (fO (i c (zp.mp a).1) (zp.mp a).2).1).symm
 have n:∀ (k x:yA D),k.length=ps.length->((cl.filter (cQ ps.length)).all λc=>c.any (tV (k++x)))=(cl.filter (cQ ps.length)).all λc=>c.any (tV k):=λk x o=>ff λc a=>ui (fO (i c (zp.mp a).1) (zp.mp a).2).1 λt s p u=>iA (by rw[o];exact uD ((fO (i c (zp.mp a).1) (zp.mp a).2).1 t s) u)
 have e:=kL f (p':=aK (cg ps cl)) (p:=λk=>(cl.filter (cQ ps.length)).all λc=>c.any (tV k)) (λr=>by have:=j r [];rw[zm] at this;exact this) t.length t QQ h
 unfold eM;rw[e,By,By,Aj];refine y6 _ (Bh λq hq=>?_)
 have y:=((iz f h).ke q hq).1;show (aK (dB ps cl) (rM b q)&&(cl.filter (cQ ps.length)).all λc=>c.any (tV q.1))=aK cl (rM b q)
 rw[show aK cl (rM b q)=_ from all_split (cQ ps.length) (λc=>c.any (tV (rM b q))) cl,Cf]
 exact y6 (·&&_) (n q.1 (md b q.2) y).symm
theorem cat_lt(Fb:Nat)(c:yA D):cat Fb c=0\/cat Fb c=1\/cat Fb c=2\/cat Fb c=3:=by
 unfold cat
 split
 ·exact .inl QQ
 ·split
  ·exact .inr (.inl QQ)
  ·split
   ·exact .inr (.inr (.inl QQ))
   ·exact .inr (.inr (.inr QQ))
theorem wM(Fb:Nat)(q:yA D->yH):∀ a:yA (yA D),a.all q=((a.filter λc=>cat Fb c == 0).all q&&((a.filter λc=>cat Fb c == 1).all q&&((a.filter λc=>cat Fb c == 2).all q&&(a.filter λc=>cat Fb c == 3).all q)))
 | []=>rfl
 | c::a=>by
  rw[AU,wM Fb q a,Az,Az,Az,Az];have b:∀ x A B C E:yH,(x&&(A&&(B&&(C&&E))))=(A&&(x&&B&&(C&&E)))/\(x&&(A&&(B&&(C&&E))))=(A&&(B&&(x&&C&&E)))/\(x&&(A&&(B&&(C&&E))))=(A&&(B&&(C&&(x&&E)))):=λx A B C E=>by cases x <;> cases A <;> cases B <;> cases C <;> exact⟨QQ,QQ,QQ⟩
  rcases cat_lt Fb c with e | e | e | e <;> rw[e]
  ·exact (Bool.and_assoc _ _ _).symm
  ·exact (b _ _ _ _ _).1
  ·exact (b _ _ _ _ _).2.1
  ·exact (b _ _ _ _ _).2.2
theorem cat0{c:yA D}(h:cat Fb c=0):cQ Fb c=yC:=by
 unfold cat at h;split at h
 ·assumption
 ·split at h
  ·cases h
  ·split at h <;> cases h
theorem cat1{c:yA D}(h:cat Fb c=1):je Fb c=yC:=by
 unfold cat at h;split at h
 ·cases h
 ·split at h
  ·assumption
  ·split at h <;> cases h
theorem pD{l r:yA α}{z:α}(h:l.length<=k):(l++r).getD k z=r.getD (k - l.length) z:=by
 rw[yW,yW,Ai h]
theorem pair_one{c:yA D}(i:bV m c)(h:cat Fb c=2){x y:yA D}(j:bB Fb x)(J:bB k y)(L:m=Fb+k):c.any (tV (x++y))=eu (x.getD (uC Fb c).1 .none) (y.getD (uC Fb c).2 .none):=by
 obtain⟨a,b,M,s,A,B,e⟩:=xw i h;rw[e];have f:qN c=yC:=by
  unfold cat at h;split at h
  ·cases h
  ·split at h
   ·cases h
   ·split at h
    ·assumption
    ·cases h
 match c,i,f with
 | [],_,f=>cases f
 | t::u::r,_,f=>rw[mz] at f;cases f
 | [t],i,f=>
  obtain⟨w,p,N,O,⟨q,hq,rfl⟩ | ⟨o,Z,rfl⟩⟩:=i.1 t (.head _)
  ·have C:w="same":=by
    have:=(zr.mp (show (yB w == yB "same"&&yB "col" == yB "col")=yC from f)).1;rw[vx] at this;exact eq_of_beq this
   subst C;have T:tV (x++y) (tst "same" p "col" (.int q))=eu ((x++y).getD p .none) ((x++y).getD q .none):=iL (x++y) N p "col" (.int q);rw[Ax,List.any_nil,Bool.or_false,T];have n:∀ z:Int,z∈[(p:Int),(q:Int)]↔z∈[(a:Int),(b:Int)]:=λz=>by rw[<- M];exact (ii z _).symm
   have E:(x++y).getD a .none=x.getD a .none:=iA (by rw[j.1];exact s)
   have G:(x++y).getD b .none=y.getD (b - Fb) .none:=by rw[pD (by rw[j.1];exact A),j.1]
   have U:=dC j s;have V:=dC J (p:=b - Fb) (om76 L A B);have X:=(n p).mp (.head _);have Y:=(n q).mp (.tail _ (.head _));have H:=(n a).mpr (.head _);have I:=(n b).mpr (.tail _ (.head _));simp only[yX,zK,Bf] at X Y H I;have:(p=a/\q=b)\/(p=b/\q=a):=by exact om77 s A H I
   rcases this with⟨rfl,rfl⟩ | ⟨rfl,rfl⟩
   ·rw[E,G]
   ·rw[E,G,qe V U]
  ·have:(Bool.and (yB w == yB "same") (yB "is" == yB "col"))=yC:=f
   rw[show (yB "is" == yB "col")=yz from by decide +kernel,CB] at this
   cases this
theorem pi{cl:yA (yA D)}(f:∀ c∈cl,bV (Fb+k) c){x y:yA D}(b:bB Fb x)(m:bB k y):aK cl (x++y)=(aK (bY Fb cl) x&&(aK (aW Fb cl) y&&(br (bL Fb cl) x y&&aK (dD Fb cl) (x++y)))):=by
 have n:aK (bY Fb cl) (x++y)=aK (bY Fb cl) x:=ff λc a=>by
  have h:=zp.mp a;have ok:=fO (f c h.1) (cat0 (eq_of_beq h.2));exact ui ok.1 λt i p j=>iA (by rw[b.1];exact uD (ok.1 t i) j)
 have e1:((cl.filter λc=>cat Fb c == 1).all λc=>c.any (tV (x++y)))=aK (aW Fb cl) y:=by
  unfold aK aW;rw[Bw];refine ff λc a=>?_
  have h:=zp.mp a;have o:=cat1 (eq_of_beq h.2);refine qd (f c h.1).1 λt i p j=>?_
  have q:(Fb:Int)<=p:=zG (zk.mp o _ (BQ.mpr ⟨t,i,j⟩));rw[pD (by rw[b.1];exact Al.mp q),b.1]
 have s:((cl.filter λc=>cat Fb c == 2).all λc=>c.any (tV (x++y)))=br (bL Fb cl) x y:=by
  unfold br bL;rw[Bw];refine ff λc a=>?_
  have h:=zp.mp a;exact pair_one (f c h.1) (eq_of_beq h.2) b m QQ
 rw[show aK cl (x++y)=_ from wM Fb (λc=>c.any (tV (x++y))) cl,e1,s]
 exact y6 (·&&_) n
theorem meets_app(a b:yA (Nat×Nat))(x y:yA D):br (a++b) x y=(br a x y&&br b x y):=EO
theorem nz{cl:yA (yA D)}(h:∀ c∈cl,bV (Fb+k) c){b:Tab}(i:aP k b){prs:yA (Nat×Nat)}:∀ {a:Tab},aP Fb a->(iR (prs++bL Fb cl) (a.filter (aK (bY Fb cl))) (b.filter (aK (aW Fb cl)))).filter (aK (dD Fb cl))=(iR prs a b).filter (aK cl)
 | [],_=>rfl
 | x::a,m=>by
  have o:=nz h i (prs:=prs) (a:=a) λr q=>m r (.tail _ q)
  have n:=m x (.head _);have step:∀ (p:yA (Nat×Nat)) (a b:Tab),iR p (x::a) b=(b.filter (br p x)).map (x++·)++iR p a b:=λZ Z Z=>QQ
  rw[step,zP,<- o];have e:((b.filter (br prs x)).map (x++·)).filter (aK cl)=(b.filter λy=>br prs x y&&aK cl (x++y)).map (x++·):=by
   rw[By,Aj];exact y6 _ (Bh λy Z=>Cf _ _)
  rw[e];cases f:aK (bY Fb cl) x with
  | true=>
   rw[zc f,step,zP];refine y6 (·++_) ?_;rw[By,Aj,Aj];refine y6 _ (Bh λy j=>?_)
   show (aK (dD Fb cl) (x++y)&&br (prs++bL Fb cl) x y&&aK (aW Fb cl) y)=(br prs x y&&aK cl (x++y));rw[pi h n (i y j),f,meets_app];cases aK (dD Fb cl) (x++y) <;> cases br prs x y <;> cases br (bL Fb cl) x y <;> cases aK (aW Fb cl) y <;> rfl
  | false=>
   rw[zw (by rw[f];exact yQ),show (b.filter λy=>br prs x y&&aK cl (x++y))=[] from Cr.mpr λy j=>by rw[pi h n (i y j),f];cases br prs x y <;> exact yQ]
   rfl
theorem l7(T:Tbs)(cs:yA (yA D))(q:Q):(jB cs q).ans T=(q.ans T).filter (aK cs):=by
 cases cs with
 | nil=>exact (mJ _).symm
 | cons=>rfl
theorem placed_ans{W:Wd}{T:Tbs}(s:rz W R T):∀ (q:Q) (cl:yA (yA D)) (r:Nat),q.ok W->q.rb R r->(∀ c∈cl,bV (q.wd W) c)->(q.placed W cl).ans T=(q.ans T).filter (aK cl):=by
 intro q
 induction q with
 | table A=>rintro cl _ _ _ _;exact l7 T cl _
 | sieve t q j=>
  rintro cl r h i f;show (q.placed W (t++cl)).ans T=((q.ans T).filter (aK t)).filter (aK cl);rw[j (t++cl) r h.1 i λc z=>(zA.mp z).elim (h.2.1 c) (f c),Aj]
  exact Bh λx Z=>(keeps_app t cl x).trans (Cf _ _)
 | pick ps q j=>
  rintro cl r h i f;show ((q.placed W (iq ps cl)).ans T).map (aQ ps)=((q.ans T).map (aQ ps)).filter (aK cl);rw[j (iq ps cl) r h.1 i (oO f h.2.1),By];exact y6 _ (Bh λx Z=>pick_keeps f x)
 | group ps y q j=>
  rintro cl r h i f;show (jB (dB ps cl) (.group ps y (q.placed W (cg ps cl)))).ans T=(eM ps y (q.ans T)).filter (aK cl);rw[l7];show (eM ps y ((q.placed W (cg ps cl)).ans T)).filter _=_;rw[j (cg ps cl) r h.1 i (mM f h.2.1)];exact group_filter (cw s q r h.1 i).1 h.2.1 f
 | order ks q j=>
  rintro cl r h i f;show eI ks ((q.placed W cl).ans T)=(eI ks (q.ans T)).filter (aK cl);rw[j cl r h.1 i f];exact order_filter (cw s q r h.1 i).1 h.2.1 _
 | once q j=>
  rintro cl r h i f;show aX ((q.placed W cl).ans T)=(aX (q.ans T)).filter (aK cl);rw[j cl r h i f];exact np _ _ _ QQ (cw s q r h i).1
 | first c q j=>
  rintro cl r h ⟨r',i,_⟩ f;show (jB cl (.first c (q.placed W []))).ans T=((q.ans T).take c).filter (aK cl)
  rw[l7];show (((q.placed W []).ans T).take c).filter _=_;rw[j [] r' h i (λZ h=>nomatch h),mJ]
 | join a b m n o=>
  rintro cl r h ⟨u,r2,h1,w,_⟩ f;show (jB (dD (a.wd W) cl) (.join (a.placed W (bY (a.wd W) cl)) (b.placed W (aW (a.wd W) cl)) (m++bL (a.wd W) cl))).ans T=(iR m (a.ans T) (b.ans T)).filter (aK cl);rw[l7];show (iR (m++bL (a.wd W) cl) ((a.placed W _).ans T) ((b.placed W _).ans T)).filter _=_;rw[n _ u h.1 h1 (m9 f),o _ r2 h.2.1 w (li f)];exact nz f (cw s b r2 h.2.1 w).1 (cw s a u h.1 h1).1
 | both a b n o=>
  rintro cl r h ⟨u,r2,h1,w,_⟩ f;show (a.placed W cl).ans T++(b.placed W cl).ans T=(a.ans T++b.ans T).filter (aK cl);rw[n cl u h.1 h1 f,o cl r2 h.2.1 w (h.2.2▸f),zP]
theorem n7{cs:yA (yA D)}{q:Q}{r:Nat}(h:q.rb R r):(jB cs q).rb R r:=by
 cases cs with
 | nil=>exact h
 | cons=>exact h
theorem placed_rb{W:Wd}:∀ (q:Q) (cl:yA (yA D)) (r:Nat),q.rb R r->(q.placed W cl).rb R r:=by
 intro q
 induction q with
 | table _=>rintro _ _ h;exact n7 h
 | sieve s q f=>rintro cl r h;exact f (s++cl) r h
 | pick ps q f=>rintro cl r h;exact f _ r h
 | group ps t q f=>rintro cl r h;exact n7 (q:=.group ps t (q.placed W _)) (f _ r h)
 | order ks q f=>rintro cl r h;exact f _ r h
 | once q f=>rintro cl r h;exact f _ r h
 | first c q f=>rintro cl r ⟨r',h,m⟩;exact n7 (q:=.first c (q.placed W _)) ⟨r',f _ r' h,m⟩
 | join a b u i j=>rintro cl r ⟨n,r2,h1,m,o⟩;exact n7 (q:=.join (a.placed W _) (b.placed W _) _) ⟨n,r2,i _ n h1,j _ r2 m,o⟩
 | both a b i j=>rintro cl r ⟨n,r2,h1,m,o⟩;exact⟨n,r2,i _ n h1,j _ r2 m,o⟩
end
theorem xr{cf:CF}{z:yF}{e:ME}{r:yA MS}{σ:St}{d R:D}{fr f:yH}(h:evF cf (vis σ) e=ac (d,fr))(k:∀ Fd:St,(∀ x u,(x == z)=yz->Has σ x u->Has Fd x u)->Has Fd z d->Run cf r Fd R f):Run cf (.x0 z e::r) σ R f:=
 aB (ai h) (k _ (λx u a i=>ag a (ao i)) aw)
theorem tbs3{W3w W3r:Wd}{a b c:Str}{j m n:Tab}{t u w2 w y r2:Nat}(e1:W3w=W3 a b c t u w2)(C:W3r=W3 a b c w y r2)(z:aP t j/\j.length=w)(A:aP u m/\m.length=y)(B:aP w2 n/\n.length=r2):rz W3w W3r [(a,j),(b,m),(c,n)]:=λq k h=>by
 subst e1 C;unfold W3 at h ⊢;rw[y7] at h ⊢;cases i:q == a with
 | true=>
  rw[i] at h;exact⟨j,QQ,yJ h▸z.1,λr f=>by rw[y7,i] at f;exact yJ f▸y5 z.2⟩
 | false=>
  rw[i] at h;dsimp only at h ⊢;rw[y7] at h ⊢;cases o:q == b with
  | true=>
   rw[o] at h;exact⟨m,QQ,yJ h▸A.1,λr f=>by rw[y7,i] at f;dsimp only at f;rw[y7,o] at f;exact yJ f▸y5 A.2⟩
  | false=>
   rw[o] at h;dsimp only at h ⊢;rw[y7] at h ⊢;cases s:q == c with
   | true=>
    rw[s] at h;exact⟨n,QQ,yJ h▸B.1,λr f=>by rw[y7,i] at f;dsimp only at f;rw[y7,o] at f;dsimp only at f;rw[y7,s] at f;exact yJ f▸y5 B.2⟩
   | false=>rw[s] at h;cases h
theorem pM{d:D}(h:d.isCell=yC):eqV d d=ac yC:=aS (C:=λd=>eqV d d=ac yC) h (λi=>by show ac (i == i)=_;rw[zg]) λx=>by show ac (x == x)=_;rw[zg]
theorem qK{m:Nat}:∀ {t:Tab},aP m t->fw (t.map .tup) (t.map .tup)=yC
 | [],_=>rfl
 | r::t,h=>by
  show (aA r r&&fw (t.map .tup) (t.map .tup))=yC;rw[dU (h r (.head _)).2,qK λx a=>h x (.tail _ a)];rfl
theorem sv{m:Nat}{t:Tab}(h:aP m t):eqV (az t) (az t)=ac yC:=by
 show (if ((t.map D.tup).all D.isTK&&(t.map D.tup).all D.isTK)=yC then ac (fw (t.map .tup) (t.map .tup)) else yS)=_
 rw[rG h,qK h];rfl
theorem nG:∀ {l:yA D},(∀ d∈l,eqV d d=ac yC)->mU l l=ac yC
 | [],_=>rfl
 | d::l,h=>by
  show (eqV d d).bind _=_;rw[h d (.head _)];show (mU l l).map _=_;rw[nG λx a=>h x (.tail _ a)];rfl
theorem three{P:D->Prop}{x y z:D}(b:P x)(c:P y)(hz:P z):∀ d∈[x,y,z],P d:=λd a=>(yX.mp a).elim (λe=>e▸b) λa=>(yX.mp a).elim (λe=>e▸c) λa=>y3.mp a▸hz
theorem re(a b c:Str){x y z:D}(f:eqV x x=ac yC)(h:eqV y y=ac yC)(hz:eqV z z=ac yC):eqX (.dict [.str a,.str b,.str c] [x,y,z]) (.dict [.str a,.str b,.str c] [x,y,z])=ac yC:=by
 refine (yT ?_).trans (nG (three f h hz));have e:aA [D.str a,.str b,.str c] [D.str a,.str b,.str c]=yC:=dU (three (P:=λd=>d.isCell=yC) QQ QQ QQ)
 show ([D.str a,.str b,.str c].all D.isCell&&aA [D.str a,.str b,.str c] [D.str a,.str b,.str c]&&_)=yC;rw[e];rfl
theorem eq_t{a b:D}(h:eqX a b=ac yC):ec .Eq a b=ac (.bool yC):=by
 show (eqX a b).map D.bool=_;rw[h];rfl
theorem ne_f{a b:D}(h:eqX a b=ac yC):ec .NotEq a b=ac (.bool yz):=by
 show (eqX a b).map (λx=>D.bool (!x))=_
 rw[h];rfl
structure Pln(W R:Wd)(q f:Q)(r:Nat):Prop where
 ok:q.ok W
 rb:q.rb R r
 r6:r<=60
 nar:q.nar W 5000
 dp:q.dp<=38
 wd:q.wd W<=big
 fok:f.ok W
 frb:f.rb R r
 fnar:f.nar W 5000
 fdp:f.dp<=77
 an:∀ {T:Tbs},rz W R T->f.ans T=q.ans T
theorem TpA.pln{W R:Wd}{q:Q}{r k:Nat}(t:TpA W R 456 38 q r k):Pln W R q (q.placed W []) r:=by
 have b:=t.cp;have c:=t.pr;have f:=t.dp;have a:=cM (W:=W) q [] t.ok (λZ h=>nomatch h) (by show q.cp+0<=1000;exact om3 b) (by show q.pr+q.cp+0<=5000;exact om4 b c) t.nar
 exact⟨t.ok,t.rb,t.r,t.nar,t.dp,yD t.wd (yD (zo 24 t.k2) (by decide)),a.ok,placed_rb q [] r t.rb,a.nar,yD a.dp (om5 f),λi=>by rw[placed_ans i q [] r t.ok t.rb (λZ h=>nomatch h),mJ]⟩
noncomputable def pG:Fn:=⟨["query","widths","tables"],[
  .ret (.call "answer" [.call "plan" [.u "query",.u "widths"],.u "tables"])]⟩
noncomputable def sq:Fn:=⟨["_law_script"],[
  .x0 "_law_query" (.sub (.call "_law_built" [.u "_law_script"]) (.int 0)),
  .x0 "_law_widths_here" (.call "_law_widths" [.u "_law_script"]),
  .x0 "_law_found" (.call "plan" [.u "_law_query",.u "_law_widths_here"]),
  .for_ "_law_more" (.lst [.int 0,.int 1,.int 0]) [.x0 "_law_some" (.call "_law_tables" [.u "_law_script",.u "_law_more"]),.x0 "_law_due" (.call "_law_answer" [.u "_law_query",.u "_law_some"]),.ite (.not (.call "_law_rows_are" [.call "_law_answer" [.u "_law_found",.u "_law_some"],.u "_law_due"])) [.ret (.bool yz)] [],.x0 "_law_handed" (.call "_law_tables" [.u "_law_script",.u "_law_more"]),.x0 "_law_told_here" (.call "planned" [.u "_law_query",.u "_law_widths_here",.u "_law_handed"]),.ite (.not (.call "_law_rows_are" [.u "_law_told_here",.u "_law_due"])) [.ret (.bool yz)] [],.append "_law_told_here" (.tup [.str "more"]),.ite (.cmp .NotEq (.u "_law_handed") (.u "_law_some")) [.ret (.bool yz)] []],
  .ret (.cmp .Eq (.u "_law_widths_here") (.call "_law_widths" [.u "_law_script"]))]⟩
noncomputable def PP:yA (yF×Fn):=[("before",mT),("does",sr),("rank",wq),("told_of",k5),("holds",pJ),("alike",tT),("_law_before",gY),("_law_one_by",gW),("once",sj),("ordered",k7),("grouped",k9),("cells_at",nD),("keeps",pI),("meets",pH),("_law_ahead",i9),("_law_told",jH),("_law_row_like",jn),("_law_stands",gU),("is_pair",k8),("places_of",lS),("need_columns",fC),("_law_many",jN),("_law_clause_by",dT),("_law_pairs_by",jo),("stepped",k6),("met",uP),("_law_cell_is",gf),("_law_ordered",fY),("_law_grouped",fZ),("_law_holds",iY),("_law_alike",iZ),("_law_thing_by",fD),("over",wv),("through_group",e9),("through_join",fB),("turned",q8),("width_upon",gT),("width_of_two",jm),("_law_sign_by",jK),("_law_keys_by",jP),("_law_sums_by",jI),("_law_places_by",iB),("_law_clauses_by",dE),("_law_of_two",fi),("_law_sieve_on",fE),("answer",kB),("_law_row_is",gV),("_law_inner",lV),("_law_done",jQ),("_law_joined",gX),("_law_rows_of",jL),("_law_rows_by",jM),("placed",kA),("width",tR),("_law_wide_by",jG),("_law_names",lT),("_law_leaf",jO),("_law_mixed",lU),("_law_around",fj),("_law_cell_at",jR),("_law_stepped",jJ),("planned",pG),("_law_rows_are",fF),("_law_answer",dA),("_law_tables",kN),("plan",wt),("_law_widths",kM),("_law_built",lW),("law",sq)]
noncomputable def X7:CF:=⟨λZ Z=>yS,λx=>if x="STEPS" then ac (.tup eG) else yS⟩
theorem bt:BT PP:={ toBE:=⟨⟨⟨⟨QQ,QQ,QQ,QQ⟩,QQ,QQ⟩,QQ,QQ,QQ,QQ,QQ,QQ,QQ,QQ,QQ⟩,QQ,QQ,QQ,QQ,QQ,QQ,QQ⟩,toBA:=⟨QQ,QQ,QQ,QQ,QQ,QQ,QQ,QQ,QQ,QQ,QQ,QQ,QQ,QQ,QQ⟩,rowsBy:=rfl,tables:=rfl }
theorem bl:BL PP:=⟨QQ,QQ,QQ,QQ,QQ,QQ,QQ,QQ,QQ,QQ,QQ,QQ,QQ,QQ,QQ,QQ⟩
theorem bp:BP PP:=⟨⟨QQ,QQ,QQ,QQ,QQ⟩,QQ,QQ,QQ,QQ,QQ,QQ,QQ⟩
structure qi(S Q W F:D)(σ:St):Prop where
 s:Has σ "_law_script" S
 q:Has σ "_law_query" Q
 w:Has σ "_law_widths_here" W
 f:Has σ "_law_found" F
theorem qi.set{S Q W F:D}{σ:St}(I:qi S Q W F σ){x:yF}{v:yH×D}(h1:("_law_script" == x)=yz)(a:("_law_query" == x)=yz)(b:("_law_widths_here" == x)=yz)(c:("_law_found" == x)=yz):qi S Q W F (ay σ x v):=⟨ag h1 I.s,ag a I.q,ag b I.w,ag c I.f⟩
theorem qi.st{S Q W F:D}{σ:St}(I:qi S Q W F σ){d:D}{ns:yA yF}:qi S Q W F (settle d ns σ):=⟨ao I.s,ao I.q,ao I.w,ao I.f⟩
noncomputable abbrev lawB:yA MS:=match sq.body with
 | [_,_,_,.for_ _ _ b,_]=>b
 | _=>[]
theorem law_turn{cf:CF}{S E G H:D}{U:D}{A:Tab}{m:Nat}{z:Int}{a b Fh:yH}(V:cf.call "_law_tables" [S,.int z]=ac (U,a))(Fi:cf.call "_law_answer" [E,U]=ac (az A,b))(Fj:cf.call "_law_answer" [H,U]=ac (az A,Fh))(X:cf.call "_law_rows_are" [az A,az A]=ac (.bool yC,yz))(Fk:cf.call "planned" [E,G,U]=ac (az A,yC))(Fm:A.length<=60)(he:ec .NotEq U U=ac (.bool yz)){σ:St}(I:qi S E G H σ) :
  Out cf lawB (ay σ "_law_more" (yz,.int z)) λFo Fd=>Fo=.next/\qi S E G H Fd:=by
 have Y:=I.set (x:="_law_more") (v:=(yz,.int z)) QQ QQ QQ QQ;have Z:Has (ay σ "_law_more" (yz,.int z)) "_law_more" (.int z):=aw;generalize ay σ "_law_more" (yz,.int z)=c at *;refine aH (ai (aD (vv Y.s (vv Z vN)) V)) ?_;have Fg:=(Y.st (d:=U) (ns:=["_law_script","_law_more"])).set (x:="_law_some") (v:=(a,U)) QQ QQ QQ QQ;have J:=ag (x:="_law_more") (y:="_law_some") (v:=(a,U)) QQ (ao (e:=U) (ns:=["_law_script","_law_more"]) Z);have h:Has (ay (settle U ["_law_script","_law_more"] c) "_law_some" (a,U)) "_law_some" U:=aw;generalize i:ay (settle U ["_law_script","_law_more"] c) "_law_some" (a,U)=j at *;refine uG i (aH (ai (aD (vv Fg.q (vv h vN)) Fi)) ?_);have L:=(Fg.st (d:=az A) (ns:=["_law_query","_law_some"])).set (x:="_law_due") (v:=(b,az A)) QQ QQ QQ QQ;have M:=ag (x:="_law_more") (y:="_law_due") (v:=(b,az A)) QQ (ao (e:=az A) (ns:=["_law_query","_law_some"]) J);have n:=ag (x:="_law_some") (y:="_law_due") (v:=(b,az A)) QQ (ao (e:=az A) (ns:=["_law_query","_law_some"]) h);have o:Has (ay (settle (az A) ["_law_query","_law_some"] j) "_law_due" (b,az A)) "_law_due" (az A):=aw;generalize t:ay (settle (az A) ["_law_query","_law_some"] j) "_law_due" (b,az A)=u at *;refine uG t (cD (k:=yz) (fP (k:=yC) (am (aa (am (vv L.f (vv n vN)) Fj) (vv o vN)) X) QQ) QQ nofun λEP=>?_)
 refine aH (ai (aD (vv L.s (vv M vN)) V)) ?_;have N:=(L.st (d:=U) (ns:=["_law_script","_law_more"])).set (x:="_law_handed") (v:=(a,U)) QQ QQ QQ QQ;have O:=ag (x:="_law_some") (y:="_law_handed") (v:=(a,U)) QQ (ao (e:=U) (ns:=["_law_script","_law_more"]) n);have T:=ag (x:="_law_due") (y:="_law_handed") (v:=(a,U)) QQ (ao (e:=U) (ns:=["_law_script","_law_more"]) o);have B:Has (ay (settle U ["_law_script","_law_more"] u) "_law_handed" (a,U)) "_law_handed" U:=aw;generalize C:ay (settle U ["_law_script","_law_more"] u) "_law_handed" (a,U)=Fp at *;refine uG C (aH (ai (d:=az A) (fr:=yC) (aD (vv N.q (vv N.w (vv B vN))) Fk)) ?_);refine cD (k:=yz) (fP (k:=yC) (am (vv aw (vv (ag QQ (ao T)) vN)) X) QQ) QQ nofun λEP=>?_
 refine aH (bN (d:=.tup [sD "more"]) (ds:=A.map .tup) (bA (aa vS vN) (yM QQ)) (bW QQ dg) (by rw[yI];exact yO Fm (by decide))) ?_
 refine cD (k:=yz) (x:=.bool yz) (ax (vr (ag QQ (ao (ag QQ (ao B))))) (vr (ag QQ (ao (ag QQ (ao O))))) he) QQ nofun λEP=>?_
 exact bq ⟨QQ,(((N.st).set QQ QQ QQ QQ).st).set QQ QQ QQ QQ⟩
theorem planned_eq(n:Nat){q w f U:D}{R:D}{fr a:yH}(h1:(af PP X7 n).call "plan" [q,w]=ac (f,a))(b:(af PP X7 n).call "answer" [f,U]=ac (R,fr)):(af PP X7 (n+1)).call "planned" [q,w,U]=ac (R,fr):=
 au (by rfl:PP.lookup "planned"=ac pG) QQ (aE (aD (aa (am (vv ad (vv (ae QQ ad) vN)) h1) (vv (ae QQ (ae QQ ad)) vN)) b) QQ)
theorem pure_ok(n:Nat)(ns:yA Int):∃ fr,(af PP X7 (n+131)).call "law" [.list (ns.map .int)]=ac (.bool yC,fr):=by
 have J:X7.glob "STEPS"=ac (.tup eG):=rfl;obtain⟨a,b,c,⟨f,h,i⟩,B⟩:=names_eq (X:=X7) bt.toBE ns;have u:uT PP X7 (W3 a b c (aR (ns.getD 0 0)) (aR (ns.getD 1 0)) (aR (ns.getD 2 0))) (W3 a b c (cT (ns.getD 0 0)) (cT (ns.getD 1 0)) (cT (ns.getD 2 0))) (.list (ns.map .int)):=λn=>by
  obtain⟨Fk,Fm,Fo,⟨C,E,G⟩,L⟩:=qE (X:=X7) bt n ns 0 f h i (B (n+2));refine⟨_,yC,L,λm q r k cc dp Y Fp t=>?_⟩
  obtain⟨m,rfl⟩:∃ j,m=j+5:=⟨m - 5,by exact om6 Y⟩
  obtain⟨fr,e⟩:=rZ (X:=X7) bl (tbs3 QQ QQ C E G) q r m t.ok t.rb t.r t.nar (yD t.dp (om7 Fp Y));exact⟨_,fr,e⟩
 obtain⟨d,fr,⟨q,r,k,t,rfl⟩,M⟩:=built_eq bt.toBE (n+121) (om8) u λn k Fq=>leaf_eq bt.toBE n ns f h i (B n) k Fq
 have Z:(af PP X7 (n+130)).call "_law_widths" [.list (ns.map .int)]=_:=widths_eq bt.toBE (n+127) ns f h i (B (n+127));have Fg:=t.cp;have y:=t.dp;have pl:=t.pln;have Fs:(af PP X7 (n+130)).call "plan" [q.d,Wd.d _]=_:=vn bp J q (n+123) t.ok (om9 Fg) t.nar (om10 y);have N:(af PP X7 (n+129)).call "plan" [q.d,Wd.d _]=_:=vn bp J q (n+122) t.ok (om9 Fg) t.nar (om11 y);have Ft:aV (aG (W3 a b c (aR (ns.getD 0 0)) (aR (ns.getD 1 0)) (aR (ns.getD 2 0))) q r k) (.int 0)=ac q.d:=rfl;have Fu:ec .Eq (W3 a b c (aR (ns.getD 0 0)) (aR (ns.getD 1 0)) (aR (ns.getD 2 0))).d (W3 a b c (aR (ns.getD 0 0)) (aR (ns.getD 1 0)) (aR (ns.getD 2 0))).d=ac (.bool yC):=eq_t (re a b c (pM QQ) (pM QQ) (pM QQ));have turn:∀ (z:Int) (σ:St),qi (.list (ns.map .int)) q.d (Wd.d _) (Q.d _) σ->Out (af PP X7 (n+130)) lawB (ay σ "_law_more" (yz,.int z)) λFv Fd=>Fv=.next/\qi (.list (ns.map .int)) q.d (Wd.d _) (Q.d _) Fd:=λz σ I=>by
  obtain⟨Fk,Fm,Fo,⟨C,E,G⟩,L⟩:=qE (X:=X7) bt (n+125) ns z f h i (B (n+127));have A:=tbs3 (W3w:=W3 a b c (aR (ns.getD 0 0)) (aR (ns.getD 1 0)) (aR (ns.getD 2 0))) (W3r:=W3 a b c (cT (ns.getD 0 0)) (cT (ns.getD 1 0)) (cT (ns.getD 2 0))) QQ QQ C E G;obtain⟨O,Fw⟩:=rZ (X:=X7) bl A q r (n+125) pl.ok pl.rb pl.r6 pl.nar (yD pl.dp (om12));obtain⟨H,Fh⟩:=rZ (X:=X7) bl A _ r (n+125) pl.fok pl.frb pl.r6 pl.fnar (yD pl.fdp (om13));have Fi:=answer_eq (X:=X7) bt.toBA J A _ r (n+124) pl.fok pl.frb pl.r6 pl.fnar (yD pl.fdp (om14));rw[pl.an A] at Fh Fi;have o:=cw A q r pl.ok pl.rb;exact law_turn (m:=0) L Fw Fh (lrows_are bl (n+127) o.1 pl.wd (yD o.2 (yD pl.r6 (by decide)))) (planned_eq (n+129) N Fi) (yD o.2 pl.r6) (ne_f (re a b c (sv C.1) (sv E.1) (sv G.1))) I
 refine⟨yz,au (by rfl:PP.lookup "law"=ac sq) QQ ?_⟩
 show Run _ sq.body [("_law_script",(yz,.list (ns.map .int)))] _ _;have M:(af PP X7 (n+130)).call "_law_built" [.list (ns.map .int)]=_:=M;generalize aG (W3 a b c (aR (ns.getD 0 0)) (aR (ns.getD 1 0)) (aR (ns.getD 2 0))) q r k=T at *;generalize (q.placed (W3 a b c (aR (ns.getD 0 0)) (aR (ns.getD 1 0)) (aR (ns.getD 2 0))) []).d=Fz at *;generalize (W3 a b c (aR (ns.getD 0 0)) (aR (ns.getD 1 0)) (aR (ns.getD 2 0))).d=V at *;generalize D.list (ns.map .int)=S at *;generalize q.d=FA at *;generalize af PP X7 (n+130)=cf at *;refine xr (aq (av (am (vv ad vN) M) vI Ft) QQ QQ) λFE FF FG=>?_
 have s1:=FF _ _ QQ ad;refine xr (aD (vv s1 vN) Z) λFH O Fj=>?_
 have FJ:=O _ _ QQ s1;have q2:=O _ _ QQ FG;refine xr (aD (vv q2 (vv Fj vN)) Fs) λU H FK=>?_
 have FM:=H _ _ QQ FJ;have FN:=H _ _ QQ q2;have FO:=H _ _ QQ Fj;obtain⟨FP,I,e⟩:=gH (cf:=cf) (body:=lawB) (z:="_law_more") (g:=D.int) (λEP σ=>qi S FA V Fz σ) [0,1,0] [] (freeze [] U) ⟨bT FM,bT FN,bT FO,bT FK⟩ λEP z σ EP EP I=>turn z σ I
 refine dW (x:=.list [.int 0,.int 1,.int 0]) QQ QQ e ?_;exact aE (aq (ax (vr I.w) (am (vv I.s vN) Z) Fu) QQ QQ) QQ
noncomputable def GlobOk(mg:Str->yK yE)(h:Heap):Prop:=∃ a vs n,mg (yB "STEPS")=ac (.ref a)/\h.get? a=ac (dY vs n)/\lA vs.toList qG=yC
theorem GlobOk.keeps{mg:Str->yK yE}{h h':Heap}(x:GlobOk mg h)(c:∀ b o,h.get? b=ac o->h'.get? b=ac o):GlobOk mg h':=let ⟨a,vs,n,h1,h2,h3⟩:=x;⟨a,vs,n,h1,c _ _ h2,h3⟩
theorem glob_of(s:yL)(e:n0 s=yC):GlobOk (s.heap.nsMap Ao) s.heap:=by
 unfold n0 at e;split at e
 ·rename_i a j
  split at e
  ·rename_i o m
   unfold sO at e;simp only[Bb,AZ,AX,En] at e;obtain⟨⟨⟨e1,b⟩,f⟩,h⟩:=e;split at e1
   ·rename_i vs n i
    refine⟨a,vs,n,j,?_,e1⟩;rw[m];obtain⟨c,d,q,t⟩:=o;dsimp only at b f h i;subst b f h i
    rfl
   ·cases e1
  ·cases e
 ·cases e
theorem qM{P:zH}{h:Heap}{H:yN->Prop}:∀ {vs:yA yE} {ys:yA Str},lA vs ys=yC->al P h H vs (ys.map .str)
 | [],[],_=>.nil
 | [],_::_,e=>by cases e
 | _::_,[],e=>by cases e
 | v::vs,y::ys,e=>by
  rw[lA,Bb] at e;obtain⟨e1,b⟩:=e;refine .cons ?_ (qM b);cases v <;> first | (cases e1;done) | skip
  rename_i x t
  have a:(x == y)=yC:=e1;rw[AZ] at a;subst a;exact .str _ _
theorem hx7{E3:zh}{w:zq}{E6:Heap}{mg:Str->yK yE}{A:zt}(g:GlobOk mg E6):eU E3 w E6 mg X7 A:=by
 refine⟨(λZ Z Z Z h=>nomatch h),λx d h=>?_⟩
 have h:(if x="STEPS" then ac (D.tup eG) else yS)=ac d:=h
 split at h
 ·rename_i b
  cases h;subst b;obtain⟨a,vs,n,h1,c,f⟩:=g;refine⟨_,h1,.tup c (λq=>q) (by decide) ?_⟩
  exact qM f
 ·cases h
end Mine
namespace Mine
open PySem PySem.W PyProof.Rows
set_option maxHeartbeats 0
theorem chkd:sB (Du vw) PP=yC:=by decide +kernel
theorem freed:oq vw (looseW vw [])=yC:=by decide +kernel
end Mine
open PySem PySem.W PyProof.Rows
set_option maxRecDepth 100000 in
set_option maxHeartbeats 8000000 in
theorem PySem.Challenge.cw_uf030018_14_holds : PySem.Challenge.rw_uf030018_14.Holds := by
 refine holds_law Mine.ws fun said=>?_
 refine holds_open (q:=Mine.vw) (loose:=[]) (Xt:=Mine.hdXt) (XP:=(fun mg h=>XL Mine.vw [] mg h∧Mine.TbOk mg h∧Mine.GlobOk mg h)) (Yf:=Hook.obs Hook.none) (Ya:=Hook.val Hook.none) (YP:=Hook.says Hook.none) (N:=20000) Mine.left (Hook.of Hook.none) (Hook.keeps Hook.none) (fun s e=>⟨xl_of s (zr.mp (zr.mp (Mine.hdXi e)).1).1,Mine.tb_of s (zr.mp (zr.mp (Mine.hdXi e)).2).1,Mine.glob_of s (zr.mp (zr.mp (Mine.hdXi e)).2).2⟩) (fun mg h h' x k=>⟨XL.keeps mg h h' x.1 k,Mine.TbOk.keeps x.2.1 k,Mine.GlobOk.keeps x.2.2 k⟩) Mine.dlDef Mine.dlIs Mine.dlKw (fun s e=>recFacts_of (zr.mp (zr.mp (Mine.hdXi e)).1).2) (by rfl) said Mine.okAll ⟨rfl,rfl,rfl,rfl,rfl,by decide +kernel⟩ ?hw ?hc
 (case hw=>w_witness2)
 intro w s₀ s₁ mg mb G Y fa o pm cd doc dV kV ho hd hcd hD hmg hg args vals as hpre hlay hrd hwl hlo;rw[Mine.dlName] at hmg;refine Ground.open G ?_;intro T B D TE TW
 wrow_args hpre hlay hrd hwl hlo
 exact Mine.law_fin (P:=Mine.PP) (X:=Mine.X7) 131 T Mine.chkd Mine.freed (by decide) (fun _ _=>Mine.hx7 G.X.2.2) G.X.2.1 hmg hg (by assumption) (by assumption) (Mine.pure_ok _ _)
