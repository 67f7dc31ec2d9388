import PyProof.Rows.All
import Wide.All
import Open.Line
import Wide.FinOn
import PyProof.Cells
import PyProof.RangeIter
import PyProof.CodeObjX
import PyProof.FactsAll.tuple
import PyProof.DictKinds
import PyProof.CompMap
import PyProof.DictKind
import PyProof.Rows.Tup
import PyProof.DictRoads
import PyProof.DictDisplay
import PyProof.NeKinds
import PyProof.DictRoadsH
import PyProof.StrBlockI
import PyProof.StrBlock2
import KE.KSortTup
import PyProof.CompFree
import PyProof.Rows.Walk
import PyProof.ListMulRoad
import PyProof.AutoSeq1
import PyProof.Rows.IntRules
import PyProof.Rows.RuleB_mul
import PyProof.Rows.RuleB_floordiv
import PyProof.Rows.RuleB_pow
import PyProof.Rows.RuleB_mod
import PyProof.Rows.RuleC_int
import PyProof.Rows.RuleU_int
import PyProof.Rows.StrRules
import PyProof.Rows.Nodes
import PyProof.Rows.TupSub
import PyProof.ListOps
import PyProof.TupleOps
import PyProof.DictStraight
import PyProof.Rows.Lst
import PyProof.Rows.TupMore
import PyProof.Rows.StrTemp
import PyProof.ListTruth
import PyProof.TupleOfSeq
import PyProof.CallStr
import PyProof.RangeFor
import PyProof.Conv_int_bool
import PyProof.SliceStr2
import PyProof.SliceMore
import PyProof.ListIndexNeg
import PyProof.IsiPairs
import PyProof.IsiHeapPairs
import KE.KEqDict
import PyProof.Rows.Exc
import PyProof.Rows.Globals
import PyProof.IsiTuple
import PyProof.ListCopy
import PyProof.WalkInts
import PyProof.Rows.SumAny
import KE.KDictList
import PyProof.DictWalks
import PyProof.WalksMore
import PyProof.StationsW
import PyProof.Rows.PlainStore
import PyProof.ExcClass2
import PyProof.ExcBaseAll.ValueError
import PyProof.Rows.StrTempNeg
import PyProof.Rows.SortRuns
import PyProof.SetKind
import PyProof.SetRoads
import PyProof.Rows.SetFrom
import PyProof.Rows.SortShell
import PyProof.Rows.RuleB_bool
import KE.KLam
import PyProof.ForAppend
import KE.KRevIter
import PyProof.TupleCall
import PyProof.CallTypeRange
import PyProof.RulesAs
import PyProof.IsInstance
import PyProof.ExcClsAt2
import PySem.Challenge.RW_uf030018_09
set_option Elab.async false
set_option linter.all false
set_option backward.eqns.nonrecursive false
set_option genSizeOf false
set_option maxRecDepth 100000
open Option renaming some->ac,none->wa,isNone_iff_eq_none->xX,map_some->AH
open Bool renaming false->vP,true->vT,and_eq_true_iff->wm,false_ne_true->wO,or_eq_true_iff->yh,and_eq_true->yl,false_eq_true->yI,eq_false_iff->zV,eq_iff_iff->Az,or_eq_true->AA,or_true->Bw
open PySem.Str renaming ofString->vQ
open _root_ renaming List->vR,String->vV,Option->vY,Bool->v7,if_pos->wh,if_neg->wo,congrArg->wv,Array->wA,beq_self_eq_true->wH,absurd->wI,beq_eq_false_iff_ne->wK,decide_eq_false->xg,of_decide_eq_true->xu,or_false->xx,decide_eq_true->xF,getElem?_pos->x4,beq_iff_eq->yx,of_decide_eq_false->yK,dite->yW,if_false->zb,bne_iff_ne->zL,if_true->AN,decide_eq_true_eq->Bf
open PySem renaming Value->vU,wpAny_bind->vX,Shared->vZ,Addr->v8,model->wc,wpAny_pure->we,Expr->wi,Program->wq,Around->wt,World->wy,eval->wM,Params->wT,Stmt->wZ,wpAny_execs_cons->w9,wpAny_newObj_type->xh,mainGlobals->xj,cellsFrom->xt,Operator->xw,ExceptHandler->xB,wpAny_call_entry->xJ,Builtin->xT,recursionLimit->xU,Scope->xZ,SetTable->x7,rawInt->yc,cLine->yg,isTrue->yi,exec->yj,wpAny_holding->yk,builtinLookup_eq_fast->yq,wpAny_of_eq->yr,wpAny_field->yt,NameKind->yw,wpAny_callSpecial?_slot->yC,wpAny_mono->yG,wpAny_setField_rec->yJ,codeAny_builtin->yM,wpAny_execs_nil->yN,starEach->yO,pyNext->yP,wpAny_setState_of->yQ,wpAny_Return_some->yR,isSubtype_type->yU,Flow->yY,callerA->y0,DictEntry->y1,BoolOp->y2,Arguments->y3,compareOp->y4,typeLookup_type->y6,wpAny_ite_split->y8,wpAny_typeNameOfWhole_keyiter->ze,wpAny_setField->zh,firstArgMember->zj,scanBound->zk,CmpOp->zn,wpAny_isInstance->zo,Walks->zp,cameBackBy->zq,wpAny_attempt->zs,wpAny_ite_false->zw,execs->zA,wpAny_typeNameOf_keyiter->zC,setField->zD,argsOk->zG,callEnvC->zH,hashInt->zI,sysModules->zJ,Drawn->zK,relabel->zM,wpAny_rule->zN,wpAny_list_append_plain->zO,wpAny_pyIter_slot->zS,pyIter->zY,unsupported->z9,Model->Ab,plainId_quiet->Ac,sizeLine->Ae,valueAt->Al,getItem->An,pickOrder->Ao,wpAny_specialOf->AG,wpAny_isSubtype_exc->AK,spliced->AP,interactive->AS,newExc->AT,pushCells->AU,swapsWith->AV,wpAny_newList->AZ,wpAny_assign_Name->Ba,fits_of_scanBound->Bb,wpAny_loadPart_at->Be,builtinsNs->Bh,wpAny_Expr->Bi,codeAny->Bj,intKind->Bk,setNext->Bl,binaryOp->Bo,raiseNew->Bq,wpAny_typeOf->Br,relayAll->Bs
open Nat renaming le_of_ble_eq_true->vW,le_trans->v6,lt_of_le_of_lt->wg,zero_le->ww,le_add_right->wB,le_of_eq->wD,le_refl->wF,lt_of_lt_of_le->wJ,succ_le_succ->wL,add_le_add->wP,ne_of_lt->wU,add_le_add_left->wW,le_of_lt->xb,add_le_add_right->xc,lt_irrefl->xl,lt_trans->xm,mul_le_mul_left->xD,succ_pos->xH,le_succ->xR,add_comm->xS,zero_add->x9,add_assoc->yb,lt_add_of_pos_right->yd,le_succ_of_le->ye,lt_succ_of_lt->yf,pos_of_ne_zero->yn,le_of_not_lt->yE,not_lt_zero->yL,not_lt->yS,lt_succ_self->yX,le_max_right->yZ,min_eq_left->y5,le_max_left->y9,lt_of_succ_lt->zf,lt_or_eq_of_le->zF,le_of_lt_succ->zU,min_eq_right->Ag,min_le_right->Ah,not_lt_of_le->Ai,min_self->Au,max_le->Av,min_le_left->Aw,sub_self->AB,le_antisymm->AC,not_succ_le_self->AF,mul_le_mul->AO,succ_lt_succ->Bp,ne_of_gt->Bt
open Option.some renaming inj->v5
open List renaming length_map->v9,mem_cons->wf,getElem?_eq_getElem->wj,lookup_cons->wk,mem_singleton->wl,length_append->wn,map_cons->wx,mem_map->wz,getD_eq_getElem?_getD->wC,mem_cons_self->wE,not_mem_nil->wG,all_eq_true->wQ,range->wR,map_append->wS,replicate->wV,map_map->wX,mem_append->xa,mem_cons_of_mem->xe,isEmpty_iff->xf,contains_iff_mem->xi,mem_map_of_mem->xn,length_range->xo,length_cons->xC,getElem?_append_right->xG,length_take->xK,getElem?_map->xL,any_cons->xM,mem_append_right->xP,nodup_cons->xQ,pairwise_map->xV,append_nil->xY,zip_cons_cons->x3,length_drop->ym,pairwise_cons->yo,mem_append_left->yy,eq_nil_of_length_eq_zero->yB,map_congr_left->yD,getElem_mem->yF,getElem?_append_left->yT,mem_range->yV,Perm->y7,length_nil->za,take_of_length_le->zc,mem_flatMap->zr,getElem_of_mem->zt,filterMap_cons->zu,length_reverse->zv,length_zip->zx,nil_append->zy,pairwise_iff_getElem->zz,mem_filterMap->zE,filter_cons_of_pos->zP,filter_cons_of_neg->zQ,getElem?_nil->zR,size_toArray->zT,flatMap_cons->zW,cons_append->Ad,append_cons->Af,take_length->Aj,take_append_drop->Ak,length_replicate->Am,getElem?_eq_none->Ap,length_filter_le->Aq,pairwise_append->AD,replicate_succ->AI,flatMap_append->AL,drop_zero->AQ,lookup->AR,take_nil->AX,map_take->A8,append_assoc->Bc,foldl_append->Bg,mem_reverse->Bu,flatMap_nil->Bx,forIn_cons->By,mem_filter->Bz,length->BB
open Array renaming length_toList->wN,getElem?_toList->xE,toList_push->zg,getElem?_eq_none->zZ,mem_toList_iff->Ax,toList_append->AJ,getElem?_eq_some_iff->AY,isEmpty_iff->A9,toList_inj->Bn
open Prod.mk renaming inj->wY
open Int renaming emod_nonneg->w8,natCast_nonneg->xk,lt_of_lt_of_le->xp,lt_of_le_of_lt->xq,le_trans->xr,emod_lt_of_pos->xy,natCast_add->xA,ofNat_lt->xN,lt_trans->xO,toNat_of_nonneg->xW,le_of_lt->yu,toNat_natCast->yz,ofNat_le->yH,mul_le_mul_of_nonneg_left->zd,sub_le_sub_right->zl,not_lt->zm,neg_nonpos_of_nonneg->zB,ofNat_sub->Aa,add_lt_add_right->Ar,le_of_eq->As,mul_le_mul_of_nonneg_right->At,natCast_pow->Ay,add_nonneg->AM,toNat_le->Bm
open PyProof.Rows renaming seqObj->xz,recsOf->zX,listUpdate_at->A7
open PySem.W renaming katRev->xI,kat_len->yA
open Nat.succ renaming inj->yv
open List.cons renaming inj->AW
open Prod renaming ext->Bv
namespace Mine
open PySem PySem.W PyProof.Rows
theorem QQ.{u}{α:Sort u}{a:α}:a=a:=rfl
noncomputable def tb:v8:=199
noncomputable def oc:v8:=203
noncomputable def rT:Str:=vQ "ordered"
noncomputable def k8{α:Type}(l:vY α)(f:α->v7):v7:=match l with | some x=>f x | none=>vP
noncomputable def cRef(v:vY vU)(f:v8->v7):v7:=k8 v λv=>match v with | .ref a=>f a | _=>vP
noncomputable def cObj(o:vY Obj)(f:Data->v7):v7:=k8 o λo=>f o.data
noncomputable def tbAt(s:vZ):v7:=cRef (s.heap.nsMap xj rT) λa=>cObj (s.heap.get? a) λd=>match d with
 | .func b=>b.code == .ref oc&&cObj (s.heap.get? oc) λd=>match d with
  | .fields vs=>vs[11]? == ac (.ref tb)
  | _=>vP
 | _=>vP
noncomputable def exAt(s:vZ):v7:=s.heap.ownExcOk (vQ "QueryError") [] [.type "ValueError",.type "Exception",.type "BaseException",.type "object"] "ValueError.__new__"&&(["NoStep","NoTable","NoCount","NoColumn","UnlikeSides"].all λc=>s.heap.ownExcOk (vQ c) [vQ "QueryError"] [.type "ValueError",.type "Exception",.type "BaseException",.type "object"] "ValueError.__new__")&&decide ((["QueryError","NoStep","NoTable","NoCount","NoColumn","UnlikeSides"].map λc=>s.heap.nsMap xj (vQ c)).Nodup)
noncomputable def oa:vR Str:=["table","sieve","pick","join","group","order","both","once","first"].map vQ
noncomputable def strIs(v:vU)(y:Str):v7:=match v with
 | .str x _=>x == y
 | _=>vP
noncomputable def jH:vR vU->vR Str->v7
 | [],[]=>vT
 | v::vs,y::ys=>strIs v y&&jH vs ys
 | _,_=>vP
noncomputable def p5(o:Obj):v7:=(match o.data with | .seq vs _=>jH vs.toList oa | _=>vP)&&o.cls == .type "tuple"&&o.dict.isNone&&o.slots.isEmpty
noncomputable def lV(s:vZ):v7:=match s.heap.nsMap xj (vQ "STEPS") with
 | some (.ref a)=>(match s.heap.get? a with | some o=>p5 o | none=>vP)
 | _=>vP
set_option maxHeartbeats 0
noncomputable def keepS:wZ->v7
 | .Assign [.Name x _] _ _=>x != vQ "__name__"
 | _=>vT
noncomputable def vw:wq:={ PySem.Challenge.pw_uf030018_09 with main:={ PySem.Challenge.pw_uf030018_09.main with body:=PySem.Challenge.pw_uf030018_09.main.body.filter keepS } }
noncomputable def hdDef:wZ->vY DefRec
 | .FunctionDef n a b _ _ _ sc _ _ pos=>ac ⟨n,a,b,sc,pos⟩
 | _=>wa
noncomputable def hdNm:wZ->vY Str
 | .FunctionDef n _ _ _ _ _ _ _ _ _=>ac n
 | .ClassDef n _ _ _ _ _ _ _ _ _ _=>ac n
 | .Assign [.Name x _] _ _=>ac x
 | _=>wa
noncomputable def kR:vR DefRec:=vw.main.body.filterMap hdDef
noncomputable def hdKs:vR Str:=startupNames++vw.main.body.filterMap hdNm
noncomputable def hdSt:vR (Str×WData):=(theConstW vw (vQ "STEPS")).elim [] λd=>[(vQ "STEPS",d)]
noncomputable def hdXt(s:vZ):v7:=(xlAt vw [] s&&recOk (RowW.records PySem.Challenge.rw_uf030018_09.row.toRowW) s)&&(tbAt s&&(lV s&&exAt s))
theorem hdXi{s:vZ}(e:hdXt s=vT):((xlAt vw [] s&&recOk (RowW.records PySem.Challenge.rw_uf030018_09.row.toRowW) s)&&(tbAt s&&(lV s&&exAt s)))=vT:=e
noncomputable def hdQ(s:vZ):v7:=(((ownsOf vw).all λo=>s.heap.ownExcOk o.name o.chain o.bm o.newId&&s.heap.quietOk o.name)&&(s.heap.noLimitOk&&s.heap.noDigitsOk))&&((s.heap.isNs xj&&s.heap.isNs Bh)&&((s.heap.accountedOkI (importedModules PySem.Challenge.pw_uf030018_09.main.body)&&tablesOk vw s.heap)&&((hdXt s&&s.gens.size == 0)&&(((s.heap.bmainOk&&valsOk vw s.heap)&&(!importsNone vw||s.heap.noSeerOk))&&hdSt.all (constAt s.heap)))))
def HdP(l:vR DefRec)(o:vY vZ):Prop:=o.map (λs=>l.map λd=>(s.heap.shapeAt xj d.name,s.heap.tab0Ok d.name))=ac (l.map λd=>(ac d.shape,vT))
theorem left1(w:wy):HdP (kR.take 30) (openEnds treeTable PySem.Challenge.pw_uf030018_09 w 20000):=by unfold HdP;kernel_rfl
theorem left2(w:wy):HdP ((kR.drop 30).take 21) (openEnds treeTable PySem.Challenge.pw_uf030018_09 w 20000):=by unfold HdP;kernel_rfl
theorem left3(w:wy):HdP ((kR.drop 30).drop 21) (openEnds treeTable PySem.Challenge.pw_uf030018_09 w 20000):=by unfold HdP;kernel_rfl
theorem left4(w:wy):(openEnds treeTable PySem.Challenge.pw_uf030018_09 w 20000).map (λs=>(hdQ s,s.heap.nsKeys xj,s.heap.bltView,Hook.obs Hook.none s))=ac (vT,hdKs,bltViewBooted,Hook.val Hook.none w):=by kernel_rfl
theorem hdRecs:zX vw=kR:=by kernel_rfl
theorem hdLits:wlitsOf vw=hdSt:=by kernel_rfl
theorem hdE:((drecsOf vw).isEmpty&&((plainsOf vw (looseW vw [])).isEmpty&&((dclssOf vw []).isEmpty&&((wdefsOf vw).isEmpty&&(wclssOf vw []).isEmpty))))=vT:=by decide +kernel
theorem hdKeys:(hdKs.all λk=>startupNames.contains k||(looseW vw []).contains k||((zX vw).map (·.name)).contains k||((litsOf vw).map (·.1)).contains k||((clssOf vw (looseW vw [])).map (·.name)).contains k)=vT:=by decide +kernel
theorem hdA{a b:v7}(h:(a&&b)=vT):a=vT/\b=vT:=wm.mp h
theorem hdB{a b:v7}(h:a=vT)(h':b=vT):(a&&b)=vT:=wm.mpr ⟨h,h'⟩
theorem hdM{α a:Type}{f g:α->a}:∀ {l:vR α},l.map f=l.map g->∀ x∈l,f x=g x
 | _::_,h,_,.head _=>(AW h).1
 | _::_,h,x,.tail _ k=>hdM (AW h).2 x k
theorem mY{α a:Type}{l:vR α}{f g:α->a}(h:l.isEmpty=vT):l.map f=l.map g:=(xf.mp h).symm▸rfl
theorem u3{α:Type}{l:vR α}{f:α->v7}(h:l.isEmpty=vT):l.all f=vT:=(xf.mp h).symm▸rfl
theorem hdT{A B:Type}{a c:A}{b f:B}(h1:a=c)(h:b=f):(a,b)=(c,f):=h1▸h▸rfl
theorem hdS{a c:vR (vY FnShape)}{b d e f:v7}{n:vR (vY vU×vY vU)}(h1:a=c)(h:b=vT)(i:d=vT)(j:e=vT)(m:f=vT):(⟨a,b,n,d,e,f,0⟩:Seen)=⟨c,vT,n,vT,vT,vT,0⟩:=by
 subst h1 h i j m;rfl
theorem hdGlue{Y:Type}{s:vZ}{Yf:vZ->Y}{y:Y}(h1:HdP (kR.take 30) (ac s))(u:HdP ((kR.drop 30).take 21) (ac s))(w:HdP ((kR.drop 30).drop 21) (ac s))(A:(hdQ s,s.heap.nsKeys xj,s.heap.bltView,Yf s)=(vT,hdKs,bltViewBooted,y)):(openSeen vw [] (importedModules PySem.Challenge.pw_uf030018_09.main.body) hdXt vT s,Yf s)=(openGood vw [],y):=by
 obtain⟨k,q⟩:=wY A;obtain⟨B,q⟩:=wY q;obtain⟨C,E⟩:=wY q;have a1:=hdA k;have a2:=hdA a1.2;have a3:=hdA a2.2;have h:=hdA a3.2;have i:=hdA h.2;have o:=hdA a1.1;have n:=hdA a2.1;have t:=hdA a3.1;have x:=hdA h.1;have z:=hdA i.1;have e1:=hdA hdE;have j:=hdA e1.2;have m:=hdA j.2;have b:=hdA m.2;have a:∀ d∈kR,(s.heap.shapeAt xj d.name,s.heap.tab0Ok d.name)=(ac d.shape,vT):=λd a=>by
  rw[<- Ak 30 kR,<- Ak 21 (kR.drop 30)] at a;exact (xa.mp a).elim (hdM (v5 h1) d) λa=>(xa.mp a).elim (hdM (v5 u) d) (hdM (v5 w) d)
 rw[<- hdRecs] at a;have G:s.heap.keysOk (looseW vw []) ((zX vw).map (·.name)) ((litsOf vw).map (·.1)) ((clssOf vw (looseW vw [])).map (·.name))=vT:=by
  unfold Heap.keysOk;rw[B];exact hdKeys
 have c:((wdefsOf vw).all λd=>s.heap.restOk (vw.nameAt vP d.1.name) d.1.name&&dfltAt s.heap d)=vT:=u3 b.1
 have l:(wlitsOf vw).all (constAt s.heap)=vT:=hdLits▸i.2;have sh:((zX vw).map (·.name)).map (s.heap.shapeAt xj)=(zX vw).map λd=>ac d.shape:=by
  rw[wX];exact yD λd f=>(wY (a d f)).1
 exact hdT (hdT (hdS sh o.1 n.1 n.2 o.2) (hdT C (hdT (hdB (hdB (hdB (hdB (hdB (hdB G t.1) n.1) n.2) t.2) x.1) x.2) (hdT (hdB (hdB (hdB (wQ.mpr λd f=>(wY (a d f)).2) (hdA z.1).1) (hdA z.1).2) z.2) (hdT (hdT (mY e1.1) (u3 e1.1)) (hdT (mY j.1) (hdT (mY m.1) (hdT (hdT (mY b.1) (hdB c l)) (mY b.2))))))))) E
theorem hdLeft{Y:Type}{o:vY vZ}{Yf:vZ->Y}{y:Y}(h1:HdP (kR.take 30) o)(b:HdP ((kR.drop 30).take 21) o)(c:HdP ((kR.drop 30).drop 21) o)(a:o.map (λs=>(hdQ s,s.heap.nsKeys xj,s.heap.bltView,Yf s))=ac (vT,hdKs,bltViewBooted,y)):o.map (λs=>(openSeen vw [] (importedModules PySem.Challenge.pw_uf030018_09.main.body) hdXt vT s,Yf s))=ac (openGood vw [],y):=by
 cases o with
 | none=>cases a
 | some s=>exact wv ac (hdGlue h1 b c (v5 a))
theorem left:LeftO PySem.Challenge.pw_uf030018_09 vw [] hdXt (Hook.obs Hook.none) (Hook.val Hook.none) 20000:=λw=>hdLeft (left1 w) (left2 w) (left3 w) (left4 w)
theorem ws:OpenLaw.wellSaid PySem.Challenge.rw_uf030018_09=vT:=by decide +kernel
theorem ve:(defOf vw (vQ "law")).isSome=vT:=by decide +kernel
noncomputable def dl:DefRec×vR (Str×wi):=(defOf vw (vQ "law")).get ve
theorem dlDef:defOf vw PySem.Challenge.rw_uf030018_09.row.name=ac (dl.1,dl.2):=(Option.some_get ve).symm
theorem dlIs:PySem.Challenge.rw_uf030018_09.row.prog.theDef PySem.Challenge.rw_uf030018_09.row.name=ac (dl.1.params,dl.1.body,dl.1.scope):=by kernel_rfl
theorem dlKw:kwWritten? dl.1.params.kwonlyargs dl.1.params.kw_defaults=ac dl.2:=by kernel_rfl
theorem dlName:dl.1.name=vQ "law":=by kernel_rfl
theorem okAll:(chainsOk vw&&opensWell PySem.Challenge.rw_uf030018_09.row.prog&&(frees PySem.Challenge.rw_uf030018_09.row.toRowW&&PySem.Challenge.rw_uf030018_09.row.within.isEmpty))=vT:=by decide +kernel
end Mine
namespace Mine
section
variable {a0 a1 a2 a3:Nat}
theorem om15(h1:0<a0):(↑a0:Int)≠0:=by omega
theorem om16(h1:0<a0):0<(↑a0:Int):=xN.mpr h1
theorem om17{a1:Int}(h1:0<a0)(a:a1<(↑a0:Int)):a1.toNat<a0:=(Int.lt_or_le a1 0).elim (λh=>by rw[Int.toNat_of_nonpos (yu h)];exact h1) λh=>(Int.toNat_lt h).mpr a
theorem om18{a0:Int}:0<=a0 % 94:=w8 _ (by decide)
theorem om19{a0:Int}:a0 % 94<(↑94:Int):=xy _ (by decide)
theorem om20{a0:Int}{a1:Int}(h1:2147483647<a0):-a0<a1 % 2147483647/\a1 % 2147483647<a0/\(0:Int)<=5/\(5:Int)<=100:=⟨xp (Int.neg_neg_of_pos (xO (by decide) h1)) (w8 _ (by decide)),xO (xy _ (by decide)) h1,by decide,by decide⟩
theorem om21(h1:a0=1):a0<=100:=v6 (wD h1) (by decide)
theorem om22(h1:a0=1):a1+a0+a2=a1+(a2+1):=by rw[h1,yb,xS 1]
theorem om23{a0:Int}(h1:a0<=100):a0<=100:=h1
theorem om24{a0:Int}:0<=a0 / 9 / 94 % 100/\a0 / 9 / 94 % 100<=100:=⟨w8 _ (by decide),yu (xy _ (by decide))⟩
theorem om25{a0:Int}{a1:Int}{a2:Int}(h1:0<=a0/\a0<a1)(a:a1+3<a2):-a2<a0+3/\a0+3<a2/\(0:Int)<=9/\(9:Int)<=100:=⟨xp (Int.neg_neg_of_pos (xO (xq (AM h1.1 (by decide:(0:Int)<=3)) (Ar h1.2 3)) a)) (AM h1.1 (by decide)),xO (Ar h1.2 3) a,by decide,by decide⟩
theorem om26{a0:Int}(h1:0<a0):0<2 * a0 - 1:=Int.sub_pos_of_lt (xp (by decide:(1:Int)<2 * (0+1)) (zd h1 (by decide)))
theorem om27:0<(↑a0:Int)+1:=by omega
theorem om28(h1:a0=1)(a:a1<=8)(b:a2<=a1)(c:16+1<=a3):a2+a0<=a3:=v6 (wP (v6 b a) (wD h1)) (v6 (by decide) c)
theorem om29{a:Nat}(h1:a0=1)(b:a1<=8)(c:a2<=a1)(f:a3<=a1)(h:16+1<=a):a2+a0+a3<=a:=v6 (wP (wP (v6 c b) (wD h1)) (v6 f b)) h
theorem om30{a0:Int}:-10 ^ 61<a0 / 9 % 4 - 1/\a0 / 9 % 4 - 1<10 ^ 61:=⟨xp (by decide +kernel) (zl (w8 (a0 / 9) (by decide)) 1),xO (Int.sub_lt_sub_right (xy _ (by decide)) _) (by decide +kernel)⟩
theorem om31{a0:Int}:-10 ^ 61<a0 / 9 % 2000001 - 1000000/\a0 / 9 % 2000001 - 1000000<10 ^ 61:=⟨xp (by decide +kernel) (zl (w8 (a0 / 9) (by decide)) 1000000),xO (Int.sub_lt_sub_right (xy _ (by decide)) _) (by decide +kernel)⟩
theorem om32{a0:Int}:2 * a0 - 1≠0:=by omega
theorem om33{a0:Int}{a1:Int}(h1:0<=a0)(a:a0<2 * a1 - 1):-(10 * a1)<a0 - a1+1/\a0 - a1+1<10 * a1:=
 have p:0<a1:=Int.not_le.mp λh=>wI (xq h1 a) (zm.mpr (xr (zl (zd h (by decide:(0:Int)<=2)) 1) (by decide)))
 have q:∀ k:Int,1<=k->a1<=k * a1:=λk b=>xr (As (Int.one_mul a1).symm) (At b (yu p))
 ⟨xq (Int.neg_le_neg (q 10 (by decide))) (xq (As (Int.zero_sub a1).symm) (xq (zl h1 a1) (Int.lt_succ _))),xq (xr (Int.add_le_add_left p _) (As (Int.sub_add_cancel a0 a1))) (xp a (xr (Int.sub_le_self _ (by decide)) (At (by decide) (yu p))))⟩
theorem om34(h1:a0=1)(a:a1<=8)(b:a2<=a1)(c:a3<=a1):a2+a0+a3<=200:=v6 (wP (wP (v6 b a) (wD h1)) (v6 c a)) (by decide)
theorem om36{a0:Int}{a1:Int}:a0<a1\/a1=a0↔a0<=a1:=⟨λh=>h.elim yu λe=>As e.symm,λh=>(Int.lt_or_eq_of_le h).imp_right Eq.symm⟩
theorem om37(h1:0<a0)(a:a0<=1000):0<(↑a0:Int)/\(↑a0:Int)<2 ^ 64:=⟨Int.natCast_pos.mpr h1,xq (yH.mpr a) (by decide)⟩
theorem om38(h1:¬a0=0):0<a0:=yn h1
theorem om39(h1:¬a0=0):(↑a0:Int) - 1=(↑(a0 - 1):Int):=(Aa (yn h1)).symm
theorem om40(h1:¬a0=0):a0 - 1<a0:=Nat.sub_lt (yn h1) Nat.one_pos
theorem om41{a0:Int}:1+a0 / 16 % 2=(↑(1+a0 / 16 % 2).toNat:Int):=(xW (AM (by decide) (w8 _ (by decide)))).symm
theorem om42{a0:Int}:(1+a0 / 16 % 2).toNat<=13:=Bm.mpr (xr (Int.add_le_add_left (yu (xy _ (by decide))) 1) (by decide))
theorem om43(h1:a0=a1):a1=a0:=h1.symm
theorem om44:0=(↑(min 0 a0):Int):=wv Nat.cast (Nat.zero_min a0).symm
theorem rP:¬(↑a0:Int)<0:=zm.mpr (xk a0)
theorem om46:min (↑a0:Int) (↑a1:Int)=(↑(min a0 a1):Int):=by omega
theorem om47:(↑a0:Int)=(↑(min a0 a0):Int):=wv Nat.cast (Au a0).symm
theorem om48:((↑a0:Int)+(↑a1:Int) * 1).toNat=a0+a1:=by rw[Int.mul_one,<- xA,yz]
theorem om49(h1:a0<a1)(a:a0=a1):False:=by omega
theorem om51(h1:a0<=a1+1):a0+1+2 * a2+20<=a1+2 * (a2+1)+20:=by rw[Nat.mul_succ,xS (2 * a2) 2,<- yb a1 2];exact xc (xc (wL h1) _) 20
theorem om52(h1:a0<=a1+10):a0+3+13 * a2+100<=a1+13 * (a2+1)+100:=by rw[Nat.mul_succ,xS (13 * a2) 13,<- yb a1 13];exact xc (xc (xc h1 3) _) 100
theorem om53(h1:a0<=300)(a:a1=300)(b:a2=1000):1+a1+2 * a0+20<a2:=by subst a b;exact wg (xc (wW (xD 2 h1) _) 20) (by decide)
theorem om54(h1:a0<=300)(a:a1=9900):4+13 * a0+100<a1:=by subst a;exact wg (xc (wW (xD 13 h1) 4) 100) (by decide)
theorem om55{a0:Int}(h1:0<=a0/\a0<=1000/\a1<=1000):-9223372036854775808<=a0/\a0<9223372036854775808:=⟨xr (by decide) h1.1,xq h1.2.1 (by decide)⟩
theorem om56{a0:Int}(h1:¬a0<1):0<a0:=xp (by decide) (zm.mp h1)
theorem om57{a0:Int}(h1:0<=a0/\a0<=1000/\a1<=1000):1000 * a0<=2 ^ 63 - 1:=xr (zd h1.2.1 (by decide)) (by decide)
theorem om58{a0:Int}{a2:Int}(h1:0<=a0/\a0<=1000/\a1<=1000)(a:1000<=a2):¬(↑a1:Int) > a2:=zm.mpr (xr (yH.mpr h1.2.2) a)
theorem om59{a0:Int}(h1:0<=a0):-(↑a1:Int)<=a0:=xr (zB (xk a1)) h1
theorem om60{a1:Int}(h1:-(↑a0:Int)<=a1):0<=a1+(↑a0:Int):=by have:=Int.add_le_add_right h1 (↑a0:Int);rw[Int.add_left_neg] at this;exact this
theorem om61{a0:Int}(h1:a0<0):a0+(↑a1:Int)<(↑a1:Int):=xp (Ar h1 _) (As (Int.zero_add _))
theorem om62{a1:Int}(h1:-(↑a0:Int)<=a1)(a:a1<0):-(↑a0:Int)<=a1/\a1<(↑a0:Int):=⟨h1,xp a (xk a0)⟩
theorem om63{a0:Int}(h1:0<=a0/\a0<(↑a1:Int)/\a1<=a2)(a:(↑a1:Int)<2 ^ 63):-9223372036854775808<=a0/\a0<9223372036854775808:=⟨xr (by decide) h1.1,xp (xO h1.2.1 a) (by decide)⟩
theorem om64{a1:Int}(h1:(↑a0:Int)<2 ^ 63)(a:-(↑a0:Int)<=a1):-2 ^ 63<=a1:=xr (Int.neg_le_neg (yu h1)) a
theorem om65(h1:(↑a0:Int)<2 ^ 63):-2 ^ 63<=-(↑a0:Int):=Int.neg_le_neg (yu h1)
theorem om66(h1:¬a0<a1):a1<=a0:=yS.mp h1
theorem om67(h1:a0<=a1):¬a1<a0:=by omega
theorem om68{a0:Int}{a1:Int}(h1:-(↑(2 ^ 24):Int)<=a0/\a0<=(↑(2 ^ 24):Int)/\-(↑(2 ^ 24):Int)<=a1/\a1<=(↑(2 ^ 24):Int)):-2 ^ 62<=a0:=xr (by decide) h1.1
theorem om69{a0:Int}{a1:Int}(h1:-(↑(2 ^ 24):Int)<=a0/\a0<=(↑(2 ^ 24):Int)/\-(↑(2 ^ 24):Int)<=a1/\a1<=(↑(2 ^ 24):Int)):a0<2 ^ 62:=xq h1.2.1 (by decide)
theorem om70{a0:Int}{a1:Int}(h1:-(↑(2 ^ 24):Int)<=a0/\a0<=(↑(2 ^ 24):Int)/\-(↑(2 ^ 24):Int)<=a1/\a1<=(↑(2 ^ 24):Int)):-2 ^ 62<=a1:=xr (by decide) h1.2.2.1
theorem om71{a0:Int}{a1:Int}(h1:-(↑(2 ^ 24):Int)<=a0/\a0<=(↑(2 ^ 24):Int)/\-(↑(2 ^ 24):Int)<=a1/\a1<=(↑(2 ^ 24):Int)):a1<2 ^ 62:=xq h1.2.2.2 (by decide)
theorem om72(h1:a0+1<=a1):a0<=a1:=xb h1
theorem om78(h1:a0<=31)(a:2000<a1)(b:a2<a0)(c:a3<=2 * a2):a3<a1:=wg (v6 c (xD 2 (v6 (xb b) h1))) (xm (by decide) a)
theorem om79(h1:a0<=31)(a:2000<a1)(b:a2<a0)(c:a3<=2 * a2):a3+(0+1)<a1:=wg (wL (v6 c (xD 2 (v6 (xb b) h1)))) (xm (by decide) a)
theorem om80(h1:a0<=31)(a:a1<=2 * a0):a1<63:=wg (v6 a (xD 2 h1)) (by decide)
theorem om81(h1:a0<a1):¬(↑a0:Int) ≥ (↑a1:Int):=Int.not_le.mpr (xN.mpr h1)
theorem om82(h1:a0<=1000)(a:2000<a1):a0<=a1:=v6 h1 (xb (xm (by decide) a))
theorem om83(h1:a0<=5000)(a:5000<=a1):a0<=a1:=v6 h1 a
theorem om97(h1:(↑a0:Int)=(↑a1:Int)):a0=a1:=Int.ofNat.inj h1
theorem om135(h1:¬a0=0):0<(↑a0:Int):=xN.mpr (yn h1)
theorem jb(h1:a0<=12):a0<=1000:=v6 h1 (by decide)
theorem om137(h1:¬a0=0):(↑a0:Int)≠0:=by omega
theorem qp(h1:a0<=12)(a:a1=a0):a1<=12:=v6 (wD a) h1
theorem om139(h1:¬(a0=0\/a1=0)):0<a0:=yn λe=>h1 (.inl e)
theorem om140(h1:¬(a0=0\/a1=0)):0<a1:=yn λe=>h1 (.inr e)
theorem om141(h1:¬(a0=0\/a1=0)):0<(↑a0:Int):=Int.natCast_pos.mpr (yn λe=>h1 (.inl e))
theorem om142(h1:¬(a0=0\/a1=0)):0<(↑a1:Int):=by omega
theorem om143(h1:¬(a0=0\/a1=0)):(↑a0:Int)≠0/\(↑a1:Int)≠0:=⟨λe=>h1 (.inl (Int.natCast_eq_zero.mp e)),λe=>h1 (.inr (Int.natCast_eq_zero.mp e))⟩
theorem om144(h1:a0<=24 * a1)(a:a1<=24):a0<=1000:=v6 h1 (v6 (xD 24 a) (by decide))
theorem om145{a0:Int}:1+a0 % 6=(↑(1+a0 % 6).toNat:Int):=(xW (AM (by decide) (w8 _ (by decide)))).symm
theorem om146{a0:Int}:a0 / 24 % 70=(↑(a0 / 24 % 70).toNat:Int):=(xW (w8 _ (by decide))).symm
theorem om147(h1:(↑a0:Int)<(↑a1:Int)):a0<=a1:=xb (xN.mp h1)
theorem om148(h1:¬(↑a0:Int)<(↑a1:Int)):a1<=a0:=yE λh=>h1 (xN.mpr h)
theorem om149(h1:a0<=12)(a:a1<=a2):a0+a1<=a2+12:=v6 (wP h1 a) (wD (xS 12 a2))
theorem om150(h1:a0<=12)(a:1<=a1):a0<=24 * a1:=v6 h1 (v6 (by decide) (xD 24 a))
theorem qo:a0<=a0+12:=wB _ _
theorem om152(h1:a0<=12)(a:a1<=12)(b:1<=a2):a0+a1<=24 * a2:=v6 (wP h1 a) (v6 (by decide:12+12<=24 * 1) (xD 24 b))
theorem om153(h1:6<(↑a0:Int)):6<=a0:=xb (xN.mp h1)
theorem om154(h1:¬6<(↑a0:Int)):a0<=6:=yE λh=>h1 (xN.mpr h)
theorem om155{a0:Int}:-10 ^ 61<a0 / 36 % 3:=xp (by decide +kernel) (w8 _ (by decide))
theorem om156{a0:Int}:a0 / 36 % 3<10 ^ 61:=xO (xy _ (by decide)) (by decide +kernel)
theorem om157(h1:a0<=a1):1+a0<=a1+12:=v6 (wD (xS 1 a0)) (wP h1 (by decide))
theorem om158(h1:a0<=12):a0<=5000:=v6 h1 (by decide)
theorem om159(h1:a0<=24 * a1)(a:a2<=24 * a3):a0+a2<=24 * (a1+a3):=v6 (wP h1 a) (wD (Nat.mul_add 24 a1 a3).symm)
theorem om160(h1:1<=a0):1<=a0+a1:=v6 h1 (wB _ _)
theorem om161(h1:a0<=a1)(a:a2<=a1):max a0 a2<=a1+12:=v6 (Av.mpr ⟨h1,a⟩) (wB _ _)
theorem om162(h1:a0<=12)(a:a1<=12)(b:a2<=12):max a0 (max a1 a2)<=12:=Av.mpr ⟨h1,Av.mpr ⟨a,b⟩⟩
theorem om163(h1:a0+a1<=24)(a:a2<=24 * a0)(b:a3<=24 * a1):a2+a3<=5000:=v6 (wP a b) (v6 (wD (Nat.mul_add 24 a0 a1).symm) (v6 (xD 24 h1) (by decide)))
theorem om164(h1:a0<=a1+1)(a:a2<=a1+1):max a0 a2+1<=a1+2:=wL (Av.mpr ⟨h1,a⟩)
theorem om165(h1:a0<=60):-2 ^ 64<(↑a0:Int)/\(↑a0:Int)<2 ^ 64:=⟨xp (by decide) (xk a0),xq (yH.mpr h1) (by decide)⟩
theorem om166:min 6 a0<=60:=v6 (Aw 6 a0) (by decide)
theorem uJ(h1:¬(↑a0:Int)+(↑a1:Int) > 24):a0+a1<=24:=yE λh=>h1 (xN.mpr h)
theorem om168(h1:¬(↑a0:Int) > 60):a0<=60:=yE λh=>h1 (xN.mpr h)
theorem om169(h1:a0<=24 * a1):a0<=24 * (a1+a2):=v6 h1 (xD 24 (wB _ _))
theorem om170(h1:(↑a0:Int)+(↑a1:Int)<=60):a0+a1<=60:=yH.mp h1
theorem om171(h1:a0<=12)(a:a1<=12):max a0 a1<=12:=Av.mpr ⟨h1,a⟩
theorem om172(h1:a0<=a1)(a:a2<=a1):max a0 a2+1<=a1+2:=ye (wL (Av.mpr ⟨h1,a⟩))
theorem om173(h1:100<=a0)(a:a1=1)(b:a2=4):a2+a1<=a0:=by rw[a,b];exact v6 (by decide) h1
theorem om174(h1:a0+a1=0)(a:a1=1):False:=by subst a;exact wI h1 (Nat.succ_ne_zero _)
theorem om175(h1:100<=a0)(a:a1<=8):a1<=a0:=v6 a (v6 (by decide) h1)
theorem om176(h1:100<=a0)(a:a1<=8)(b:a2<=a1)(c:a3=1):a2+a3<=a0:=v6 (wP (v6 b a) (wD c)) (v6 (by decide) h1)
theorem om177{a:Nat}(h1:100<=a0)(b:a1<=8)(c:a2<=a1)(f:a3<=a1)(h:a=1):a2+a+a3<=a0:=v6 (wP (wP (v6 c b) (wD h)) (v6 f b)) (v6 (by decide) h1)
theorem om178{a0:Int}:(a0 / 210 % 13).toNat<=12:=Bm.mpr (Int.le_of_lt_add_one (xy _ (by decide)))
theorem om179{a0:Int}:(↑(a0 / 210 % 13).toNat:Int)=a0 / 210 % 13:=xW (w8 _ (by decide))
theorem om180(h1:a0<4)(a:4<=a1):a0<a1:=wJ h1 a
theorem om181(h1:a0<=12):a0<=24 * 1:=v6 h1 (by decide)
theorem om182(h1:a0<=8):a0<=60:=v6 h1 (by decide)
theorem om183(h1:a0<=a1):(-(↑a1:Int)<=(↑a0:Int)/\(↑a0:Int)<=(↑a1:Int))/\-(↑a1:Int)<=0/\0<=(↑a1:Int):=⟨⟨xr (zB (xk a1)) (xk a0),yH.mpr h1⟩,zB (xk a1),xk a1⟩
theorem om184:-2 ^ 63<=(↑a0:Int):=xr (by decide) (xk a0)
theorem om185(h1:(↑a0:Int)<2 ^ 63)(a:a1<a0):(↑a1:Int)<2 ^ 63:=xO (xN.mpr a) h1
theorem om186(h1:a0<a1):0<=(↑a0:Int)/\(↑a0:Int)<(↑a1:Int):=⟨xk a0,xN.mpr h1⟩
theorem om187(h1:a0<a1):(↑a1:Int) - 1 - (↑a0:Int)=(↑(a1 - 1 - a0):Int):=by rw[Aa (Nat.le_sub_one_of_lt h1),Aa (wg (ww _) h1)];rfl
theorem om188(h1:a0<a1):a1 - 1 - a0<a1:=wg (Nat.sub_le _ _) (Nat.sub_lt (wg (ww _) h1) Nat.one_pos)
theorem om189(h1:a0<a1):(↑(a1 - 1 - a0):Int) - 1=(↑a1:Int) - 1 - (↑(a0+1):Int):=by rw[Aa (Nat.le_sub_one_of_lt h1),Aa (wg (ww _) h1)];exact Int.sub_sub _ _ 1
theorem om190:(↑a0:Int) - 1 - (↑a0:Int)=-1:=by rw[Int.sub_sub,Int.add_comm,<- Int.sub_sub,Int.sub_self];rfl
end
end Mine
namespace Mine
open PySem
noncomputable def lamP:Str:=rT++".<locals>."
noncomputable def mM:Str:=lamP++"<lambda>"
noncomputable def qE(d:Data):v7:=match d with
 | .fields _=>vT
 | _=>vP
noncomputable def tL(c:vU):v7:=match c with
 | .none=>vT
 | .type s=>s == "code"
 | _=>vP
noncomputable def bn(o:Obj):v7:=qE o.data&&tL o.cls
noncomputable abbrev t5:Obj:={ cls:=.none,data:=.fields #[] }
noncomputable def gg(h:Heap)(c:v8):Prop:=∃ o vs t,h.get? c=ac o/\o.cls=.type "code"/\o.data=.fields vs/\vs[1]?=ac (.str mM t)
inductive gU(h:Heap):vR vU->Prop
 | nil:gU h []
 | cons {a t b u c r} (hc:gg h c) (hr:gU h r):gU h (.int a t::.int b u::.ref c::r)
noncomputable def gQ(h:Heap)(o:Obj):Prop:=∃ xs,o={ cls:=.none,data:=.fields xs }/\gU h xs.toList
open Classical in
noncomputable def gat(h:Heap)(a:v8):vY Obj:=
 if a=tb then (h.get? a).bind λo=>if bn o=vT then (if gQ h o then ac t5 else wa) else ac o else h.get? a
section
variable {h h':Heap} {a:v8} {o:Obj}
theorem isTab_code(a:o.cls=.type "code"){vs:wA vU}(b:o.data=.fields vs):bn o=vT:=by
 unfold bn;rw[a,b];rfl
noncomputable abbrev KC(h h':Heap):Prop:=∀ b o,h.get? b=ac o->bn o=vT->o.cls≠.none->h'.get? b=ac o
theorem gg.mono{c:v8}(x:gg h c)(a:KC h h'):gg h' c:=
 x.elim λo x=>x.elim λvs x=>x.elim λt x=>⟨o,vs,t,a _ _ x.1 (isTab_code x.2.1 x.2.2.1) (by rw[x.2.1];nofun),x.2⟩
theorem gU.mono(a:KC h h'){l:vR vU}(x:gU h l):gU h' l:=x.rec .nil λb Z c=>.cons (b.mono a) c
theorem gU.triples{l:vR vU}(x:gU h l):TriplesOk l:=x.rec trivial λZ Z a=>a
theorem gU.snoc{c:v8}(a b:Int)(f:gg h c){l:vR vU}(x:gU h l):gU h (l++[yc a,yc b,.ref c]):=x.rec (.cons f .nil) λf Z i=>.cons f i
theorem gU.among{pos:Pos}{v:vU}{l:vR vU}(x:gU h l):codeAmong pos l=ac v->∃ c,v=.ref c/\gg h c:=x.rec (λe=>nomatch e) λ{a t b u c r} f _ i e=>by
 simp only[codeAmong] at e;split at e
 ·cases e;exact⟨c,QQ,f⟩
 ·exact i e
theorem gQ.mono(x:gQ h o)(a:KC h h'):gQ h' o:=x.elim λxs x=>⟨xs,x.1,x.2.mono a⟩
theorem gQ.tab(x:gQ h o):bn o=vT:=let ⟨_,e,_⟩:=x;e▸rfl
theorem gQ.empty:gQ h t5:=⟨#[],QQ,.nil⟩
theorem Heap.gt_ne(b:a≠tb):gat h a=h.get? a:=by unfold gat;rw[wo b]
theorem Heap.gt_of(e:h.get? a=ac o)(b:bn o=vP:=by rfl):gat h a=ac o:=by
 unfold gat;split
 ·rw[e,Option.bind_some,wo (by rw[b];nofun)]
 ·exact e
theorem Heap.gt_good(e:h.get? tb=ac o)(g:gQ h o):gat h tb=ac t5:=by
 unfold gat;rw[wh rfl,e,Option.bind_some,wh g.tab,wh g]
theorem Heap.gt_some(e:gat h a=ac o):∃ b,h.get? a=ac b/\(b=o/\(a=tb->bn o=vP)\/a=tb/\o=t5/\gQ h b):=by
 unfold gat at e;split at e
 ·rename_i q
  rw[Option.bind_eq_some_iff] at e;obtain⟨b,e1,c⟩:=e;split at c
  ·split at c
   ·rename_i g;cases c;exact⟨b,e1,.inr ⟨q,QQ,g⟩⟩
   ·cases c
  ·rename_i f;cases c;exact⟨_,e1,.inl ⟨QQ,λZ=>by simpa using f⟩⟩
 ·rename_i q;exact⟨o,e,.inl ⟨QQ,λe=>wI e q⟩⟩
theorem Heap.of_gt'(e:gat h a=ac o)(b:o.cls≠.none):h.get? a=ac o:=by
 obtain⟨f,e1,⟨rfl,_⟩ | ⟨_,c,_⟩⟩:=gt_some e
 ·exact e1
 ·subst c;exact wI QQ b
theorem Heap.of_gt(e:gat h a=ac o)(b:bn o=vP:=by rfl):h.get? a=ac o:=by
 obtain⟨f,e1,⟨rfl,_⟩ | ⟨_,c,_⟩⟩:=gt_some e
 ·exact e1
 ·subst c;cases b
theorem Heap.gt_lt(e:gat h a=ac o):@LT.lt Nat _ a h.objs.size:=let ⟨_,e,_⟩:=gt_some e;Heap.lt_size e
theorem Heap.gt_lift{F:v8->Prop}(m:∀ b o,h.get? b=ac o->bn o=vT->F b)(a:∀ b o,F b->h.get? b=ac o->h'.get? b=ac o):∀ b o,F b->gat h b=ac o->gat h' b=ac o:=λb o f e=>by
 obtain⟨c,i,⟨rfl,q⟩ | ⟨rfl,rfl,g⟩⟩:=gt_some e
 ·by_cases j:b=tb
  ·exact gt_of (a b c f i) (q j)
  ·rw[gt_ne j];exact a b c f i
 ·exact gt_good (a _ c f i) (g.mono λb o e n Z=>a b o (m b o e n) e)
noncomputable def KH(h h':Heap):Prop:=∀ b o,gat h b=ac o->gat h' b=ac o
theorem Heap.gt_up(a:∀ b o,h.get? b=ac o->h'.get? b=ac o):KH h h':=
 λb o e=>gt_lift (F:=λZ=>True) (λZ Z Z Z=>trivial) (λb o Z e=>a b o e) b o trivial e
theorem Heap.gt_push_of_some(x:Obj)(e:gat h a=ac o):gat (h.push x) a=ac o:=gt_up (λZ Z e=>Heap.get?_push_of_some _ e) a o e
theorem Heap.gt_push_size(x:Obj)(a:x.isFreed=vP)(b:bn x=vP:=by rfl):gat (h.push x) h.objs.size=ac x:=gt_of (Heap.get?_push_size _ a) b
theorem Heap.gt_none_of_le(e:@LE.le Nat _ h.objs.size a):gat h a=wa:=by
 cases q:gat h a with
 | none=>rfl
 | some o=>obtain⟨c,b,_⟩:=gt_some q;rw[Heap.get?_none_of_le e] at b;cases b
theorem g1{b:v8}(f:Heap.SameBut b h h')(n:∀ o,h.get? b=ac o->bn o=vP)(a:v8)(i:a≠b)(e:gat h a=ac o):gat h' a=ac o:=
 Heap.gt_lift (F:=λx=>x≠b) (λx o e c q=>by rw[n o (q▸e)] at c;cases c) (λx o j e=>(f.2 x j).trans e) a o i e
structure Heap.SB(b:v8)(h h':Heap):Prop where
 s:Heap.SameBut b h h'
 n:∀ o,h.get? b=ac o->bn o=vP
 n':∀ o,h'.get? b=ac o->bn o=vP
theorem Heap.SB.g{b:v8}(c:Heap.SB b h h')(a:v8)(t:a≠b):gat h' a=gat h a:=by
 have f:∀ {h h':Heap},Heap.SB b h h'->∀ o,gat h a=ac o->gat h' a=ac o:=λ{h h'} c o e=>
  gt_lift (F:=λx=>x≠b) (λx o e m q=>by rw[c.n o (q▸e)] at m;cases m) (λx o i e=>(c.s.2 x i).trans e) a o t e
 have j:Heap.SB b h' h:=⟨⟨c.s.1.symm,λx i=>(c.s.2 x i).symm⟩,c.n',c.n⟩
 cases q:gat h a with
 | some o=>exact f c o q
 | none=>
  cases u:gat h' a with
  | none=>rfl
  | some o=>rw[f j o u] at q;cases q
theorem aO{o:Obj}(h:∀ v,o.data≠.fields v):bn o=vP:=by
 have e:qE o.data=vP:=by
  generalize o.data=d at h;cases d <;> first | rfl | exact wI QQ (h _)
 unfold bn;rw[e];rfl
theorem notTab_cls{o:Obj}(h:o.cls≠.none)(a:o.cls≠.type "code"):bn o=vP:=by
 have e:tL o.cls=vP:=by
  generalize o.cls=c at h a;cases c <;> first | rfl | exact wI QQ h | exact xg λe=>a (wv Value.type e)
 unfold bn;rw[e,Bool.and_false]
theorem bI(e:h.get? a=ac o)(c:bn o=vP:=by rfl):∀ o,h.get? a=ac o->bn o=vP:=λf b=>by
 rw[e] at b;cases b;exact c
theorem dC{m:Str->vY vU}(x:h.Ns a m):∀ o,h.get? a=ac o->bn o=vP:=
 let ⟨_,_,_,e,hd,_⟩:=x;bI e (aO (by rw[hd];nofun))
theorem ie{v:vY vU}(x:h.IsCell a v):∀ o,h.get? a=ac o->bn o=vP:=
 let ⟨_,e,hd⟩:=x;bI e (aO (by rw[hd];nofun))
theorem qM{m:Str->vY vU}(x:h.Ns a m):∃ o,gat h a=ac o:=let ⟨_,_,_,e,_⟩:=id x;⟨_,Heap.gt_of e (dC x _ e)⟩
theorem l7{v:vY vU}(x:h.IsCell a v):∃ o,gat h a=ac o:=let ⟨_,e,_⟩:=id x;⟨_,Heap.gt_of e (ie x _ e)⟩
end
inductive D where
 | none
 | bool (b:v7)
 | int (i:Int)
 | str (x:Str)
 | tup (ds:vR D)
 | list (ds:vR D)
 | dict (ks:vR D) (vs:vR D)
 | rng (a b:Int)
 | ptr (a:v8)
noncomputable def big:Nat:=2 ^ 24
noncomputable def u4(P:wT):D->Int
 | .int i=>zI i
 | .str x=>if x.cps.isEmpty=vT then 0 else reduceHash (P.strHash x.cps)
 | _=>0
noncomputable def fR(P:wT):D->Int
 | .tup ds=>reduceHash (Builtin.Tuple.tupleHashOf (ds.map (u4 P)))
 | d=>u4 P d
noncomputable def D.isCell:D->v7
 | .int _ | .str _=>vT
 | _=>vP
noncomputable def D.isKey:D->v7
 | .int _ | .str _=>vT
 | .tup ds=>ds.all D.isCell
 | _=>vP
noncomputable abbrev dm(vs:wA vU)(n:Nat):Obj:={ cls:=.type "tuple",dict:=none,data:=.seq vs n,slots:=#[] }
noncomputable abbrev fF(vs:wA vU)(n:Nat):Obj:={ cls:=.type "list",dict:=none,data:=.seq vs n,slots:=#[] }
noncomputable abbrev lL(es:wA y1)(n:Nat):Obj:={ cls:=.type "dict",dict:=none,data:=.dict es n,slots:=#[] }
inductive km(mkO:wA vU->Nat->Obj)(h:Heap)(H:v8->Prop)(n:Nat)(R:vR vU->Prop):vU->Prop
 | mk {a vs k} (ho:h.get? a=ac (mkO vs k)) (hn:¬ H a) (hl:n<=big) (hr:R vs.toList):km mkO h H n R (.ref a)
inductive nU(P:wT)(h:Heap)(H:v8->Prop)(ks:vR D)(R1 R2:vR vU->Prop):vU->Prop
 | mk {a es n} (ho:h.get? a=ac (lL es n)) (hn:¬ H a) (hl:ks.length<=big) (h1:R1 (es.toList.map (·.key))) (h2:R2 (es.toList.map (·.val))) (hh:es.toList.map (·.hash)=ks.map (fR P)) (hk:ks.all D.isKey=vT) (hd:ks.Nodup) (hs:(a == zJ)=vP):nU P h H ks R1 R2 (.ref a)
inductive RRng(h:Heap)(H:v8->Prop)(lo hi:Int):vU->Prop
 | mk {a t u v} (hr:IsRange h a lo hi 1 t u v) (hn:¬ H a) (hl:-big<=lo/\lo<=big/\-big<=hi/\hi<=big):RRng h H lo hi (.ref a)
inductive ld(i:Int):vU->Prop
 | mk (t):ld i (.int i t)
inductive vt(x:Str):vU->Prop
 | mk (t):vt x (.str x t)
inductive dR(p:vU->Prop)(q:vR vU->Prop):vR vU->Prop
 | mk {v vs} (h1:p v) (h2:q vs):dR p q (v::vs)
mutual
noncomputable def Rep(P:wT)(h:Heap)(H:v8->Prop)(v:vU)(d:D):Prop:=match d with
 | .none=>v=.none
 | .bool b=>v=.bool b
 | .int i=>ld i v
 | .str x=>vt x v
 | .tup ds=>km dm h H ds.length (λvs=>am P h H vs ds) v
 | .list ds=>km fF h H ds.length (λvs=>am P h H vs ds) v
 | .dict ks vs=>nU P h H ks (λl=>am P h H l ks) (λl=>am P h H l vs) v
 | .rng lo c=>RRng h H lo c v
 | .ptr a=>v=.ref a
termination_by structural d
noncomputable def am(P:wT)(h:Heap)(H:v8->Prop)(vs:vR vU)(ds:vR D):Prop:=match ds with
 | []=>vs=[]
 | d::ds=>dR (λv=>Rep P h H v d) (λl=>am P h H l ds) vs
termination_by structural ds
end
section
variable {P:wT} {h h':Heap} {H H':v8->Prop} {v:vU} {d:D} {vs:vR vU} {ds:vR D}
theorem Rep.int(i:Int)(t:Tok):Rep P h H (.int i t) (.int i):=.mk t
theorem Rep.str(x:Str)(t:Tok):Rep P h H (.str x t) (.str x):=.mk t
theorem Rep.tup{a:v8}{vs:wA vU}{n:Nat}(b:h.get? a=ac (dm vs n))(c:¬ H a)(f:ds.length<=big)(i:am P h H vs.toList ds):Rep P h H (.ref a) (.tup ds):=.mk b c f i
theorem am.nil:am P h H [] []:=rfl
theorem am.cons(h1:Rep P h H v d)(a:am P h H vs ds):am P h H (v::vs) (d::ds):=.mk h1 a
noncomputable abbrev lP(h:Heap)(H:v8->Prop)(h':Heap):Prop:=∀ a o,¬ H a->gat h a=ac o->gat h' a=ac o
noncomputable abbrev pQ(h:Heap)(H H':v8->Prop):Prop:=∀ a o,gat h a=ac o->H' a->H a
theorem pN{a:v8}{o:Obj}(c:lP h H h')(f:h.get? a=ac o)(i:¬ H a)(b:bn o=vP):h'.get? a=ac o:=Heap.of_gt (c _ _ i (Heap.gt_of f b)) b
theorem mE{a:v8}{o:Obj}(b:pQ h H H')(c:h.get? a=ac o)(f:¬ H a)(i:bn o=vP):¬ H' a:=λx=>f (b _ _ (Heap.gt_of c i) x)
theorem km.mono{mkO:wA vU->Nat->Obj}{n:Nat}{R a:vR vU->Prop}(b:∀ vs k,bn (mkO vs k)=vP)(i:lP h H h')(j:pQ h H H')(r:km mkO h H n R v)(m:∀ l,R l->a l):km mkO h' H' n a v:=
 r.rec λc f o q=>.mk (pN i c f (b _ _)) (mE j c f (b _ _)) o (m _ q)
theorem Rep.mono(b:lP h H h')(c:pQ h H H')(r:Rep P h H v d):Rep P h' H' v d:=
 D.rec (motive_1:=λd=>∀ v,Rep P h H v d->Rep P h' H' v d) (motive_2:=λds=>∀ l,am P h H l ds->am P h' H' l ds)
  (λZ r=>r) (λZ Z r=>r) (λZ Z r=>r) (λZ Z r=>r)
  (λZ f Z r=>km.mono (λZ Z=>QQ) b c r f) (λZ f Z r=>km.mono (λZ Z=>QQ) b c r f)
  (λZ Z i j Z r=>nU.rec (λq a m h1 n t o u w=>.mk (pN b q a QQ) (mE c q a QQ) m (i _ h1) (j _ n) t o u w) r)
  (λZ Z Z r=>RRng.rec (λs a m=>.mk (pN b s a QQ) (mE c s a QQ) m) r)
  (λZ Z r=>r)
  (λZ r=>r) (λZ Z i j Z r=>dR.rec (λh1 n=>.mk (i _ h1) (j _ n)) r) d v r
theorem am.mono(a:lP h H h')(b:pQ h H H')(r:am P h H vs ds):am P h' H' vs ds:=
 List.rec (motive:=λds=>∀ l,am P h H l ds->am P h' H' l ds) (λZ r=>r) (λZ Z c Z r=>dR.rec (λh1 f=>.mk (Rep.mono a b h1) (c _ f)) r) ds vs r
theorem Rep.keeps(b:Rep P h H v d)(c:KH h h'):Rep P h' H v d:=b.mono (λa o Z e=>c a o e) λZ Z Z x=>x
theorem am.keeps(b:am P h H vs ds)(c:KH h h'):am P h' H vs ds:=b.mono (λa o Z e=>c a o e) λZ Z Z x=>x
theorem Rep.sub(b:Rep P h H v d)(c:∀ a,H' a->H a):Rep P h H' v d:=b.mono (λZ Z Z e=>e) λa Z Z x=>c a x
theorem am.length(r:am P h H vs ds):vs.length=ds.length:=
 List.rec (motive:=λds=>∀ l,am P h H l ds->l.length=ds.length) (λZ r=>wv BB r) (λZ Z a Z r=>dR.rec (λZ b=>wv Nat.succ (a _ b)) r) ds vs r
theorem am.size{vs:wA vU}(r:am P h H vs.toList ds):vs.size=ds.length:=r.length
theorem am.append{ws:vR vU}{es:vR D}(r:am P h H vs ds)(k:am P h H ws es):am P h H (vs++ws) (ds++es):=
 List.rec (motive:=λds=>∀ l,am P h H l ds->am P h H (l++ws) (ds++es)) (λl r=>(show l=[] from r)▸k) (λZ Z a Z r=>dR.rec (λh1 b=>.mk h1 (a _ b)) r) ds vs r
theorem am.get(i:Nat)(r:am P h H vs ds)(e:ds[i]?=ac d):∃ v,vs[i]?=ac v/\Rep P h H v d:=
 List.rec (motive:=λds=>∀ l i,am P h H l ds->ds[i]?=ac d->∃ v,l[i]?=ac v/\Rep P h H v d) (λZ Z Z e=>by rw[zR] at e;cases e)
  (λZ Z a Z i r=>dR.rec (λh1 b=>Nat.rec (λe=>⟨_,QQ,v5 e▸h1⟩) (λi Z e=>a _ i b e) i) r) ds vs i r e
theorem am.drop(i:Nat)(r:am P h H vs ds):am P h H (vs.drop i) (ds.drop i):=
 List.rec (motive:=λds=>∀ l i,am P h H l ds->am P h H (l.drop i) (ds.drop i)) (λl i r=>by rw[show l=[] from r,List.drop_nil,List.drop_nil];rfl)
  (λZ Z b Z i r=>dR.rec (λh1 a=>Nat.rec (.mk h1 a) (λi Z=>b _ i a) i) r) ds vs i r
theorem am.take(i:Nat)(r:am P h H vs ds):am P h H (vs.take i) (ds.take i):=
 List.rec (motive:=λds=>∀ l i,am P h H l ds->am P h H (l.take i) (ds.take i)) (λl i r=>by rw[show l=[] from r,AX,AX];rfl)
  (λZ Z a Z i r=>dR.rec (λh1 b=>Nat.rec QQ (λi Z=>.mk h1 (a _ i b)) i) r) ds vs i r
end
noncomputable def D.scalar:D->v7
 | .none | .bool _ | .int _ | .str _=>vT
 | _=>vP
theorem Rep.scalar{P:wT}{h h':Heap}{H H':v8->Prop}{v:vU}{d:D}(a:Rep P h H v d)(b:d.scalar=vT):Rep P h' H' v d:=
 D.casesOn (motive_1:=λd=>d.scalar=vT->Rep P h H v d->Rep P h' H' v d) d (λZ r=>r) (λZ Z r=>r) (λZ Z r=>r) (λZ Z r=>r) (λZ h=>nomatch h) (λZ h=>nomatch h) (λZ Z h=>nomatch h) (λZ Z h=>nomatch h)
  (λZ h=>nomatch h)
  b a
theorem sH{H:v8->Prop}{a b:v8}(c:¬ H a)(e:Value.ref a=.ref b):¬ H b:=Value.ref.inj e▸c
theorem km.off{mkO:wA vU->Nat->Obj}{h:Heap}{H:v8->Prop}{n:Nat}{R:vR vU->Prop}{v:vU}{b:v8}(r:km mkO h H n R v):v=.ref b->¬ H b:=r.rec λZ a Z Z e=>sH a e
theorem cR{a b:vV}(h:vQ a=vQ b):a=b:=by
 rw[Str.ofString_eq_toList,Str.ofString_eq_toList] at h;have h1:a.toList.map Char.toNat=b.toList.map Char.toNat:=by simpa using h
 have c:a.toList=b.toList:=by
  generalize a.toList=l at h1;generalize b.toList=m at h1
  induction l generalizing m with
  | nil=>cases m <;> simp_all
  | cons x l f=>
   cases m with
   | nil=>simp at h1
   | cons y m=>
    simp only[wx,List.cons.injEq] at h1;have:x=y:=by
     have:=h1.1;exact Char.toNat_inj.mp this
    rw[this,f _ h1.2]
 exact String.toList_inj.mp c
end Mine
namespace Mine
open PySem PySem.SeqAt
noncomputable abbrev CK:=Int ⊕ Str
noncomputable def a8:CK->D
 | .inl i=>.int i
 | .inr x=>.str x
noncomputable def CK.is:CK->vU->v7
 | .inl i,v=>Value.isInt i v
 | .inr x,v=>Value.isStrOf x v
theorem CK.is_inl{i:Int}{v:vU}(h:CK.is (.inl i) v=vT):∃ t,v=.int i t:=Value.isInt_shape h
theorem CK.is_inr{x:Str}{v:vU}(h:CK.is (.inr x) v=vT):∃ t,v=.str x t:=Value.isStrOf_shape h
theorem CK.cases{C:CK->vU->Prop}{k:CK}{v:vU}(h:CK.is k v=vT)(a:∀ i t,C (.inl i) (.int i t))(b:∀ x t,C (.inr x) (.str x t)):C k v:=
 match k,h with
 | .inl _,h=>(CK.is_inl h).elim λt e=>e▸a _ t
 | .inr _,h=>(CK.is_inr h).elim λt e=>e▸b _ t
theorem CK.inj{v:vU}{a b:CK}(c:CK.is a v=vT)(f:CK.is b v=vT):a=b:=by
 cases a <;> cases b
 ·obtain⟨t,rfl⟩:=CK.is_inl c
  obtain⟨u,e⟩:=CK.is_inl f;cases e;rfl
 ·obtain⟨t,rfl⟩:=CK.is_inl c
  obtain⟨u,e⟩:=CK.is_inr f;cases e
 ·obtain⟨t,rfl⟩:=CK.is_inr c
  obtain⟨u,e⟩:=CK.is_inl f;cases e
 ·obtain⟨t,rfl⟩:=CK.is_inr c
  obtain⟨u,e⟩:=CK.is_inr f;cases e;rfl
theorem nj(i j:Int):decide ((Sum.inl i:CK)=.inl j)=decide (i=j):=decide_eq_decide.mpr ⟨Sum.inl.inj,wv _⟩
theorem ni(i j:Str):decide ((Sum.inr i:CK)=.inr j)=decide (i=j):=decide_eq_decide.mpr ⟨Sum.inr.inj,wv _⟩
noncomputable def bY(B9:wq)(w:wy):KeyKind B9 w CK where
 is:=CK.is
 hash:=λk=>fR w.params (a8 k)
 inj:=λv a b f m=>CK.inj f m
 byValue:=λk v h=>CK.cases (C:=λZ v=>carriedByValue v=vT) h (λZ Z=>QQ) λZ Z=>QQ
 pyHash:=λ{A E s k v Q} c=>CK.cases (C:=λk v=>Q (fR w.params (a8 k)) { s with toks:=s.toks+1 }->wpAny (wc B9 w) A (pyHash v) Q E s) c (λZ Z h=>wpAny_pyHash_int h) λZ Z h=>wpAny_pyHash_str h
 eqBool:=λ{A E s a b u v Q} n c=>CK.cases (C:=λa u=>Q (decide (a=b)) s->wpAny (wc B9 w) A (PySem.eqBool u v) Q E s) n
  (λi t=>CK.cases (C:=λb v=>Q (decide (.inl i=b)) s->wpAny (wc B9 w) A (PySem.eqBool (.int i t) v) Q E s) c (λj Z h=>wpAny_eqBool_int (show Q (decide (i=j)) s from nj i j▸h)) λZ Z h=>EqAt.int_str _ _ _ _ B9 w E Q h)
  λx t=>CK.cases (C:=λb v=>Q (decide (.inr x=b)) s->wpAny (wc B9 w) A (PySem.eqBool (.str x t) v) Q E s) c (λZ Z h=>EqAt.str_int _ _ _ _ B9 w E Q h) λy Z h=>wpAny_eqBool_str (show Q (decide (x=y)) s from ni x y▸h)
 «strs»:=λk x t v h=>by
  cases k
  ·obtain⟨u,e⟩:=CK.is_inl h;cases e
  ·exact (strKind B9 w).strs _ x t v h
section
variable {h:Heap}{d:D}
theorem mF{a b:CK}(h:a8 a=a8 b):a=b:=by
 cases a <;> cases b <;> cases h <;> rfl
theorem gE(h:d.isCell=vT):∃ k,d=a8 k:=
 D.casesOn (motive_1:=λd=>d.isCell=vT->∃ k,d=a8 k) d (λh=>nomatch h) (λZ h=>nomatch h) (λi Z=>⟨.inl i,QQ⟩) (λx Z=>⟨.inr x,QQ⟩) (λZ h=>nomatch h) (λZ h=>nomatch h) (λZ Z h=>nomatch h) (λZ Z h=>nomatch h)
  (λZ h=>nomatch h)
  h
theorem ny{ks:vR D}(h:ks.all D.isCell=vT):∃ a:vR CK,ks=a.map a8:=by
 induction ks with
 | nil=>exact⟨[],QQ⟩
 | cons k ks b=>
  have h:=wm.mp (show (k.isCell&&ks.all D.isCell)=vT from h);exact (gE h.1).elim λc e=>(b h.2).elim λa f=>⟨c::a,e▸f▸rfl⟩
theorem d9(i:Int)(t:Tok):Value.isInt i (.int i t)=vT:=xF QQ
theorem isStr_self(x:Str)(t:Tok):Value.isStrOf x (.str x t)=vT:=by simp[Value.isStrOf]
theorem kE{P:wT}{H:v8->Prop}{v:vU}{k:CK}(r:Rep P h H v (a8 k)):CK.is k v=vT:=
 match k,r with
 | .inl i,r=>ld.rec (motive:=λv Z=>CK.is (.inl i) v=vT) (d9 i) r
 | .inr x,r=>vt.rec (motive:=λv Z=>CK.is (.inr x) v=vT) (isStr_self x) r
theorem vf{P:wT}{H:v8->Prop}{v:vU}{k:CK}(r:CK.is k v=vT):Rep P h H v (a8 k):=CK.cases (C:=λk v=>Rep P h H v (a8 k)) r (λZ t=>.int _ t) λZ t=>.str _ t
theorem am.inv{P:wT}{H:v8->Prop}{v:vU}{vs:vR vU}{ds:vR D}(r:am P h H (v::vs) (d::ds)):Rep P h H v d/\am P h H vs ds:=by
 cases r with
 | mk h1 a=>exact⟨h1,a⟩
theorem am.inv_nil{P:wT}{H:v8->Prop}{ds:vR D}{C:Prop}(r:am P h H [] (d::ds)):C:=by cases r
theorem pairs_of{B9:wq}{w:wy}{H:v8->Prop}{es:vR y1}{cs:vR CK}(r:am w.params h H (es.map (·.key)) (cs.map a8)):Pairs (bY B9 w) es (cs.zip (es.map (·.val))):=by
 induction cs generalizing es with
 | nil=>
  cases es with
  | nil=>exact .nil
  | cons _ _=>exact nomatch (show _::_=[] from r)
 | cons c cs a=>
  cases es with
  | nil=>exact r.inv_nil
  | cons e es=>exact .cons (kE r.inv.1) QQ (a r.inv.2)
theorem of_pairs{B9:wq}{w:wy}{H:v8->Prop}{es:vR y1}{a:vR (CK×vU)}(c:Pairs (bY B9 w) es a):am w.params h H (es.map (·.key)) (a.map λp=>a8 p.1)/\es.map (·.val)=a.map (·.2):=
 c.rec ⟨QQ,QQ⟩ λh1 f Z b=>⟨.mk (vf h1) b.1,congr (wv List.cons f) b.2⟩
theorem lS{α c:Type}{a:vR α}{b:vR c}(h:a.length=b.length):(a.zip b).map (·.1)=a:=List.map_fst_zip (wD h)
theorem zip_snd{α c:Type}{a:vR α}{b:vR c}(h:a.length=b.length):(a.zip b).map (·.2)=b:=List.map_snd_zip (wD h.symm)
theorem nh{B9:wq}{w:wy}{H:v8->Prop}{a:v8}{es:wA y1}{n:Nat}{cs:vR CK}(m:h.get? a=ac (lL es n))(b:am w.params h H (es.toList.map (·.key)) (cs.map a8))
  (o:es.toList.map (·.hash)=(cs.map a8).map (fR w.params)) (q:(cs.map a8).Nodup):h.DictOf (bY B9 w) a (cs.zip (es.toList.map (·.val))):=by
 have f:cs.length=(es.toList.map (·.val)).length:=by have:=b.length;simp at this ⊢;exact om43 this
 refine⟨_,es,n,m,⟨QQ,QQ,QQ⟩,QQ,?_,pairs_of b,?_⟩
 ·intro e s
  obtain⟨i,c,rfl⟩:=List.mem_iff_getElem.mp (Ax.mpr s);have j:i<cs.length:=by rw[f];simpa using c
  refine⟨cs[i],?_,?_⟩
  ·obtain⟨v,h1,t⟩:=b.get i (d:=a8 cs[i]) (by simp[j])
   have:v=es.toList[i].key:=by simpa [wj c] using h1.symm
   exact kE (this▸t)
  ·have:=wv (λl=>l[i]?) o
   show _=fR w.params (a8 cs[i])
   simpa [wj c,j] using this
 ·rw[lS f]
  exact (xV.mp q).imp λh e=>h (by rw[e])
theorem rep_dictOf{B9:wq}{w:wy}{H:v8->Prop}{a:v8}{f:vR (CK×vU)}(q:h.DictOf (bY B9 w) a f) :
  ∃ es n,h.get? a=ac (lL es n)/\am w.params h H (es.toList.map (·.key)) (f.map λp=>a8 p.1)/\es.toList.map (·.val)=f.map (·.2)/\es.toList.map (·.hash)=(f.map λp=>a8 p.1).map (fR w.params) /\
   (f.map λp=>a8 p.1).all D.isKey=vT/\(f.map λp=>a8 p.1).Nodup:=by
 obtain⟨o,es,ep,y,⟨c1,c2,c3⟩,i,j,m,z⟩:=q;obtain⟨A,B⟩:=of_pairs (h:=h) (H:=H) m;have s:o=lL es ep:=by obtain⟨a,b,c,d⟩:=o;dsimp only at c1 c2 c3 i;subst c1 c2 c3 i;rfl
 refine⟨es,ep,s▸y,A,B,?_,?_,?_⟩
 ·have t:∀ (l:vR y1) (f:vR (CK×vU)),(∀ e∈l,∃ k,(bY B9 w).is k e.key=vT/\e.hash=(bY B9 w).hash k)->Pairs (bY B9 w) l f->l.map (·.hash)=(f.map λp=>a8 p.1).map (fR w.params):=by
   intro l f j m
   induction m with
   | nil=>rfl
   | cons h1 G I C=>
    obtain⟨k,E,q2⟩:=j _ (wE);have e:=(bY B9 w).inj _ _ _ E h1;rw[e] at q2;rw[wx,wx,wx,C λe u=>j e (xe _ u),q2]
    rfl
  exact t _ _ (λe u=>j e (Ax.mp u)) m
 ·rw[wQ]
  intro d q;obtain⟨p,_,rfl⟩:=wz.mp q;cases p.1 <;> rfl
 ·have:(f.map λp=>a8 p.1)=(f.map (·.1)).map a8:=by simp
  rw[this];exact xV.mpr (z.imp λh e=>h (mF e))
end
noncomputable def cB(a b:D):v7:=match a with
 | .int i=>(match b with | .int j=>i == j | _=>vP)
 | .str x=>(match b with | .str y=>x == y | _=>vP)
 | _=>vP
noncomputable def a7:vR D->vR D->v7
 | [],[]=>vT
 | a::r,b::c=>cB a b&&a7 r c
 | _,_=>vP
noncomputable def aU(a b:D):v7:=match a with
 | .tup x=>(match b with | .tup y=>a7 x y | _=>vP)
 | a=>cB a b
noncomputable def lM:vR D->vR D->D->vY D
 | k::ks,v::vs,x=>if aU k x then ac v else lM ks vs x
 | _,_,_=>none
noncomputable def cL:vR D->vR D->D->D->vR D×vR D
 | k'::ks,a::vs,k,v=>if aU k' k then (k'::ks,v::vs) else (k'::(cL ks vs k v).1,a::(cL ks vs k v).2)
 | _,_,k,v=>([k],[v])
theorem oI(a b:CK):cB (a8 a) (a8 b)=decide (a=b):=
 match a,b with
 | .inl i,.inl j=>(nj i j).symm
 | .inl _,.inr _=>rfl
 | .inr _,.inl _=>rfl
 | .inr i,.inr j=>(ni i j).symm
theorem mR(a b:CK):aU (a8 a) (a8 b)=decide (a=b):=
 (match a with
 | .inl _=>rfl
 | .inr _=>rfl:aU (a8 a) (a8 b)=cB (a8 a) (a8 b)).trans (oI a b)
theorem l9(k v:D)(ks vs:vR D)(x:D):lM (k::ks) (v::vs) x=if aU k x then ac v else lM ks vs x:=rfl
theorem jF(c k:CK)(v:vU)(l:vR (CK×vU)):Al ((c,v)::l) k=if c=k then ac v else Al l k:=by
 unfold Al
 by_cases h:c=k
 ·rw[wh h,List.find?_cons_of_pos (by simpa using h)];rfl
 ·rw[wo h,List.find?_cons_of_neg (by simpa using h)]
theorem dget_valueAt{P:wT}{h:Heap}{H:v8->Prop}{k:CK}{d:D}{cs:vR CK}{vals:vR vU}{vs:vR D}(r:am P h H vals vs)(e:lM (cs.map a8) vs (a8 k)=ac d):∃ v,Al (cs.zip vals) k=ac v/\Rep P h H v d:=by
 induction cs generalizing vals vs with
 | nil=>cases e
 | cons c cs b=>
  cases vs with
  | nil=>cases e
  | cons j vs=>
   cases r with
   | mk f i=>
    rw[wx,l9,mR] at e;rw[x3,jF]
    by_cases a:c=k
    ·rw[wh (xF a)] at e
     rw[wh a];exact⟨_,QQ,v5 e▸f⟩
    ·rw[wo (by simpa using a)] at e
     rw[wo a];exact b i e
theorem any_valueAt{k:CK}{cs:vR CK}{vals:vR vU}(e:cs.length=vals.length):(Al (cs.zip vals) k).isSome=(cs.map a8).any λx=>aU x (a8 k):=by
 induction cs generalizing vals with
 | nil=>rfl
 | cons c cs b=>
  cases vals with
  | nil=>cases e
  | cons v vals=>
   rw[x3,jF,wx,xM,mR,<- b (yv e)]
   by_cases a:c=k
   ·rw[wh a,xF a];rfl
   ·rw[wo a,xg a];rfl
theorem l8(a b:D)(ks vs:vR D)(k v:D):cL (a::ks) (b::vs) k v=if aU a k then (a::ks,v::vs) else (a::(cL ks vs k v).1,b::(cL ks vs k v).2):=rfl
theorem stored_dput{P:wT}{h:Heap}{H:v8->Prop}{k:CK}{v:vU}{d:D}(q:Rep P h H v d){cs:vR CK}{vals:vR vU}{vs:vR D}(e:cs.length=vals.length)(s:cs.Nodup)(a:am P h H vals vs) :
  ((stored (cs.zip vals) k v).map λp=>a8 p.1)=(cL (cs.map a8) vs (a8 k) d).1/\am P h H ((stored (cs.zip vals) k v).map (·.2)) (cL (cs.map a8) vs (a8 k) d).2:=by
 induction cs generalizing vals vs with
 | nil=>exact⟨QQ,.cons q QQ⟩
 | cons c cs i=>
  cases vs with
  | nil=>rw[show vals=[] from a] at e;cases e
  | cons y vs=>
   cases a with
   | @mk u vals t a=>
    have j:cs.length=vals.length:=yv e;have b:=xQ.mp s;rw[x3,wx,l8,mR]
    by_cases m:c=k
    ·subst m
     have o:stored ((c,u)::cs.zip vals) c v=(c,v)::cs.zip vals:=by
      unfold stored;rw[wh (by simp),wx,wh rfl,map_store_of_not_mem _ _ _ (by rw[lS j];exact b.1)]
     rw[o,wh (xF rfl)];refine⟨wv (a8 c::·) ?_,.cons q (show am P h H ((cs.zip vals).map (·.2)) vs from (zip_snd j).symm▸a)⟩;have:(cs.zip vals).map (λp=>a8 p.1)=((cs.zip vals).map (·.1)).map a8:=(wX (f:=λ(p:CK×vU)=>p.1) (g:=a8)).symm
     rw[this,lS j]
    ·have o:stored ((c,u)::cs.zip vals) k v=(c,u)::stored (cs.zip vals) k v:=by
      unfold stored;rw[xM,xg (show ¬ (c,u).1=k from m),Bool.false_or]
      by_cases n:(cs.zip vals).any (λw=>decide (w.1=k))=vT
      ·rw[wh n,wh n,wx,wo m]
      ·rw[wo n,wo n];rfl
     have i:=i j b.2 a;rw[o,wo (by simpa using m)]
     exact⟨wv (a8 c::·) i.1,.cons t i.2⟩
noncomputable def D.isTK:D->v7
 | .tup ds=>ds.all D.isCell
 | _=>vP
noncomputable def dW(k:vR CK):D:=.tup (k.map a8)
theorem pY{d:D}(h:d.isTK=vT):∃ k,d=dW k:=
 D.casesOn (motive_1:=λd=>d.isTK=vT->∃ k,d=dW k) d (λh=>nomatch h) (λZ h=>nomatch h) (λZ h=>nomatch h) (λZ h=>nomatch h) (λZ h=>(ny h).elim λa e=>⟨a,e▸rfl⟩) (λZ h=>nomatch h) (λZ Z h=>nomatch h) (λZ Z h=>nomatch h)
  (λZ h=>nomatch h)
  h
theorem rJ:∀ {ks:vR D},ks.all D.isTK=vT->∃ a:vR (vR CK),ks=a.map dW
 | [],_=>⟨[],QQ⟩
 | k::ks,h=>let h:=wm.mp (show (k.isTK&&ks.all D.isTK)=vT from h);(pY h.1).elim λc e=>(rJ h.2).elim λa b=>⟨c::a,e▸b▸rfl⟩
theorem ofTK_inj{a b:vR CK}(h:dW a=dW b):a=b:=(List.map_inj_right λZ Z=>mF).mp (D.tup.inj h)
theorem nA:∀ (a b:vR CK),a7 (a.map a8) (b.map a8)=decide (a=b)
 | [],[]=>rfl
 | [],_::_=>rfl
 | _::_,[]=>rfl
 | x::a,y::b=>by
  show (cB (a8 x) (a8 y)&&a7 (a.map a8) (b.map a8))=_;rw[oI,nA a b,<- Bool.decide_and];exact decide_eq_decide.mpr (by rw[List.cons.injEq])
theorem jS(a b:vR CK):aU (dW a) (dW b)=decide (a=b):=nA a b
noncomputable abbrev TKd(B9:wq)(w:wy):=tupleKind (bY B9 w)
section
variable {B9:wq} {w:wy} {h:Heap} {H:v8->Prop}
theorem items_of{vs:vR vU}{ks:vR CK}(r:am w.params h H vs (ks.map a8)):ItemsAre (bY B9 w) ks vs:=by
 induction ks generalizing vs with
 | nil=>rw[show vs=[] from r];exact .nil
 | cons k ks a=>
  cases r with
  | mk b r2=>exact .cons (kE b) (a r2)
theorem oZ{v:vU}{k:vR CK}(r:Rep w.params h H v (dW k)):∃ a,v=.ref a/\(TKd B9 w).is h k a:=
 km.rec (motive:=λv Z=>∃ a,v=.ref a/\(TKd B9 w).is h k a) (λb Z Z c=>⟨_,QQ,_,_,_,b,QQ,QQ,items_of c⟩) r
theorem tu(k:vR CK):(TKd B9 w).hash k=fR w.params (dW k):=by
 show reduceHash (Builtin.Tuple.tupleHashOf (k.map λc=>fR w.params (a8 c)))=reduceHash (Builtin.Tuple.tupleHashOf ((k.map a8).map (u4 w.params)))
 rw[wX]
 congr 2
 refine yD λc Z=>?_
 cases c <;> rfl
noncomputable abbrev kD(x:vR CK×v8×vU):D:=dW x.1
theorem entries_tk{es:vR y1}{cs:vR (vR CK)}(r:am w.params h H (es.map (·.key)) (cs.map dW))(b:es.map (·.hash)=(cs.map dW).map (fR w.params)) :
  ∃ xs:vR (vR CK×v8×vU),es=xs.map (entryOfKey (TKd B9 w))/\(∀ x∈xs,(TKd B9 w).is h x.1 x.2.1)/\xs.map (·.1)=cs:=by
 induction cs generalizing es with
 | nil=>
  cases es with
  | nil=>exact⟨[],QQ,(λZ h=>nomatch h),QQ⟩
  | cons _ _=>exact nomatch (show _::_=[] from r)
 | cons c cs f=>
  cases es with
  | nil=>exact r.inv_nil
  | cons e es=>
   obtain⟨i,r2⟩:=r.inv;injection b with q1 q2
   obtain⟨a,j,m⟩:=oZ (B9:=B9) i;obtain⟨xs,e1,n,o⟩:=f r2 q2;refine⟨(c,a,e.val)::xs,?_,λx s=>(wf.mp s).elim (λq=>q▸m) (n x),by rw[wx,o]⟩
   rw[wx,<- e1]
   congr 1
   obtain⟨t,u,y⟩:=e;show _=DictEntry.mk _ _ _;rw[tu,<- q1,<- j]
theorem kZ{a:v8}{es:wA y1}{n:Nat}{cs:vR (vR CK)}(c:h.get? a=ac (lL es n))(f:am w.params h H (es.toList.map (·.key)) (cs.map dW))
  (i:es.toList.map (·.hash)=(cs.map dW).map (fR w.params)) (j:(cs.map dW).Nodup) :
  ∃ xs:vR (vR CK×v8×vU),h.DictOfH (TKd B9 w) a xs/\xs.map (·.1)=cs/\es.toList.map (·.key)=xs.map (λx=>Value.ref x.2.1)/\es.toList.map (·.val)=xs.map (·.2.2):=by
 obtain⟨xs,e1,m,b⟩:=entries_tk (B9:=B9) f i;refine⟨xs,⟨_,es,n,c,⟨QQ,QQ,QQ⟩,QQ,e1,m,?_⟩,b,?_,?_⟩
 ·rw[b];exact (xV.mp j).imp λh e=>h (by rw[e])
 ·rw[e1,wX];rfl
 ·rw[e1,wX];rfl
theorem jz(c:vR CK)(b:v8)(u:vU)(xs:vR (vR CK×v8×vU))(k:vR CK):atKey ((c,b,u)::xs) k=if c=k then ac (b,u) else atKey xs k:=by
 unfold atKey
 by_cases a:c=k <;> simp[a]
theorem oN{k:vR CK}:∀ (xs:vR (vR CK×v8×vU)),(atKey xs k).isSome=(xs.map kD).any λx=>aU x (dW k)
 | []=>rfl
 | (c,b,u)::xs=>by
  rw[jz,wx,xM,jS,<- oN xs]
  by_cases a:c=k <;> simp[a]
theorem dget_atKey{P:wT}{k:vR CK}{d:D}{xs:vR (vR CK×v8×vU)}{vs:vR D}(r:am P h H (xs.map (·.2.2)) vs)(e:lM (xs.map kD) vs (dW k)=ac d):∃ p,atKey xs k=ac p/\Rep P h H p.2 d:=by
 induction xs generalizing vs with
 | nil=>cases e
 | cons x xs f=>
  obtain⟨c,b,u⟩:=x;cases vs with
  | nil=>cases e
  | cons m vs=>
   obtain⟨i,r2⟩:=r.inv;rw[wx,l9,jS] at e;rw[jz]
   by_cases a:c=k
   ·rw[wh (xF a)] at e
    exact⟨_,wh a,v5 e▸i⟩
   ·rw[wo (by simpa using a)] at e
    obtain⟨p,h1,j⟩:=f r2 e;exact⟨p,(wo a).trans h1,j⟩
theorem storedH_cons(c:vR CK)(b:v8)(u:vU)(xs:vR (vR CK×v8×vU))(k:vR CK)(a:v8)(v:vU)(h:c ∉ xs.map (·.1)) :
  storedH ((c,b,u)::xs) k a v=if c=k then (c,b,v)::xs else (c,b,u)::storedH xs k a v:=by
 unfold storedH;rw[jz]
 by_cases f:c=k
 ·subst f
  simp only[AN,Option.isSome_some,wx,putAt];rw[map_putAt_of_not_mem xs c v h]
 ·simp only[f,zb,wx,putAt]
  split <;> rfl
theorem storedH_dput{P:wT}{k:vR CK}{a:v8}{v:vU}{d:D}(q:Rep P h H (.ref a) (dW k))(n:Rep P h H v d){xs:vR (vR CK×v8×vU)}{vs:vR D}(s:(xs.map (·.1)).Nodup)
  (t:am P h H (xs.map λx=>Value.ref x.2.1) (xs.map kD)) (r:am P h H (xs.map (·.2.2)) vs) :
  (storedH xs k a v).map kD=(cL (xs.map kD) vs (dW k) d).1/\am P h H ((storedH xs k a v).map λx=>Value.ref x.2.1) (cL (xs.map kD) vs (dW k) d).1/\am P h H ((storedH xs k a v).map (·.2.2)) (cL (xs.map kD) vs (dW k) d).2:=by
 induction xs generalizing vs with
 | nil=>exact⟨QQ,.cons q .nil,.cons n .nil⟩
 | cons x xs w=>
  obtain⟨c,b,u⟩:=x;cases vs with
  | nil=>exact nomatch (show _::_=[] from r)
  | cons z vs=>
   obtain⟨j,m⟩:=xQ.mp s;obtain⟨y,r2⟩:=r.inv;obtain⟨o,k2⟩:=t.inv;rw[storedH_cons _ _ _ _ _ _ _ j,wx,l8,jS]
   by_cases f:c=k
   ·rw[wh f,wh (xF f)]
    exact⟨QQ,.cons o k2,.cons n r2⟩
   ·rw[wo f,wo (by simpa using f)]
    have i:=w m k2 r2;exact⟨wv (kD (c,b,u)::·) i.1,.cons o i.2.1,.cons y i.2.2⟩
end
end Mine
namespace Mine
open PySem
inductive ME where
 | u (x:vV)
 | glob (x:vV)
 | int (i:Int)
 | str (s:vV)
 | bool (b:v7)
 | none
 | bin (op:xw) (a b:ME)
 | cmp (op:zn) (a b:ME)
 | bop (op:y2) (es:vR ME)
 | not (a:ME)
 | neg (a:ME)
 | tup (es:vR ME)
 | lst (es:vR ME)
 | sub (a i:ME)
 | sl (a lo hi:ME)
 | dct (ks vs:vR ME)
 | comp (elt:ME) (x:vV) (BH:ME) (cs:vR ME)
 | call (f:vV) (args:vR ME)
 | isi (a:ME) (T:vV)
 | blt (f:vV) (args:vR ME)
 | lcp (a:ME)
 | sset (a:ME)
 | srt (a:ME) (f x p:vV) (rev:v7)
inductive MS where
 | x0 (x:vV) (e:ME)
 | append (x:vV) (e:ME)
 | setk (x:vV) (k e:ME)
 | ite (c:ME) (t f:vR MS)
 | for_ (x:vV) (BH:ME) (body:vR MS)
 | ret (e:ME)
 | bad
 | grp
 | forr (x:vV) (BH:ME) (body:vR MS)
 | expr (e:ME)
 | raise (C m:vV)
 | tryc (g:vV) (args:vR ME) (hs:vR (vV×Int))
 | tryq (g:vV) (args:vR ME)
noncomputable def D.isList:D->v7
 | .list _=>vT
 | _=>vP
noncomputable def onI{α:Type}(d:D)(f:Int->vY α):vY α:=match d with | .int i=>f i | _=>none
noncomputable def onS{α:Type}(d:D)(f:Str->vY α):vY α:=match d with | .str i=>f i | _=>none
noncomputable def onB{α:Type}(d:D)(f:v7->vY α):vY α:=match d with | .bool i=>f i | _=>none
noncomputable def onT{α:Type}(d:D)(f:vR D->vY α):vY α:=match d with | .tup i=>f i | _=>none
noncomputable def onL{α:Type}(d:D)(f:vR D->vY α):vY α:=match d with | .list i=>f i | _=>none
noncomputable def onC{α:Type}(d:D)(f:Int->vY α)(g:Str->vY α):vY α:=match d with | .int i=>f i | .str x=>g x | _=>none
noncomputable def D.items:D->vY (vR D)
 | .list ds | .tup ds=>ac ds
 | .rng a b=>ac ((wR (b - a).toNat).map λ(i:Nat)=>D.int (a+(i:Int)))
 | .dict ks _=>ac ks
 | _=>Option.none
noncomputable def bg:D->vY v7
 | .bool b=>ac b
 | .none=>ac vP
 | .int i=>ac (i != 0)
 | .list ds | .tup ds=>ac (!ds.isEmpty)
 | _=>none
noncomputable def eqS(a b:D):vY v7:=match a with
 | .bool x=>onB b λy=>ac (x == y)
 | .int x=>onC b (λy=>ac (x == y)) λZ=>ac vP
 | .str x=>onC b (λZ=>ac vP) λy=>ac (x == y)
 | _=>none
noncomputable def lD:vR D->vR D->vY v7
 | [],[]=>ac vT
 | a::r,b::c=>(eqS a b).bind λx=>(lD r c).map λy=>x&&y
 | _,_=>ac vP
noncomputable def eqD(a b:D):vY v7:=match a with
 | .list ds=>onL b λes=>if ds.length=es.length then lD ds es else ac vP
 | .tup ds=>onT b λes=>if ds.length=es.length then lD ds es else if es.length=0 then ac vP else none
 | a=>eqS a b
noncomputable def eqX(a b:D):vY v7:=match a with
 | .dict ks vs=>(match b with | .dict f c=>if (ks.all D.isCell&&a7 ks f&&vs.length == c.length)=vT then lD vs c else none | _=>none)
 | a=>eqD a b
noncomputable def lim:Int:=2 ^ 64
noncomputable def eG:Int:=2 ^ 1000
noncomputable def oV:Int:=10 ^ 100
noncomputable def binI(op:xw)(a b:Int):vY D:=match op with
 | .Add=>ac (.int (a+b))
 | .Sub=>ac (.int (a - b))
 | .Mult=>if (-lim<a/\a<lim)\/(-lim<b/\b<lim) then ac (.int (a * b)) else none
 | .FloorDiv=>if 0<b/\b<lim then ac (.int (a / b)) else none
 | .Mod=>if 0<b then ac (.int (a % b)) else none
 | .Pow=>if -eG<a/\a<eG/\0<=b/\b<=100 then ac (.int (a ^ b.toNat)) else none
 | _=>none
noncomputable def binS(op:xw)(a:Str)(d:D):vY D:=match op with
 | .Add=>onS d λb=>if a.length+b.length<=big then ac (.str (a++b)) else none
 | .Mult=>onI d λn=>if 0<=n/\n<=1000/\a.length<=1000 then ac (.str (Txt.mul a n)) else none
 | _=>none
noncomputable def binL(op:xw)(a:vR D)(d:D):vY D:=match op with
 | .Add=>onL d λb=>if a.length+b.length<=big then ac (.list (a++b)) else none
 | _=>none
noncomputable def binT(op:xw)(a:vR D)(d:D):vY D:=match op with
 | .Add=>onT d λb=>if a.length+b.length<=big then ac (.tup (a++b)) else none
 | .Mult=>onI d λn=>if 0<=n/\n<=5000/\a.length=1 then ac (.tup (wV n.toNat (a.getD 0 .none))) else none
 | _=>none
noncomputable def ce(op:xw)(x y:D):vY D:=match x with
 | .int a=>onI y (binI op a)
 | .str a=>binS op a y
 | .list a=>binL op a y
 | .tup a=>binT op a y
 | _=>none
noncomputable def cmpI(op:zn)(a b:Int):vY D:=match op with
 | .Lt=>ac (.bool (decide (a<b)))
 | .LtE=>ac (.bool (decide (a<=b)))
 | .Gt=>ac (.bool (decide (a > b)))
 | .GtE=>ac (.bool (decide (a ≥ b)))
 | _=>none
noncomputable def ordD(op:zn)(x y:D):vY D:=match x with
 | .int a=>onI y (cmpI op a)
 | .str a=>onS y λb=>(match op with | .Lt=>ac (.bool (decide (a.cps.toList<b.cps.toList))) | _=>none)
 | _=>none
noncomputable def cJ(k:D)(ks:vR D):v7:=(k.isCell&&ks.all D.isCell)||(k.isTK&&ks.all D.isTK)
noncomputable def kK(k c:D):vY v7:=match c with
 | .dict ks _=>if cJ k ks then ac (ks.any λx=>aU x k) else none
 | .tup ds=>if k.isCell&&ds.all D.isCell then ac (ds.any λx=>cB x k) else none
 | _=>none
noncomputable def b9(op:zn)(a b:D):vY D:=match op with
 | .Eq=>(eqX a b).map .bool
 | .NotEq=>(eqX a b).map λx=>.bool (!x)
 | .In=>(kK a b).map .bool
 | .NotIn=>(kK a b).map λx=>.bool (!x)
 | op=>ordD op a b
noncomputable def idx(k:Int)(n:Nat):vY Nat:=if 0<=k/\k<n then ac k.toNat else if -(n:Int)<=k/\k<0 then ac (k+n).toNat else none
noncomputable def bH(x:Str)(j:Nat):Str:=⟨#[x.cps.getD j 0]⟩
noncomputable def aD(d i:D):vY D:=match d with
 | .list ds=>onI i λk=>(idx k ds.length).bind λj=>ds[j]?
 | .tup ds=>onI i λk=>(idx k ds.length).bind λj=>ds[j]?
 | .str x=>onI i λk=>if 0<=k/\k<x.length/\x.length<=big then ac (.str (bH x k.toNat)) else none
 | .dict ks vs=>if cJ i ks then lM ks vs i else none
 | _=>none
noncomputable def bnd(lo:D)(dflt:Nat):vY Nat:=match lo with
 | .none=>ac dflt
 | .int i=>if 0<=i then ac i.toNat else none
 | _=>none
noncomputable def bndS(lo:D):vY (vY Int):=match lo with
 | .none=>ac none
 | .int i=>ac (ac i)
 | _=>none
noncomputable def slD(d lo c:D):vY D:=match d with
 | .list ds=>(bnd lo 0).bind λa=>(bnd c ds.length).map λb=>.list ((ds.take b).drop a)
 | .tup ds=>(bnd lo 0).bind λa=>(bnd c ds.length).map λb=>.tup ((ds.take b).drop a)
 | .str x=>if x.length<=big then (bndS lo).bind λa=>(bndS c).map λb=>.str (Txt.slice x a b) else none
 | _=>none
noncomputable def mS(d:D)(T:vV):vY v7:=
 if T="str"\/T="bool"\/T="int"\/T="tuple"\/T="list" then (match d with
  | .str _=>ac (T == "str")
  | .int _=>ac (T == "int")
  | .bool _=>ac (T == "int"||T == "bool")
  | .tup _=>ac (T == "tuple")
  | .list _=>ac (T == "list")
  | _=>none) else none
noncomputable def lenD(d:D):vY D:=match d with
 | .list ds=>ac (.int ds.length)
 | .tup ds=>ac (.int ds.length)
 | .str x=>if x.length<=big then ac (.int x.length) else none
 | _=>none
noncomputable def rngD(a n:Int):vY D:=if (-(big:Int)<=n/\n<=big)/\-(big:Int)<=a/\a<=big then ac (.rng a n) else none
noncomputable def bltI(f:vV)(i:Int):vY D:=
 if f="range" then rngD 0 i else if f="str" then (if -oV<i/\i<oV then ac (.str (vQ (toString i))) else none) else none
noncomputable def bltI2(f:vV)(a b:Int):vY D:=
 if f="range" then rngD a b else if f="max" then ac (.int (if b > a then b else a)) else if f="min" then ac (.int (if b<a then b else a)) else none
noncomputable def mr:vR D->vY Int
 | []=>ac 0
 | .int i::r=>(mr r).map (i+·)
 | _=>none
noncomputable def fZ(f:vV)(as:vR D):vY D:=match as with
 | [d]=>if f="len" then lenD d else (match d with
  | .list ds=>if f="tuple" then ac (.tup ds) else if f="sum" then (mr ds).map .int else none
  | .int i=>bltI f i
  | .bool b=>if f="int" then ac (.int (if b then 1 else 0)) else none
  | .str x=>if f="str" then ac (.str x) else none
  | _=>none)
 | [a,b]=>onI a λi=>onI b λj=>bltI2 f i j
 | _=>none
noncomputable def rS(d:D):vY (vR D):=match d with
 | .list ds=>ac ds
 | .tup ds=>ac ds
 | .dict ks _=>if ks.all D.isCell then ac ks else none
 | _=>none
noncomputable def mV:vR D->vY (vR Int)
 | []=>ac []
 | .int i::r=>(mV r).map (i::·)
 | _=>none
noncomputable def rV(x:Int):vR Int->vR Int
 | []=>[x]
 | y::l=>if x<y then x::y::l else if x=y then y::l else y::rV x l
noncomputable def fg(ns:vR Int):vR Int:=ns.foldr rV []
noncomputable def mu(d:D):vY D:=match d with
 | .list ds=>if ds.length<63 then (mV ds).map λns=>.list ((fg ns).map .int) else none
 | _=>none
noncomputable def cX:D->v7
 | .str _=>vT
 | _=>vP
noncomputable def r5:D->D->v7
 | .int i,.int j=>decide (i<j)
 | .int _,.str _=>vT
 | .str x,.str y=>decide (x.cps.toList<y.cps.toList)
 | _,_=>vP
noncomputable def ou(ds:vR D)(p:Nat):D:=ds.getD p (.int 0)
noncomputable def pn(lt:Nat->Nat->v7){α:Type}:PySem.W.KasT α->α
 | .ret a=>a
 | .ask i j k=>pn lt (k (lt i j))
noncomputable def kix(ks:vR D):vR Nat:=if ks.length<2 then wR ks.length else (pn (λi j=>r5 (ou ks i) (ou ks j)) (PySem.W.kas_sort ks.length)).toList
noncomputable def fO{α:Type}(z:α)(rev:v7)(ks:vR D)(l:vR α):vR α:=PySem.W.katRev rev ((kix (PySem.W.katRev rev ks)).map λi=>(PySem.W.katRev rev l).getD i z)
noncomputable def rU(k:D):vY D:=match k with
 | .tup [.bool b,c]=>if c.isCell&&b == cX c then ac c else none
 | _=>none
noncomputable def gM(g:D->vY D):vR D->vY (vR D)
 | []=>ac []
 | d::r=>match g d with
  | some k=>(match rU k with
   | some c=>(gM g r).map (c::·)
   | none=>none)
  | none=>none
noncomputable def srtD(g:D->vY D)(rev:v7)(d:D):vY D:=match d with
 | .list ds=>if ds.length<64 then (gM g ds).map λks=>.list (fO .none rev ks ds) else none
 | _=>none
noncomputable def bD(f:D->vY (vY D)):vR D->vY (vR D)
 | []=>ac []
 | it::r=>match f it with
  | none=>none
  | some o=>match bD f r with
   | none=>none
   | some ds=>ac (match o with | none=>ds | some d=>d::ds)
structure CF where
 call:vV->vR D->vY (D×v7)
 glob:vV->vY D
 raz:vV->vR D->vY vV
 fn:vV->v7
noncomputable def fA(cf:CF)(f:vV)(i d:D):vY D:=match aD d i with
 | some c=>(cf.call f [c]).map (·.1)
 | none=>none
mutual
noncomputable def evE(cf:CF)(ρ:vR (vV×D))(j:ME):vY D:=match j with
 | .u x=>ρ.lookup x
 | .glob x=>cf.glob x
 | .int i=>ac (.int i)
 | .str s=>ac (.str (vQ s))
 | .bool b=>ac (.bool b)
 | .none=>ac .none
 | .bin c a b=>match evE cf ρ a with
  | some x=>(match evE cf ρ b with | some y=>ce c x y | none=>none)
  | none=>none
 | .cmp c a b=>match evE cf ρ a with
  | some x=>(match evE cf ρ b with | some y=>b9 c x y | none=>none)
  | none=>none
 | .bop c es=>fq cf ρ c es
 | .not a=>match evE cf ρ a with
  | some x=>(bg x).map λt=>.bool (!t)
  | none=>none
 | .neg a=>match evE cf ρ a with
  | some x=>onI x λi=>ac (.int (-i))
  | none=>none
 | .tup es=>match bk cf ρ es with
  | some ds=>if ds.length<=big then ac (.tup ds) else none
  | none=>none
 | .lst es=>match bk cf ρ es with
  | some ds=>if ds.length<=big then ac (.list ds) else none
  | none=>none
 | .dct ks vs=>match bk cf ρ ks with
  | some ds=>(match bk cf ρ vs with
   | some es=>if ds.isEmpty&&es.isEmpty then ac (.dict [] []) else none
   | none=>none)
  | none=>none
 | .sub a i=>match evE cf ρ a with
  | some x=>(match evE cf ρ i with | some y=>aD x y | none=>none)
  | none=>none
 | .sl a lo n=>match evE cf ρ a with
  | some x=>(match evE cf ρ lo with
   | some y=>(match evE cf ρ n with | some z=>slD x y z | none=>none)
   | none=>none)
  | none=>none
 | .comp h x BH o=>match evE cf ρ BH with
  | some d=>(match d.items with
   | some BK=>if BK.length<=big then (bD (λm=>match lK cf ((x,m)::ρ) o with
     | some vT=>(match evE cf ((x,m)::ρ) h with | some y=>ac (ac y) | none=>none)
     | some vP=>ac none
     | none=>none) BK).map .list else none
   | none=>none)
  | none=>none
 | .call f args=>match bk cf ρ args with
  | some ds=>(cf.call f ds).map (·.1)
  | none=>none
 | .isi a T=>match evE cf ρ a with
  | some x=>(mS x T).map .bool
  | none=>none
 | .blt f args=>match bk cf ρ args with
  | some ds=>fZ f ds
  | none=>none
 | .lcp a=>match evE cf ρ a with
  | some x=>(rS x).map .list
  | none=>none
 | .sset a=>match evE cf ρ a with
  | some x=>mu x
  | none=>none
 | .srt a f _ p rev=>match evE cf ρ a with
  | some x=>(match ρ.lookup p with
   | some i=>srtD (fA cf f i) rev x
   | none=>none)
  | none=>none
termination_by structural j
noncomputable def bk(cf:CF)(ρ:vR (vV×D))(a:vR ME):vY (vR D):=match a with
 | []=>ac []
 | e::r=>match evE cf ρ e with
  | some d=>(match bk cf ρ r with | some ds=>ac (d::ds) | none=>none)
  | none=>none
termination_by structural a
noncomputable def fq(cf:CF)(ρ:vR (vV×D))(op:y2)(a:vR ME):vY D:=match a with
 | []=>none
 | [e]=>evE cf ρ e
 | e::r=>match evE cf ρ e with
  | some d=>(match bg d with
   | some t=>if t=(match op with | .And=>vP | .Or=>vT) then ac d else fq cf ρ op r
   | none=>none)
  | none=>none
termination_by structural a
noncomputable def lK(cf:CF)(ρ:vR (vV×D))(a:vR ME):vY v7:=match a with
 | []=>ac vT
 | e::r=>match evE cf ρ e with
  | some d=>(match bg d with
   | some t=>if t then lK cf ρ r else ac vP
   | none=>none)
  | none=>none
termination_by structural a
end
noncomputable def oE{b:Type}(a:vY D)(f:D->vY b):vY b:=match a with
 | some x=>f x
 | none=>none
noncomputable def oEs{b:Type}(a:vY (vR D))(f:vR D->vY b):vY b:=match a with
 | some x=>f x
 | none=>none
noncomputable def oT{b:Type}(a:vY v7)(f:v7->vY b):vY b:=match a with
 | some x=>f x
 | none=>none
theorem bh{b:Type}{a:vY D}{f:D->vY b}{r:b}{C:Prop}(h:oE a f=ac r)(k:∀ x,a=ac x->f x=ac r->C):C:=by
 cases a with
 | none=>cases h
 | some x=>exact k x QQ h
theorem dJ{b:Type}{a:vY (vR D)}{f:vR D->vY b}{r:b}{C:Prop}(h:oEs a f=ac r)(k:∀ x,a=ac x->f x=ac r->C):C:=by
 cases a with
 | none=>cases h
 | some x=>exact k x QQ h
theorem rQ{b:Type}{a:vY v7}{f:v7->vY b}{r:b}{C:Prop}(h:oT a f=ac r)(k:∀ x,a=ac x->f x=ac r->C):C:=by
 cases a with
 | none=>cases h
 | some x=>exact k x QQ h
mutual
noncomputable def ME.names:ME->vR vV
 | .u x=>[x]
 | .bin _ a b | .cmp _ a b | .sub a b=>a.names++b.names
 | .bop _ es | .tup es | .lst es | .call _ es | .blt _ es=>eH es
 | .not a | .neg a | .isi a _ | .lcp a=>a.names
 | .sset a=>a.names
 | .srt a _ _ p _=>a.names++[p]
 | .dct ks vs=>eH ks++eH vs
 | .sl a lo f=>a.names++lo.names++f.names
 | .comp c x BH h=>BH.names++(c.names++eH h).filter (· != x)
 | .glob _ | .int _ | .str _ | .bool _ | .none=>[]
noncomputable def eH:vR ME->vR vV
 | []=>[]
 | e::r=>e.names++eH r
end
noncomputable def ME.varOf(e:ME):vY vV:=yW (e.ctorIdx=0) (λh=>ME.u.elim (motive_1:=λZ=>vY vV) e h ac) λZ=>Option.none
theorem varOf_inv{e:ME}{x:vV}{C:ME->Prop}(h:e.varOf=ac x)(k:C (.u x)):C e:=by
 unfold ME.varOf at h
 by_cases a:e.ctorIdx=0
 ·rw[dif_pos a] at h
  exact ME.u.elim (motive_1:=λe=>∀ a,ME.u.elim (motive_1:=λZ=>vY vV) e a ac=ac x->C e) e a (λy Z h=>v5 h▸k) a h
 ·rw[dif_neg a] at h;cases h
noncomputable abbrev St:=vR (vV×(v7×D))
noncomputable def vis(σ:St):vR (vV×D):=σ.map λp=>(p.1,p.2.2)
noncomputable def ax(σ:St)(x:vV)(v:v7×D):St:=match σ with
 | []=>[(x,v)]
 | (y,w)::r=>if y=x then (y,v)::r else (y,w)::ax r x v
noncomputable def freeze(ns:vR vV)(σ:St):St:=σ.map λp=>(p.1,(p.2.1&&!ns.contains p.1,p.2.2))
noncomputable def settle(d:D)(ns:vR vV)(σ:St):St:=if d.scalar then σ else freeze ns σ
inductive Fl where
 | next
 | ret (fr:v7) (d:D)
noncomputable def frF(a:ME)(d:D):v7:=match a with
 | .lst _ | .comp _ _ _ _ | .dct _ _ | .lcp _=>vT
 | .sset _=>vT
 | .srt _ _ _ _ _=>vT
 | .sl _ _ _ | .bin _ _ _=>d.isList
 | .u _ | .glob _ | .int _ | .str _ | .bool _ | .none | .cmp _ _ _ | .bop _ _ | .not _ | .neg _ | .tup _ | .sub _ _ | .call _ _ | .isi _ _ | .blt _ _=>vP
noncomputable def lY(a:ME):vY (vV×vR ME):=match a with
 | .call f args=>ac (f,args)
 | _=>none
noncomputable def evF(cf:CF)(ρ:vR (vV×D))(a:ME):vY (D×v7):=match lY a with
 | some (f,args)=>(match bk cf ρ args with
  | some ds=>cf.call f ds
  | none=>none)
 | none=>(evE cf ρ a).map λd=>(d,frF a d)
section
variable (cf:CF) (ρ:vR (vV×D))
theorem fU(f:vV)(args:vR ME):evF cf ρ (.call f args)=(match bk cf ρ args with | some ds=>cf.call f ds | none=>none):=rfl
end
noncomputable def cq(f:D->St->vY (Fl×St)):vR D->St->vY (Fl×St)
 | [],σ=>ac (.next,σ)
 | it::r,σ=>match f it σ with
  | some (.next,BJ)=>cq f r BJ
  | x=>x
noncomputable def t7(k r:D):vR (D×vR D)->vR (D×vR D)
 | []=>[(k,[r])]
 | q::G=>if aU q.1 k=vT then (q.1,q.2++[r])::G else q::t7 k r G
noncomputable def lJ(cf:CF)(pl:D):vR D->vR (D×vR D)->vY (vR (D×vR D))
 | [],G=>ac G
 | r::a,G=>match cf.call "cells_at" [r,pl] with
  | some p=>if (p.1.isTK&&!p.2)=vT then lJ cf pl a (t7 p.1 r G) else none
  | none=>none
noncomputable def isNew:vY (v7×D)->v7
 | some (vT,.dict [] [])=>vT
 | _=>vP
noncomputable def ij:vR vV:=["rows","places","sums"]
noncomputable def u6(σ:St)(G:vR (D×vR D)):St:=ax (σ.filter λp=>ij.contains p.1) "groups" (vP,.dict (G.map (·.1)) (G.map λq=>.list q.2))
noncomputable def u5(cf:CF)(σ:St):vY St:=match σ.lookup "rows" with
 | some (vP,.list a)=>(match σ.lookup "places" with
  | some (vP,pl)=>if isNew (σ.lookup "groups") then (lJ cf pl a []).map (u6 σ) else none
  | _=>none)
 | _=>none
mutual
noncomputable def exS(cf:CF)(st:MS)(σ:St):vY (Fl×St):=match st,σ with
 | .x0 x e,σ=>match evF cf (vis σ) e with
  | some (d,fr)=>ac (.next,ax (settle d e.names σ) x (fr,d))
  | none=>none
 | .append x e,σ=>match evE cf (vis σ) e with
  | some d=>(match (settle d e.names σ).lookup x with
   | some (vT,.list ds)=>if ds.length<big then ac (.next,ax (settle d e.names σ) x (vT,.list (ds++[d]))) else none
   | _=>none)
  | none=>none
 | .setk x k e,σ=>match evE cf (vis σ) e with
  | some d=>(match evE cf (vis σ) k with
   | some a=>(match (settle a k.names (settle d e.names σ)).lookup x with
    | some (vT,.dict ks vs)=>if cJ a ks&&decide (ks.length<big) then ac (.next,ax (settle a k.names (settle d e.names σ)) x (vT,.dict (cL ks vs a d).1 (cL ks vs a d).2)) else none
    | _=>none)
   | none=>none)
  | none=>none
 | .ite c t f,σ=>match evE cf (vis σ) c with
  | some d=>(match bg d with
   | some vT=>aY cf t σ
   | some vP=>aY cf f σ
   | none=>none)
  | none=>none
 | .for_ x BH body,σ=>match evE cf (vis σ) BH with
  | some d=>(match d.items with
   | some BK=>cq (λb σ=>aY cf body (ax σ x (vP,b))) BK (freeze BH.names σ)
   | none=>none)
  | none=>none
 | .ret e,σ=>match e.varOf with
  | some x=>(match σ.lookup x with | some (fr,d)=>ac (.ret fr d,σ) | none=>none)
  | none=>(match evF cf (vis σ) e with
   | some (d,fr)=>ac (.ret fr d,σ)
   | none=>none)
 | .bad,_=>none
 | .forr x BH body,σ=>match evE cf (vis σ) BH with
  | some (.tup ds)=>cq (λb σ=>aY cf body (ax σ x (vP,b))) ds.reverse (freeze BH.names σ)
  | _=>none
 | .expr e,σ=>match evE cf (vis σ) e with
  | some d=>if d.scalar then ac (.next,σ) else none
  | none=>none
 | .raise _ _,_=>none
 | .tryc _ _ _,_=>none
 | .tryq _ _,_=>none
 | .grp,σ=>match u5 cf σ with
  | some BJ=>ac (.next,BJ)
  | none=>none
termination_by structural st
noncomputable def aY(cf:CF)(a:vR MS)(σ:St):vY (Fl×St):=match a,σ with
 | [],σ=>ac (.next,σ)
 | st::r,σ=>match exS cf st σ with
  | some (.next,BJ)=>aY cf r BJ
  | x=>x
termination_by structural a
end
structure Fn where
 params:vR vV
 body:vR MS
noncomputable def bx:vR vV:=["NoStep","NoTable","NoCount","NoColumn","UnlikeSides"]
mutual
noncomputable def rzE(cf:CF)(ρ:vR (vV×D))(c:ME):vY vV:=match c with
 | .call f args=>match bk cf ρ args with
  | some ds=>cf.raz f ds
  | none=>if cf.fn f=vT then jK cf ρ args else none
 | .bin _ a b=>match evE cf ρ a with
  | some _=>rzE cf ρ b
  | none=>rzE cf ρ a
 | _=>none
termination_by structural c
noncomputable def jK(cf:CF)(ρ:vR (vV×D))(a:vR ME):vY vV:=match a with
 | []=>none
 | e::r=>match evE cf ρ e with
  | some _=>jK cf ρ r
  | none=>rzE cf ρ e
termination_by structural a
end
noncomputable def eE(f:D->St->vY (Fl×St))(g:D->St->vY vV):vR D->St->vY vV
 | [],_=>none
 | it::r,σ=>match f it σ with
  | some (.next,BJ)=>eE f g r BJ
  | some _=>none
  | none=>g it σ
mutual
noncomputable def rzS(cf:CF)(st:MS)(σ:St):vY vV:=match st,σ with
 | .raise C _,_=>if bx.contains C=vT then ac C else none
 | .expr e,σ=>rzE cf (vis σ) e
 | .x0 _ e,σ=>rzE cf (vis σ) e
 | .ret e,σ=>rzE cf (vis σ) e
 | .ite c t f,σ=>match evE cf (vis σ) c with
  | some d=>(match bg d with
   | some vT=>et cf t σ
   | some vP=>et cf f σ
   | none=>none)
  | none=>none
 | .for_ x BH body,σ=>match evE cf (vis σ) BH with
  | some d=>(match d.items with
   | some BK=>eE (λa σ=>aY cf body (ax σ x (vP,a))) (λa σ=>et cf body (ax σ x (vP,a))) BK (freeze BH.names σ)
   | none=>none)
  | none=>none
 | _,_=>none
termination_by structural st
noncomputable def et(cf:CF)(a:vR MS)(σ:St):vY vV:=match a,σ with
 | [],_=>none
 | st::r,σ=>match exS cf st σ with
  | some (.next,BJ)=>et cf r BJ
  | some _=>none
  | none=>rzS cf st σ
termination_by structural a
end
noncomputable def callR(P:vR (vV×Fn))(cf:CF)(f:vV)(args:vR D):vY vV:=(P.lookup f).bind λa=>if args.length=a.params.length then (et cf a.body ((a.params.zip args).map λp=>(p.1,(vP,p.2)))).bind λc=>if bx.contains c=vT then ac c else none else none
noncomputable def ae(P:vR (vV×Fn))(X:CF):Nat->CF
 | 0=>⟨λZ Z=>none,X.glob,λZ Z=>none,λZ=>vP⟩
 | n+1=>⟨λf args=>match P.lookup f with
  | none=>X.call f args
  | some a=>if args.length=a.params.length then
    (match aY (ae P X n) a.body ((a.params.zip args).map λp=>(p.1,(vP,p.2))) with
    | some (.ret fr d,_)=>ac (d,fr)
    | some (.next,_)=>ac (.none,vP)
    | _=>none)
   else none,X.glob,callR P (ae P X n),λf=>(P.lookup f).isSome⟩
set_option autoImplicit true in
theorem fI(cf:CF)(ρ:vR (vV×D)):evE cf ρ (ME.u x)=(ρ.lookup x):=rfl
set_option autoImplicit true in
theorem ev_bin(cf:CF)(ρ:vR (vV×D)):evE cf ρ (ME.bin op a b)=(match evE cf ρ a with
   | some x=>(match evE cf ρ b with | some y=>ce op x y | none=>none)
   | none=>none):=rfl
set_option autoImplicit true in
theorem rZ(cf:CF)(ρ:vR (vV×D)):evE cf ρ (ME.cmp op a b)=(match evE cf ρ a with
   | some x=>(match evE cf ρ b with | some y=>b9 op x y | none=>none)
   | none=>none):=rfl
set_option autoImplicit true in
theorem u9(cf:CF)(ρ:vR (vV×D)):evE cf ρ (ME.sub a i)=(match evE cf ρ a with
   | some x=>(match evE cf ρ i with | some y=>aD x y | none=>none)
   | none=>none):=rfl
set_option autoImplicit true in
theorem ev_comp(cf:CF)(ρ:vR (vV×D)):evE cf ρ (ME.comp elt x BH cs)=(match evE cf ρ BH with
   | some d=>(match d.items with
    | some BK=>if BK.length<=big then (bD (λa=>match lK cf ((x,a)::ρ) cs with
      | some vT=>(match evE cf ((x,a)::ρ) elt with | some y=>ac (ac y) | none=>none)
      | some vP=>ac none
      | none=>none) BK).map .list else none
    | none=>none)
   | none=>none):=rfl
set_option autoImplicit true in
theorem evs_nil(cf:CF)(ρ:vR (vV×D)):bk cf ρ ([])=(ac []):=rfl
set_option autoImplicit true in
theorem dO(cf:CF)(ρ:vR (vV×D)):bk cf ρ (e::r)=(match evE cf ρ e with
   | some d=>(match bk cf ρ r with | some ds=>ac (d::ds) | none=>none)
   | none=>none):=rfl
set_option autoImplicit true in
theorem kt(cf:CF)(σ:St):exS cf (MS.x0 x e) σ=(match evF cf (vis σ) e with
   | some (d,fr)=>ac (.next,ax (settle d e.names σ) x (fr,d))
   | none=>none):=rfl
set_option autoImplicit true in
theorem xs_append(cf:CF)(σ:St):exS cf (MS.append x e) σ=(match evE cf (vis σ) e with
   | some d=>(match (settle d e.names σ).lookup x with
    | some (vT,.list ds)=>if ds.length<big then ac (.next,ax (settle d e.names σ) x (vT,.list (ds++[d]))) else none
    | _=>none)
   | none=>none):=rfl
set_option autoImplicit true in
theorem xs_setk(cf:CF)(σ:St):exS cf (MS.setk x k e) σ=(match evE cf (vis σ) e with
   | some d=>(match evE cf (vis σ) k with
    | some a=>(match (settle a k.names (settle d e.names σ)).lookup x with
     | some (vT,.dict ks vs)=>if cJ a ks&&decide (ks.length<big) then ac (.next,ax (settle a k.names (settle d e.names σ)) x (vT,.dict (cL ks vs a d).1 (cL ks vs a d).2)) else none
     | _=>none)
    | none=>none)
   | none=>none):=rfl
set_option autoImplicit true in
theorem rE(cf:CF)(σ:St):exS cf (MS.ite c t f) σ=(match evE cf (vis σ) c with
   | some d=>(match bg d with
    | some vT=>aY cf t σ
    | some vP=>aY cf f σ
    | none=>none)
   | none=>none):=rfl
set_option autoImplicit true in
theorem sj(cf:CF)(σ:St):exS cf (MS.for_ x BH body) σ=(match evE cf (vis σ) BH with
   | some d=>(match d.items with
    | some BK=>cq (λa σ=>aY cf body (ax σ x (vP,a))) BK (freeze BH.names σ)
    | none=>none)
   | none=>none):=rfl
set_option autoImplicit true in
theorem oQ(cf:CF)(σ:St):exS cf (MS.ret e) σ=(match e.varOf with
   | some x=>(match σ.lookup x with | some (fr,d)=>ac (.ret fr d,σ) | none=>none)
   | none=>(match evF cf (vis σ) e with
    | some (d,fr)=>ac (.ret fr d,σ)
    | none=>none)):=rfl
theorem si(cf:CF)(x:vV)(BH:ME)(body:vR MS)(σ:St):exS cf (MS.forr x BH body) σ=(match evE cf (vis σ) BH with
  | some (.tup ds)=>cq (λa σ=>aY cf body (ax σ x (vP,a))) ds.reverse (freeze BH.names σ)
  | _=>none):=rfl
set_option autoImplicit true in
theorem uh(cf:CF)(σ:St):exS cf (MS.grp) σ=(match u5 cf σ with
   | some BJ=>ac (.next,BJ)
   | none=>none):=rfl
theorem sk(cf:CF)(e:ME)(σ:St):exS cf (MS.expr e) σ=(match evE cf (vis σ) e with
  | some d=>if d.scalar then ac (.next,σ) else none
  | none=>none):=rfl
set_option autoImplicit true in
theorem sf(cf:CF)(σ:St):aY cf ([]) σ=(ac (.next,σ)):=rfl
set_option autoImplicit true in
theorem mj(cf:CF)(σ:St):aY cf (st::r) σ=(match exS cf st σ with
   | some (.next,BJ)=>aY cf r BJ
   | x=>x):=rfl
theorem uL(a:ME)(f x p:vV)(rev:v7):(ME.srt a f x p rev).names=a.names++[p]:=rfl
theorem ev_srt(cf:CF)(ρ:vR (vV×D))(a:ME)(f x p:vV)(rev:v7):evE cf ρ (ME.srt a f x p rev)=(match evE cf ρ a with
  | some x=>(match ρ.lookup p with
   | some i=>srtD (fA cf f i) rev x
   | none=>none)
  | none=>none):=rfl
theorem bS(x:vV):∀ (σ:St),(vis σ).lookup x=(σ.lookup x).map (·.2)
 | []=>rfl
 | (y,v)::r=>by
  have a:=bS x r;unfold vis at a ⊢;rw[wx,wk,wk]
  by_cases h:x=y
  ·subst h;simp
  ·have:(x == y)=vP:=by simpa using h
   simp only[this];exact a
theorem aE(x y:vV)(v:v7×D):∀ (σ:St),(ax σ x v).lookup y=if y=x then ac v else σ.lookup y
 | []=>by
  unfold ax;rw[wk]
  by_cases h:y=x
  ·simp[h]
  ·have:(y == x)=vP:=by simpa using h
   simp[h,this]
 | (z,u)::r=>by
  unfold ax
  split
  ·rename_i h;subst h
   rw[wk,wk]
   by_cases h:y=z
   ·simp[h]
   ·have:(y == z)=vP:=by simpa using h
    simp[h,this]
  ·rename_i a
   rw[wk,wk,aE x y v r]
   by_cases h:y=x
   ·subst h
    have:(y == z)=vP:=by simpa using Ne.symm a
    simp[this]
   ·simp[h]
theorem aZ(ns:vR vV)(x:vV):∀ (σ:St),(freeze ns σ).lookup x=(σ.lookup x).map λp=>(p.1&&!ns.contains x,p.2)
 | []=>rfl
 | (y,v)::r=>by
  have a:=aZ ns x r;unfold freeze at a ⊢;rw[wx,wk,wk]
  by_cases h:x=y
  ·subst h;simp
  ·have:(x == y)=vP:=by simpa using h
   simp only[this];exact a
noncomputable abbrev KD:=Str->vY yw
noncomputable def ez(k:KD)(x:Str):v7:=(k x == ac .local||k x == ac .cell||k x == ac .free)&&x != vQ "__debug__"&&x != vQ "__classdict__"&&x != vQ ".0"
noncomputable def bC(k:KD)(x:Str):v7:=k x == ac .globalImplicit&&x != vQ "__debug__"
noncomputable def dL(k:KD)(scope:xZ):KD:=λx=>(scope.names.map λp=>if p.2 == .free&&k p.1 == ac .cell then (p.1,NameKind.cell) else p).lookup x
noncomputable def d7(e:wi):v7:=!decide (e.ctorIdx=7)
noncomputable def kH(k:KD):v7:=k (vQ "keys") == ac .local&&k (vQ "sorted") == ac .globalImplicit&&k (vQ "place") == ac .cell
noncomputable def gv(k:KD)(scope:xZ)(x:Str):v7:=
 scope.kind == .function&&decide (scope.names.map (·.1)).Nodup&&(scope.names.lookup x == ac .local||scope.names.lookup x == ac .cell) &&
 scope.names.all (λp=>p.2 != .free||k p.1 == ac .cell||k p.1 == ac .free)&&scope.names.all (λp=>p.2 == .free||p.2 == .globalImplicit||p.1 == x||p.1 == vQ ".0")&&!kH (dL k scope)
noncomputable def qq(k:KD)(ps:y3)(sc:xZ)(x p:Str):v7:=
 (ps.posonlyargs.isEmpty&&ps.kwonlyargs.isEmpty&&ps.vararg.isNone&&ps.kwarg.isNone&&ps.defaults.isEmpty&&ps.kw_defaults.isEmpty)&&(ps.args.map (·.arg) == [x] &&
 sc.kind == .function&&!sc.isCoroutine&&!sc.isGenerator&&sc.names.lookup x == ac .local) &&
 (sc.names.all (λp=>p.2 != .cell&&(p.2 != .free||k p.1 == ac .cell||k p.1 == ac .free))&&kH k&&!kH (λy=>sc.names.lookup y)&&sc.names.lookup p == ac .free)
noncomputable def ME.isNone(e:ME):v7:=decide (e.ctorIdx=5)
@[elab_as_elim] theorem isNone_inv{e:ME}{C:ME->Prop}(h:e.isNone=vT)(k:C .none):C e:=ME.none.elim (motive_1:=C) e (xu h) k
noncomputable def mG(e:wi):v7:=!decide (e.ctorIdx=26)
theorem bb{c:Prop}[Decidable c]{f:c->v7}(h:yW c f (λZ=>vP)=vT):∃ a,f a=vT:=by
 by_cases a:c
 ·rw[dif_pos a] at h;exact⟨a,h⟩
 ·rw[dif_neg a] at h;cases h
noncomputable def c1{α:Type}(l:vR α)(f:α->v7):v7:=match l with | [x]=>f x | _=>vP
@[elab_as_elim] theorem cC{α:Type}{l:vR α}{f:α->v7}{C:vR α->Prop}(h:c1 l f=vT)(k:∀ x,f x=vT->C [x]):C l:=by
 cases l with
 | nil=>cases h
 | cons x l=>cases l with
  | nil=>exact k x h
  | cons=>cases h
noncomputable def c2{α:Type}(l:vR α)(f:α->α->v7):v7:=match l with | x::l=>c1 l (f x) | _=>vP
section
variable {α:Type}{C:Prop}
@[elab_as_elim] theorem r6{l:vR α}{f:α->α->v7}{C:vR α->Prop}(h:c2 l f=vT)(k:∀ x y,f x y=vT->C [x,y]):C l:=by
 cases l with
 | nil=>cases h
 | cons x l=>exact cC (C:=λl=>C (x::l)) h (k x)
@[elab_as_elim] theorem fX{l:vY α}{f:α->v7}{C:vY α->Prop}(h:k8 l f=vT)(k:∀ x,f x=vT->C (ac x)):C l:=by
 cases l with
 | none=>cases h
 | some x=>exact k x h
theorem bQ{a b:v7}(h:(a&&b)=vT)(k:a=vT->b=vT->C):C:=k (wm.mp h).1 (wm.mp h).2
theorem fL{a b c:v7}(h:(a&&b&&c)=vT)(k:a=vT->b=vT->c=vT->C):C:=bQ h λh f=>bQ h λi j=>k i j f
theorem nH{a b c d:v7}(h:(a&&b&&c&&d)=vT)(k:a=vT->b=vT->c=vT->d=vT->C):C:=bQ h λh f=>fL h λi j m=>k i j m f
theorem nG{a b c d e:v7}(h:(a&&b&&c&&d&&e)=vT)(k:a=vT->b=vT->c=vT->d=vT->e=vT->C):C:=bQ h λh f=>nH h λi j m n=>k i j m n f
theorem and6{a b c d e f:v7}(h:(a&&b&&c&&d&&e&&f)=vT)(k:a=vT->b=vT->c=vT->d=vT->e=vT->f=vT->C):C:=bQ h λh i=>nG h λj m n o q=>k j m n o q i
@[elab_as_elim] theorem eqb[BEq α][LawfulBEq α]{a b:α}{C:α->Prop}(h:(a == b)=vT)(k:C b):C a:=(eq_of_beq h).symm▸k
@[elab_as_elim] theorem eqb'[BEq α][LawfulBEq α]{a b:α}{C:α->Prop}(h:(a == b)=vT)(k:C a):C b:=eq_of_beq h▸k
@[elab_as_elim] theorem gT{l:vR α}{C:vR α->Prop}(h:l.isEmpty=vT)(k:C []):C l:=(xf.mp h).symm▸k
theorem be{k:KD}{x:Str}(h:bC k x=vT):k x=ac .globalImplicit/\x≠vQ "__debug__":=bQ h λh1 a=>⟨eq_of_beq h1,by simpa using a⟩
end
noncomputable def cG(e:wi)(f:Str->Pos->v7):v7:=yW (e.ctorIdx=23) (λh=>Expr.Name.elim (motive_1:=λZ=>v7) e h f) (λZ=>vP)
@[elab_as_elim] theorem bw{e:wi}{f:Str->Pos->v7}{C:wi->Prop}(h:cG e f=vT)(k:∀ a b,f a b=vT->C (.Name a b)):C e:=
 (bb h).elim λc h=>Expr.Name.elim (motive_1:=λe=>∀ c,Expr.Name.elim (motive_1:=λZ=>v7) e c f=vT->C e) e c (λa b Z h=>k a b h) c h
noncomputable def jx(e:wi)(f:Const->Nat->Pos->v7):v7:=yW (e.ctorIdx=19) (λh=>Expr.Constant.elim (motive_1:=λZ=>v7) e h f) (λZ=>vP)
@[elab_as_elim] theorem nD{e:wi}{f:Const->Nat->Pos->v7}{C:wi->Prop}(h:jx e f=vT)(k:∀ a b v2,f a b v2=vT->C (.Constant a b v2)):C e:=
 (bb h).elim λc h=>Expr.Constant.elim (motive_1:=λe=>∀ c,Expr.Constant.elim (motive_1:=λZ=>v7) e c f=vT->C e) e c (λa b v2 Z h=>k a b v2 h) c h
noncomputable def cBin(e:wi)(f:wi->xw->wi->Pos->v7):v7:=yW (e.ctorIdx=2) (λh=>Expr.BinOp.elim (motive_1:=λZ=>v7) e h f) (λZ=>vP)
@[elab_as_elim] theorem cBin_inv{e:wi}{f:wi->xw->wi->Pos->v7}{C:wi->Prop}(h:cBin e f=vT)(k:∀ a b v2 c,f a b v2 c=vT->C (.BinOp a b v2 c)):C e:=
 (bb h).elim λi h=>Expr.BinOp.elim (motive_1:=λe=>∀ i,Expr.BinOp.elim (motive_1:=λZ=>v7) e i f=vT->C e) e i (λa b v2 c Z h=>k a b v2 c h) i h
noncomputable def cBool(e:wi)(f:y2->vR wi->Pos->v7):v7:=yW (e.ctorIdx=0) (λh=>Expr.BoolOp.elim (motive_1:=λZ=>v7) e h f) (λZ=>vP)
@[elab_as_elim] theorem cBool_inv{e:wi}{f:y2->vR wi->Pos->v7}{C:wi->Prop}(h:cBool e f=vT)(k:∀ a b v2,f a b v2=vT->C (.BoolOp a b v2)):C e:=
 (bb h).elim λc h=>Expr.BoolOp.elim (motive_1:=λe=>∀ c,Expr.BoolOp.elim (motive_1:=λZ=>v7) e c f=vT->C e) e c (λa b v2 Z h=>k a b v2 h) c h
noncomputable def cUn(e:wi)(f:UnaryOp->wi->Pos->v7):v7:=yW (e.ctorIdx=3) (λh=>Expr.UnaryOp.elim (motive_1:=λZ=>v7) e h f) (λZ=>vP)
@[elab_as_elim] theorem cUn_inv{e:wi}{f:UnaryOp->wi->Pos->v7}{C:wi->Prop}(h:cUn e f=vT)(k:∀ a b v2,f a b v2=vT->C (.UnaryOp a b v2)):C e:=
 (bb h).elim λc h=>Expr.UnaryOp.elim (motive_1:=λe=>∀ c,Expr.UnaryOp.elim (motive_1:=λZ=>v7) e c f=vT->C e) e c (λa b v2 Z h=>k a b v2 h) c h
noncomputable def cTup(e:wi)(f:vR wi->Nat->Pos->v7):v7:=yW (e.ctorIdx=25) (λh=>Expr.Tuple.elim (motive_1:=λZ=>v7) e h f) (λZ=>vP)
@[elab_as_elim] theorem cTup_inv{e:wi}{f:vR wi->Nat->Pos->v7}{C:wi->Prop}(h:cTup e f=vT)(k:∀ a b v2,f a b v2=vT->C (.Tuple a b v2)):C e:=
 (bb h).elim λc h=>Expr.Tuple.elim (motive_1:=λe=>∀ c,Expr.Tuple.elim (motive_1:=λZ=>v7) e c f=vT->C e) e c (λa b v2 Z h=>k a b v2 h) c h
noncomputable def cLst(e:wi)(f:vR wi->Pos->v7):v7:=yW (e.ctorIdx=24) (λh=>Expr.List.elim (motive_1:=λZ=>v7) e h f) (λZ=>vP)
@[elab_as_elim] theorem cLst_inv{e:wi}{f:vR wi->Pos->v7}{C:wi->Prop}(h:cLst e f=vT)(k:∀ a b,f a b=vT->C (.List a b)):C e:=
 (bb h).elim λc h=>Expr.List.elim (motive_1:=λe=>∀ c,Expr.List.elim (motive_1:=λZ=>v7) e c f=vT->C e) e c (λa b Z h=>k a b h) c h
noncomputable def ua(e:wi)(f:wi->wi->Pos->v7):v7:=yW (e.ctorIdx=21) (λh=>Expr.Subscript.elim (motive_1:=λZ=>v7) e h f) (λZ=>vP)
@[elab_as_elim] theorem kc{e:wi}{f:wi->wi->Pos->v7}{C:wi->Prop}(h:ua e f=vT)(k:∀ a b v2,f a b v2=vT->C (.Subscript a b v2)):C e:=
 (bb h).elim λc h=>Expr.Subscript.elim (motive_1:=λe=>∀ c,Expr.Subscript.elim (motive_1:=λZ=>v7) e c f=vT->C e) e c (λa b v2 Z h=>k a b v2 h) c h
noncomputable def vg(e:wi)(f:vY wi->vY wi->vY wi->Pos->v7):v7:=yW (e.ctorIdx=26) (λh=>Expr.Slice.elim (motive_1:=λZ=>v7) e h f) (λZ=>vP)
@[elab_as_elim] theorem cSlice_inv{e:wi}{f:vY wi->vY wi->vY wi->Pos->v7}{C:wi->Prop}(h:vg e f=vT)(k:∀ a b v2 c,f a b v2 c=vT->C (.Slice a b v2 c)):C e:=
 (bb h).elim λi h=>Expr.Slice.elim (motive_1:=λe=>∀ i,Expr.Slice.elim (motive_1:=λZ=>v7) e i f=vT->C e) e i (λa b v2 c Z h=>k a b v2 c h) i h
noncomputable def cCmp(e:wi)(f:wi->vR zn->vR wi->Pos->v7):v7:=yW (e.ctorIdx=15) (λh=>Expr.Compare.elim (motive_1:=λZ=>v7) e h f) (λZ=>vP)
@[elab_as_elim] theorem cCmp_inv{e:wi}{f:wi->vR zn->vR wi->Pos->v7}{C:wi->Prop}(h:cCmp e f=vT)(k:∀ a b v2 c,f a b v2 c=vT->C (.Compare a b v2 c)):C e:=
 (bb h).elim λi h=>Expr.Compare.elim (motive_1:=λe=>∀ i,Expr.Compare.elim (motive_1:=λZ=>v7) e i f=vT->C e) e i (λa b v2 c Z h=>k a b v2 c h) i h
noncomputable def ft(e:wi)(f:wi->vR wi->vR Keyword->Pos->v7):v7:=yW (e.ctorIdx=16) (λh=>Expr.Call.elim (motive_1:=λZ=>v7) e h f) (λZ=>vP)
@[elab_as_elim] theorem dE{e:wi}{f:wi->vR wi->vR Keyword->Pos->v7}{C:wi->Prop}(h:ft e f=vT)(k:∀ a b v2 c,f a b v2 c=vT->C (.Call a b v2 c)):C e:=
 (bb h).elim λi h=>Expr.Call.elim (motive_1:=λe=>∀ i,Expr.Call.elim (motive_1:=λZ=>v7) e i f=vT->C e) e i (λa b v2 c Z h=>k a b v2 c h) i h
noncomputable def cLC(e:wi)(f:wi->vR Comprehension->xZ->Pos->v7):v7:=yW (e.ctorIdx=8) (λh=>Expr.ListComp.elim (motive_1:=λZ=>v7) e h f) (λZ=>vP)
@[elab_as_elim] theorem cLC_inv{e:wi}{f:wi->vR Comprehension->xZ->Pos->v7}{C:wi->Prop}(h:cLC e f=vT)(k:∀ a b v2 c,f a b v2 c=vT->C (.ListComp a b v2 c)):C e:=
 (bb h).elim λi h=>Expr.ListComp.elim (motive_1:=λe=>∀ i,Expr.ListComp.elim (motive_1:=λZ=>v7) e i f=vT->C e) e i (λa b v2 c Z h=>k a b v2 c h) i h
noncomputable def cDict(e:wi)(f:vR (vY wi)->vR wi->Pos->v7):v7:=yW (e.ctorIdx=6) (λh=>Expr.Dict.elim (motive_1:=λZ=>v7) e h f) (λZ=>vP)
@[elab_as_elim] theorem cDict_inv{e:wi}{f:vR (vY wi)->vR wi->Pos->v7}{C:wi->Prop}(h:cDict e f=vT)(k:∀ a b v2,f a b v2=vT->C (.Dict a b v2)):C e:=
 (bb h).elim λc h=>Expr.Dict.elim (motive_1:=λe=>∀ c,Expr.Dict.elim (motive_1:=λZ=>v7) e c f=vT->C e) e c (λa b v2 Z h=>k a b v2 h) c h
noncomputable def vi(e:wi)(f:wi->Str->Pos->v7):v7:=yW (e.ctorIdx=20) (λh=>Expr.Attribute.elim (motive_1:=λZ=>v7) e h f) (λZ=>vP)
@[elab_as_elim] theorem oK{e:wi}{f:wi->Str->Pos->v7}{C:wi->Prop}(h:vi e f=vT)(k:∀ a b v2,f a b v2=vT->C (.Attribute a b v2)):C e:=
 (bb h).elim λc h=>Expr.Attribute.elim (motive_1:=λe=>∀ c,Expr.Attribute.elim (motive_1:=λZ=>v7) e c f=vT->C e) e c (λa b v2 Z h=>k a b v2 h) c h
noncomputable def cLam(e:wi)(f:y3->wi->xZ->Pos->v7):v7:=yW (e.ctorIdx=4) (λh=>Expr.Lambda.elim (motive_1:=λZ=>v7) e h f) (λZ=>vP)
@[elab_as_elim] theorem rg{e:wi}{f:y3->wi->xZ->Pos->v7}{C:wi->Prop}(h:cLam e f=vT)(k:∀ a b v2 c,f a b v2 c=vT->C (.Lambda a b v2 c)):C e:=
 (bb h).elim λi h=>Expr.Lambda.elim (motive_1:=λe=>∀ i,Expr.Lambda.elim (motive_1:=λZ=>v7) e i f=vT->C e) e i (λa b v2 c Z h=>k a b v2 c h) i h
noncomputable def nu(k:KD)(b:wi)(f x p:vV):v7:=ft b λg as ks Z=>ks.isEmpty&&cG g λg Z=>g == vQ f&&bC k g &&
 (match as with | e::a=>(ua e λv s Z=>mG s&&(cG v λy Z=>y == vQ x&&ez k y)&&(cG s λy Z=>y == vQ p&&ez k y))&&a.isEmpty | []=>vP)
noncomputable def chkKw(k:KD)(ks:vR Keyword)(f x p:vV)(rev:v7):v7:=match rev with
 | true=>c2 ks λa k2=>a.arg == ac (vQ "key")&&k2.arg == ac (vQ "reverse")&&(jx k2.value λc Z Z=>c == .bool vT)&&cLam a.value λps b sc Z=>qq k ps sc (vQ x) (vQ p)&&nu (λy=>sc.names.lookup y) b f x p
 | false=>c1 ks λa=>a.arg == ac (vQ "key")&&cLam a.value λps b sc Z=>qq k ps sc (vQ x) (vQ p)&&nu (λy=>sc.names.lookup y) b f x p
mutual
noncomputable def aC(k:KD)(e:wi)(A:ME):v7:=match A with
 | .u x=>cG e λy Z=>y == vQ x&&ez k y
 | .glob x=>cG e λy Z=>y == vQ x&&bC k y
 | .int i=>jx e λc Z Z=>c == .int i
 | .str s=>jx e λc Z Z=>c == .str (vQ s)
 | .bool b=>jx e λc Z Z=>c == .bool b
 | .none=>jx e λc Z Z=>c == .none
 | .bin n a b=>cBin e λl m r Z=>n == m&&aC k l a&&aC k r b
 | .cmp n a b=>cCmp e λl os C Z=>os == [n]&&c1 C λr=>d7 r&&aC k l a&&aC k r b
 | .bop n es=>cBool e λm vs Z=>n == m&&bM k vs es
 | .not a=>cUn e λo x Z=>o == .Not&&aC k x a
 | .neg a=>cUn e λo x Z=>o == .USub&&aC k x a
 | .tup es=>cTup e λvs Z Z=>bM k vs es
 | .lst es=>cLst e λvs Z=>bM k vs es
 | .dct ks vs=>cDict e λq w Z=>q.all Option.isSome&&bM k (q.filterMap id) ks&&bM k w vs
 | .sub a i=>ua e λv s Z=>mG s&&aC k v a&&aC k s i
 | .sl a lo B=>ua e λv s Z=>vg s λl u t Z=>t.isNone&&aC k v a&&(match l with | none=>lo.isNone | some x=>aC k x lo)&&(match u with | none=>B.isNone | some x=>aC k x B)
 | .comp z x BH E=>cLC e λt G h Z=>c1 G λg=>g.is_async == 0&&cG g.target λy Z=>y == vQ x&&d7 g.iter&&gv k h y&&aC k g.iter BH&&aC (dL k h) t z&&bM (dL k h) g.ifs E
 | .call f args=>ft e λg j ks Z=>ks.isEmpty&&cG g λg Z=>g == vQ f&&bC k g&&bM k j args
 | .isi a T=>ft e λg j ks Z=>ks.isEmpty&&c2 j λx t=>cG g λg Z=>cG t λt Z=>g == vQ "isinstance"&&bC k g&&t == vQ T&&bC k t&&aC k x a
 | .blt f args=>ft e λg j ks Z=>ks.isEmpty&&cG g λg Z=>g == vQ f&&bC k g&&bM k j args
 | .sset a=>ft e λg j ks Z=>ks.isEmpty&&cG g λg Z=>g == vQ "sorted"&&bC k g&&c1 j λx=>ft x λg j ks Z=>ks.isEmpty&&cG g λg Z=>g == vQ "set"&&bC k g&&c1 j λx=>aC k x a
 | .lcp a=>ft e λg j ks Z=>ks.isEmpty&&cG g λg Z=>g == vQ "list"&&bC k g&&c1 j λx=>aC k x a
 | .srt a f x p rev=>ft e λg j ks Z=>chkKw k ks f x p rev&&cG g λg Z=>g == vQ "sorted"&&bC k g&&c1 j λx=>aC k x a
termination_by structural A
noncomputable def bM(k:KD)(es:vR wi)(c:vR ME):v7:=match c with
 | []=>es.isEmpty
 | a::r=>(match es with | e::b=>aC k e a&&bM k b r | []=>vP)
termination_by structural c
end
section
variable {k:KD} {e:wi}
inductive pR(k:KD)(x:vV):wi->Prop
 | mk {p} (h:ez k (vQ x)=vT):pR k x (.Name (vQ x) p)
theorem fj{x:vV}(h:aC k e (.u x)=vT):pR k x e:=
 bw h λy p h=>bQ h λh1=>eqb h1 λa=>⟨a⟩
inductive vE(k:KD)(x:vV):wi->Prop
 | mk {p} (h:bC k (vQ x)=vT):vE k x (.Name (vQ x) p)
theorem qH{x:vV}(h:aC k e (.glob x)=vT):vE k x e:=
 bw h λy p h=>bQ h λh1=>eqb h1 λa=>⟨a⟩
inductive fb(c:Const):wi->Prop
 | mk {n p}:fb c (.Constant c n p)
theorem iT{c:Const}(h:(jx e λc' Z Z=>c' == c)=vT):fb c e:=
 nD h λc n p h=>eqb h ⟨⟩
theorem pv{i:Int}(h:aC k e (.int i)=vT):fb (.int i) e:=iT h
theorem s7{i:vV}(h:aC k e (.str i)=vT):fb (.str (vQ i)) e:=iT h
theorem qJ{i:v7}(h:aC k e (.bool i)=vT):fb (.bool i) e:=iT h
theorem qG(h:aC k e .none=vT):fb .none e:=iT h
inductive IBin(k:KD)(op:xw)(a b:ME):wi->Prop
 | mk {l r p} (h1:aC k l a=vT) (h2:aC k r b=vT):IBin k op a b (.BinOp l op r p)
theorem pA{op:xw}{a b:ME}(h:aC k e (.bin op a b)=vT):IBin k op a b e:=
 cBin_inv h λl c r p h=>fL h λh1 f i=>eqb' h1 ⟨f,i⟩
inductive vH(k:KD)(op:zn)(a b:ME):wi->Prop
 | mk {l r p} (hs:d7 r=vT) (h1:aC k l a=vT) (h2:aC k r b=vT):vH k op a b (.Compare l [op] [r] p)
theorem l4{op:zn}{a b:ME}(h:aC k e (.cmp op a b)=vT):vH k op a b e:=
 cCmp_inv h λl os j p h=>bQ h λh1 h=>eqb h1 (cC h λr h=>fL h λc f i=>⟨c,f,i⟩)
inductive vJ(k:KD)(op:y2)(es:vR ME):wi->Prop
 | mk {vs p} (h:bM k vs es=vT):vJ k op es (.BoolOp op vs p)
theorem l5{op:y2}{es:vR ME}(h:aC k e (.bop op es)=vT):vJ k op es e:=
 cBool_inv h λa vs p h=>bQ h λh1 b=>eqb' h1 ⟨b⟩
inductive IUn(k:KD)(o:UnaryOp)(a:ME):wi->Prop
 | mk {x p} (h:aC k x a=vT):IUn k o a (.UnaryOp o x p)
theorem uW{o:UnaryOp}{a:ME}(h:(cUn e λb x Z=>b == o&&aC k x a)=vT):IUn k o a e:=
 cUn_inv h λb x p h=>bQ h λh1 c=>eqb h1 ⟨c⟩
theorem pq{a:ME}(h:aC k e (.not a)=vT):IUn k .Not a e:=uW h
theorem s9{a:ME}(h:aC k e (.neg a)=vT):IUn k .USub a e:=uW h
inductive ITup(k:KD)(es:vR ME):wi->Prop
 | mk {vs n p} (h:bM k vs es=vT):ITup k es (.Tuple vs n p)
theorem s5{es:vR ME}(h:aC k e (.tup es)=vT):ITup k es e:=
 cTup_inv h λZ Z Z h=>⟨h⟩
inductive ILst(k:KD)(es:vR ME):wi->Prop
 | mk {vs p} (h:bM k vs es=vT):ILst k es (.List vs p)
theorem tc{es:vR ME}(h:aC k e (.lst es)=vT):ILst k es e:=
 cLst_inv h λZ Z h=>⟨h⟩
theorem somes:∀ {l:vR (vY wi)},l.all Option.isSome=vT->l=(l.filterMap id).map ac
 | [],_=>rfl
 | none::l,h=>by simp at h
 | some x::l,h=>by simp at h;simp;exact somes (by simpa using h)
inductive IDct(k:KD)(ks vs:vR ME):wi->Prop
 | mk {kes ves p} (h1:bM k kes ks=vT) (h2:bM k ves vs=vT):IDct k ks vs (.Dict (kes.map ac) ves p)
theorem th{ks vs:vR ME}(h:aC k e (.dct ks vs)=vT):IDct k ks vs e:=
 cDict_inv h λa b p h=>fL h λh1 c f=>(somes h1).symm▸⟨c,f⟩
theorem notSlice_inv{s:wi}(h:mG s=vT):∀ a b c p,s=.Slice a b c p->False:=by
 rintro a b c p rfl;cases h
inductive ISub(k:KD)(a i:ME):wi->Prop
 | mk {v s p} (hn:∀ a b c p,s=.Slice a b c p->False) (h1:aC k v a=vT) (h2:aC k s i=vT):ISub k a i (.Subscript v s p)
theorem lZ{a i:ME}(h:aC k e (.sub a i)=vT):ISub k a i e:=
 kc h λZ Z Z h=>fL h λh1 b c=>⟨notSlice_inv h1,b,c⟩
noncomputable def chkO(k:KD)(l:vY wi)(lo:ME):v7:=match l with | none=>lo.isNone | some x=>aC k x lo
inductive ISl(k:KD)(a lo hi:ME):wi->Prop
 | mk {v l u p pos} (h1:aC k v a=vT) (h2:chkO k l lo=vT) (h3:chkO k u hi=vT):ISl k a lo hi (.Subscript v (.Slice l u Option.none p) pos)
theorem uX{a lo b:ME}(h:aC k e (.sl a lo b)=vT):ISl k a lo b e:=
 kc h λv s p h=>cSlice_inv h λl u t p h=>nH h λh1 c f i=>(xX.mp h1).symm▸⟨c,f,i⟩
inductive tZ(k:KD)(elt:ME)(x:vV)(BH:ME)(cs:vR ME):wi->Prop
 | mk {t py it ifs scope lp} (hn:d7 it=vT) (hs:gv k scope (vQ x)=vT) (h1:aC k it BH=vT) (h2:aC (dL k scope) t elt=vT) (h3:bM (dL k scope) ifs cs=vT) :
  tZ k elt x BH cs (.ListComp t [⟨.Name (vQ x) py,it,ifs,0⟩] scope lp)
theorem mU{elt BH:ME}{x:vV}{cs:vR ME}(h:aC k e (.comp elt x BH cs)=vT):tZ k elt x BH cs e:=
 cLC_inv h λt s b p h=>cC h λg=>Comprehension.casesOn g λc u f z h=>bQ h λh1 h=>eqb (a:=z) h1 (bw (e:=c) h λy w h=>and6 h λi=>eqb i λj m n o q=>⟨j,m,n,o,q⟩)
inductive lH(k:KD)(f:vV)(args:vR ME):wi->Prop
 | mk {gp as pos} (hg:bC k (vQ f)=vT) (h:bM k as args=vT):lH k f args (.Call (.Name (vQ f) gp) as [] pos)
theorem fQ{f:vV}{args:vR ME}(h:aC k e (.call f args)=vT):lH k f args e:=
 dE h λg i ks p h=>bQ h λh1 h=>gT h1 (bw h λy j h=>fL h λa=>eqb a λb c=>⟨b,c⟩)
theorem ti{f:vV}{args:vR ME}(h:aC k e (.blt f args)=vT):lH k f args e:=fQ h
inductive iH(k:KD)(f:vV)(P:wi->Prop):wi->Prop
 | mk {gp x pos} (hg:bC k (vQ f)=vT) (h:P x):iH k f P (.Call (.Name (vQ f) gp) [x] [] pos)
theorem kO{f:vV}{g:wi->v7}{P:wi->Prop}(b:∀ x,g x=vT->P x)(h:(ft e λn as ks Z=>ks.isEmpty&&cG n λn Z=>n == vQ f&&bC k n&&c1 as g)=vT):iH k f P e:=
 dE h λn as ks p h=>bQ h λh1 h=>gT h1 (bw h λy j h=>fL h λc=>eqb c λi a=>cC a λx a=>⟨i,b _ a⟩)
theorem te{a:ME}(h:aC k e (.lcp a)=vT):iH k "list" (λx=>aC k x a=vT) e:=kO (λZ h=>h) h
theorem qF{a:ME}(h:aC k e (.sset a)=vT):iH k "sorted" (iH k "set" λx=>aC k x a=vT) e:=kO (λZ h=>kO (λZ h=>h) h) h
theorem q8{k:KD}{b:wi}{f x p:vV}(h:nu k b f x p=vT):aC k b (.call f [.sub (.u x) (.u p)])=vT:=h
inductive IKw(k:KD)(f x p:vV):v7->vR Keyword->Prop
 | up {ps b sc lp kp} (h1:qq k ps sc (vQ x) (vQ p)=vT) (h2:nu (λy=>sc.names.lookup y) b f x p=vT):IKw k f x p vP [⟨ac (vQ "key"),.Lambda ps b sc lp,kp⟩]
 | down {ps b sc lp kp n cp kp2} (h1:qq k ps sc (vQ x) (vQ p)=vT) (h2:nu (λy=>sc.names.lookup y) b f x p=vT):IKw k f x p vT [⟨ac (vQ "key"),.Lambda ps b sc lp,kp⟩,⟨ac (vQ "reverse"),.Constant (.bool vT) n cp,kp2⟩]
theorem inv_kw{ks:vR Keyword}{f x p:vV}{rev:v7}(h:chkKw k ks f x p rev=vT):IKw k f x p rev ks:=by
 cases rev with
 | true=>exact r6 h λj k2=>Keyword.casesOn j λa1 m s=>Keyword.casesOn k2 λa2 t w h=>nH h λh1 u o i=>eqb (a:=a1) h1 (eqb (a:=a2) u (nD (e:=t) o λc n cp o=>eqb (a:=c) o (rg (e:=m) i λps b sc lp i=>bQ i λi q=>.down i q)))
 | false=>exact cC h λj=>Keyword.casesOn j λa1 m s h=>bQ h λh1 h=>eqb (a:=a1) h1 (rg (e:=m) h λps b sc lp i=>bQ i λi q=>.up i q)
inductive ISrt(k:KD)(a:ME)(f x p:vV)(rev:v7):wi->Prop
 | mk {gp y ks pos} (hg:bC k (vQ "sorted")=vT) (h:aC k y a=vT) (hk:IKw k f x p rev ks):ISrt k a f x p rev (.Call (.Name (vQ "sorted") gp) [y] ks pos)
theorem s8{a:ME}{f x p:vV}{rev:v7}(h:aC k e (.srt a f x p rev)=vT):ISrt k a f x p rev e:=
 dE h λg j ks p h=>bQ h λh1 h=>bw (e:=g) h λy m h=>fL h λc=>eqb c λi b=>cC b λx b=>⟨i,b,inv_kw h1⟩
inductive IIsi(k:KD)(a:ME)(T:vV):wi->Prop
 | mk {gp x tp pos} (hg:bC k (vQ "isinstance")=vT) (ht:bC k (vQ T)=vT) (h:aC k x a=vT):IIsi k a T (.Call (.Name (vQ "isinstance") gp) [x,.Name (vQ T) tp] [] pos)
theorem pu{a:ME}{T:vV}(h:aC k e (.isi a T)=vT):IIsi k a T e:=
 dE h λg m ks p h=>bQ h λh1 h=>gT h1 (r6 h λx t h=>bw (e:=g) h λy n h=>bw (e:=t) h λz o h=>nG h λb=>eqb b λc f=>eqb f λi j=>⟨c,i,j⟩)
end
noncomputable def fin(r:vY (Fl×St)):vY (D×v7):=match r with
 | some (.ret fr d,_)=>ac (d,fr)
 | some (.next,_)=>ac (.none,vP)
 | _=>wa
theorem pM{P:vR (vV×Fn)}{X:CF}{f:vV}{a:Fn}(n:Nat)(args:vR D)(h:P.lookup f=ac a)(b:args.length=a.params.length) :
  (ae P X (n+1)).call f args=fin (aY (ae P X n) a.body ((a.params.zip args).map λp=>(p.1,(vP,p.2)))):=by
 simp only[ae,h,b,AN,fin]
 all_goals (split <;> rename_i q <;> simp[q])
theorem dM(P:vR (vV×Fn))(X:CF)(n:Nat)(x:vV):(ae P X n).glob x=X.glob x:=by cases n <;> rfl
noncomputable def jG(r:vY (Fl×St))(k:St->vY (Fl×St)):vY (Fl×St):=match r with
 | some (.next,σ)=>k σ
 | x=>x
theorem mq(σ:St)(k):jG (ac (.next,σ)) k=k σ:=rfl
theorem su(cf:CF)(σ:St):aY cf [] σ=ac (.next,σ):=by simp[sf,mj]
theorem gk(cf:CF)(s:MS)(r:vR MS)(σ:St):aY cf (s::r) σ=jG (exS cf s σ) (aY cf r):=by
 simp only[sf,mj,jG]
 all_goals (split <;> rename_i q <;> simp_all)
theorem x_app(cf:CF)(a b:vR MS)(σ:St):aY cf (a++b) σ=jG (aY cf a σ) (aY cf b):=by
 induction a generalizing σ with
 | nil=>simp[su,jG]
 | cons s a c=>
  rw[Ad,gk,gk];generalize exS cf s σ=z;unfold jG;cases z with
  | none=>rfl
  | some p=>
   obtain⟨f,BJ⟩:=p;cases f <;> simp[c,jG]
theorem t4{cf:CF}{s:MS}{r:vR MS}{σ BJ:St}(h:exS cf s σ=ac (.next,BJ)):aY cf (s::r) σ=aY cf r BJ:=by rw[gk,h];rfl
theorem sv{cf:CF}{s:MS}{r:vR MS}{σ BJ:St}{fr:v7}{d:D}(h:exS cf s σ=ac (.ret fr d,BJ)):aY cf (s::r) σ=ac (.ret fr d,BJ):=by rw[gk,h];rfl
theorem ui{cf:CF}{c:ME}{t f r:vR MS}{σ:St}{d:D}{k:v7}(h:evE cf (vis σ) c=ac d)(a:bg d=ac k):aY cf (.ite c t f::r) σ=if k=vT then aY cf (t++r) σ else aY cf (f++r) σ:=by
 rw[gk,rE,h];dsimp only;rw[a,x_app,x_app];cases k <;> rfl
noncomputable def cP(cf:CF)(body:vR MS)(x:vV):D->St->vY (Fl×St):=λa σ=>aY cf body (ax σ x (vP,a))
noncomputable def loopS(r:vY (Fl×St))(k:St->vY (Fl×St)):vY (Fl×St):=match r with
 | some (.next,σ)=>k σ
 | x=>x
section
variable {cf:CF}{σ:St}{d:D}
theorem bL(cf:CF)(body:vR MS)(x:vV)(a:D)(r:vR D)(σ:St):cq (cP cf body x) (a::r) σ=loopS (aY cf body (ax σ x (vP,a))) (cq (cP cf body x) r):=by
 show (match aY cf body (ax σ x (vP,a)) with
  | some (.next,BJ)=>cq (cP cf body x) r BJ
  | x=>x)=_
 generalize aY cf body (ax σ x (vP,a))=z;unfold loopS
 split <;> rfl
theorem uj{x:vV}{BH:ME}{body:vR MS}{r:vR MS}{BK:vR D}(h:evE cf (vis σ) BH=ac d)(a:d.items=ac BK):aY cf (.for_ x BH body::r) σ=jG (cq (cP cf body x) BK (freeze BH.names σ)) (aY cf r):=by
 rw[gk,sj,h];dsimp only;rw[a];rfl
theorem x_forr(cf:CF)(x:vV)(BH:ME)(body:vR MS)(r:vR MS)(σ:St){ds:vR D}(h:evE cf (vis σ) BH=ac (.tup ds)):aY cf (.forr x BH body::r) σ=jG (cq (cP cf body x) ds.reverse (freeze BH.names σ)) (aY cf r):=by
 rw[gk,si,h];rfl
theorem x_rv{e:ME}{fr:v7}(a:e.varOf=wa)(h:evF cf (vis σ) e=ac (d,fr)):exS cf (.ret e) σ=ac (.ret fr d,σ):=by
 rw[oQ,a];dsimp only;rw[h]
theorem x_rx{z:vV}{fr:v7}(h:σ.lookup z=ac (fr,d)):exS cf (.ret (.u z)) σ=ac (.ret fr d,σ):=by
 rw[oQ];show (match σ.lookup z with | some (fr,d)=>ac (Fl.ret fr d,σ) | none=>wa)=_;rw[h]
theorem vI{ρ:vR (vV×D)}{i:Int}:evE cf ρ (.int i)=ac (.int i):=rfl
theorem vS{ρ:vR (vV×D)}{i:vV}:evE cf ρ (.str i)=ac (.str (vQ i)):=rfl
theorem vB{ρ:vR (vV×D)}{i:v7}:evE cf ρ (.bool i)=ac (.bool i):=rfl
theorem vN{ρ:vR (vV×D)}:bk cf ρ []=ac []:=rfl
theorem dtt{p:Prop}[Decidable p](h:decide p=vT):p:=xu h
end
section
variable (cf:CF) (ρ:vR (vV×D))
theorem vd(x:vV):evE cf ρ (.u x)=ρ.lookup x:=rfl
theorem dy(x:vV):evE cf ρ (.glob x)=cf.glob x:=rfl
theorem gC:evE cf ρ .none=ac .none:=rfl
noncomputable def o2(f:D->D->vY D)(a b:vY D):vY D:=match a with
 | some x=>(match b with | some y=>f x y | none=>wa)
 | none=>wa
theorem e_bin(op:xw)(a b:ME):evE cf ρ (.bin op a b)=o2 (ce op) (evE cf ρ a) (evE cf ρ b):=rfl
theorem e_cmp(op:zn)(a b:ME):evE cf ρ (.cmp op a b)=o2 (b9 op) (evE cf ρ a) (evE cf ρ b):=rfl
theorem e_sub(a b:ME):evE cf ρ (.sub a b)=o2 aD (evE cf ρ a) (evE cf ρ b):=rfl
theorem e_bop(op:y2)(es:vR ME):evE cf ρ (.bop op es)=fq cf ρ op es:=rfl
noncomputable def o1(f:D->vY D)(a:vY D):vY D:=match a with
 | some x=>f x
 | none=>wa
theorem e_not(a:ME):evE cf ρ (.not a)=o1 (λx=>(bg x).map λt=>.bool (!t)) (evE cf ρ a):=rfl
noncomputable def oL(f:vR D->vY D)(a:vY (vR D)):vY D:=match a with
 | some x=>f x
 | none=>wa
theorem e_tup(es:vR ME):evE cf ρ (.tup es)=oL (λds=>if ds.length<=big then ac (.tup ds) else wa) (bk cf ρ es):=rfl
theorem e_lst(es:vR ME):evE cf ρ (.lst es)=oL (λds=>if ds.length<=big then ac (.list ds) else wa) (bk cf ρ es):=rfl
theorem e_blt(f:vV)(es:vR ME):evE cf ρ (.blt f es)=oL (fZ f) (bk cf ρ es):=rfl
theorem r4(f:vV)(es:vR ME):evE cf ρ (.call f es)=oL (λds=>(cf.call f ds).map (·.1)) (bk cf ρ es):=rfl
theorem e_sset(a:ME):evE cf ρ (.sset a)=o1 mu (evE cf ρ a):=rfl
theorem e_lcp(a:ME):evE cf ρ (.lcp a)=o1 (λx=>(rS x).map .list) (evE cf ρ a):=rfl
theorem e_isi(a:ME)(T:vV):evE cf ρ (.isi a T)=o1 (λx=>(mS x T).map .bool) (evE cf ρ a):=rfl
theorem e_sl(a l h:ME):evE cf ρ (.sl a l h)=o1 (λx=>o2 (slD x) (evE cf ρ l) (evE cf ρ h)) (evE cf ρ a):=rfl
noncomputable def j7(elt:ME)(x:vV)(cs:vR ME):D->vY (vY D):=λa=>match lK cf ((x,a)::ρ) cs with
 | some vT=>(match evE cf ((x,a)::ρ) elt with | some y=>ac (ac y) | none=>wa)
 | some vP=>ac wa
 | none=>wa
theorem e_comp(elt:ME)(x:vV)(BH:ME)(cs:vR ME):evE cf ρ (.comp elt x BH cs)=o1 (λd=>(match d.items with
   | some BK=>if BK.length<=big then (bD (j7 cf ρ elt x cs) BK).map .list else wa
   | none=>wa)) (evE cf ρ BH):=rfl
noncomputable def oC(a:vY D)(b:vY (vR D)):vY (vR D):=match a with
 | some d=>(match b with | some ds=>ac (d::ds) | none=>wa)
 | none=>wa
theorem pG(e:ME)(r:vR ME):bk cf ρ (e::r)=oC (evE cf ρ e) (bk cf ρ r):=rfl
noncomputable def oB(s:v7)(r:vY D)(a:vY D):vY D:=match a with
 | some d=>(match bg d with
  | some t=>if t=s then ac d else r
  | none=>wa)
 | none=>wa
theorem sL(s:v7)(r:vY D)(t:v7):oB s r (ac (.bool t))=if t=s then ac (.bool s) else r:=by
 unfold oB bg
 by_cases h:t=s
 ·subst h;rfl
 ·simp[h]
theorem b_and(e a:ME)(r:vR ME):fq cf ρ .And (e::a::r)=oB vP (fq cf ρ .And (a::r)) (evE cf ρ e):=rfl
theorem b_or(e a:ME)(r:vR ME):fq cf ρ .Or (e::a::r)=oB vT (fq cf ρ .Or (a::r)) (evE cf ρ e):=rfl
theorem c_nil:lK cf ρ []=ac vT:=rfl
end
theorem nk(f:D->vY (vY D))(Q:D->D->Prop):∀ (BK:vR D),(∀ it∈BK,∃ d,Q it d/\f it=ac (ac d))->∃ ds,bD f BK=ac ds/\ds.length=BK.length/\∀ d∈ds,∃ it∈BK,Q it d
 | [],_=>⟨[],QQ,QQ,λZ h=>nomatch h⟩
 | it::r,h=>by
  obtain⟨d,q,e⟩:=h it (by simp)
  obtain⟨ds,b,c,j⟩:=nk f Q r λi a=>h i (by simp[a])
  refine⟨d::ds,by simp[bD,e,b],by simp[c],?_⟩
  intro m hd
  rcases wf.mp hd with rfl | hd
  ·exact⟨it,by simp,q⟩
  ·obtain⟨i,a,n⟩:=j m hd
   exact⟨i,by simp[a],n⟩
theorem eS{cf:CF}{ρ:vR (vV×D)}{elt:ME}{x:vV}{a d:D}(h:evE cf ((x,a)::ρ) elt=ac d):j7 cf ρ elt x [] a=ac (ac d):=by
 unfold j7;simp[c_nil,h]
theorem d8(n:Nat):D.items (.rng 0 n)=ac ((wR n).map λ(i:Nat)=>D.int (i:Int)):=by
 simp[D.items]
end Mine
namespace Mine
open PySem PySem.Builtin
theorem noFill_tuple_mul:fillsNumberSlot (.type "tuple") "mul"=pure vP:=
 fillsNumberSlot_seq (id:="tuple.__mul__") (r:=ac (.builtin "tuple.__rmul__")) F.slot_tuple_mul.lookup (by decide +kernel) F.slot_tuple_rmul.lookup (by decide +kernel)
theorem repeat_tuple:seqRepeat? (.type "tuple")=pure (ac (.builtin "tuple.__mul__")):=by
 unfold seqRepeat?;rw[seqSlot_of (T:="tuple") (name:="__mul__") (id:="tuple.__mul__") F.slot_tuple_mul.lookup (by decide +kernel),seqSlot_of (T:="tuple") (name:="__rmul__") (id:="tuple.__rmul__") F.slot_tuple_rmul.lookup (by decide +kernel)]
 rfl
theorem int_rmul_tuple(a:Int)(t:Tok)(l:v8)(items:wA vU)(n:Nat) :
  Meets (xT.«int.__rmul__» ⟨[.int a t,.ref l],[]⟩) (λZ R s=>s.heap.get? l=ac { cls:=.type "tuple",dict:=wa,data:=.seq items n,slots:=#[] }/\R (.ok (.ret Value.notImplemented)) s):=
 .of_wp λB9 w A R s h=>by obtain⟨b,g,d,tk,os⟩:=s;obtain⟨c,h⟩:=h;wp_walk;exact⟨_,QQ,h⟩
theorem tup_mul1(l:v8)(v:vU)(n:Nat)(u:Tok) :
  Meets (xT.«tuple.__mul__» ⟨[.ref l,.int 1 u],[]⟩) (λZ R s=>s.heap.get? l=ac { cls:=.type "tuple",dict:=wa,data:=.seq #[v] n,slots:=#[] }/\R (.ok (.ret (.ref l))) s):=
 .of_wp λB9 w A R s h=>by obtain⟨b,g,d,tk,os⟩:=s;obtain⟨a,h⟩:=h;have c:=AutoSeq1.idx_int;have f:=AutoSeq1.sub_tuple_tuple;wp_walk using wpAny_loadPart' a;exact⟨_,QQ,h⟩
theorem tup_mul0(l:v8)(v:vU)(n:Nat)(u:Tok) :
  Meets (xT.«tuple.__mul__» ⟨[.ref l,.int 0 u],[]⟩) (λZ R s=>s.heap.get? l=ac { cls:=.type "tuple",dict:=wa,data:=.seq #[v] n,slots:=#[] }/\R (.ok (.ret (.ref s.heap.objs.size))) { s with heap:=s.heap.push { cls:=.type "tuple",data:=.seq #[] } }):=
 .of_wp λB9 w A R s h=>by obtain⟨b,g,d,tk,os⟩:=s;obtain⟨a,h⟩:=h;have c:=AutoSeq1.idx_int;have f:=AutoSeq1.sub_tuple_tuple;wp_walk using wpAny_loadPart' a;exact⟨_,QQ,h⟩
theorem qP(v:vU)(k:Nat)(a:wA vU):(wV k #[v]).foldl (·++·) a=a++(wV k v).toArray:=by
 induction k generalizing a with
 | zero=>simp
 | succ k b=>rw[AI,List.foldl_cons,b,AI];apply Bn.mp;simp
theorem fold_rep0(v:vU)(k:Nat):(wV k #[v]).foldl (·++·) #[]=(wV k v).toArray:=(qP v k #[]).trans (Array.empty_append ..)
theorem tup_mul2(l:v8)(v:vU)(n:Nat)(x:Int)(u:Tok)(f:2<=x)(h1:x<=5000) :
  Meets (xT.«tuple.__mul__» ⟨[.ref l,.int x u],[]⟩) (λZ R s=>s.heap.get? l=ac { cls:=.type "tuple",dict:=wa,data:=.seq #[v] n,slots:=#[] }/\R (.ok (.ret (.ref s.heap.objs.size))) { s with heap:=s.heap.push { cls:=.type "tuple",data:=.seq ((wV x.toNat #[v]).foldl (·++·) #[]) } }):=
 .of_wp λB9 w A R s h=>by
  obtain⟨i,g,d,tk,os⟩:=s;obtain⟨a,h⟩:=h;have j:=AutoSeq1.idx_int;have m:=AutoSeq1.sub_tuple_tuple;have e1:(((#[v]:wA vU).size:Nat):Int) * x=x:=Int.one_mul x;have b:(decide (x<(-2 ^ 63))||decide (x ≥ 2 ^ 63))=vP:=by simp;omega
  have c1:((#[v]:wA vU).isEmpty||x == 1)=vP:=by simp;omega
  have c2:(decide (x<=0)||(#[v]:wA vU).isEmpty)=vP:=by simp;omega
  have c3:¬ ((((#[v]:wA vU).size:Nat):Int) * x > (2 ^ 63 - 1) / 8):=by rw[e1];omega
  have c:Tuple.tupleTooMany ((((#[v]:wA vU).size:Nat):Int) * x)=vP:=by rw[e1];exact xg (by have:Ae=2 ^ 24:=rfl;omega)
  have o:((wV x.toNat #[v]).foldl (·++·) #[]).size<=Ae:=by rw[qP];simp[Ae];omega
  wp_walk;refine zw (xg (by rw[b];nofun)) ?_;wp_walk using wpAny_loadPart' a;refine zw (xg (by rw[c1];nofun)) ?_;wp_walk;refine zw (xg (by rw[c2];nofun)) ?_;wp_walk;refine zw (xg c3) ?_;wp_walk;refine zw (xg (by rw[c];nofun)) ?_;wp_walk;exact⟨_,QQ,h⟩
end Mine
namespace Mine
open PySem
noncomputable def Ex(h:Heap)(H:v8->Prop):Prop:=∀ a,H a->∃ b o,@LE.le Nat _ a b/\gat h b=ac o
theorem Ex.fresh{h:Heap}{H:v8->Prop}(x:Ex h H):¬ H h.objs.size:=λe=>by
 obtain⟨b,o,a,c⟩:=x _ e;exact xl _ (wg a (Heap.gt_lt c))
theorem Ex.keeps{h h':Heap}{H:v8->Prop}(x:Ex h H)(c:KH h h'):Ex h' H:=λa e=>by
 obtain⟨b,o,f,i⟩:=x _ e;exact⟨b,o,f,c _ _ i⟩
inductive bj(s:vZ):vZ->Prop
 | mk (h tk dr) (k:KH s.heap h):bj s { s with heap:=h,toks:=tk,drawn:=dr }
theorem Kp.refl(s:vZ):bj s s:=.mk s.heap s.toks s.drawn λZ Z e=>e
theorem Kp.tok(s:vZ)(t:Nat):bj s { s with toks:=t }:=.mk s.heap t s.drawn λZ Z e=>e
theorem Kp.push(s:vZ)(o:Obj):bj s { s with heap:=s.heap.push o }:=.mk _ s.toks s.drawn λZ Z e=>Heap.gt_push_of_some _ e
theorem Kp.trans{s s' c:vZ}(a:bj s s')(b:bj s' c):bj s c:=bj.rec (motive:=λs' Z=>∀ c,bj s' c->bj s c) (λZ Z Z k Z b=>b.rec λh t d f=>.mk h t d λx o e=>f x o (k x o e)) a c b
theorem Kp.heap{s s':vZ}(a:bj s s'):KH s.heap s'.heap:=a.rec λZ Z Z k=>k
inductive bc(w:wy)(s:vZ)(H:v8->Prop)(d:D)(v:vU)(s':vZ):Prop
 | mk (k:bj s s') (r:Rep w.params s'.heap H v d)
theorem bc.k{w:wy}{s:vZ}{H:v8->Prop}{d:D}{v:vU}{s':vZ}(q:bc w s H d v s'):bj s s':=q.rec λk Z=>k
theorem bc.r{w:wy}{s:vZ}{H:v8->Prop}{d:D}{v:vU}{s':vZ}(q:bc w s H d v s'):Rep w.params s'.heap H v d:=q.rec λZ r=>r
theorem bc.tr{w:wy}{s BU B2:vZ}{H:v8->Prop}{d:D}{v:vU}(k:bj s BU)(q:bc w BU H d v B2):bc w s H d v B2:=⟨Kp.trans k q.k,q.r⟩
inductive dS(s:vZ)(t b:v7)(s':vZ):Prop
 | mk (k:bj s s') (e:b=t)
theorem dS.k{s:vZ}{t b:v7}{s':vZ}(q:dS s t b s'):bj s s':=q.rec λk Z=>k
theorem dS.e{s:vZ}{t b:v7}{s':vZ}(q:dS s t b s'):b=t:=q.rec λZ e=>e
theorem dS.tr{s BU:vZ}{t b:v7}{s':vZ}(k:bj s BU)(q:dS BU t b s'):dS s t b s':=⟨Kp.trans k q.k,q.e⟩
inductive gI(P:wT)(h:Heap)(H:v8->Prop)(a:v8)(ds:vR D):Prop
 | mk {vs n} (ho:h.get? a=ac (fF vs n)) (hl:ds.length<=big) (hr:am P h (λb=>H b\/b=a) vs.toList ds)
inductive lN(P:wT)(h:Heap)(H:v8->Prop)(a:v8)(ks vs:vR D):Prop
 | mk {es n} (ho:h.get? a=ac (lL es n)) (hl:ks.length<=big) (h1:am P h (λb=>H b\/b=a) (es.toList.map (·.key)) ks) (h2:am P h (λb=>H b\/b=a) (es.toList.map (·.val)) vs) (hh:es.toList.map (·.hash)=ks.map (fR P)) (hk:ks.all D.isKey=vT) (hd:ks.Nodup) (hs:(a == zJ)=vP)
noncomputable def cM(P:wT)(h:Heap)(H:v8->Prop)(a:v8)(d:D):Prop:=match d with
 | .list ds=>gI P h H a ds
 | .dict ks vs=>lN P h H a ks vs
 | _=>False
section
variable {P:wT} {h h':Heap} {H H':v8->Prop} {a:v8} {d:D} {ds ks vs:vR D}
@[elab_as_elim] theorem cM.cases{C:D->Prop}(o:cM P h H a d)(b:∀ ds,gI P h H a ds->C (.list ds))(c:∀ ks vs,lN P h H a ks vs->C (.dict ks vs)):C d:=
 D.casesOn (motive_1:=λd=>cM P h H a d->C d) d (λo=>o.elim) (λZ o=>o.elim) (λZ o=>o.elim) (λZ o=>o.elim) (λZ o=>o.elim) b c (λZ Z o=>o.elim)
  (λZ o=>o.elim)
  o
theorem gI.rep(o:gI P h H a ds)(b:¬ H a):Rep P h H (.ref a) (.list ds):=o.rec λc f i=>.mk c b f (i.mono (λZ Z Z e=>e) λZ Z Z q=>.inl q)
theorem lN.rep(o:lN P h H a ks vs)(b:¬ H a):Rep P h H (.ref a) (.dict ks vs):=o.rec λc f h1 i j m n s=>.mk c b f (h1.mono (λZ Z Z e=>e) λZ Z Z q=>.inl q) (i.mono (λZ Z Z e=>e) λZ Z Z q=>.inl q) j m n s
theorem cM.rep(o:cM P h H a d)(b:¬ H a):Rep P h H (.ref a) d:=o.cases (λZ o=>o.rep b) λZ Z o=>o.rep b
theorem cM.off{h':Heap}{H':v8->Prop}(o:cM P h H a d):Rep P h' H' (.ref a) d->¬ H' a:=o.cases (C:=λd=>Rep P h' H' (.ref a) d->¬ H' a) (λZ Z r=>km.off (mkO:=fF) r QQ) λZ Z Z r=>nU.rec (motive:=λv Z=>v=.ref a->¬ H' a) (λZ b Z Z Z Z Z Z Z e=>sH b e) r QQ
theorem cM.obj(o:cM P h H a d):∃ o,h.get? a=ac o/\bn o=vP:=o.cases (C:=λZ=>∃ o,h.get? a=ac o/\bn o=vP) (λZ o=>o.rec λb Z Z=>⟨_,b,QQ⟩) λZ Z o=>o.rec λb Z Z Z Z Z Z Z=>⟨_,b,QQ⟩
theorem cM.ex(o:cM P h H a d):∃ o,gat h a=ac o:=o.obj.elim λo q=>⟨o,Heap.gt_of q.1 q.2⟩
theorem cM.notTab(o:cM P h H a d):∀ o,h.get? a=ac o->bn o=vP:=o.obj.elim λZ q=>bI q.1 q.2
theorem cM.scalar(o:cM P h H a d):d.scalar=vP:=o.cases (λZ Z=>QQ) λZ Z Z=>QQ
noncomputable abbrev tX(h:Heap)(H H':v8->Prop)(a:v8):Prop:=∀ b o,gat h b=ac o->H' b->H b\/b=a
theorem o0(c:lP h H h')(f:tX h H H' a){l:vR vU}(r:am P h (λb=>H b\/b=a) l ds):am P h' (λb=>H' b\/b=a) l ds:=r.mono (λb o i e=>c b o (λq=>i (.inl q)) e) λb o e q=>q.elim (f b o e) .inr
theorem gI.mono(o:gI P h H a ds)(b:∀ o,gat h a=ac o->gat h' a=ac o)(c:lP h H h')(f:tX h H H' a):gI P h' H' a ds:=o.rec λi j m=>⟨Heap.of_gt (b _ (Heap.gt_of i)),j,o0 c f m⟩
theorem lN.mono(o:lN P h H a ks vs)(f:∀ o,gat h a=ac o->gat h' a=ac o)(b:lP h H h')(c:tX h H H' a):lN P h' H' a ks vs:=o.rec λi j h1 m n q s t=>⟨Heap.of_gt (f _ (Heap.gt_of i)),j,o0 b c h1,o0 b c m,n,q,s,t⟩
theorem cM.mono(o:cM P h H a d)(b:∀ o,gat h a=ac o->gat h' a=ac o)(c:lP h H h')(f:tX h H H' a):cM P h' H' a d:=o.cases (λZ o=>o.mono b c f) λZ Z o=>o.mono b c f
theorem cM.sub(o:cM P h H a d)(c:∀ b,H' b->H b):cM P h H' a d:=o.mono (λZ e=>e) (λZ Z Z e=>e) λb Z Z q=>.inl (c b q)
end
theorem bv{α:Type}{o:vY α}{x:α}{C:Prop}(h:o=ac x)(h':o=wa):C:=by cases h.symm.trans h'
theorem sM{h h':Heap}{a:v8}(c:∀ o,gat h a=ac o->∃ b,gat h' a=ac b)(e:gat h' a=wa):gat h a=wa:=by
 cases q:gat h a with
 | none=>rfl
 | some o=>exact (c o q).elim λb f=>bv f e
theorem jN{h h':Heap}{a:v8}(b:KH h h')(e:gat h' a=wa):gat h a=wa:=sM (λo q=>⟨o,b a o q⟩) e
inductive Fr(P:wT)(h0 h:Heap)(H:v8->Prop)(d:D):vU->Prop
 | mk {a} (e:gat h0 a=wa) (o:cM P h H a d):Fr P h0 h H d (.ref a)
theorem Fr.old{P:wT}{b a h:Heap}{H:v8->Prop}{d:D}{v:vU}(f:Fr P b h H d v)(c:KH a b):Fr P a h H d v:=f.rec λe o=>⟨jN c e,o⟩
theorem Fr.sub{P:wT}{a h:Heap}{H H':v8->Prop}{d:D}{v:vU}(f:Fr P a h H d v)(c:∀ b,H' b->H b):Fr P a h H' d v:=f.rec λe o=>⟨e,o.sub c⟩
inductive bV(w:wy)(s:vZ)(H:v8->Prop)(d:D)(fr:v7)(v:vU)(s':vZ):Prop
 | mk (k:bj s s') (r:Rep w.params s'.heap H v d) (f:fr=vT->Fr w.params s.heap s'.heap H d v)
section
variable {α:Type}{C c:Prop}{d:D}
theorem bV.post{w:wy}{s s':vZ}{H:v8->Prop}{fr:v7}{v:vU}(q:bV w s H d fr v s'):bc w s H d v s':=q.rec λk r Z=>⟨k,r⟩
theorem bV.tr{w:wy}{s BU B2:vZ}{H:v8->Prop}{fr:v7}{v:vU}(k:bj s BU)(q:bV w BU H d fr v B2):bV w s H d fr v B2:=q.rec λa r f=>⟨Kp.trans k a,r,λe=>(f e).old (Kp.heap k)⟩
theorem bc.pf{w:wy}{s B2:vZ}{H:v8->Prop}{fr:v7}{v:vU}(q:bc w s H d v B2)(h:fr=vP):bV w s H d fr v B2:=⟨q.k,q.r,λe=>nomatch h.symm.trans e⟩
theorem b0(h:Heap):gat h h.objs.size=wa:=Heap.gt_none_of_le (wF _)
theorem not_size{h:Heap}{a:v8}{o:Obj}(e:gat h a=ac o)(q:a=h.objs.size):C:=bv e (q▸b0 h)
theorem iO{w:wy}{s:vZ}{H:v8->Prop}{vs:wA vU}{ds:vR D}{h':Heap}{n tk:Nat}{b:zK}(f:Ex s.heap H)(h:ds.length<=big)(i:am w.params s.heap H vs.toList ds)(c:KH s.heap h')
  (j:h'.get? s.heap.objs.size=ac (fF vs n)):bV w s H (.list ds) vT (.ref s.heap.objs.size) { s with heap:=h',toks:=tk,drawn:=b }:=
 have B7:gI w.params h' H s.heap.objs.size ds:=⟨j,h,i.mono (λa o Z e=>c a o e) λa o e q=>q.elim id (not_size e)⟩
 ⟨.mk h' tk b c,B7.rep f.fresh,λZ=>⟨b0 _,B7⟩⟩
theorem ag{x:α}(h:none=ac x):C:=by cases h
theorem aS[Decidable c]{x d:α}(h:(if c then ac x else wa)=ac d)(k:c->x=d->C):C:=by
 by_cases a:c
 ·rw[wh a] at h;exact k a (v5 h)
 ·rw[wo a] at h;exact ag h
theorem bK[Decidable c]{x:vY α}{d:α}(h:(if c then x else wa)=ac d)(k:c->x=ac d->C):C:=by
 by_cases a:c
 ·rw[wh a] at h;exact k a h
 ·rw[wo a] at h;exact ag h
theorem cz[Decidable c]{x y:vY α}{d:α}(h:(if c then x else y)=ac d)(k:c->x=ac d->C)(b:¬ c->y=ac d->C):C:=by
 by_cases a:c
 ·rw[wh a] at h;exact k a h
 ·rw[wo a] at h;exact b a h
theorem fD{c:Type}{o:vY α}{f:α->vY c}{b:c}(h:o.bind f=ac b)(k:∀ a,o=ac a->f a=ac b->C):C:=by
 cases o with
 | none=>exact ag h
 | some a=>exact k a QQ h
theorem br{c:Type}{o:vY α}{f:α->c}{b:c}(h:o.map f=ac b)(k:∀ a,o=ac a->f a=b->C):C:=by
 cases o with
 | none=>exact ag h
 | some a=>exact k a QQ (v5 h)
end
section
variable {α:Type} {r:α} {d:D} {C:D->Prop}
@[elab_as_elim] theorem cI{f:Int->vY α}(h:onI d f=ac r)(k:∀ i,f i=ac r->C (.int i)):C d:=
 D.casesOn (motive_1:=λd=>onI d f=ac r->C d) d (λh=>ag h) (λZ h=>ag h) k (λZ h=>ag h) (λZ h=>ag h) (λZ h=>ag h) (λZ Z h=>ag h) (λZ Z h=>ag h)
  (λZ h=>ag h)
  h
@[elab_as_elim] theorem pe{f:Str->vY α}(h:onS d f=ac r)(k:∀ i,f i=ac r->C (.str i)):C d:=
 D.casesOn (motive_1:=λd=>onS d f=ac r->C d) d (λh=>ag h) (λZ h=>ag h) (λZ h=>ag h) k (λZ h=>ag h) (λZ h=>ag h) (λZ Z h=>ag h) (λZ Z h=>ag h)
  (λZ h=>ag h)
  h
@[elab_as_elim] theorem onB_inv{f:v7->vY α}(h:onB d f=ac r)(k:∀ i,f i=ac r->C (.bool i)):C d:=
 D.casesOn (motive_1:=λd=>onB d f=ac r->C d) d (λh=>ag h) k (λZ h=>ag h) (λZ h=>ag h) (λZ h=>ag h) (λZ h=>ag h) (λZ Z h=>ag h) (λZ Z h=>ag h)
  (λZ h=>ag h)
  h
@[elab_as_elim] theorem pd{f:vR D->vY α}(h:onT d f=ac r)(k:∀ i,f i=ac r->C (.tup i)):C d:=
 D.casesOn (motive_1:=λd=>onT d f=ac r->C d) d (λh=>ag h) (λZ h=>ag h) (λZ h=>ag h) (λZ h=>ag h) k (λZ h=>ag h) (λZ Z h=>ag h) (λZ Z h=>ag h)
  (λZ h=>ag h)
  h
@[elab_as_elim] theorem sJ{f:vR D->vY α}(h:onL d f=ac r)(k:∀ i,f i=ac r->C (.list i)):C d:=
 D.casesOn (motive_1:=λd=>onL d f=ac r->C d) d (λh=>ag h) (λZ h=>ag h) (λZ h=>ag h) (λZ h=>ag h) (λZ h=>ag h) k (λZ Z h=>ag h) (λZ Z h=>ag h)
  (λZ h=>ag h)
  h
@[elab_as_elim] theorem sK{f:Int->vY α}{g:Str->vY α}(h:onC d f g=ac r)(k:∀ i,f i=ac r->C (.int i))(a:∀ x,g x=ac r->C (.str x)):C d:=
 D.casesOn (motive_1:=λd=>onC d f g=ac r->C d) d (λh=>ag h) (λZ h=>ag h) k a (λZ h=>ag h) (λZ h=>ag h) (λZ Z h=>ag h) (λZ Z h=>ag h)
  (λZ h=>ag h)
  h
end
section
variable {P:wT} {h:Heap} {H:v8->Prop} {v:vU} {C:vU->Prop}
@[elab_as_elim] theorem Rep.intE{i:Int}(r:Rep P h H v (.int i))(k:∀ t,C (.int i t)):C v:=ld.rec (motive:=λv Z=>C v) k r
@[elab_as_elim] theorem Rep.strE{x:Str}(r:Rep P h H v (.str x))(k:∀ t,C (.str x t)):C v:=vt.rec (motive:=λv Z=>C v) k r
@[elab_as_elim] theorem Rep.boolE{b:v7}(r:Rep P h H v (.bool b))(k:C (.bool b)):C v:=(show v=.bool b from r)▸k
@[elab_as_elim] theorem Rep.noneE(r:Rep P h H v .none)(k:C .none):C v:=(show v=.none from r)▸k
@[elab_as_elim] theorem Rep.tupE{ds:vR D}(r:Rep P h H v (.tup ds))(k:∀ a vs n,h.get? a=ac (dm vs n)->¬ H a->ds.length<=big->am P h H vs.toList ds->C (.ref a)):C v:=km.rec (motive:=λv Z=>C v) (λb c f i=>k _ _ _ b c f i) r
@[elab_as_elim] theorem Rep.listE{ds:vR D}(r:Rep P h H v (.list ds))(k:∀ a vs n,h.get? a=ac (fF vs n)->¬ H a->ds.length<=big->am P h H vs.toList ds->C (.ref a)):C v:=km.rec (motive:=λv Z=>C v) (λb c f i=>k _ _ _ b c f i) r
end
section
variable {B9:wq} {w:wy} {A:wt} {E:vU->vZ->Prop} {s:vZ} {H:v8->Prop}
section
variable {d b:D}{k:Nat}{a i:Int}{t:Tok}{h:Heap}
theorem tQ(h:a.natAbs<2 ^ k):Builtin.Int.intBits a<=k:=by
 unfold Builtin.Int.intBits
 split
 ·exact ww _
 ·rename_i b
  exact (Nat.log2_lt λe=>b (by simp;omega)).mpr h
theorem pP{n:Int}{m:Nat}(e:(m:Int)=n)(h:-n<a/\a<n):a.natAbs<m:=by subst e;omega
theorem tR(h:-lim<a/\a<lim):Builtin.Int.intBits a<=64:=tQ (pP (Ay 2 64) h)
theorem bits_le1000(h:-eG<a/\a<eG):Builtin.Int.intBits a<=1000:=tQ (pP (Ay 2 1000) h)
theorem am.appendA{P:wT}{vs ws:wA vU}{ds es:vR D}(r:am P h H vs.toList ds)(k:am P h H ws.toList es):am P h H (vs++ws).toList (ds++es):=by rw[AJ];exact r.append k
theorem eY{vs:wA vU}{ds:vR D}(a:Ex s.heap H)(b:ds.length<=big)(c:am w.params s.heap H vs.toList ds) :
  Rep w.params (s.heap.push (dm vs 0)) H (.ref s.heap.objs.size) (.tup ds):=
 .mk (Heap.get?_push_size _ QQ) a.fresh b (c.keeps λZ Z e=>Heap.gt_push_of_some _ e)
theorem gL:bc w s H (.int i) (.int i t) { s with toks:=k }:=⟨Kp.tok _ _,.mk t⟩
theorem og{i:Str}:bc w s H (.str i) (.str i t) { s with toks:=k }:=⟨Kp.tok _ _,.mk t⟩
theorem bZ{b:v7}:bc w s H (.bool b) (.bool b) { s with toks:=k }:=⟨Kp.tok _ _,QQ⟩
theorem binI_snd{op:xw}{j:Int}{u:Tok}(he:binI op i j=ac d):wpAny (wc B9 w) A (Bo op (.int i t) (.int j u)) (bc w s H d) E s:=by
 cases op with
 | Add=>exact v5 he▸PyProof.Rows.add_int gL
 | Sub=>exact v5 he▸PyProof.Rows.sub_int gL
 | Mult=>exact aS he λa e=>e▸PyProof.Rows.mul_int gL (a.elim (λh=>.of_left (tR h)) λh=>.of_right (tR h))
 | Mod=>exact aS he λa e=>e▸PyProof.Rows.mod_int (Int.ne_of_gt a) (Int.fmod_eq_emod_of_nonneg i (yu a)▸gL)
 | Pow=>exact aS he λa e=>e▸PyProof.Rows.pow_int a.2.2.1 (xr (Int.mul_le_mul (yH.mpr (bits_le1000 ⟨a.1,a.2.1⟩)) a.2.2.2 a.2.2.1 (by decide)) (by decide)) gL
 | FloorDiv=>exact aS he λa e=>e▸PyProof.Rows.floordiv_int (Int.ne_of_gt a.1) (Int.fdiv_eq_ediv_of_nonneg i (yu a.1)▸gL) (.inl (PyProof.noPylong_of_log2 (xm ((Nat.log2_lt (by omega)).mpr (pP (Ay 2 64) ⟨xO (by decide) a.1,a.2⟩)) (by decide))))
 | _=>exact ag he
theorem binS_snd{op:xw}{x:Str}{y:vU}(c:Rep w.params s.heap H y b)(he:binS op x b=ac d):wpAny (wc B9 w) A (Bo op (.str x t) y) (bc w s H d) E s:=by
 cases op with
 | Add=>exact pe (C:=λb=>Rep w.params s.heap H y b->_) he (λz he c=>aS he λa e=>e▸c.strE λu=>PyProof.Rows.add_str (λf tk=>og) a) c
 | Mult=>
  refine cI (C:=λb=>Rep w.params s.heap H y b->_) he (λn he c=>aS he λa e=>e▸c.intE λu=>SB.mul ⟨by simp;exact om55 a,λg1 Z=>?_,λg1 Z=>?_⟩ λf k=>og) c
  ·have:(1000:Int)<=(2 ^ 63 - 1) / n:=(Int.le_ediv_iff_mul_le (om56 g1)).mpr (om57 a)
   exact om58 a this
  ·exact xg (yS.mpr (v6 (AO a.2.2 (Bm.mpr a.2.1)) (by decide)))
 | _=>exact ag he
theorem binL_snd{op:xw}{x y:vU}{as:vR D}(h:Rep w.params s.heap H x (.list as))(a:Rep w.params s.heap H y b)(i:Ex s.heap H)(he:binL op as b=ac d) :
  wpAny (wc B9 w) A (Bo op x y) (bV w s H d d.isList) E s:=by
 cases op with
 | Add=>exact sJ (C:=λb=>Rep w.params s.heap H y b->_) he (λbs he a=>aS he λc e=>e▸h.listE λZ Z Z o1 Z Z f=>a.listE λZ Z Z o2 Z Z r2=>
   P.add_list o1 o2 (iO i (wn▸c) (f.appendA r2) (λZ Z e=>Heap.gt_push_of_some _ e) (Heap.get?_push_size _ QQ)) (f.size▸r2.size▸c)) a
 | _=>exact ag he
theorem rep_repl{P:wT}{v:vU}(r:Rep P h H v d)(k:Nat):am P h H (wV k v) (wV k d):=by
 induction k with
 | zero=>rfl
 | succ k a=>exact .cons r a
theorem mulT_snd{l:v8}{vs:wA vU}{as:vR D}{n:Int}{u:Tok}(f:Ex s.heap H)(q:0<=n)(h1:n<=5000)(h:as.length=1)(o1:s.heap.get? l=ac (dm vs k))(i:¬ H l)(c:am w.params s.heap H vs.toList as) :
  wpAny (wc B9 w) A (Bo .Mult (.ref l) (.int n u)) (bc w s H (.tup (wV n.toNat (as.getD 0 .none)))) E s:=by
 match as,h with
 | [d],_=>
  obtain⟨v,rfl⟩:∃ v,vs=#[v]:=by
   have:=c.size
   match vs,this with
   | ⟨[v]⟩,_=>exact⟨v,QQ⟩
  have j:Rep w.params s.heap H v d:=by cases c with | mk a b=>exact a
  refine wpAny_binaryOp_repeat_ref (T:="tuple") (U:="int") (by decide) ⟨_,o1,QQ⟩ (λs'=>typeIs_int s' n u) noFill_tuple_mul F.fills_int_mul F.slot_int_rmul repeat_tuple F.slot_int_index.lookup
   (call_meets F.slot_int_rmul (typeIs_int s n u) F.entry_int_rmul (F.args_int_rmul_2 _ _) (int_rmul_tuple n u l #[v] k) ⟨o1,QQ,⟨_,o1,QQ⟩,?_⟩)
  have m:n.toNat<=big:=v6 (Bm.mpr h1) (by decide)
  by_cases e1:n=1
  ·subst e1
   exact call_meets F.slot_tuple_mul ⟨_,o1,QQ⟩ F.entry_tuple_mul (F.args_tuple_mul_2 _ _) (tup_mul1 l v k u) ⟨o1,Kp.refl _,.mk o1 i (vW QQ) c⟩
  ·by_cases o:n=0
   ·subst o
    exact call_meets F.slot_tuple_mul ⟨_,o1,QQ⟩ F.entry_tuple_mul (F.args_tuple_mul_2 _ _) (tup_mul0 l v k u) ⟨o1,Kp.push _ _,eY (vs:=#[]) f (ww _) QQ⟩
   ·refine call_meets F.slot_tuple_mul ⟨_,o1,QQ⟩ F.entry_tuple_mul (F.args_tuple_mul_2 _ _) (tup_mul2 l v k n u (by omega) h1) ⟨o1,?_⟩
    rw[fold_rep0];exact⟨Kp.push _ _,eY (vs:=(wV n.toNat v).toArray) f (by rw[Am];exact m) (rep_repl j n.toNat)⟩
theorem lv{P:wT}{vs:wA vU}{ds:vR D}(r:am P h H vs.toList ds)(a:vs.isEmpty=vT):ds=[]:=yB (r.size▸Array.size_eq_zero_iff.mpr (A9.mp a))
theorem binT_snd{op:xw}{x y:vU}{as:vR D}(m:Rep w.params s.heap H x (.tup as))(c:Rep w.params s.heap H y b)(o:Ex s.heap H)(he:binT op as b=ac d) :
  wpAny (wc B9 w) A (Bo op x y) (bc w s H d) E s:=by
 cases op with
 | Add=>
  refine pd (C:=λb=>Rep w.params s.heap H y b->_) he (λbs he c=>aS he λf e=>e▸m.tupE λa1 t n1 o1 j q h=>c.tupE λa2 z n2 o2 q2 B r2=>?_) c
  by_cases i:t.isEmpty=vT
  ·exact concat_meets ⟨_,o1,QQ⟩ ⟨_,o2,QQ⟩ noFill_tuple_add seq_tuple_add PySem.F.slot_tuple_add PySem.F.entry_tuple_add (PySem.F.args_tuple_add_2 _ _) (AutoSeq1.tuple___add___tuple_tuple_0 _ _ _ _ _ _ i) ⟨o1,o2,Kp.refl _,(lv h i).symm▸.mk o2 q2 B r2⟩
  ·by_cases a:z.isEmpty=vT
   ·exact concat_meets ⟨_,o1,QQ⟩ ⟨_,o2,QQ⟩ noFill_tuple_add seq_tuple_add PySem.F.slot_tuple_add PySem.F.entry_tuple_add (PySem.F.args_tuple_add_2 _ _) (AutoSeq1.tuple___add___tuple_tuple_1 _ _ _ _ _ _ i a) ⟨o1,o2,Kp.refl _,(lv r2 a).symm▸(xY as).symm▸.mk o1 j q h⟩
   ·exact P.add_tuple o1 o2 i a ⟨Kp.push _ _,eY o (wn▸f) (h.appendA r2)⟩ (h.size▸r2.size▸f)
 | Mult=>exact cI (C:=λb=>Rep w.params s.heap H y b->_) he (λn he c=>aS he λf e=>e▸m.tupE λl vs k o1 j q h=>c.intE λu=>mulT_snd o f.1 f.2.1 f.2.2 o1 j h) c
 | _=>exact ag he
theorem binI_plain{op:xw}{j:Int}(he:binI op i j=ac d):d.isList=vP:=by
 cases op with
 | Add | Sub=>exact v5 he▸rfl
 | Mult | Mod | Pow | FloorDiv=>exact aS he λZ e=>e▸rfl
 | _=>exact ag he
theorem binS_plain{op:xw}{x:Str}(he:binS op x b=ac d):d.isList=vP:=by
 cases op with
 | Add=>exact pe (C:=λZ=>d.isList=vP) he λZ he=>aS he λZ e=>e▸rfl
 | Mult=>exact cI (C:=λZ=>d.isList=vP) he λZ he=>aS he λZ e=>e▸rfl
 | _=>exact ag he
theorem binT_plain{op:xw}{x:vR D}(he:binT op x b=ac d):d.isList=vP:=by
 cases op with
 | Add=>exact pd (C:=λZ=>d.isList=vP) he λZ he=>aS he λZ e=>e▸rfl
 | Mult=>exact cI (C:=λZ=>d.isList=vP) he λZ he=>aS he λZ e=>e▸rfl
 | _=>exact ag he
theorem aR{α:Type}{M:Ab}{c:Sem α}{Q a:α->vZ->Prop}(h:wpAny M A c Q E s)(k:∀ v s',Q v s'->a v s'):wpAny M A c a E s:=yG h k λZ Z e=>e
theorem bin_snd{op:xw}{x y:vU}{a:D}(f:Rep w.params s.heap H x a)(c:Rep w.params s.heap H y b)(h:Ex s.heap H)(he:ce op a b=ac d) :
  wpAny (wc B9 w) A (Bo op x y) (bV w s H d d.isList) E s:=by
 cases a with
 | int i=>exact cI (C:=λb=>Rep w.params s.heap H y b->_) he (λj he c=>aR (f.intE λZ=>c.intE λZ=>binI_snd he) λZ Z q=>q.pf (binI_plain he)) c
 | str x=>exact aR (f.strE λZ=>binS_snd c he) λZ Z q=>q.pf (binS_plain he)
 | tup m=>exact aR (binT_snd f c h he) λZ Z q=>q.pf (binT_plain he)
 | list m=>exact binL_snd f c h he
 | _=>exact ag he
end
end
end Mine
namespace Mine
open PySem PySem.SeqAt
section
variable {B9:wq} {w:wy} {A:wt} {E:vU->vZ->Prop} {s:vZ} {H H':v8->Prop}
theorem eqS_inv{C:D->D->v7->Prop}{a b:D}{k:v7}(he:eqS a b=ac k)(j:∀ x y,C (.bool x) (.bool y) (x == y))(c:∀ x y,C (.int x) (.int y) (x == y))(f:∀ x y,C (.int x) (.str y) vP)(h:∀ x y,C (.str x) (.int y) vP)(i:∀ x y,C (.str x) (.str y) (x == y)):C a b k:=by
 cases a with
 | bool x=>exact onB_inv (C:=λb=>C (.bool x) b k) he λy e=>v5 e▸j x y
 | int x=>exact sK (C:=λb=>C (.int x) b k) he (λy e=>v5 e▸c x y) λy e=>v5 e▸f x y
 | str x=>exact sK (C:=λb=>C (.str x) b k) he (λy e=>v5 e▸h x y) λy e=>v5 e▸i x y
 | _=>exact ag he
structure Eq3(x y:vU)(k:v7):Prop where
 e:∀ A s,EqAt A s x y k
 r:∀ A s,RcAt A s x y k
 n:∀ A s,RcNeAt A s x y (!k)
theorem pH{P:wT}{h:Heap}{x y:vU}{a b:D}{k:v7}(c:Rep P h H x a)(f:Rep P h H' y b)(he:eqS a b=ac k):Eq3 x y k:=
 eqS_inv (C:=λa b k=>Rep P h H x a->Rep P h H' y b->Eq3 x y k) he
  (λZ Z c f=>c.boolE (f.boolE ⟨λZ Z=>EqAt.bool_bool _ _,λZ Z=>RcAt.bool_bool _ _,λZ Z=>RcNeAt.bool_bool _ _⟩))
  (λZ Z c f=>c.intE λZ=>f.intE λZ=>⟨λZ Z=>EqAt.int_int _ _ _ _,λZ Z=>RcAt.int_int _ _ _ _,λZ Z=>RcNeAt.int_int _ _ _ _⟩)
  (λZ Z c f=>c.intE λZ=>f.strE λZ=>⟨λZ Z=>EqAt.int_str _ _ _ _,λZ Z=>RcAt.int_str _ _ _ _,λZ Z=>RcNeAt.int_str _ _ _ _⟩)
  (λZ Z c f=>c.strE λZ=>f.intE λZ=>⟨λZ Z=>EqAt.str_int _ _ _ _,λZ Z=>RcAt.str_int _ _ _ _,λZ Z=>RcNeAt.str_int _ _ _ _⟩)
  (λZ Z c f=>c.strE λZ=>f.strE λZ=>⟨λZ Z=>EqAt.str_str _ _ _ _,λZ Z=>RcAt.str_str _ _ _ _,λZ Z=>RcNeAt.str_str _ _ _ _⟩) c f
theorem aX{h:Heap}{a:v8}{vs:wA vU}{n:Nat}(b:h.get? a=ac (fF vs n)):h.IsList a vs:=⟨_,b,QQ,n,QQ⟩
theorem du{h:Heap}{a:v8}{vs:wA vU}{n:Nat}(b:h.get? a=ac (dm vs n)):h.IsTuple a vs:=⟨_,b,QQ,n,QQ⟩
theorem eA{h:Heap}{a:v8}{vs:wA vU}{n:Nat}(b:h.get? a=ac (dm vs n)):PyProof.Rows.IsTup h a vs:=⟨_,b,QQ,n,QQ⟩
structure Rc2(A:wt)(s:vZ)(x y:vU)(k:v7):Prop where
 r:RcAt A s x y k
 n:RcNeAt A s x y (!k)
theorem Eq3.rc{x y:vU}{k:v7}(q:Eq3 x y k):Rc2 A s x y k:=⟨q.r A s,q.n A s⟩
structure Eq2(B9:wq)(w:wy)(A:wt)(E:vU->vZ->Prop)(s:vZ)(H:v8->Prop)(x y:vU)(k:v7):Prop where
 e:wpAny (wc B9 w) A (y4 .Eq x y) (bc w s H (.bool k)) E s
 n:wpAny (wc B9 w) A (y4 .NotEq x y) (bc w s H (.bool (!k))) E s
theorem hY{b:v7}:bc w s H (.bool b) (.bool b) s:=⟨Kp.refl _,QQ⟩
theorem Rc2.two{x y:vU}{k:v7}(q:Rc2 A s x y k):Eq2 B9 w A E s H x y k:=⟨q.r B9 w E _ hY,q.n B9 w E _ hY⟩
noncomputable def nM(xs ys:vR vU)(e:Nat->v7):Prop:=∀ j (h1:j<xs.length) (a:j<ys.length) A s,EqAt A s xs[j] ys[j] (e j)
section
variable {h:Heap}{n1 n2:Nat}
theorem kY{P:wT}{xs ys:vR vU}{ds es:vR D}{k:v7}(a:am P h H xs ds)(b:am P h H' ys es)(c:ds.length=es.length)(he:lD ds es=ac k) :
  ∃ e:Nat->v7,(wR ds.length).all e=k/\nM xs ys e:=by
 induction ds generalizing xs ys es k with
 | nil=>
  cases es with
  | nil=>exact⟨λZ=>vT,v5 he,λj h1=>by rw[show xs=[] from a] at h1;exact wI h1 (yL _)⟩
  | cons=>cases c
 | cons d ds t=>
  cases es with
  | nil=>cases c
  | cons e es=>
   refine fD he λo h1 he=>br he λw u he=>dR.rec (motive:=λxs Z=>∃ e:Nat->v7,(wR (d::ds).length).all e=k/\nM xs ys e) (λa f=>dR.rec (motive:=λys Z=>∃ e:Nat->v7,(wR (d::ds).length).all e=k/\nM _ ys e) (λb i=>?_) b) a
   refine (t f i (yv c) u).elim λe q=>⟨λj=>Nat.casesOn j o e,?_,λj m n A s=>?_⟩
   ·rw[xC,List.range_succ_eq_map,List.all_cons,List.all_map]
    exact (wv (o&&·) q.1).trans he
   ·cases j with
    | zero=>exact (pH a b h1).e A s
    | succ j=>exact q.2 j (Nat.lt_of_succ_lt_succ m) (Nat.lt_of_succ_lt_succ n) A s
theorem nM.arr{a v2:wA vU}{e:Nat->v7}(q:nM a.toList v2.toList e){A:wt}{s:vZ}(j:Nat)(b:j<a.size)(q2:j<v2.size):EqAt A s a[j] v2[j] (e j):=q j b q2 A s
theorem eqL_snd{n o:v8}{a v2:wA vU}{j m:vR D}{k:v7}(h1:s.heap.get? n=ac (fF a n1))(c:s.heap.get? o=ac (fF v2 n2))(f:am w.params s.heap H a.toList j)(r2:am w.params s.heap H' v2.toList m)
  (h:A.units<yg) (he:(if j.length=m.length then lD j m else ac vP)=ac k):Rc2 A s (.ref n) (.ref o) k:=
 cz he (λi he=>(kY f r2 i he).elim λe q=>
   have t:a.size=v2.size:=f.size.trans (i.trans r2.size.symm)
   have u:(wR a.size).all e=k:=f.size.symm▸q.1
   u▸⟨RcAt.lists (aX h1) (aX c) t h q.2.arr,RcNeAt.lists (aX h1) (aX c) t h q.2.arr⟩)
  λi he=>
   have b:(a.size != v2.size)=vT:=zL.mpr λe=>i (f.size.symm.trans (e.trans r2.size))
   v5 he▸⟨RcAt.lists_lengths (aX h1) (aX c) b h,RcNeAt.lists_lengths (aX h1) (aX c) b h⟩
theorem qT{b c:v8}{a v2:wA vU}{k:v7}{e:Nat->v7}(h1:s.heap.get? b=ac (dm a n1))(f:s.heap.get? c=ac (dm v2 n2))(h:A.units<yg)(q:∀ j (m:j<a.size) (q2:j<v2.size),EqAt A.in1 s a[j] v2[j] (e j))(i:((wR (min a.size v2.size)).all e&&a.size == v2.size)=k):Rc2 A s (.ref b) (.ref c) k:=
 i▸⟨RcAt.tuples (du h1) (du f) h q,RcNeAt.tuples (du h1) (du f) h q⟩
theorem eqT_snd{c f:v8}{h v2:wA vU}{a b:vR D}{k:v7}(h1:s.heap.get? c=ac (dm h n1))(m:s.heap.get? f=ac (dm v2 n2))(i:am w.params s.heap H h.toList a)(r2:am w.params s.heap H' v2.toList b)
  (n:A.units<yg) (j:a.length=b.length) (he:lD a b=ac k):Rc2 A s (.ref c) (.ref f) k:=
 (kY i r2 j he).elim λe q=>qT h1 m n q.2.arr (by rw[i.size,r2.size,<- j,Au,q.1,wH,Bool.and_true])
theorem eqT_nil{b c:v8}{f v2:wA vU}{h a:vR D}(h1:s.heap.get? b=ac (dm f n1))(i:s.heap.get? c=ac (dm v2 n2))(m:am w.params s.heap H f.toList h)(r2:am w.params s.heap H' v2.toList a)
  (n:A.units<yg) (o:¬ h.length=a.length) (q:a.length=0):Rc2 A s (.ref b) (.ref c) vP:=
 qT (e:=λZ=>vT) h1 i n (λj t q2=>wI q2 (by rw[r2.size,q];exact yL _)) (by rw[m.size,r2.size,wK.mpr o,Bool.and_false])
theorem eqD_snd{x y:vU}{a b:D}{k:v7}(i:Rep w.params s.heap H x a)(c:Rep w.params s.heap H' y b)(j:A.units<yg)(he:eqD a b=ac k):Rc2 A s x y k:=by
 cases a with
 | tup ds=>exact pd (C:=λb=>Rep w.params s.heap H' y b->Rc2 A s x y k) he (λes he c=>i.tupE λZ Z Z h1 Z Z f=>c.tupE λZ Z Z h Z Z r2=>cz he (eqT_snd h1 h f r2 j) λm he=>aS he λn e=>e▸eqT_nil h1 h f r2 j m n) c
 | list ds=>exact sJ (C:=λb=>Rep w.params s.heap H' y b->Rc2 A s x y k) he (λes he c=>i.listE λZ Z Z h1 Z Z f=>c.listE λZ Z Z h Z Z r2=>eqL_snd h1 h f r2 j he) c
 | _=>exact (pH i c he).rc
@[elab_as_elim] theorem jZ{y:vU}{ks vs:vR D}{C:vU->Prop}(i:Rep w.params h H y (.dict ks vs))(b:ks.all D.isCell=vT)(k:∀ a es n (cs:vR CK),ks=cs.map a8->h.get? a=ac (lL es n)->h.DictOf (bY B9 w) a (cs.zip (es.toList.map (·.val)))->am w.params h H (es.toList.map (·.val)) vs->(a == zJ)=vP->cs.length=(es.toList.map (·.val)).length->cs.Nodup->C (.ref a)):C y:=
 (ny b).elim λcs e=>nU.rec (motive:=λv Z=>C v) (λc q s h1 j m b f o=>k _ _ _ cs e c (nh c (e▸h1) (e▸m) (e▸f)) j o ((v9 (as:=cs) a8).symm.trans ((e▸h1.length.symm:(cs.map a8).length=_).trans (by rw[v9,v9]))) ((xV.mp (e▸f)).imp λh e=>h (wv a8 e))) i
@[elab_as_elim] theorem qW{P:wT}{y:vU}{ks vs:vR D}{C:vU->Prop}(c:Rep P h H y (.dict ks vs))(b:ks.all D.isTK=vT)(k:∀ a es n (cs:vR (vR CK)),ks=cs.map dW->h.get? a=ac (lL es n)->am P h H (es.toList.map (·.key)) (cs.map dW)->am P h H (es.toList.map (·.val)) vs ->
  es.toList.map (·.hash)=(cs.map dW).map (fR P)->(cs.map dW).Nodup->(a == zJ)=vP->C (.ref a)):C y:=
 (rJ b).elim λcs e=>nU.rec (motive:=λv Z=>C v) (λf q s h1 i j b m o=>k _ _ _ cs e f (e▸h1) i (e▸j) (e▸m) o) c
theorem uV{xs:vR (vR CK×v8×vU)}{cs:vR (vR CK)}(h:xs.map (·.1)=cs):xs.map kD=cs.map dW:=by
 rw[<- h,wX];rfl
theorem notIn_of_in{M:Ab}{x c:vU}{j Q:vU->vZ->Prop}(h:wpAny M A (y4 .In x c) j E s)(m:∀ b s',j (.bool b) s'->Q (.bool (!b)) s'):wpAny M A (y4 .NotIn x c) Q E s:=by
 intro a p f;have i:=h a p f;change Sem.wp _ a (Sem.bind (contains c x) λr=>Sem.pure (Value.bool r)) _ _ p s at i
 show Sem.wp _ a (Sem.bind (contains c x) λr=>Sem.pure (Value.bool (!r))) _ _ p s
 rw[Sem.wp_bind] at i ⊢;exact Sem.wp_mono _ a _ (λr n s' q=>m r s' q) (λZ Z Z q=>q) p s i
theorem kN{k:D}{ks:vR D}{C:Prop}(h:cJ k ks=vT)(h1:k.isCell=vT->ks.all D.isCell=vT->C)(a:k.isTK=vT->ks.all D.isTK=vT->C):C:=(yh.mp h).elim (λh=>bQ h h1) λh=>bQ h a
theorem in_dict{x y:vU}{k:D}{ks vs:vR D}(i:Rep w.params s.heap H x k)(j:Rep w.params s.heap H y (.dict ks vs))(o:A.units+1<yg)(q:cJ k ks=vT) :
  wpAny (wc B9 w) A (y4 .In x y) (bc w s H (.bool (ks.any λx=>aU x k))) E s:=by
 refine kN q (λh1 f=>(gE h1).elim λc e=>?_) ?_
 ·subst e
  exact jZ (B9:=B9) j f λa es n t e m u z h B Z=>wpAny_in_of (knd:=bY B9 w) (kE i) h u.mapOf (by rw[any_valueAt B,e];exact bZ)
 ·refine λh1 f=>(pY h1).elim λc e=>?_
  subst e;refine qW j f λa es n t e m C z G I h=>?_
  obtain⟨b,rfl,J⟩:=oZ (B9:=B9) i;obtain⟨xs,L,e1,_,_⟩:=kZ (B9:=B9) m C G I;refine wpAny_in_heap (knd:=TKd B9 w) o J h L ?_;rw[oN xs,uV e1,e];exact bZ
theorem cellEq_snd{P:wT}{x y:vU}{a b:D}(f:Rep P h H x a)(i:Rep P h H' y b)(j:a.isCell=vT)(m:b.isCell=vT):∀ A s,EqAt A s x y (cB a b):=by
 obtain⟨c,rfl⟩:=gE j;obtain⟨n,rfl⟩:=gE m;exact (pH f i (by cases c <;> cases n <;> rfl)).e
end
noncomputable def fc:vU->D
 | .int i _=>.int i
 | .str x _=>.str x
 | _=>.none
section
variable {b a d:D}{h:Heap}{n:Nat}
theorem li{P:wT}{v:vU}(r:Rep P h H v d)(a:d.isCell=vT):fc v=d:=by
 obtain⟨c,rfl⟩:=gE a;cases c
 ·exact Rep.intE (C:=λv=>fc v=_) r λZ=>QQ
 ·exact Rep.strE (C:=λv=>fc v=_) r λZ=>QQ
theorem eqv_any{P:wT}{vs:vR vU}{ds:vR D}(r:am P h H vs ds)(a:ds.all D.isCell=vT):vs.any (λv=>cB (fc v) b)=ds.any λx=>cB x b:=by
 induction ds generalizing vs with
 | nil=>rw[show vs=[] from r];rfl
 | cons d ds c=>exact dR.rec (motive:=λvs Z=>vs.any (λv=>cB (fc v) b)=(d::ds).any λx=>cB x b) (λf i=>bQ a λh1 j=>by rw[xM,xM,c i j,li f h1]) r
theorem mem_eqv{P:wT}{x:vU}{k:D}(c:Rep P h H x k)(f:k.isCell=vT){A:wt}{s:vZ}{vs:vR vU}{ds:vR D}(r:am P h H vs ds)(i:ds.all D.isCell=vT):∀ v∈vs,EqAt A s v x (cB (fc v) k):=by
 induction ds generalizing vs with
 | nil=>rw[show vs=[] from r];exact λZ a=>nomatch a
 | cons d ds j=>exact dR.rec (motive:=λvs Z=>∀ v∈vs,EqAt A s v x (cB (fc v) k)) (λb m v a=>bQ i λh1 n=>(wf.mp a).elim (λe=>e▸(li b h1).symm▸cellEq_snd b c h1 f A s) (j m n v)) r
theorem in_tup{x y:vU}{k:D}{ds:vR D}(f:Rep w.params s.heap H x k)(h:Rep w.params s.heap H y (.tup ds))(i:(k.isCell&&ds.all D.isCell)=vT) :
  wpAny (wc B9 w) A (y4 .In x y) (bc w s H (.bool (ds.any λx=>cB x k))) E s:=
 bQ i λh1 b=>h.tupE λa vs n j o q c=>in_tupleAt (λv=>cB (fc v) k) (du j) (λv m=>mem_eqv f h1 c b v (Ax.mpr m)) (by rw[<- Array.any_toList,eqv_any c b];exact hY)
theorem sP{x y:vU}{k:v7}(f:Rep w.params s.heap H x a)(h:Rep w.params s.heap H y b)(i:A.units+1<yg)(he:kK a b=ac k) :
  wpAny (wc B9 w) A (y4 .In x y) (bc w s H (.bool k)) E s:=by
 cases b with
 | tup ds=>exact aS he λc e=>e▸in_tup f h c
 | dict ks vs=>exact aS he λc e=>e▸in_dict f h i c
 | _=>exact ag he
theorem ord_snd{op:zn}{x y:vU}(f:Rep w.params s.heap H x a)(c:Rep w.params s.heap H y b)(he:ordD op a b=ac d):wpAny (wc B9 w) A (y4 op x y) (bc w s H d) E s:=by
 cases a with
 | int i=>
  refine cI (C:=λb=>Rep w.params s.heap H y b->_) he (λj he c=>f.intE λZ=>c.intE λZ=>?_) c
  cases op with
  | Lt=>exact v5 he▸PyProof.Rows.lt_int hY
  | LtE=>exact v5 he▸PyProof.Rows.le_int hY
  | Gt=>exact v5 he▸PyProof.Rows.gt_int hY
  | GtE=>exact v5 he▸PyProof.Rows.ge_int hY
  | _=>exact ag he
 | str x=>
  refine pe (C:=λb=>Rep w.params s.heap H y b->_) he (λj he c=>f.strE λZ=>c.strE λZ=>?_) c
  cases op with
  | Lt=>exact v5 he▸PyProof.Rows.lt_str hY
  | _=>exact ag he
 | _=>exact ag he
theorem lh:∀ {cs:vR CK} {v2:vR vU} {j:Nat} {c:CK} {y:vU},cs.Nodup->cs[j]?=ac c->v2[j]?=ac y->Al (cs.zip v2) c=ac y
 | [],_,j,_,_,_,h,_=>by simp at h
 | _::_,[],j,_,_,_,_,h=>by simp at h
 | c'::cs,m::v2,0,c,y,_,h1,a=>by
  cases h1;cases a;simp[Al]
 | c'::cs,m::v2,j+1,c,y,b,h1,a=>by
  rw[xQ] at b;have h1:cs[j]?=ac c:=h1;have f:c'≠c:=λe=>b.1 (e▸List.mem_of_getElem? h1)
  have i:=lh (v2:=v2) b.2 h1 a;unfold Al at i ⊢;rw[x3,List.find?_cons_of_neg (by simpa using f)]
  exact i
theorem tq{kb:vR (CK×vU)}:∀ {cs:vR CK} {f v2:vR vU} {e:Nat->v7},cs.length=f.length->cs.length=v2.length->(∀ (j:Nat) (c:CK) (y:vU),cs[j]?=ac c->v2[j]?=ac y->Al kb c=ac y) ->
  (∀ j (h1:j<f.length) (i:j<v2.length),EqAt A s f[j] v2[j] (e j))->PySem.W.KeqHits A s kb (cs.zip f) ((wR cs.length).all e)
 | [],_,_,_,_,_,_,_=>.nil
 | _::_,[],_,_,h,_,_,_=>by cases h
 | _::_,_::_,[],_,_,h,_,_=>by cases h
 | c::cs,v::f,y::v2,e,h1,i,m,n=>by
  have q:(wR (c::cs).length).all e=(e 0&&(wR cs.length).all (λj=>e (j+1))):=by
   rw[xC,List.range_succ_eq_map,List.all_cons,List.all_map];rfl
  rw[q];exact .hit (m 0 c y QQ QQ) (n 0 (Nat.zero_lt_succ _) (Nat.zero_lt_succ _)) (tq (yv h1) (yv i) (λj o t a b=>m (j+1) o t a b) λj a b=>n (j+1) (Bp a) (Bp b))
theorem nz:∀ {cs cs':vR CK} {ks:vR D},a7 (cs.map a8) ks=vT->ks=cs.map a8
 | [],_,[],_=>rfl
 | [],_,_::_,h=>by cases h
 | _::_,_,[],h=>by cases h
 | c::cs,cs',k::ks,h=>by
  have h:(cB (a8 c) k&&a7 (cs.map a8) ks)=vT:=h;rw[yl] at h;rw[nz (cs':=cs') h.2,wx]
  congr 1
  have h1:=h.1;cases c <;> cases k <;> first | (cases h1;done) | (have h1:(_ == _)=vT:=h1;rw[eq_of_beq h1];rfl)
theorem ofCK_maps{l a:vR CK}(h:l.map a8=a.map a8):l=a:=by
 induction l generalizing a with
 | nil=>cases a with
  | nil=>rfl
  | cons=>cases h
 | cons c l b=>cases a with
  | nil=>cases h
  | cons f a=>exact congr (wv List.cons (mF (AW h).1)) (b (AW h).2)
theorem eqDict_snd{x y:vU}{ks vs u i:vR D}{k:v7}(U:Rep w.params s.heap H x (.dict ks vs))(V:Rep w.params s.heap H y (.dict u i))(G:A.units+2<yg)(I:ks.all D.isCell=vT)(B:a7 ks u=vT)(X:vs.length=i.length)(he:lD vs i=ac k):Eq2 B9 w A E s H x y k:=by
 refine jZ (B9:=B9) U I λa es n t e h1 J L M m Y=>?_
 subst e;have e:=nz (cs':=t) B;subst e;refine jZ (B9:=B9) V I λb o Cb Z e g1 N Ca O z BF=>?_
 have C:=ofCK_maps e;subst C;refine (kY L Ca X he).elim λe q=>?_
 have f:PySem.W.KeqHits A.in1 s (t.zip (o.toList.map (·.val))) (t.zip (es.toList.map (·.val))) k:=by
  have T:=tq (A:=A.in1) (s:=s) (kb:=t.zip (o.toList.map (·.val))) (e:=e) m z (λj c y a b=>lh Y a b) λj a b=>q.2 j a b A.in1 s
  rw[m,L.length,q.1] at T;exact T
 have h:((t.zip (es.toList.map (·.val))).length == (t.zip (o.toList.map (·.val))).length&&k)=k:=by
  rw[zx,zx,<- m,<- z,wH,Bool.true_and]
 exact⟨PySem.W.keq_eq M O J N (wg (wB _ 2) G) (λBF=>f) (by rw[h];exact hY),PySem.W.keq_ne M O J N (wg (wB _ 2) G) (λBF=>f) (by rw[h];exact hY)⟩
theorem tG{x y:vU}{k:v7}(c:Rep w.params s.heap H x a)(f:Rep w.params s.heap H y b)(h:A.units+2<yg)(he:eqX a b=ac k):Eq2 B9 w A E s H x y k:=by
 cases a with
 | dict ks vs=>
  cases b with
  | dict i j=>exact bK he λm he=>fL m λh1 n o=>eqDict_snd c f h h1 n (eq_of_beq o) he
  | _=>exact ag he
 | _=>exact (eqD_snd c f (wg (wB _ 2) h) he).two
theorem pJ{op:zn}{x y:vU}(f:Rep w.params s.heap H x a)(h:Rep w.params s.heap H y b)(i:A.units+2<yg)(he:b9 op a b=ac d) :
  wpAny (wc B9 w) A (y4 op x y) (bc w s H d) E s:=by
 cases op with
 | Eq=>exact br he λk c e=>e▸(tG f h i c).e
 | NotEq=>exact br he λk c e=>e▸(tG f h i c).n
 | In=>exact br he λk c e=>e▸sP f h (zf i) c
 | NotIn=>exact br he λk c e=>e▸notIn_of_in (sP f h (zf i) c) λb s' q=>⟨q.k,by cases q.r;rfl⟩
 | _=>exact ord_snd f h he
theorem pi(h:n<=big):(n:Int)<2 ^ 63:=xq (yH.mpr h) (by decide)
theorem qU{P:wT}{vs:wA vU}{ds:vR D}(r:am P h H vs.toList ds):vs.isEmpty=ds.isEmpty:=by
 rw[Az,A9,xf,<- Array.size_eq_zero_iff,<- List.length_eq_zero_iff,r.size]
theorem eR{x:vU}{t:v7}(c:Rep w.params s.heap H x a)(he:bg a=ac t) :
  wpAny (wc B9 w) A (truthy x) (dS s t) E s:=by
 cases a with
 | none=>exact c.noneE (PyProof.Rows.truthy_none ⟨Kp.refl _,v5 he⟩)
 | bool b=>exact c.boolE (wpAny_truthy_bool ⟨Kp.refl _,v5 he⟩)
 | int i=>exact c.intE λZ=>PyProof.Rows.truthy_int ⟨Kp.refl _,v5 he⟩
 | tup ds=>exact c.tupE λa vs n h Z j f=>PyProof.Rows.truthy_tuple (eA h) (f.size.symm▸pi j) ⟨Kp.tok _ _,(wv _ (qU f)).trans (v5 he)⟩
 | list ds=>exact c.listE λa vs n h Z j f=>wpAny_truthy_list (aX h) (f.size.symm▸pi j) ⟨Kp.tok _ _,(wv _ (qU f)).trans (v5 he)⟩
 | _=>exact ag he
theorem tm{k:Int}{j:Nat}{C:Prop}(h:idx k n=ac j)(k1:0<=k->k<n->k.toNat=j->C)(k2:-(n:Int)<=k->k<0->(k+n).toNat=j->C):C:=
 cz h (λa e=>k1 a.1 a.2 (v5 e)) λZ h=>aS h λa e=>k2 a.1 a.2 e
theorem pB{k:Int}{j:Nat}(h:idx k n=ac j):seqIndex? k n=ac j/\-(n:Int)<=k/\k<n:=by
 unfold seqIndex?;refine tm h (λh1 a e=>?_) λh1 a e=>?_
 ·subst e
  have e:¬ k<0:=zm.mpr h1;simp only[e,zb];simp[h1,a];exact om59 h1
 ·subst e
  simp only[a,AN];have b:0<=k+n:=by exact om60 h1
  have c:k+n<n:=by exact om61 a
  simp[b,c];exact om62 h1 a
end
noncomputable def vK(s:vZ)(x:vU):Prop:=∃ T id,s.TypeIs x T/\typeLookup (.type T) "__getitem__"=pure (ac (.builtin id))
theorem get_str{x:Str}{t u:Tok}{k:Int}(a:0<=k/\k<x.length/\x.length<=big):wpAny (wc B9 w) A (An (.str x t) (.int k u)) (bc w s H (.str (bH x k.toNat))) E s:=by
 refine PyProof.Rows.getItem_str (c:=x.cps.getD k.toNat 0) ?_ ?_ og
 ·have:=pi a.2.2
  simp;exact om63 a this
 ·have h1:idx k x.length=ac k.toNat:=wh ⟨a.1,a.2.1⟩
  rw[(pB h1).1];have b:k.toNat<x.cps.size:=(Int.toNat_lt a.1).mpr a.2.1;simp[Array.getD,b]
theorem get_seq{l:v8}{vs:wA vU}{n j:Nat}{ds:vR D}{k:Int}{u:Tok}{v:vU}{d:D}(c:s.heap.get? l=ac (fF vs n))(i:ds.length<=big)(f:am w.params s.heap H vs.toList ds)(m:idx k ds.length=ac j)(a:vs.toList[j]?=ac v)(r:Rep w.params s.heap H v d) :
  wpAny (wc B9 w) A (An (.ref l) (.int k u)) (bc w s H d) E s:=by
 have h:=pi i;have a:vs[j]?=ac v:=xE.symm.trans a;refine tm m (λh1 b e=>?_) λh1 b e=>?_
 ·exact wpAny_getItem_list (aX c) h1 (xO b h) (e▸a) ⟨Kp.refl _,r⟩
 ·exact wpAny_getItem_list_neg (aX c) b (f.size.symm▸h1) (om64 h h1) (f.size.symm▸e▸a) ⟨Kp.refl _,r⟩
theorem getItem_snd{x i:vU}{a b d:D}(M:A.units+1<yg)(o:Rep w.params s.heap H x a)(f:Rep w.params s.heap H i b)(he:aD a b=ac d) :
  wpAny (wc B9 w) A (An x i) (bc w s H d) E s/\vK s x:=by
 cases a with
 | str x=>exact cI (C:=λb=>Rep w.params s.heap H i b->_) he (λk he f=>aS he λy e=>e▸o.strE λBF=>f.intE λBF=>⟨get_str y,"str",_,typeIs_str _ _ _,F.slot_str_getitem.lookup⟩) f
 | tup ds=>exact cI (C:=λb=>Rep w.params s.heap H i b->_) he (λk he f=>fD he λj z he=>o.tupE λa vs n m N u t=>f.intE λBF=>(t.get j he).elim λv q=>
   have h:=pB z
   have I:=pi u
   ⟨PyProof.Rows.getItem_tuple (eA m) (xr (om65 I) h.2.1) (xO h.2.2 I) (t.size.symm▸h.1) (xE.symm.trans q.1) ⟨Kp.refl _,q.2⟩,"tuple",_,(eA m).typeIs,F.slot_tuple_getitem.lookup⟩) f
 | list ds=>exact cI (C:=λb=>Rep w.params s.heap H i b->_) he (λk he f=>fD he λj z he=>o.listE λa vs n m N u t=>f.intE λBF=>(t.get j he).elim λv q=>
   ⟨get_seq m u t z q.1 q.2,"list",_,(aX m).typeIs,F.slot_list_getitem.lookup⟩) f
 | dict ks vs=>
  refine bK he λy he=>kN y (λh1 B=>(gE h1).elim λc e=>?_) ?_
  ·subst e
   exact jZ (B9:=B9) o B λa es n O e m J G T u BF=>(dget_valueAt G (e▸he)).elim λv q=>⟨wpAny_getItem_of (knd:=bY B9 w) (kE f) J.mapOf q.1 ⟨Kp.tok _ _,q.2⟩,"dict",_,J.mapOf.typeIs,slot_dict_getitem.lookup⟩
  ·refine λh1 B=>(pY h1).elim λc e=>?_
   subst e;refine qW o B λa es n O e m U G V X T=>?_
   obtain⟨b,rfl,Y⟩:=oZ (B9:=B9) f;obtain⟨xs,L,e1,_,Z⟩:=kZ (B9:=B9) m U V X;rw[e,<- uV e1] at he;obtain⟨p,Ca,Cb⟩:=dget_atKey (Z▸G) he;exact⟨wpAny_getItem_heap (knd:=TKd B9 w) M Y L Ca ⟨Kp.tok _ _,Cb⟩,"dict",_,L.typeIs,slot_dict_getitem.lookup⟩
 | _=>exact ag he
end
section
variable {B9:wq} {w:wy} {A:wt} {E:vU->vZ->Prop} {s:vZ} {H H':v8->Prop}
theorem ow{T:vV}{C:vV->Prop}(h:T="str"\/T="bool"\/T="int"\/T="tuple"\/T="list")(h1:C "str")(a:C "bool")(b:C "int")(c:C "tuple")(f:C "list"):C T:=
 h.elim (λe=>e▸h1) λh=>h.elim (λe=>e▸a) λh=>h.elim (λe=>e▸b) λh=>h.elim (λe=>e▸c) λe=>e▸f
theorem isi_snd{x:vU}{a:D}{T:vV}{t:v7}(f:Rep w.params s.heap H x a)(he:mS a T=ac t) :
  wpAny (wc B9 w) A (call (.builtin "isinstance") [x,.type T]) (bc w s H (.bool t)) E s:=by
 unfold mS at he;refine bK he λh he=>?_
 cases a with
 | bool b=>exact v5 he▸f.boolE (ow (C:=λT=>wpAny (wc B9 w) A (call (.builtin "isinstance") [.bool b,.type T]) (bc w s H (.bool (T == "int"||T == "bool"))) E s) h (IsiPair.bool_str bZ) (IsiPair.bool_bool hY) (IsiPair.bool_int hY) (IsiPair.bool_tuple bZ) (IsiPair.bool_list bZ))
 | int i=>exact v5 he▸f.intE λu=>ow (C:=λT=>wpAny (wc B9 w) A (call (.builtin "isinstance") [.int i u,.type T]) (bc w s H (.bool (T == "int"))) E s) h (IsiPair.int_str bZ) (IsiPair.int_bool bZ) (IsiPair.int_int hY) (IsiPair.int_tuple bZ) (IsiPair.int_list bZ)
 | str x=>exact v5 he▸f.strE λu=>ow (C:=λT=>wpAny (wc B9 w) A (call (.builtin "isinstance") [.str x u,.type T]) (bc w s H (.bool (T == "str"))) E s) h (IsiPair.str_str hY) (IsiPair.str_bool bZ) (IsiPair.str_int bZ) (IsiPair.str_tuple bZ) (IsiPair.str_list bZ)
 | tup ds=>exact v5 he▸f.tupE λa vs n c Z Z Z=>ow (C:=λT=>wpAny (wc B9 w) A (call (.builtin "isinstance") [.ref a,.type T]) (bc w s H (.bool (T == "tuple"))) E s) h (IsiPair.tuple_str c QQ bZ) (IsiPair.tuple_bool c QQ bZ) (IsiPair.tuple_int c QQ bZ) (IsiPair.tuple_tuple c QQ hY) (IsiPair.tuple_list c QQ bZ)
 | list ds=>exact v5 he▸f.listE λa vs n c Z Z Z=>ow (C:=λT=>wpAny (wc B9 w) A (call (.builtin "isinstance") [.ref a,.type T]) (bc w s H (.bool (T == "list"))) E s) h (IsiPair.list_str c QQ bZ) (IsiPair.list_bool c QQ bZ) (IsiPair.list_int c QQ bZ) (IsiPair.list_tuple c QQ bZ) (IsiPair.list_list c QQ hY)
 | _=>exact ag he
noncomputable def vj:vR vV:=["len","isinstance","sum","max","min","sorted"]
noncomputable def cY(f:vV):vU:=cond (vj.contains f) (.builtin f) (.type f)
theorem natAbs_log2{i:Int}(h:-oV<i/\i<oV):i.natAbs.log2<1920:=by
 have b:=pP (Ay 10 100) h
 by_cases a:i.natAbs=0
 ·rw[a];decide
 ·exact (Nat.log2_lt a).mpr (xm b (by decide +kernel))
theorem len_snd{x:vU}{a d:D}(c:Rep w.params s.heap H x a)(he:lenD a=ac d):wpAny (wc B9 w) A (call (.builtin "len") [x]) (bc w s H d) E s:=by
 cases a with
 | str x=>exact aS he λi e=>e▸c.strE λZ=>PyProof.Rows.len_str (Int.not_le.mpr (pi i)) gL
 | tup ds=>exact v5 he▸c.tupE λa vs n f Z h b=>b.size▸PyProof.Rows.len_tuple (eA f) (b.size.symm▸pi h) gL
 | list ds=>exact v5 he▸c.listE λa vs n f Z h b=>b.size▸PyProof.Rows.len_list (aX f) (b.size.symm▸pi h) gL
 | _=>exact ag he
theorem sS(s:vZ)(o:Obj)(t:Nat)(d:zK):bj s { s with heap:=s.heap.push o,toks:=t,drawn:=d }:=.mk _ _ _ λZ Z e=>Heap.gt_push_of_some _ e
theorem bltI_snd{f:vV}{i:Int}{t:Tok}{d:D}(c:Ex s.heap H)(he:bltI f i=ac d):wpAny (wc B9 w) A (call (cY f) [.int i t]) (bc w s H d) E s:=
 cz he (λb he=>aS he λa e=>b▸e▸call_range_1 ⟨sS _ _ _ _,.mk (IsRange.new _ _ _ _ _ _ _) c.fresh ⟨a.2.1,a.2.2,a.1⟩⟩)
  λZ he=>bK he λb he=>aS he λa e=>b▸e▸P.str_of_int (natAbs_log2 a) og
theorem bltI2_snd{f:vV}{i j:Int}{t u:Tok}{d:D}(h:A.handled=wa)(m:Ex s.heap H)(he:bltI2 f i j=ac d):wpAny (wc B9 w) A (call (cY f) [.int i t,.int j u]) (bc w s H d) E s:=by
 refine cz he (λa he=>aS he λb e=>a▸e▸call_range_2 ⟨sS _ _ _ _,.mk (IsRange.new _ _ _ _ _ _ _) m.fresh ⟨b.2.1,b.2.2,b.1⟩⟩)
  λZ he=>cz he (λa he=>a▸v5 he▸max_two_ints h λh' tk c=>?_) λZ he=>aS he λa e=>a▸e▸min_two_ints h λh' tk c=>?_
 ·split <;> exact⟨.mk h' tk _ (Heap.gt_up c),.mk _⟩
 ·split <;> exact⟨.mk h' tk _ (Heap.gt_up c),.mk _⟩
theorem ints_rep{P:wT}{h:Heap}{vs:vR vU}{ds:vR D}{k:Int}(r:am P h H vs ds)(e:mr ds=ac k):∃ xs:vR (Int×Tok),vs=xs.map (λp=>.int p.1 p.2)/\(xs.map (·.1)).sum=k:=by
 induction ds generalizing vs k with
 | nil=>exact⟨[],r,v5 e⟩
 | cons d ds a=>
  refine dR.rec (motive:=λvs Z=>∃ xs:vR (Int×Tok),vs=xs.map (λp=>.int p.1 p.2)/\(xs.map (·.1)).sum=k) (λ{v vs} b c=>?_) r
  cases d with
  | int i=>exact Rep.intE (C:=λv=>∃ xs:vR (Int×Tok),v::vs=xs.map (λp=>.int p.1 p.2)/\(xs.map (·.1)).sum=k) b λt=>br e λj f q=>(a c f).elim λxs z=>⟨(i,t)::xs,wv _ z.1,by rw[wx,List.sum_cons,z.2];exact q⟩
  | _=>exact ag e
theorem preSum_sum(xs:vR (Int×Tok)):preSum (numAt xs.toArray) xs.toArray.size=(xs.map (·.1)).sum:=by
 rw[preSum_eq,zc (by simp)]
theorem sum_snd{a:v8}{vs:wA vU}{n:Nat}{ds:vR D}{k:Int}(b:A.handled=wa)(c:s.heap.get? a=ac (fF vs n))(f:am w.params s.heap H vs.toList ds)(he:mr ds=ac k):wpAny (wc B9 w) A (call (.builtin "sum") [.ref a]) (bc w s H (.int k)) E s:=by
 refine (ints_rep f he).elim λxs q=>?_
 have h:vs=intItems xs.toArray:=by
  apply Bn.mp;rw[q.1];simp[intItems]
 refine sum_intListG (xs:=xs.toArray) b (h▸aX c) λh' tk j i=>?_
 rw[preSum_sum,q.2];exact⟨.mk h' tk _ (Heap.gt_up i),.mk _⟩
theorem tupL_snd{x:vU}{ds:vR D}(h:Rep w.params s.heap H x (.list ds))(i:Ex s.heap H):wpAny (wc B9 w) A (call (.type "tuple") [x]) (bc w s H (.tup ds)) E s:=
 h.listE λa vs n j m c f=>call_tuple_list (aX j) (λh' b=>have b:=Heap.gt_up b;⟨.mk _ _ _ λZ Z q=>Heap.gt_push_of_some _ (b _ _ q),.mk (Heap.get?_push_size _ QQ) (i.keeps b).fresh c (f.keeps λZ Z q=>Heap.gt_push_of_some _ (b _ _ q))⟩) (f.size.symm▸c)
theorem blt1_snd{f:vV}{x:vU}{a d:D}(o:A.handled=wa)(j:Rep w.params s.heap H x a)(m:Ex s.heap H)(he:fZ f [a]=ac d):wpAny (wc B9 w) A (call (cY f) [x]) (bc w s H d) E s:=by
 refine cz (c:=f="len") he (λh he=>h▸len_snd j he) λZ he=>?_
 cases a with
 | int i=>exact j.intE λZ=>bltI_snd m he
 | bool b=>exact aS he λh e=>h▸e▸j.boolE (call_int_bool gL)
 | str x=>exact aS he λh e=>h▸e▸j.strE λZ=>P.str_of_str ⟨Kp.refl _,.mk _⟩
 | list ds=>exact cz he (λh e=>h▸v5 e▸tupL_snd j m) λZ he=>bK he λh he=>br he λk q e=>h▸e▸j.listE λa vs n t y z u=>sum_snd o t u q
 | _=>exact ag he
theorem blt_snd{f:vV}{xs:vR vU}{as:vR D}{d:D}(h:A.handled=wa)(o:am w.params s.heap H xs as)(m:Ex s.heap H)(he:fZ f as=ac d) :
  wpAny (wc B9 w) A (call (cY f) xs) (bc w s H d) E s:=by
 cases as with
 | nil=>exact ag he
 | cons a as=>exact dR.rec (motive:=λxs Z=>wpAny (wc B9 w) A (call (cY f) xs) (bc w s H d) E s) (λ{v vs} h1 n=>by
   cases as with
   | nil=>rw[show vs=[] from n];exact blt1_snd h h1 m he
   | cons b as=>exact dR.rec (motive:=λvs Z=>wpAny (wc B9 w) A (call (cY f) (v::vs)) (bc w s H d) E s) (λ{u q} c t=>by
     cases as with
     | nil=>rw[show q=[] from t];exact cI (C:=λa=>Rep w.params s.heap H v a->_) he (λi he h1=>cI (C:=λb=>Rep w.params s.heap H u b->_) he (λj he c=>h1.intE λZ=>c.intE λZ=>bltI2_snd h m he) c) h1
     | cons=>exact ag he) n) o
theorem reps_keys{P:wT}{h:Heap}{vs:vR vU}{cs:vR CK}(a:vs.length=cs.length)(b:∀ (j:Nat) (v:vU),vs[j]?=ac v->∃ k,cs[j]?=ac k/\CK.is k v=vT):am P h H vs (cs.map a8):=by
 induction cs generalizing vs with
 | nil=>exact yB a
 | cons c cs f=>cases vs with
  | nil=>cases a
  | cons v vs=>exact .mk ((b 0 v QQ).elim λk q=>vf (v5 q.1▸q.2)) (f (yv a) λj i e=>b (j+1) i e)
theorem lst_snd{x:vU}{a:D}{ds:vR D}(J:A.handled=wa)(o:Rep w.params s.heap H x a)(u:Ex s.heap H)(he:rS a=ac ds) :
  wpAny (wc B9 w) A (call (.type "list") [x]) (bV w s H (.list ds) vT) E s:=by
 cases a with
 | tup es=>exact v5 he▸o.tupE λa vs n t L b h=>call_list_seq _ (.inr QQ) t QQ QQ (λh' B i f=>iO u b h (Heap.gt_up i) f) (h.size.symm▸b)
 | list es=>exact v5 he▸o.listE λa vs n t L b h=>call_list_seq _ (.inl QQ) t QQ QQ (λh' B i f=>iO u b h (Heap.gt_up i) f) (h.size.symm▸b)
 | dict ks vs=>
  refine aS he λM e=>e▸?_
  have m:ks.length<=big:=nU.rec (motive:=λZ Z=>ks.length<=big) (λZ Z b Z Z Z Z Z Z=>b) o
  refine jZ (B9:=B9) o M λa es n y C t f T N b Z=>?_
  obtain⟨ep,O⟩:=f.dictAt;have G:(y.zip (es.toList.map (·.val))).length=y.length:=by rw[zx,<- b,Au]
  have z:ks.length=y.length:=by rw[C,v9]
  refine PySem.W.kdl_call (PySem.W.kdl_dict N) J O (by rw[G,<- z];exact v6 m (by decide)) λh' tk I B i f c=>?_
  exact iO u m (C▸reps_keys (by rw[wN,c.1,G]) λj v e=>(c.2 j v (by rw[<- xE];exact e)).elim λk q=>q.elim λx q=>⟨k,(List.getElem?_zip_eq_some.mp q.1).1,q.2⟩) (Heap.gt_up i) f
 | _=>exact ag he
end
section
variable {B9:wq} {w:wy} {A:wt} {E:vU->vZ->Prop} {s:vZ}
theorem iter_keys{d:v8}{es:wA y1}{ep:Nat}{Q:vU->vZ->Prop}(c:(d == zJ)=vP)(a:s.heap.get? d=ac (lL es ep))
  (f:Q (.ref s.heap.objs.size) { s with heap:=s.heap.push { cls:=.type "dict_keyiterator",data:=.fields #[.ref d,.int 0 0,.int es.size 0,.int ep 0] } }):wpAny (wc B9 w) A (zY (.ref d)) Q E s:=by
 have b:s.TypeIs (.ref d) "dict":=⟨_,a,QQ⟩;refine zS b F.slot_dict_iter (xJ F.slot_dict_iter b F.entry_dict_iter ?_ (F.args_dict_iter_1 _));unfold xT.«dict.__iter__» Builtin.Dict.dictSlotNone Builtin.Dict.showsAll;refine vX (vX (wpAny_notOrdered_dict b (we ?_)));refine vX (we ?_);dsimp only;rw[wo (by rw[c];exact wO)]
 refine vX (we (vX (wpAny_dictEntries a QQ (vX (wpAny_dictEpoch a QQ ?_)))));exact vX (xh (we ⟨_,QQ,"dict_keyiterator",_,⟨_,Heap.get?_push_size _ QQ,QQ⟩,F.slot_dict_keyiterator_next.lookup,f⟩))
theorem om{f d:v8}{i ep:Nat}{es:wA y1}{Q:vY vU->vZ->Prop}(z:A.handled=wa)(c:s.heap.IsKeyIter f d i es.size ep)(n:s.heap.get? d=ac (lL es ep))
  (h1:∀ (G:i<es.size) h',h'.IsKeyIter f d (i+1) es.size ep->Heap.SameBut f s.heap h'->Q (ac es[i].key) { s with heap:=h' })
  (B:es.size<=i->∀ h',Heap.ExtBut f s.heap h'->Q wa { s with heap:=h' }):wpAny (wc B9 w) A (yP (.ref f)) Q E s:=by
 obtain⟨o,y,C,q⟩:=id c;unfold yP;refine vX (zs (yC (name:=vQ "__next__") c.typeIs F.slot_dict_keyiterator_next
  (xJ F.slot_dict_keyiterator_next c.typeIs F.entry_dict_keyiterator_next ?_ (F.args_dict_keyiterator_next_1 _))))
 refine vX (we (vX (vX ?_)))
 first | refine vX (ze c.typeIs (we ?_)) | refine vX (zC c.typeIs (we ?_))
 refine vX (wpAny_fieldsOf y q ?_);have t:Builtin.Dict_items.ownsTuple "dict_keyiterator"=vP:=by decide
 simp only[t,yI,zb];show wpAny _ _ (if (Value.ref d == Value.none)=vT then _ else _) _ _ s
 rw[wo (show ¬ ((Value.ref d == Value.none)=vT) from wO)];refine vX (we (vX (wpAny_dictEntries n QQ ?_)));rw[wo (by simp)]
 refine vX (we (vX (wpAny_dictEpoch n QQ ?_)));rw[wo (by simp)]
 refine we ?_
 by_cases j:i<es.size
 ·simp only[show ¬ ((i:Int)<0) from by exact rP,zb,yz,Array.getElem?_eq_getElem j]
  refine vX ?_
  first | refine vX (ze c.typeIs (we ?_)) | refine vX (zC c.typeIs (we ?_))
  refine vX (wpAny_isOneOf_keyiter c.typeIs ?_);show wpAny _ _ (zD (.ref f) 1 (yc ((i:Int)+1)) >>= _) _ _ s;refine vX (zh y q (by simp) ?_)
  have h:(s.heap.update f (Obj.mapFields (·.setIfInBounds 1 (yc ((i:Int)+1))))).IsKeyIter f d (i+1) es.size ep:=
   ⟨_,Heap.get?_update_self _ y (Obj.isFreed_of_fields (Obj.data_mapFields q _)),(Obj.cls_mapFields ..).trans C,by rw[Obj.data_mapFields q];simp[yc]⟩
  refine vX (yk ?_);refine vX (wpAny_isOneOf_keyiter (s:={ s with heap:=s.heap.update f (Obj.mapFields (·.setIfInBounds 1 (yc ((i:Int)+1)))) }) h.typeIs ?_)
  show wpAny _ _ (pure es[i].key) _ _ _;exact we (we ⟨_,QQ,we (h1 j _ h (Heap.SameBut.update ..))⟩)
 ·have u:es.size<=i:=by exact om66 j
  simp only[show ¬ ((i:Int)<0) from by exact rP,zb,yz,zZ u]
  refine vX ?_
  first | refine vX (ze c.typeIs (we ?_)) | refine vX (zC c.typeIs (we ?_))
  show wpAny _ _ (zD (.ref f) 0 .none >>= _) _ _ s;refine vX (zh y q (by simp) ?_)
  show wpAny _ _ (AT (.type "StopIteration") [] >>= _) _ _ _;refine vX ?_;simp only[AT,newTuple];refine vX (xh ?_ (by size_fits))
  refine vX (m:=zj _ _) (yr (a:=Value.none) (by first | rfl | (simp only[zj];rfl)) ?_)
  refine xh ?_ (by size_fits)
  simp only[Bq];refine vX (wpAny_handled ?_);rw[show A.in1.handled=wa from z];refine vX (we (wpAny_throw ?_));refine vX (zo (T:="StopIteration") (b:=vT) ⟨_,Heap.get?_push_size _ QQ,QQ⟩ isSubtype_stop ?_);exact we (B u _ (((Heap.SameBut.update ..).extBut.push _).push _))
theorem walks_keys(t:A.handled=wa)(I d:v8)(n:d≠I)(es:wA y1)(ep:Nat) :
  zp B9 w A I [I,d] [I] es.size (λi v=>(es.toList.map (·.key))[i]?=ac v) (λi h=>h.IsKeyIter I d i es.size ep/\h.get? d=ac (lL es ep)) where
 sub:=λb a=>by simp at a;simp[a]
 frame:=λZ Z Z st u=>⟨st.1.at λo e=>u I (by simp) o e,u d (by simp) _ st.2⟩
 item:=λi s Q E m st c=>om t st.1 st.2 (λZ h' f j=>c _ h' s.toks (by simp[m]) ⟨f,(j.2 d n).trans st.2⟩ λb o a e=>j.extBut b o (λh=>a (by simp[h])) e) λh=>wI m (om67 h)
 done:=λs Q E st c=>om t st.1 st.2 (λm=>wI m (xl _)) λZ h' q=>c h' s.toks λb o a e=>q b o (λh=>a (by simp[h])) e
 self:=λZ Z Z Z st c=>wpAny_pyIter_keyiter st.1 c
end
section
variable {B9:wq} {w:wy} {A:wt} {E:vU->vZ->Prop} {s:vZ} {H H':v8->Prop}
inductive oP(B9:wq)(w:wy)(A:wt)(h:Heap)(H:v8->Prop)(BK:vR D)(I:v8)(BQ:Heap):Prop
 | mk {fp P St} (W:zp B9 w A I fp [I] BK.length P St) (st:St 0 BQ) (fpo:∀ b∈fp,b=I\/(¬ H b/\∃ o,gat h b=ac o)) (item:∀ i v,i<BK.length->P i v->∃ d,BK[i]?=ac d/\Rep w.params h H v d) (live:∀ i h,St i h->∃ o,gat h I=ac o) (tab:∀ b∈fp,∀ i h o,St i h->h.get? b=ac o->bn o=vP)
structure IterAt(B9:wq)(w:wy)(A:wt)(BU:vZ)(H:v8->Prop)(BK:vR D)(I:v8)(B2:vZ):Prop where
 keeps:bj BU B2
 fresh:gat BU.heap I=wa
 ex:∃ o,gat B2.heap I=ac o
 walk:oP B9 w A BU.heap H BK I B2.heap
inductive nL(B9:wq)(w:wy)(A:wt)(s:vZ)(H:v8->Prop)(BK:vR D):vU->vZ->Prop
 | mk {I B2} (q:IterAt B9 w A s H BK I B2):nL B9 w A s H BK (.ref I) B2
section
variable {n:Nat}{St:Nat->Heap->Prop}{h:Heap}
theorem dA{I:v8}{fp f:vR v8}{P:Nat->vU->Prop}(W:zp B9 w A I fp f n P St)(c:∀ b∈fp,∀ i h o,St i h->h.get? b=ac o->bn o=vP)
  (i:Nat) (h h':Heap) (st:St i h) (j:∀ b∈fp,∀ o,gat h b=ac o->gat h' b=ac o):St i h':=
 W.frame i h h' st λb a o e=>Heap.of_gt (j b a o (Heap.gt_of e (c b a i h o st e))) (c b a i h o st e)
theorem iK{I:v8}{fp:vR v8}{P:Nat->vU->Prop}(W:zp B9 w A I fp [I] n P St)(c:∀ b∈fp,∀ i h o,St i h->h.get? b=ac o->bn o=vP)
  {i:Nat} {h h':Heap} (st:St i h) (f:∀ b o,b ∉ [I]->h.get? b=ac o->h'.get? b=ac o):∀ b o,b ∉ [I]->gat h b=ac o->gat h' b=ac o:=
 Heap.gt_lift (λb o e a q=>by rw[c b (W.sub b q) i h o st e] at a;cases a) f
theorem eP{α:Type}{a b x:α}{C:Prop}(h:x∈[a,b])(h1:x=a->C)(c:x=b->C):C:=(wf.mp h).elim h1 λh=>c (wl.mp h)
theorem dB{o:Obj}{T:vV}(h:o.cls=.type T)(a:T≠"code"):bn o=vP:=notTab_cls (by rw[h];nofun) λe=>a (Value.type.inj (h.symm.trans e))
theorem eX{a:v8}{o b:Obj}(e:h.get? a=ac o)(c:h.get? a=ac b)(f:bn o=vP):bn b=vP:=v5 (e.symm.trans c)▸f
theorem sY{P:wT}{vs:wA vU}{ds:vR D}(b:am P h H vs.toList ds){i:Nat}{v:vU}(a:i<ds.length)(c:vs[i]?=ac v):∃ d,ds[i]?=ac d/\Rep P h H v d:=
 (b.get i (wj a)).elim λf q=>⟨_,wj a,v5 (q.1.symm.trans (xE.trans c))▸q.2⟩
theorem qA{T T':vV}{a I:v8}{mkO:wA vU->Nat->Obj}{vs:wA vU}{ds:vR D}{BQ:Heap}{P:Nat->vU->Prop}(W:zp B9 w A I [I,a] [I] vs.size P St)(st:St 0 BQ)(j:am w.params h H vs.toList ds)(s:h.get? a=ac (mkO vs n))(t:bn (mkO vs n)=vP)(u:¬ H a)
  (y:∀ i v,P i v->vs[i]?=ac v) (h1:∀ i h,St i h->∃ o,h.get? I=ac o/\o.cls=.type T) (B:∀ i h,St i h->∃ o,h.get? a=ac o/\o.cls=.type T') (m:T≠"code") (c:T'≠"code"):oP B9 w A h H ds I BQ:=
 ⟨j.size▸W,st,λb f=>eP f .inl λe=>.inr (e▸⟨u,_,Heap.gt_of s t⟩),λi v C E=>sY j C (y i v E),λi h st=>(h1 i h st).elim λo q=>⟨o,Heap.gt_of q.1 (dB q.2 m)⟩,
  λb f i h o st e=>eP f (λq=>(h1 i h st).elim λG z=>eX (q▸z.1) e (dB z.2 m)) λq=>(B i h st).elim λG z=>eX (q▸z.1) e (dB z.2 c)⟩
theorem iter_rng{lo c:Int}{x:vU}(z:Rep w.params s.heap H x (.rng lo c))(B:A.handled=wa):wpAny (wc B9 w) A (zY x) (nL B9 w A s H ((wR (c - lo).toNat).map λ(i:Nat)=>D.int (lo+(i:Int)))) E s:=
 RRng.rec (motive:=λx Z=>wpAny (wc B9 w) A (zY x) (nL B9 w A s H ((wR (c - lo).toNat).map λ(i:Nat)=>D.int (lo+(i:Int)))) E s) (λ{a t u v} C G j=>by
  have m:Builtin.Range.small lo c 1=vT:=by
   unfold big at j;exact small_one (om68 j) (om69 j) (om70 j) (om71 j)
  have n:Builtin.Range.rangeSize lo c 1=((c - lo).toNat:Int):=by
   rw[rangeSize_one];split <;> omega
  have f:((wR (c - lo).toNat).map λ(i:Nat)=>D.int (lo+(i:Int))).length=(c - lo).toNat:=by rw[v9,xo]
  refine wpAny_pyIter_range C m ⟨Kp.push _ _,b0 _,⟨_,Heap.gt_push_size _ QQ⟩,f.symm▸Walks.range B s.heap.objs.size lo 1 (c - lo).toNat,?ga,λb y=>.inl (wl.mp y),λi v c q=>q.elim λt e=>⟨.int (lo+i),?gb,?gc⟩,λi h e=>⟨_,Heap.gt_of e⟩,λb y i h o e1 e=>?gd⟩
  case ga=>
   show Heap.get? _ _=_;rw[Heap.get?_push_size _ rfl,n];simp[yc]
  case gb=>
   rw[f] at c;rw[xL,List.getElem?_range c];rfl
  case gc=>
   rw[e,Int.mul_one];exact .mk _
  case gd=>
   rw[wl.mp y] at e;exact eX e1 e QQ) z
theorem ig{x:vU}{d:D}{BK:vR D}(j:Rep w.params s.heap H x d)(m:A.handled=wa)(he:d.items=ac BK) :
  wpAny (wc B9 w) A (zY x) (nL B9 w A s H BK) E s:=by
 cases d with
 | tup ds=>exact v5 he▸j.tupE λa vs n c f B t=>wpAny_pyIter_tuple (du c) ⟨Kp.push _ _,b0 _,⟨_,Heap.gt_push_size _ QQ⟩,qA (T:="tuple_iterator") (T':="tuple") (mkO:=dm) (Walks.tuple m s.heap.objs.size a (wU (Heap.lt_size c)) vs) ⟨⟨_,Heap.get?_push_size _ QQ,QQ,QQ⟩,(du c).push _⟩ t c QQ f (λZ Z h=>h)
   (λi h st=>st.1.elim λo q=>⟨o,q.1,q.2.1⟩) (λi h st=>st.2.elim λo q=>⟨o,q.1,q.2.1⟩) (by decide) (by decide)⟩
 | list ds=>exact v5 he▸j.listE λa vs n c f B t=>wpAny_pyIter_list (aX c) ⟨Kp.push _ _,b0 _,⟨_,Heap.gt_push_size _ QQ⟩,qA (T:="list_iterator") (T':="list") (mkO:=fF) (Walks.list m s.heap.objs.size a (wU (Heap.lt_size c)) vs) ⟨⟨_,Heap.get?_push_size _ QQ,QQ,QQ⟩,(aX c).push _⟩ t c QQ f (λZ Z h=>h)
   (λi h st=>st.1.elim λo q=>⟨o,q.1,q.2.1⟩) (λi h st=>st.2.elim λo q=>⟨o,q.1,q.2.1⟩) (by decide) (by decide)⟩
 | dict ks vs=>
  refine v5 he▸nU.rec (motive:=λx Z=>wpAny (wc B9 w) A (zY x) (nL B9 w A s H ks) E s) (λ{a es n} c f B h1 J C L M G=>?_) j
  have e:es.size=ks.length:=by have:=h1.length;rwa [v9,wN] at this
  refine iter_keys G c ⟨Kp.push _ _,b0 _,⟨_,Heap.gt_push_size _ QQ⟩,e▸walks_keys m s.heap.objs.size a (wU (Heap.lt_size c)) es n,⟨⟨_,Heap.get?_push_size _ QQ,QQ,by rw[<- e];rfl⟩,Heap.get?_push_of_some _ c⟩,
   λb u=>eP u .inl λe=>.inr (e▸⟨f,_,Heap.gt_of c⟩),λi v y I=>(h1.get i (wj y)).elim λN q=>⟨_,wj y,v5 (q.1.symm.trans (show (es.toList.map (·.key))[i]?=ac v from I))▸q.2⟩,
   λi h st=>st.1.elim λo q=>⟨o,Heap.gt_of q.1 (dB q.2.1 (by decide))⟩,λb u i h o st e=>eP u (λq=>st.1.elim λO z=>eX (q▸z.1) e (dB z.2.1 (by decide))) λq=>eX (q▸st.2) e QQ⟩
 | rng lo y=>exact v5 he▸iter_rng j m
 | _=>exact ag he
end
end
structure AOk(A:wt)(n:Nat):Prop where
 handled:A.handled=wa
 depth:A.depth+2 * n+20<xU
 units:A.units+13 * n+100<yg
structure rA(A A':wt):Prop where
 handled:A'.handled=A.handled
 depth:A'.depth<=A.depth+1
 units:A'.units<=A.units+10
structure nK(A:wt):Prop where
 units:A.units+20<yg
 depth:A.depth+2<xU
theorem nK.u2{A:wt}(r:nK A):A.units+2<yg:=wg (wW (by decide) _) r.units
theorem nK.u1{A:wt}(r:nK A):A.units+1<yg:=wg (wW (by decide) _) r.units
theorem rA.refl(A:wt):rA A A:=⟨QQ,xR _,wB _ _⟩
structure aN(h:Heap)(BM:Env)(m:Str->vY vU):Prop where
 kind:BM.scope.kind=.function
 glob:BM.globals=xj
 blt:BM.builtins=Bh
 loc:∃ ml,h.Ns BM.locals ml/\∀ x,BM.kindOf x=ac .local->ml x=m x
 cell:∀ x,BM.kindOf x=ac .cell\/BM.kindOf x=ac .free->∃ c,BM.cells.lookup x=ac c/\h.IsCell c (m x)
 inj:∀ x y c,BM.cells.lookup x=ac c->BM.cells.lookup y=ac c->x=y
 off:∀ x c,BM.cells.lookup x=ac c->c≠BM.locals
 ex:∀ x c,BM.cells.lookup x=ac c->∃ o,gat h c=ac o
 lam:kH BM.kindOf=vT->BM.code=.ref oc/\BM.qual=lamP
theorem Ns.keepAt{h h':Heap}{a:v8}{m:Str->vY vU}(c:h.Ns a m)(f:∀ o,gat h a=ac o->gat h' a=ac o):h'.Ns a m:=
 let ⟨o,es,ep,ho,hd,r⟩:=c
 have b:bn o=vP:=aO (by rw[hd];nofun)
 ⟨o,es,ep,Heap.of_gt (f _ (Heap.gt_of ho b)) b,hd,r⟩
theorem Cell.keepAt{h h':Heap}{a:v8}{v:vY vU}(c:h.IsCell a v)(f:∀ o,gat h a=ac o->gat h' a=ac o):h'.IsCell a v:=
 let ⟨o,ho,hd⟩:=c
 have b:bn o=vP:=aO (by rw[hd];nofun)
 ⟨o,Heap.of_gt (f _ (Heap.gt_of ho b)) b,hd⟩
theorem aN.keeps{h h':Heap}{BM:Env}{m:Str->vY vU}(R:aN h BM m)(a:KH h h'):aN h' BM m where
 kind:=R.kind
 glob:=R.glob
 blt:=R.blt
 loc:=let ⟨ml,h1,h2⟩:=R.loc;⟨ml,Ns.keepAt h1 (a _),h2⟩
 cell:=λx b=>let ⟨c,h1,h2⟩:=R.cell x b;⟨c,h1,Cell.keepAt h2 (a _)⟩
 inj:=R.inj
 off:=R.off
 ex:=λx c f=>let ⟨o,ho⟩:=R.ex x c f;⟨o,a _ _ ho⟩
 lam:=R.lam
theorem aN.keepsAt{h h':Heap}{BM:Env}{m:Str->vY vU}(R:aN h BM m)(b:∀ a o,(a=BM.locals\/∃ x,BM.cells.lookup x=ac a)->gat h a=ac o->gat h' a=ac o):aN h' BM m where
 kind:=R.kind
 glob:=R.glob
 blt:=R.blt
 loc:=let ⟨ml,h1,h2⟩:=R.loc;⟨ml,Ns.keepAt h1 λo e=>b _ o (.inl QQ) e,h2⟩
 cell:=λx i=>let ⟨c,h1,h2⟩:=R.cell x i;⟨c,h1,Cell.keepAt h2 λo e=>b _ o (.inr ⟨x,h1⟩) e⟩
 inj:=R.inj
 off:=R.off
 ex:=λx c f=>let ⟨o,ho⟩:=R.ex x c f;⟨o,b _ _ (.inr ⟨x,f⟩) ho⟩
 lam:=R.lam
section
variable {M:Ab} {A:wt} {E:vU->vZ->Prop} {s:vZ}
theorem ew{BM:Env}{m:Str->vY vU}{x:Str}{v:vU}{pos:Pos}{Q:vU->vZ->Prop}(R:aN s.heap BM m)(b:ez BM.kindOf x=vT)(f:m x=ac v)(h:Q v s) :
  wpAny M A (wM (.Name x pos) BM) Q E s:=by
 unfold ez at b;simp only[yl,AA,yx,zL] at b;obtain⟨⟨⟨hk,n⟩,o⟩,_⟩:=b;have i:(x == ("__debug__":Str))=vP:=by simpa using n
 have j:(x == ("__classdict__":Str))=vP:=by simpa using o
 refine wpAny_Name ?_ i
 rcases hk with (hk | hk) | hk
 ·obtain⟨q,h1,a⟩:=R.loc
  exact wpAny_loadName_local R.kind hk h1 ((a x hk).trans f) h
 ·obtain⟨c,h1,a⟩:=R.cell x (.inl hk)
  exact wpAny_loadName_cell R.kind hk h1 (f▸a) h
 ·obtain⟨c,h1,a⟩:=R.cell x (.inr hk)
  exact wpAny_loadName_free R.kind hk h1 (f▸a) h j
noncomputable def upd(m:Str->vY vU)(x:Str)(v:vU):Str->vY vU:=λy=>if y=x then ac v else m y
theorem n8{BM:Env}{m:Str->vY vU}{x:Str}{v:vU}{Q:Unit->vZ->Prop}(R:aN s.heap BM m)(j:BM.kindOf x=ac .local)
  (h:∀ h' tk dw,aN h' BM (upd m x v)->Heap.SB BM.locals s.heap h'->Q () { s with heap:=h',toks:=tk,drawn:=dw }) :
  wpAny M A (storeName BM x v) Q E s:=by
 obtain⟨z,h1,u⟩:=R.loc;refine wpAny_storeName_local j h1 (λh' n b=>have f:Heap.SB BM.locals s.heap h':=⟨b,dC h1,dC n⟩;h h' _ s.drawn ⟨R.kind,R.glob,R.blt,⟨_,n,λy a=>?_⟩,λy a=>?_,R.inj,R.off,λy c q=>let ⟨o,ho⟩:=R.ex y c q;⟨o,(f.g c (R.off y c q)).trans ho⟩,R.lam⟩ f) (by rw[R.kind];rfl)
 ·unfold upd;by_cases e:y=x
  ·simp[e]
  ·simp[e,u y a]
 ·obtain⟨c,t,w⟩:=R.cell y a
  have i:y≠x:=by rintro rfl;rw[j] at a;simp at a
  refine⟨c,t,?_⟩;unfold upd;rw[wo i];exact w.sameBut f.s (R.off y c t)
theorem iM{BM:Env}{m:Str->vY vU}{x:Str}{v:vU}{Q:Unit->vZ->Prop}(R:aN s.heap BM m)(G:BM.kindOf x=ac .local\/BM.kindOf x=ac .cell)
  (h:∀ h' tk dw a,aN h' BM (upd m x v)->(a=BM.locals\/BM.cells.lookup x=ac a)->Heap.SB a s.heap h'->Q () { s with heap:=h',toks:=tk,drawn:=dw }) :
  wpAny M A (storeName BM x v) Q E s:=by
 rcases G with hk | hk
 ·exact n8 R hk λh' tk dw H b=>h h' tk dw BM.locals H (.inl QQ) b
 ·obtain⟨c,f,C⟩:=R.cell x (.inl hk)
  refine wpAny_storeName_cell R.kind hk f C λh' t u=>have b:Heap.SB c s.heap h':=⟨u,ie C,ie t⟩;h h' s.toks s.drawn c ⟨R.kind,R.glob,R.blt,?_,λy j=>?_,R.inj,R.off,λy i w=>?_,R.lam⟩ (.inr f) b
  ·obtain⟨I,h1,J⟩:=R.loc
   refine⟨I,h1.sameBut b.s (λe=>R.off x c f e.symm),λy j=>?_⟩
   have z:y≠x:=by rintro rfl;rw[hk] at j;simp at j
   unfold upd;rw[wo z];exact J y j
  ·obtain⟨i,n,L⟩:=R.cell y j
   by_cases e:y=x
   ·subst e
    rw[f] at n;cases n;exact⟨c,f,by simpa [upd] using t⟩
   ·refine⟨i,n,?_⟩
    unfold upd;rw[wo e];exact L.sameBut b.s λq=>e (R.inj y x i n (q▸f))
  ·by_cases e:i=c
   ·obtain⟨o,B⟩:=l7 t;exact⟨_,e▸B⟩
   ·obtain⟨o,B⟩:=R.ex y i w;exact⟨o,(b.g i e).trans B⟩
noncomputable def e9(cells:vR (Str×v8)):vR (Str×yw)->vR (Str×v8)->vR (Str×v8)
 | [],a=>a
 | (n,k)::r,a=>if k == .free then (match cells.lookup n with | some c=>e9 cells r ((n,c)::a) | none=>e9 cells r a) else e9 cells r a
theorem jw{BM:Env}(f:Str×yw->vR (Str×v8)->Sem (ForInStep (vR (Str×v8))))
  (b:∀ n k i,f (n,k) i=if k == .free then (do let c <- cellOf BM n;pure (.yield ((n,c)::i))) else pure (.yield i)) :
  ∀ (names:vR (Str×yw)) (acc:vR (Str×v8)),(∀ p∈names,p.2=.free->∃ c,BM.cells.lookup p.1=ac c)->forIn names acc f=pure (e9 BM.cells names acc)
 | [],acc,_=>rfl
 | (n,k)::r,acc,h=>by
  have j:∀ p∈r,p.2=.free->∃ c,BM.cells.lookup p.1=ac c:=λp o=>h p (xe _ o)
  rw[By,b];unfold e9
  by_cases a:(k == NameKind.free)=vT
  ·obtain⟨c,m⟩:=h (n,k) wE (by simpa using a)
   rw[wh a,wh a];unfold cellOf;simp only at m;rw[m];simp only[pure_bind];exact jw f b r _ j
  ·rw[wo a,wo a,pure_bind]
   exact jw f b r _ j
theorem jf{BM:Env}{scope:xZ}(h:∀ p∈scope.names,p.2=.free->∃ c,BM.cells.lookup p.1=ac c):closureFor scope BM=pure (e9 BM.cells scope.names []):=by
 unfold closureFor;simp only[];rw[jw (BM:=BM) _ (λn k b=>by
  by_cases a:(k == NameKind.free)=vT <;> simp[a]) scope.names [] h]
 rfl
theorem aL{α:Type}(x n:Str)(c:α)(l:vR (Str×α)):((n,c)::l).lookup x=if x=n then ac c else l.lookup x:=by
 rw[wk]
 by_cases h:x=n
 ·simp[h]
 ·have:(x == n)=vP:=by simpa using h
  simp[h,this]
theorem e8{cells:vR (Str×v8)}:∀ (names:vR (Str×yw)) (acc:vR (Str×v8)),(∀ x c,acc.lookup x=ac c->cells.lookup x=ac c) ->
  ∀ x c,(e9 cells names acc).lookup x=ac c->cells.lookup x=ac c
 | [],acc,h=>h
 | (n,k)::r,acc,h=>by
  unfold e9
  split
  ·cases a:cells.lookup n with
   | none=>exact e8 r acc h
   | some c=>
    refine e8 r _ λx b e=>?_
    rw[aL] at e;split at e
    ·rename_i q;cases e;rw[q];exact a
    ·exact h x b e
  ·exact e8 r acc h
theorem j8{cells:vR (Str×v8)}:∀ (names:vR (Str×yw)) (acc:vR (Str×v8)) (x:Str) (c:v8),(e9 cells names acc).lookup x=ac c->(x,NameKind.free)∈names\/acc.lookup x=ac c
 | [],acc,x,c,h=>.inr h
 | (n,k)::r,acc,x,c,h=>by
  unfold e9 at h;split at h
  ·rename_i f
   have a:k=.free:=by simpa using f
   subst a;cases b:cells.lookup n with
   | none=>rw[b] at h;exact (j8 r acc x c h).imp (.tail _) id
   | some i=>
    rw[b] at h
    rcases j8 r _ x c h with e | e
    ·exact .inl (.tail _ e)
    ·rw[aL] at e
     split at e
     ·rename_i q;exact .inl (q▸.head _)
     ·exact .inr e
  ·exact (j8 r acc x c h).imp (.tail _) id
theorem fW{cells:vR (Str×v8)}{x:Str}{c:v8}(a:cells.lookup x=ac c):∀ (names:vR (Str×yw)) (acc:vR (Str×v8)),
  ((x,NameKind.free)∈names\/acc.lookup x=ac c)->(e9 cells names acc).lookup x=ac c
 | [],acc,h=>h.elim (λe=>nomatch e) id
 | (n,k)::r,acc,h=>by
  unfold e9
  split
  ·cases b:cells.lookup n with
   | none=>
    refine fW a r acc (h.imp (λe=>?_) id)
    rcases wf.mp e with e | e
    ·cases e;rw[a] at b;cases b
    ·exact e
   | some i=>
    refine fW a r _ ?_
    rcases h with e | e
    ·rcases wf.mp e with e | e
     ·cases e;rw[a] at b;cases b
      exact .inr (by rw[aL,wh rfl])
     ·exact .inl e
    ·rw[aL]
     split
     ·rename_i q;rw[<- q,a] at b;cases b;exact .inr QQ
     ·exact .inr e
  ·rename_i f
   refine fW a r acc (h.imp (λe=>?_) id)
   rcases wf.mp e with e | e
   ·cases e;simp at f
   ·exact e
theorem bF:∀ (names:vR (Str×yw)) (n:Nat) (acc:vR (Str×v8)),xt n names acc=xt n names []++acc
 | [],_,_=>rfl
 | (x,k)::r,n,acc=>by
  unfold xt
  split
  ·rw[bF r (n+1) ((x,n)::acc),bF r (n+1) [(x,n)]];simp
  ·exact bF r n acc
theorem fK:∀ (names:vR (Str×yw)) (n:Nat) (x:Str) (c:v8),(x,c)∈xt n names []->(x,NameKind.cell)∈names/\n<=c
 | [],_,_,_,h=>nomatch h
 | (y,k)::r,n,x,c,h=>by
  unfold xt at h;split at h
  ·rename_i b
   rw[bF] at h
   rcases xa.mp h with h | h
   ·obtain⟨h1,a⟩:=fK r (n+1) x c h
    exact⟨.tail _ h1,by exact om72 a⟩
   ·simp only[wf,wG,xx,Prod.mk.injEq] at h
    obtain⟨rfl,rfl⟩:=h;have:k=.cell:=by simpa using b
    subst this;exact⟨.head _,wF _⟩
  ·obtain⟨h1,a⟩:=fK r n x c h
   exact⟨.tail _ h1,a⟩
theorem en:∀ (names:vR (Str×yw)) (n:Nat) (x:Str),(x,NameKind.cell)∈names->∃ c,(x,c)∈xt n names []
 | (y,k)::r,n,x,h=>by
  unfold xt
  rcases wf.mp h with e | e
  ·cases e
   simp only[wH,AN];rw[bF];exact⟨n,xP _ (wl.mpr QQ)⟩
  ·split
   ·obtain⟨c,a⟩:=en r (n+1) x e
    rw[bF];exact⟨c,yy _ a⟩
   ·exact en r n x e
theorem dq{α:Type}:∀ {l:vR (Str×α)} {x:Str} {c:α},(x,c)∈l->∃ b,l.lookup x=ac b
 | (y,d)::r,x,c,h=>by
  rw[aL]
  split
  ·exact⟨_,QQ⟩
  ·rename_i a
   rcases wf.mp h with e | e
   ·cases e;exact wI QQ a
   ·exact dq e
theorem gy{α:Type}(x:Str):∀ (l a:vR (Str×α)),(l++a).lookup x=(l.lookup x).or (a.lookup x)
 | [],a=>by simp
 | (y,c)::r,a=>by
  rw[Ad,aL,aL,gy x r a]
  split <;> simp
end
theorem mJ{α a:Type}(g:Str->α->a)(x:Str):∀ (l:vR (Str×α)),(l.map λp=>(p.1,g p.1 p.2)).lookup x=(l.lookup x).map (g x)
 | []=>rfl
 | (y,c)::r=>by
  rw[wx,aL,aL,mJ g x r]
  split
  ·rename_i h;subst h;rfl
  ·rfl
theorem jR(k:KD)(scope:xZ)(x:Str):dL k scope x=(scope.names.lookup x).map λq=>if q == .free&&k x == ac .cell then .cell else q:=by
 unfold dL;rw[<- mJ (λn q=>if q == NameKind.free&&k n == ac .cell then NameKind.cell else q) x scope.names]
 congr 1
 refine yD λp Z=>?_
 by_cases h:(p.2 == NameKind.free&&k p.1 == ac .cell)=vT
 ·simp[h]
 ·simp[h]
theorem gu{BM:Env}{scope:xZ}(c:BM.scope.kind=.function):(λx=>(zM scope BM).names.lookup x)=dL BM.kindOf scope:=by
 funext x
 unfold zM dL;simp only[c]
 congr 1
 refine yD λp Z=>?_
 obtain⟨a,b⟩:=p;simp
section
variable {M:Ab} {A:wt} {E:vU->vZ->Prop} {s:vZ}
theorem newEnvA{scope:xZ}{globals:v8}{cl:vR (Str×v8)}{qual:Str}{BM:Env}{Q:Env->vZ->Prop}
  (h:Q { scope,locals:=s.heap.objs.size,globals,cells:=xt (s.heap.objs.size+1) scope.names cl,qual,func:=wa,code:=BM.code,frame:=BM.frame,builtins:=BM.builtins }
   {s with heap:=AU (s.heap.push { cls:=.type "dict",data:=.dict #[] }) scope.names }) :
  wpAny M A (newFunctionEnv scope globals cl [] qual wa .none (ac BM)) Q E s:=by
 simp only[newFunctionEnv,Option.isSome_some,AN];refine vX (wpAny_alloc ?_);refine vX (wpAny_layCells _ (λname kind cells=>by cases a:kind == NameKind.cell <;> simp[a]) _ _ _ _ ?_)
 rw[show ({ s with heap:=s.heap.push { cls:=.type "dict",data:=.dict #[] } }:vZ).heap.objs.size=s.heap.objs.size+1 from Heap.size_push ..]
 exact we h
end
theorem lE(h:Heap)(scope:xZ)(o:Obj) :
  CellsOk (AU (h.push o) scope.names) (h.objs.size+1) (xt (h.objs.size+1) scope.names []):=by
 have ok:=cellsFrom_ok scope.names (h.push o) (h.objs.size+1) [] ⟨λZ Z a=>(nomatch a),List.Pairwise.nil⟩ (by rw[Heap.size_push];exact wF _)
 rwa [Heap.size_push] at ok
theorem jm{l:vR (Str×yw)}(a:(l.map (·.1)).Nodup){x:Str}{k:yw}(h:(x,k)∈l):l.lookup x=ac k:=by
 induction l with
 | nil=>nomatch h
 | cons q l b=>
  have a:=xQ.mp a;refine (aL x q.1 q.2 l).trans ((wf.mp h).elim (λe=>by rw[<- e,wh rfl]) λe=>?_)
  rw[wo (show ¬ x=q.1 from λz=>a.1 (show q.1∈l.map (·.1) from z▸xn (f:=(·.1)) e))]
  exact b a.2 e
theorem ee{names:vR (Str×yw)}{cells:vR (Str×v8)}{n:Nat}{x:Str}{c:v8}(f:(names.map (·.1)).Nodup)(a:(xt n names (e9 cells names [])).lookup x=ac c):(x,c)∈xt n names []\/(names.lookup x=ac .free/\cells.lookup x=ac c):=by
 rw[bF,gy] at a;cases b:(xt n names []).lookup x with
 | some h=>rw[b] at a;exact .inl (v5 a▸mem_of_lookup b)
 | none=>
  rw[b,Option.none_or] at a;exact .inr ⟨jm f ((j8 names [] _ _ a).elim id λq=>ag q),e8 names [] (λZ Z e=>ag e) x c a⟩
theorem hZ{k:KD}{scope:xZ}{x:Str}{C:Prop}(h:gv k scope x=vT)(c:scope.kind=.function->(scope.names.map (·.1)).Nodup->(scope.names.lookup x=ac .local\/scope.names.lookup x=ac .cell)->(∀ p∈scope.names,p.2=.free->k p.1=ac .cell\/k p.1=ac .free)->(∀ p∈scope.names,((p.2=.free\/p.2=.globalImplicit)\/p.1=x)\/p.1=vQ ".0")->kH (dL k scope)=vP->C):C:=by
 refine and6 h λh1 b f i j m=>c (eq_of_beq h1) (xu b) ((yh.mp f).imp eq_of_beq eq_of_beq) (λp a e=>?_) (λp a=>?_) (by simpa using m)
 ·have q:=wQ.mp i p a
  rw[e,bne_self_eq_false,Bool.false_or] at q;exact (yh.mp q).imp eq_of_beq eq_of_beq
 ·have q:=wQ.mp j p a
  simpa only [AA,yx] using q
theorem own_none{names:vR (Str×yw)}{n:Nat}{x:Str}(a:(names.map (·.1)).Nodup)(b:names.lookup x=ac .free):(xt n names []).lookup x=wa:=by
 cases f:(xt n names []).lookup x with
 | none=>rfl
 | some c=>exact nomatch b.symm.trans (jm a (fK _ _ _ _ (mem_of_lookup f)).1)
theorem kindC_free{k:KD}{scope:xZ}{x:Str}(h:scope.names.lookup x=ac .free):dL k scope x≠ac .local:=by
 rw[jR,h];show ac (if _ then _ else _)≠_
 split <;> nofun
theorem kindC_inv{k:KD}{scope:xZ}{x:Str}(h:dL k scope x=ac .cell\/dL k scope x=ac .free):scope.names.lookup x=ac .free\/scope.names.lookup x=ac .cell:=by
 rw[jR] at h;cases a:scope.names.lookup x with
 | none=>rw[a] at h;exact h.elim (λh=>nomatch h) λh=>nomatch h
 | some q=>
  rw[a] at h;have h:ac (if (q == .free&&k x == ac .cell)=vT then NameKind.cell else q)=ac .cell\/ac (if (q == .free&&k x == ac .cell)=vT then NameKind.cell else q)=ac .free:=h
  by_cases b:(q == .free&&k x == ac .cell)=vT
  ·exact .inl (wv ac (eq_of_beq (wm.mp b).1))
  ·rw[wo b] at h;exact h.symm
theorem compEnv_rep{h:Heap}{BM:Env}{m:Str->vY vU}{scope:xZ}{y:Str}(R:aN h BM m)(H:gv BM.kindOf scope y=vT) :
  aN (AU (h.push { cls:=.type "dict",data:=.dict #[] }) scope.names)
   {scope:=zM scope BM,locals:=h.objs.size,globals:=BM.globals,cells:=xt (h.objs.size+1) scope.names (e9 BM.cells scope.names []),qual:=BM.qual,func:=wa,code:=BM.code,frame:=BM.frame,builtins:=BM.builtins }
   (λx=>if scope.names.lookup x=ac .free then m x else wa):=by
 refine hZ H λt i N u Z A=>?_
 have ok:=lE h scope { cls:=.type "dict",data:=.dict #[] };have n:KH h (AU (h.push { cls:=.type "dict",data:=.dict #[] }) scope.names):=λb o e=>Heap.gt_up (pushCells_keeps _ _) b o (Heap.gt_push_of_some _ e)
 have I:∀ x k,(zM scope BM).names.lookup x=k->dL BM.kindOf scope x=k:=λx k e=>(congrFun (gu (scope:=scope) R.kind) x).symm.trans e
 have a:∀ x c,BM.cells.lookup x=ac c->@LT.lt Nat _ c h.objs.size:=λx c B=>(R.ex x c B).elim λo s=>Heap.gt_lt s
 have f:∀ x c,(x,c)∈xt (h.objs.size+1) scope.names []->@LT.lt Nat _ h.objs.size c:=λx c B=>(ok.empty x c B).2
 have j:∀ {x z c} {C:Prop},(x,c)∈xt (h.objs.size+1) scope.names []->BM.cells.lookup z=ac c->C:=λh1 G=>wI (xm (f _ _ h1) (a _ _ G)) (xl _)
 refine⟨t,R.glob,R.blt,⟨λZ=>wa,(Heap.Ns.new h (.type "dict")).keeps (pushCells_keeps _ _),λx J=>?_⟩,λx J=>?_,λx z c h1 G=>?_,λx c h1 e=>?_,λx c h1=>?_,λs=>?_⟩
 ·exact (wo λe=>kindC_free e (I x _ J)).symm
 ·refine (kindC_inv (J.imp (I x _) (I x _))).elim (λe=>?_) λe=>?_
  ·have M:=mem_of_lookup e
   refine (R.cell x (u _ M QQ)).elim λc q=>⟨c,?_,?_⟩
   ·show (xt _ _ _).lookup x=ac c
    rw[bF,gy,own_none i e];exact fW q.1 scope.names [] (.inl M)
   ·rw[wh e];exact Cell.keepAt q.2 (n _)
  ·refine (en scope.names (h.objs.size+1) x (mem_of_lookup e)).elim λc B=>(dq B).elim λL E=>⟨L,?_,?_⟩
   ·show (xt _ _ _).lookup x=ac L
    rw[bF,gy,E];rfl
   ·rw[wo (by rw[e];nofun)]
    exact (ok.empty x L (mem_of_lookup E)).1
 ·exact (ee i h1).elim (λe1=>(ee i G).elim (λw=>name_of_addr ok.apart e1 w) λw=>j e1 w.2) λe1=>(ee i G).elim (λw=>j w e1.2) λw=>R.inj x z c e1.2 w.2
 ·exact (ee i h1).elim (λe1=>xl _ (e▸f x c e1)) λe1=>xl _ (e▸a x c e1.2)
 ·exact (ee i h1).elim (λe1=>l7 (ok.empty x c e1).1) λe1=>(R.ex x c e1.2).elim λo s=>⟨o,n _ _ s⟩
 ·have s:kH (λx=>(zM scope BM).names.lookup x)=vT:=s
  rw[gu R.kind,A] at s;cases s
theorem ed(f:D->vY (vY D))(x:D)(l:vR D):bD f (x::l)=(f x).bind λo=>(bD f l).map λds=>match o with | none=>ds | some d=>d::ds:=by
 show (match f x with | none=>none | some o=>match bD f l with | none=>none | some ds=>_)=_
 cases f x with
 | none=>rfl
 | some o=>cases bD f l <;> rfl
theorem compM_snoc(f:D->vY (vY D))(l:vR D)(x:D):bD f (l++[x])=(bD f l).bind λds=>(f x).map λo=>match o with | none=>ds | some d=>ds++[d]:=by
 induction l with
 | nil=>
  rw[zy,ed];cases f x with
  | none=>rfl
  | some o=>cases o <;> rfl
 | cons y l a=>
  rw[Ad,ed,ed,a];cases f y with
  | none=>rfl
  | some o=>
   cases bD f l with
   | none=>rfl
   | some ds=>
    cases f x with
    | none=>rfl
    | some b=>cases b <;> cases o <;> rfl
theorem compM_pre{f:D->vY (vY D)}{a b:vR D}{out:vR D}(h:bD f (a++b)=ac out):∃ o,bD f a=ac o:=by
 induction a generalizing out with
 | nil=>exact⟨[],QQ⟩
 | cons x a i=>
  rw[Ad,ed] at h;rw[ed];exact fD h λo j h=>br h λds c Z=>(i c).elim λm e=>by rw[j,e];exact⟨_,QQ⟩
theorem oF{f:D->vY (vY D)}{a:vR D}{out:vR D}(h:bD f a=ac out):out.length<=a.length:=by
 induction a generalizing out with
 | nil=>cases h;exact wF _
 | cons x a c=>
  rw[ed] at h;refine fD h λo i h=>br h λds b e=>?_
  subst e;cases o with
  | none=>exact ye (c b)
  | some d=>exact wL (c b)
theorem compM_next{f:D->vY (vY D)}{done B5 out o:vR D}{d:D}(h:bD f (done++d::B5)=ac out)(b:bD f done=ac o):∃ r,f d=ac r/\bD f (done++[d])=ac (match r with | some x=>o++[x] | none=>o):=by
 rw[show done++d::B5=(done++[d])++B5 from Af ..] at h;refine (compM_pre h).elim λc e=>?_
 rw[compM_snoc,b] at e ⊢;refine br e λr a Z=>⟨r,a,?_⟩
 rw[a];cases r <;> rfl
theorem jc{e:wi}{BM:Env}(h:d7 e=vT):∀ x,foldedSetIterable e BM x=pure x:=by
 intro x;cases e with
 | Set=>cases h
 | _=>rfl
theorem gx{e:wi}{op:zn}(h:d7 e=vT):behindInMarks op e=vP:=by
 cases e with
 | Set=>cases h
 | _=>rfl
noncomputable abbrev Mv(c:v8)(h h':Heap):Prop:=∀ b o,b≠c->gat h b=ac o->gat h' b=ac o
section
variable {P:wT} {h1 h h':Heap} {H F:v8->Prop} {c I L:v8}
theorem sO(a:∀ b,F b->gat h1 b=wa)(f:F c)(k:KH h1 h)(m:Mv c h h'):KH h1 h':=λb o e=>m b o (λq=>bv e (q▸a c f)) (k b o e)
theorem ph(a:F c)(m:Mv c h h'){l:vR vU}{ds:vR D}(r:am P h (λb=>H b\/F b) l ds):am P h' (λb=>H b\/F b) l ds:=r.mono (λb o f e=>m b o (λq=>f (.inr (q▸a))) e) λZ Z Z q=>q
noncomputable abbrev FX(F:v8->Prop)(I:v8)(h:Heap):Prop:=∀ b,F b->b≠I->∃ o,gat h b=ac o
theorem uN(m:Mv c h h')(f:c≠I->∃ o,gat h' c=ac o)(i:FX F I h):FX F I h':=λb j a=>(Classical.em (b=c)).elim (λe=>e▸f (e▸a)) λe=>(i b j a).elim λo q=>⟨o,m b o e q⟩
theorem uM(m:Mv c h h')(b:L≠c){ys:wA vU}(a:h.PlainList L ys):h'.PlainList L ys:=a.elim λn e=>⟨n,Heap.of_gt (m L _ b (Heap.gt_of e))⟩
theorem kh_mv(k:KH h h'):Mv c h h':=λb o Z e=>k b o e
theorem uC(s:Heap.SB c h h'):Mv c h h':=λb Z n e=>(s.g b n).trans e
end
section
variable {B9:wq} {w:wy} {A:wt} {E:vU->vZ->Prop} {s:vZ} {H:v8->Prop}
inductive rC(P:wT)(h1:Heap)(H F:v8->Prop)(I L:v8)(BK:vR D)(St:Nat->Heap->Prop)(f:D->vY (vY D))(cenv:Env)(m:Str->vY vU)(free:Str->Prop)(s:vZ)(k:Nat):vZ->Prop
 | mk {h tk dw done B5 o ys mC} (dr:BK=done++B5) (st:St done.length h) (acc:h.PlainList L ys) (out:bD f done=ac o) (rep:am P h (λb=>H b\/F b) ys.toList o) (BM:aN h cenv mC) (fv:∀ x,free x->mC x=m x) (kh:KH h1 h)
  (fx:FX F I h) (kn:k=B5.length+1):rC P h1 H F I L BK St f cenv m free s k { s with heap:=h,toks:=tk,drawn:=dw }
theorem wp_kp{α:Type}{M:Ab}{c:Sem α}{b:α}{X:vZ->Prop}{Q:α->vZ->Prop}(a:wpAny M A c (λok s'=>bj s s'/\ok=b/\X s') E s)(k:∀ h tk dw,KH s.heap h->X { s with heap:=h,toks:=tk,drawn:=dw }->Q b { s with heap:=h,toks:=tk,drawn:=dw }):wpAny M A c Q E s:=
 aR a λok s' q=>bj.rec (motive:=λs' Z=>X s'->Q ok s') (λh tk dw f x=>q.2.1▸k h tk dw f x) q.1 q.2.2
theorem oS{M:Ab}{c:Sem vU}{d:D}{Q:vU->vZ->Prop}(a:wpAny M A c (bc w s H d) E s)(k:∀ v h tk dw,KH s.heap h->Rep w.params h H v d->Q v { s with heap:=h,toks:=tk,drawn:=dw }):wpAny M A c Q E s:=
 aR a λv s' q=>bj.rec (motive:=λs' Z=>Rep w.params s'.heap H v d->Q v s') (λh tk dw b x=>k v h tk dw b x) q.k q.r
noncomputable def vM(B9:wq)(w:wy)(A:wt)(s:vZ)(H:v8->Prop)(BK:vR D)(f:D->vY (vY D))(m:Str->vY vU)(free:Str->Prop)(y:Str)(elt:wi)(i:vR wi)(a:Env):Prop:=
 ∀ (B2:vZ) (j:Str->vY vU) (b:v8->Prop) (v:vU) (dv:D) (r:vY D),dv∈BK->f dv=ac r->aN B2.heap a j->j y=ac v->Rep w.params B2.heap b v dv ->
  (∀ x,free x->j x=m x)->Ex B2.heap b->bj s B2->pQ s.heap H b->∀ n:vU->vZ->Prop,
  wpAny (wc B9 w) A (forIn i vT λc r=>if r=vT then do let ok <- yi c a (wM c a);pure (ForInStep.yield ok) else pure (ForInStep.yield r))
   (λok h=>bj B2 h/\ok=r.isSome/\∀ o,r=ac o->wpAny (wc B9 w) A (wM elt a) (bc w h b o) n h) n B2
structure vO(h1:Heap)(H F:v8->Prop)(I L:v8)(cenv:Env)(y:Str):Prop where
 FI:F I
 FL:F L
 FC:F cenv.locals
 Fy:∀ c,cenv.cells.lookup y=ac c->F c
 nIL:I≠L
 nIC:I≠cenv.locals
 nLC:L≠cenv.locals
 ncell:∀ x c,cenv.cells.lookup x=ac c->c≠L/\c≠I
 Ff:∀ b,F b->gat h1 b=wa
 IC:@LE.le Nat _ I cenv.locals
 hH:Ex h1 H
theorem st_mv{h1 h h':Heap}{F:v8->Prop}{I c:v8}{BK:vR D}{fp:vR v8}{P:Nat->vU->Prop}{St:Nat->Heap->Prop}(W:zp B9 w A I fp [I] BK.length P St)(a:∀ b∈fp,b=I\/(¬ H b/\∃ o,gat h1 b=ac o))(j:∀ b∈fp,∀ i h o,St i h->h.get? b=ac o->bn o=vP)
  (n:∀ b,F b->gat h1 b=wa) (s:F c) (f:c≠I) (m:Mv c h h') {i:Nat} (st:St i h):St i h':=
 dA W j i h h' st λb t o e=>m b o (λq=>(a b t).elim (λz=>f (q▸z)) λz=>z.2.elim λy u=>bv u (q▸n c s)) e
theorem comp_turn{j:Env}{m:Str->vY vU}{free:Str->Prop}{y:Str}{Db:Pos}{elt:wi}{Cu:vR wi}{BK out:vR D}{f:D->vY (vY D)}
  {I L:v8} {fp:vR v8} {P:Nat->vU->Prop} {St:Nat->Heap->Prop} {F:v8->Prop} {h1 h:Heap} {tk:Nat} {dw:zK} {Cv:vU->vZ->Prop}
  (W:zp B9 w A I fp [I] BK.length P St) (Cw:∀ b∈fp,b=I\/(¬ H b/\∃ o,gat h1 b=ac o)) (Dc:∀ i v,i<BK.length->P i v->∃ d,BK[i]?=ac d/\Rep w.params h1 H v d)
  (Cy:∀ b∈fp,∀ i h o,St i h->h.get? b=ac o->bn o=vP) (CT:j.kindOf y=ac .local\/j.kindOf y=ac .cell) (CU:¬ free y) (Z:vO h1 H F I L j y) (Cz:KH s.heap h1)
  (CA:BK.length<=big) (Ce:bD f BK=ac out) (CB:vM B9 w A s H BK f m free y elt Cu j)
  {done B5 o:vR D} {dv:D} {ys:wA vU} {CS:Str->vY vU} {k:Nat} (CC:BK=done++dv::B5) (st:St done.length h) (acc:h.PlainList L ys) (C4:bD f done=ac o) (rep:am w.params h (λb=>H b\/F b) ys.toList o) (BM:aN h j CS) (Dd:∀ x,free x->CS x=m x) (De:KH h1 h) (Df:FX F I h) (Dg:k=(dv::B5).length+1)
  {R:vZ->Prop} :
  wpAny (wc B9 w) A (yP (.ref I)) (λr BU=>match r with
   | none=>R BU
   | some v=>wpAny (wc B9 w) A (assign (.Name y Db) j v) (λBF B2=>
     wpAny (wc B9 w) A (forIn Cu vT λc r=>if r=vT then do let ok <- yi c j (wM c j);pure (ForInStep.yield ok) else pure (ForInStep.yield r)) (λok Cf=>
      if ok=vT then wpAny (wc B9 w) A (wM elt j) (λx CD=>
       wpAny (wc B9 w) A (call (.builtin "list.append") [.ref L,x]) (λBF CE=>∃ m',m'<k/\rC w.params h1 H F I L BK St f j m free s m' CE) Cv CD) Cv Cf
      else ∃ m',m'<k/\rC w.params h1 H F I L BK St f j m free s m' Cf) Cv B2) Cv BU) Cv { s with heap:=h,toks:=tk,drawn:=dw }:=by
 refine Z.rec λC5 CV C6 Dh CG CH CW Y Ct Di Dj=>?_
 clear Z;have Cg:done.length<BK.length:=by rw[CC,wn];exact yd (xH _)
 refine W.item done.length _ _ _ Cg st λv BV Ch CX Ci Cj=>?_
 have CJ:Mv I h BV:=λb o Ca e=>iK W Cy st Cj b o (λq=>Ca (wl.mp q)) e
 have Ck:∀ b,(b=j.locals\/∃ x,j.cells.lookup x=ac b)->b≠I/\b≠L:=λb Ca=>Ca.elim (λe=>e▸⟨CH.symm,CW.symm⟩) λq=>q.elim λx e=>⟨(Y x b e).2,(Y x b e).1⟩
 refine Ba (iM (s:={ s with heap:=BV,toks:=Ch,drawn:=dw }) (BM.keepsAt λa t CL e=>CJ a t (Ck a CL).1 e) CT λBQ G J a u CL Cm=>?_)
 have C7:=Ck a (CL.imp id λe=>⟨y,e⟩)
 have CY:F a:=CL.elim (λe=>e▸C6) (Dh a)
 have CM:=uC Cm;have k2:KH h1 BQ:=sO Ct CY (sO Ct C5 De CJ) CM;have Cb:St (done.length+1) BQ:=st_mv W Cw Cy Ct CY C7.1 CM Ci;have B:FX F I BQ:=uN CM (λBF=>CL.elim (λe=>u.loc.elim λBF q=>e▸qM q.1) λe=>u.ex y a e) (uN CJ (λq=>wI QQ q) Df)
 have CN:dv∈BK:=by rw[CC];exact xP _ (.head _)
 have O:=ph CY CM (ph C5 CJ rep);have T:=uM CM C7.2.symm (uM CJ CG.symm acc);have M:∀ x,free x->upd CS y v x=m x:=λx C8=>(wo (show ¬ x=y from λe=>CU (e▸C8))).trans (Dd x C8)
 have Cn:Ex BQ (λb=>H b\/F b):=λb Ca=>Ca.elim (λq=>(Dj b q).elim λDk z=>z.elim λt z=>⟨Dk,t,z.1,k2 _ _ z.2⟩) λq=>(Classical.em (b=I)).elim (λe=>(B _ C6 CH.symm).elim λt z=>⟨_,t,e▸Di,z⟩) λe=>(B b q e).elim λt z=>⟨b,t,wF _,z⟩
 have CO:pQ h1 H λb=>H b\/F b:=λb t e q=>q.elim id λq=>bv e (Ct b q)
 have Dl:Rep w.params BQ (λb=>H b\/F b) v dv:=(Dc _ v Cg CX).elim λd q=>by
  have e:d=dv:=by
   have e1:=q.1;rw[CC,xG (wF _),AB] at e1;exact (v5 e1).symm
  exact e▸q.2.mono (λb t BF e=>k2 b t e) CO
 have lt:B5.length+1<k:=by rw[Dg];exact yX _
 have CP:BK=(done++[dv])++B5:=CC.trans (Af ..);have C9:(done++[dv]).length=done.length+1:=wn;rw[CC] at Ce;refine (compM_next Ce C4).elim λr q=>wp_kp (s:={ s with heap:=BQ,toks:=G,drawn:=J }) (CB { s with heap:=BQ,toks:=G,drawn:=J } (upd CS y v) (λb=>H b\/F b) v dv r CN q.1 u (wh QQ) Dl M Cn (.mk BQ G J λb t e=>k2 b t (Cz b t e)) (λb t e=>CO b t (Cz b t e)) _) λU Co Cp C CZ=>?_
 have Dn:Mv L BQ U:=kh_mv C;have Cq:St (done.length+1) U:=dA W Cy _ _ U Cb λb BF t e=>C b t e
 cases r with
 | none=>exact⟨B5.length+1,lt,.mk CP (C9▸Cq) (T.elim λn e=>⟨n,Heap.of_gt (C _ _ (Heap.gt_of e))⟩) q.2 (O.keeps C) (u.keeps C) M (λb t e=>C _ _ (k2 b t e)) (λb Ca Cr=>(B b Ca Cr).elim λt e=>⟨t,C _ _ e⟩) QQ⟩
 | some Cs=>
  refine oS (s:={ s with heap:=U,toks:=Co,drawn:=Cp }) (CZ Cs QQ) λx V C0 C1 C3 Dm=>?_
  have X:KH BQ V:=λb t e=>C3 b t (C b t e)
  have E:V.PlainList L ys:=T.elim λn e=>⟨n,Heap.of_gt (X _ _ (Heap.gt_of e))⟩
  refine zO E (λCQ N Cd=>?_) (by
   rw[rep.size];exact xb (wg (oF C4) (wJ Cg CA)))
  have CR:Mv L V CQ:=uC ⟨Cd,E.elim λBF e=>bI e,N.elim λBF e=>bI e⟩
  refine⟨B5.length+1,lt,.mk CP (C9▸st_mv W Cw Cy Ct CV CG.symm CR (dA W Cy _ _ V Cb λb BF t e=>X b t e)) N q.2 ?_ ((u.keeps X).keepsAt λb t Ca e=>CR b t (Ck b Ca).2 e) M (sO Ct CV (λb t e=>X b t (k2 b t e)) CR) (uN CR (λBF=>N.elim λBF e=>⟨_,Heap.gt_of e⟩) λb Ca Cr=>(B b Ca Cr).elim λt e=>⟨t,X _ _ e⟩) QQ⟩
  rw[zg];exact ph CV CR ((O.keeps X).append (.cons Dm QQ))
theorem comp_loop{c:Env}{m z:Str->vY vU}{free:Str->Prop}{y:Str}{Cm pos:Pos}{Cn elt:wi}{B:vR wi}{scope:xZ}{R:Result->vZ->Prop}{BK out:vR D}{f:D->vY (vY D)}
  {I L:v8} {F:v8->Prop} {h1 u:Heap} {T:Nat} {U:zK}
  (Cg:oP B9 w A h1 H BK I u) (V:c.kindOf y=ac .local\/c.kindOf y=ac .cell) (X:¬ free y) (Z:vO h1 H F I L c y)
  (j:u.PlainList L #[]) (Ch:aN u c z) (C:∀ x,free x->z x=m x) (Ci:FX F I u) (E:KH s.heap h1) (G:KH h1 u)
  (t:BK.length<=big) (i:bD f BK=ac out) (J:vM B9 w A s H BK f m free y elt B c)
  (Co:∀ h' tk dw m',h'.Ns c.locals m'->gI w.params h' (λb=>H b\/F b) L out->(KH s.heap h')->R (.ok .next) { s with heap:=h',toks:=tk,drawn:=dw }) :
  Bj (wc B9 w) A (.compLoop (.ListComp elt [⟨.Name y Cm,Cn,B,0⟩] scope pos) 0 (.ref I) (.ref L) c) R { s with heap:=u,toks:=T,drawn:=U }:=by
 refine Cg.rec λ{fp P St} W M Y Cp _ Cj=>?_
 refine codeAny_compLoop_tests (rC w.params h1 H F I L BK St f c m free s) (λk s' q=>?_) (BK.length+1) (.mk (done:=[]) (B5:=BK) (o:=[]) (ys:=#[]) QQ M j QQ QQ Ch C G Ci QQ)
 clear M j Ch C G Ci Cg;refine rC.rec (motive:=λs' BF=>wpAny (wc B9 w) A (yP (.ref I)) _ _ s') (λ{h tk dw done B5 o ys Cv} Ca st N Cb rep BM Cq Ck Cr Cs=>?_) q
 cases B5 with
 | cons dv B5=>exact comp_turn W Y Cp Cj V X Z E t i J Ca st N Cb rep BM Cq Ck Cr Cs
 | nil=>
  rw[xY] at Ca;subst Ca;refine W.done _ _ _ st λh' Cd Ce=>?_
  have O:Mv I h h':=λb o Ct e=>iK W Cj st Ce b o (λq=>Ct (wl.mp q)) e
  refine BM.loc.elim λCu Cf=>Co h' Cd dw Cu (Ns.keepAt Cf.1 λo e=>O _ o Z.nIC.symm e) ?_ λb o e=>sO Z.Ff Z.FI Ck O b o (E b o e)
  rw[i] at Cb;cases Cb;exact (uM O Z.nIL.symm N).elim λn e=>⟨e,v6 (oF i) t,(ph Z.FI O rep).mono (λBF BF BF e=>e) λa Cw BF q=>q.elim id λq=>.inr (q▸Z.FL)⟩
theorem iI{M:Ab}{c:Sem vU}{BK:vR D}{Q:vU->vZ->Prop}{a:vZ}(b:wpAny M A c (nL B9 w A s H BK) E a)
  (k:∀ I h tk dw,KH s.heap h->gat s.heap I=wa->(∃ o,gat h I=ac o)->oP B9 w A s.heap H BK I h->Q (.ref I) { s with heap:=h,toks:=tk,drawn:=dw }):wpAny M A c Q E a:=
 aR b λv s' q=>q.rec λ{I B2} q=>bj.rec (motive:=λs' Z=>(∃ o,gat s'.heap I=ac o)->oP B9 w A s.heap H BK I s'.heap->Q (.ref I) s') (λh tk dw f x y=>k I h tk dw f q.fresh x y) q.keeps q.ex q.walk
theorem comp_core{BM:Env}{m:Str->vY vU}{scope:xZ}{y:Str}{CC pos Cd:Pos}{Ce elt:wi}{U:vR wi}{use:vY (vU->Sem Unit)}{Q:vU->vZ->Prop}{d:D}{BK out:vR D}{f:D->vY (vY D)}
  (R:aN s.heap BM m) (Cf:gv BM.kindOf scope y=vT) (Cg:d7 Ce=vT) (CG:A.handled=wa) (CH:Ex s.heap H)
  (Cu:wpAny (wc B9 w) A (wM Ce BM) (bc w s H d) E s) (Ch:d.items=ac BK) (Ci:BK.length<=big) (Cj:bD f BK=ac out)
  (Ck:∀ O:Env,O.kindOf=dL BM.kindOf scope->vM B9 w A s H BK f m (λx=>scope.names.lookup x=ac .free) y elt U O)
  (CJ:∀ L C h' tk dw m',(∀ b o,gat s.heap b=ac o->@LT.lt Nat _ b L)->gat s.heap C=wa->L≠C->h'.Ns C m'->gI w.params h' (λb=>H b\/b=C) L out->(KH s.heap h') ->
   compPost (wc B9 w) A E use Q (.ref L) C (.ok .next) { s with heap:=h',toks:=tk,drawn:=dw }) :
  wpAny (wc B9 w) A (comprehension (.ListComp elt [⟨.Name y CC,Ce,U,0⟩] scope pos) scope BM Cd (newList []) vP (wM Ce BM) use) Q E s:=by
 refine hZ Cf λV i Cv X BF BF=>?_
 refine wpAny_comprehension_free (cl:=e9 BM.cells scope.names []) QQ (jc Cg) (jf λp CL CM=>(R.cell p.1 (X p CL CM)).elim λc q=>⟨c,q.1⟩) V (λx Y CN=>by rw[jm i (k:=x.2) Y,CN]) ?_
 refine oS Cu λCR h1 Cw Cy B Cm=>iI (ig (s:={ s with heap:=h1,toks:=Cw,drawn:=Cy }) (B9:=B9) (E:=E) Cm CG Ch) λI z CO CP J fresh ex Cz=>xh (newEnvA ?_)
 dsimp only at fresh Cz J ⊢;generalize M:z.push { cls:=.type "list",dict:=wa,data:=.seq ([]:vR vU).toArray }=n;have N:KH z n:=λb o e=>M▸Heap.gt_push_of_some _ e
 have CD:=R.keeps B;have CE:=compEnv_rep (y:=y) ((CD.keeps J).keeps N) Cf;have Ca:@Eq Nat n.objs.size (z.objs.size+1):=by rw[<- M,Heap.size_push]
 have Cn:n.get? z.objs.size=ac (fF #[] 0):=by rw[<- M];exact Heap.get?_push_size _ QQ
 clear M;have u:@LT.lt Nat _ I z.objs.size:=ex.elim λBF q=>Heap.gt_lt q
 have ok:=lE n scope { cls:=.type "dict",data:=.dict #[] };have G:KH n (AU (n.push { cls:=.type "dict",data:=.dict #[] }) scope.names):=λb o e=>Heap.gt_up (pushCells_keeps _ _) b o (Heap.gt_push_of_some _ e)
 have Cb:∀ b o,gat h1 b=ac o->@LT.lt Nat _ b z.objs.size:=λb o e=>Heap.gt_lt (J b o e)
 have j:∀ x c,(x,c)∈xt (n.objs.size+1) scope.names []->@LT.lt Nat _ n.objs.size c:=λx c Co=>(ok.empty x c Co).2
 have h:@LT.lt Nat _ z.objs.size n.objs.size:=Ca▸yX _;have Cp:∀ b o,gat h1 b=ac o->b≠I:=λb o e q=>bv e (q▸fresh)
 have Z:vO h1 H (λb=>b=I\/b=z.objs.size\/b=n.objs.size\/∃ x,(x,b)∈xt (n.objs.size+1) scope.names []) I z.objs.size
   {scope:=zM scope BM,locals:=n.objs.size,globals:=BM.globals,cells:=xt (n.objs.size+1) scope.names (e9 BM.cells scope.names []),qual:=BM.qual,func:=wa,code:=BM.code,frame:=BM.frame,builtins:=BM.builtins } y:=by
  refine⟨.inl QQ,.inr (.inl QQ),.inr (.inr (.inl QQ)),λc Co=>?_,wU u,wU (xm u h),wU h,λx c Co=>?_,λb t=>?_,xb (xm u h),CH.keeps B⟩
  ·exact (ee i Co).elim (λe=>.inr (.inr (.inr ⟨y,e⟩))) λq=>wI q.1 (Cv.elim (λe=>e▸nofun) λe=>e▸nofun)
  ·exact (ee i Co).elim (λe=>⟨(wU (xm h (j x c e))).symm,(wU (xm (xm u h) (j x c e))).symm⟩) λq=>(CD.ex x c q.2).elim λo e=>⟨wU (Cb c o e),Cp c o e⟩
  ·cases e:gat h1 b with
   | none=>rfl
   | some o=>
    have l:=Cb b o e;exact t.elim (λq=>wI q (Cp b o e)) λt=>t.elim (λq=>wI (q▸l) (xl _)) λt=>t.elim (λq=>wI (xm (q▸l) h) (xl _)) λt=>t.elim λx Y=>wI (xm (j x b Y) (xm l h)) (xl _)
 have Cq:(λx=>(zM scope BM).names.lookup x)=dL BM.kindOf scope:=gu R.kind
 have T:∀ Cr Cs,Bj (wc B9 w) A (.compLoop (.ListComp elt [⟨.Name y CC,Ce,U,0⟩] scope pos) 0 (.ref I) (.ref z.objs.size)
   {scope:=zM scope BM,locals:=n.objs.size,globals:=BM.globals,cells:=xt (n.objs.size+1) scope.names (e9 BM.cells scope.names []),qual:=BM.qual,func:=wa,code:=BM.code,frame:=BM.frame,builtins:=BM.builtins })
   (compPost (wc B9 w) A E use Q (.ref z.objs.size) n.objs.size) { s with heap:=AU (n.push { cls:=.type "dict",data:=.dict #[] }) scope.names,toks:=Cr,drawn:=Cs }:=λCr Cs=>by
  refine comp_loop (s:=s) (H:=H) (m:=m) (free:=λx=>scope.names.lookup x=ac .free) (Cz.rec λW st a b c d=>⟨W,dA W d _ _ _ st λb BF o e=>G b o (N b o e),a,b,c,d⟩) ?_ (Cv.elim (λe=>e▸nofun) λe=>e▸nofun) Z ⟨0,Heap.of_gt (G _ _ (Heap.gt_of Cn))⟩ CE (λx Y=>wh Y) (λb t CA=>?_) B (λb o e=>G b o (N b o (J b o e))) Ci Cj (Ck _ Cq) λh' tk dw m' CB Ct CQ=>?_
  ·show (λx=>(zM scope BM).names.lookup x) y=_\/(λx=>(zM scope BM).names.lookup x) y=_
   rw[Cq,jR];exact Cv.imp (λe=>by rw[e];rfl) λe=>by rw[e];rfl
  ·exact t.elim (λq=>wI q CA) λt=>t.elim (λq=>⟨_,q▸G _ _ (Heap.gt_of Cn)⟩) λt=>t.elim (λq=>CE.loc.elim λBF e=>q▸qM e.1) λt=>t.elim λx Y=>l7 (ok.empty x b Y).1
  ·exact CJ z.objs.size n.objs.size h' tk dw m' (λb o e=>Cb _ o (B _ o e)) (jN B (Z.Ff _ Z.FC)) (wU h) CB (Ct.mono (λBF e=>e) (λBF BF BF e=>e) λa o BF q=>.inl (q.imp id λq=>.inr (.inr (.inl q)))) CQ
 exact codeAny_compStart_list (T _ _) (Cz.rec λW st a b c d=>W.self 0 _ _ _ (dA W d _ _ _ st λb BF o e=>G b o (N b o e)) (T _ _))
end
noncomputable abbrev frs(l:vR Env):vR v8:=l.filterMap (·.frame)
noncomputable def gj(h:Heap)(l:vR Env):Prop:=∀ e∈l,e.scope.kind≠.module/\∃ L o,e.frame=ac L/\gat h L=ac o/\∀ vs,o.data≠.fields vs
noncomputable def Cov(BS:Heap)(l:vR Env)(bs:Heap):Prop:=∀ b o,gat BS b=ac o->b ∉ frs l->gat bs b=ac o
noncomputable def Fs(BS:Heap)(l:vR Env)(h:Heap):Prop:=∀ b o,b∈frs l->gat BS b=ac o->∃ a,gat h b=ac { o with slots:=a }
noncomputable def hid(h:Heap):vR v8->Heap
 | []=>h
 | a::r=>(hid h r).hide a
section
variable {h h' BS ent' bs:Heap} {l:vR Env} {BM:Env} {L:v8}
theorem hid_get{b:v8}{o:Obj}(e:h.get? b=ac o)(r:vR v8)(c:b ∉ r):(hid h r).get? b=ac o:=by
 induction r with
 | nil=>exact e
 | cons a r f=>exact (Heap.hide_ne _ λ(q:b=a)=>c (by rw[q];exact .head _)).trans (f λq=>c (.tail _ q))
theorem uZ{b:v8}{o:Obj}(r:vR v8)(e:(hid h r).get? b=ac o):h.get? b=ac o:=by
 induction r with
 | nil=>exact e
 | cons a r c=>exact c (Heap.of_hide e)
theorem hid_none{b:v8}(r:vR v8)(c:b∈r):(hid h r).get? b=wa:=by
 induction r with
 | nil=>cases c
 | cons a r f=>
  by_cases q:b=a
  ·rw[q];exact Heap.hide_self _ _
  ·exact (Heap.hide_ne _ q).trans (f ((wf.mp c).resolve_left q))
theorem hid_new{b:v8}{r:vR v8}(e:h.get? b=wa):(hid h r).get? b=wa:=by
 cases q:(hid h r).get? b with
 | none=>rfl
 | some o=>rw[uZ r q] at e;cases e
theorem gj.keeps(x:gj h l)(a:KH h h'):gj h' l:=λe b=>(x e b).imp id λq=>q.elim λL q=>q.elim λo q=>⟨L,o,q.1,a _ _ q.2.1,q.2.2⟩
theorem gj.cons(x:gj h l)(a:BM.scope.kind≠.module){o:Obj}(b:BM.frame=ac L)(c:gat h L=ac o)(f:∀ vs,o.data≠.fields vs):gj h (BM::l):=λe i=>(wf.mp i).elim (λq=>q▸⟨a,L,o,b,c,f⟩) (x e)
theorem gj.mem(x:gj h l){b:v8}(a:b∈frs l):∃ o,h.get? b=ac o/\gat h b=ac o/\∀ vs,o.data≠.fields vs:=
 (zE.mp a).elim λe q=>(x e q.1).2.elim λL z=>z.elim λo z=>have e:L=b:=v5 (z.1.symm.trans q.2);⟨o,Heap.of_gt (e▸z.2.1) (aO z.2.2),e▸z.2.1,z.2.2⟩
theorem gj.ff(x:gj h l)(a:∀ b∈frs l,bs.get? b=wa):h.FunFrames bs l:=by
 induction l with
 | nil=>trivial
 | cons BM l i=>
  obtain⟨j,L,o,c,m,f⟩:=x BM (.head _);exact⟨j,⟨L,o,c,a L (zE.mpr ⟨BM,.head _,c⟩),Heap.of_gt m (aO f),f⟩,i (λe n=>x e (.tail _ n)) λb s=>a b ((zE.mp s).elim λe q=>zE.mpr ⟨e,.tail _ q.1,q.2⟩)⟩
theorem tK(f:KH BS h)(x:gj h l):Cov BS l (hid h (frs l)):=λb o e a=>
 Heap.gt_lift (F:=λb=>b ∉ frs l) (λb o e c i=>(x.mem i).elim λj q=>by rw[q.1] at e;cases e;rw[aO q.2.2] at c;cases c) (λb o a e=>hid_get e _ a) b o a (f b o e)
theorem Cov.old(x:Cov BS l bs)(a:KH ent' BS):Cov ent' l bs:=λb o e c=>x b o (a b o e) c
theorem Fs.old(x:Fs BS l h)(a:KH ent' BS):Fs ent' l h:=λb o c e=>x b o c (a b o e)
theorem dg(a:BM.frame=ac L):frs (BM::l)=L::frs l:=List.filterMap_cons_some a
theorem Cov.tail(x:Cov BS (BM::l) bs)(a:BM.frame=ac L)(c:gat BS L=wa):Cov BS l bs:=λb o e f=>x b o e (by rw[dg a];exact λq=>(wf.mp q).elim (λq=>bv e (q▸c)) f)
theorem Fs.tail(x:Fs BS (BM::l) h)(a:BM.frame=ac L):Fs BS l h:=λb o c e=>x b o (by rw[dg a];exact .tail _ c) e
theorem Fs.of(a:KH BS h):Fs BS l h:=λb o Z e=>⟨o.slots,a b o e⟩
theorem Fs.slots(x:Fs BS l h)(m:h.FunFrames bs l)(u:h.UpToSlots h'):Fs BS l h':=λb o f e=>by
 obtain⟨s,q⟩:=x b o f e;obtain⟨_,n,i,c⟩:=m.mem f;have j:=Heap.gt_of i (aO c);rw[q] at j;obtain⟨a,z⟩:=u b n i c;cases j;exact⟨a,Heap.gt_of z (aO (o:={ o with slots:=a }) c)⟩
end
inductive Fly(BS:Heap)(l:vR Env)(c:vU)(s:vZ):vU->vZ->Prop
 | mk {e a0 bs h tk dw} (f:Heap.FlyingW bs l e c a0 h) (cv:Cov BS l bs) (fs:Fs BS l h):Fly BS l c s (.ref e) { s with heap:=h,toks:=tk,drawn:=dw }
inductive EP(BS:Heap)(BM:Env)(l:vR Env)(c:vU)(s:vZ):vU->vZ->Prop
 | made {e args h0 h tk dw} (x:Heap.MadeExcOf h0 h e c args) (hk:KH BS h0) (fo:gj h0 (BM::l)):EP BS BM l c s (.ref e) { s with heap:=h,toks:=tk,drawn:=dw }
 | fly {e a0 bs h tk dw} (f:Heap.FlyingW bs (BM::l) e c a0 h) (cv:Cov BS (BM::l) bs) (fs:Fs BS (BM::l) h):EP BS BM l c s (.ref e) { s with heap:=h,toks:=tk,drawn:=dw }
 | held {e a0 bs L h tk dw} (hL:BM.frame=ac L) (f:Heap.HeldW bs (BM::l) e c a0 L h) (cv:Cov BS (BM::l) bs) (fs:Fs BS (BM::l) h):EP BS BM l c s (.ref e) { s with heap:=h,toks:=tk,drawn:=dw }
theorem EP.sh{BS:Heap}{BM:Env}{l:vR Env}{c:vU}{s:vZ}{h:Heap}{tk:Nat}{dw:zK}{v:vU}{s':vZ}(x:EP BS BM l c { s with heap:=h,toks:=tk,drawn:=dw } v s'):EP BS BM l c s v s':=
 x.rec (λx b i=>.made x b i) (λf cv a=>.fly f cv a) λj f cv a=>.held j f cv a
section
variable {M:Ab} {A:wt} {E:vU->vZ->Prop} {BS:Heap} {BM:Env} {l:vR Env} {c:vU} {s s':vZ} {v:vU} {L:v8}
theorem qy{a h:Heap}{e:v8}{args:vR vU}(x:Heap.MadeExcOf a h e c args)(f:gj a l):(hid a (frs l)).StaysIn a/\a.FunFrames (hid a (frs l)) l:=⟨λb o e=>uZ _ e,f.ff λb i=>hid_none _ i⟩
theorem ep_leave(h:A.frames=ac (BM::l))(a:BM.frame=ac L)(i:gat BS L=wa)(x:EP BS BM l c s v s'):wpAny M A (leaving BM v) (λZ j=>Fly BS l c s v j) E s':=by
 cases x with
 | made x w y=>
  have q:=qy x y;refine wpAny_leaves_madeW h a q.1 q.2 x λh' t f Z Z u=>⟨f,(tK w y).tail a i,?_⟩
  exact (Fs.slots (Fs.of λb o e=>Heap.gt_up x.keeps _ _ (w b o e)) (q.2.of_keeps λb o z Z=>⟨o,x.keeps b o z,QQ⟩) u).tail a
 | fly f cv m=>exact wpAny_leaves_onW h a f λh' n u=>⟨n,cv.tail a i,(m.slots f.2.2.1 u).tail a⟩
 | held B f cv m=>
  cases B.symm.trans a;unfold leaving;refine vX (wpAny_noteFrame_againW a f.2.2.2 (wpAny_landsW f λh' n u=>?_))
  obtain⟨C,k2,⟨_,_,G⟩,H⟩:=id n;exact⟨⟨C,k2,G,H⟩,cv.tail a i,(m.slots f.2.2.1 u).tail a⟩
theorem set_held{bs h:Heap}{e:v8}{a0:vU}(f:Heap.HeldW bs l e c a0 L h){Q:Unit->vZ->Prop}{tk:Nat}{dw:zK}(k:∀ h',Heap.HeldW bs l e c a0 L h'->h.UpToSlots h'->Q () { s with heap:=h',toks:=tk,drawn:=dw }) :
  wpAny M A (setFlight (.ref e) (ac L)) Q E { s with heap:=h,toks:=tk,drawn:=dw }:=by
 obtain⟨y,z,I,J,vs,T,oT,C,G,t,H,h1,u,w,B,hdT,N⟩:=f;have m:3<C.size:=(AY.mp N).1;have other:∀ b,b≠T->(h.update T (Obj.mapFields (·.setIfInBounds 3 (yc L)))).get? b=h.get? b:=λb i=>Heap.get?_update_other _ _ (Ne.symm i)
 have a:∀ b o,h.get? b=ac o->(∀ vs,o.data≠.fields vs)->b≠T:=λb o i j q=>by
  rw[q,B] at i;injection i with i;subst i;exact j C hdT
 unfold setFlight;refine vX (yt G H h1 ?_);rw[wh (show (Value.ref T != Value.none)=vT from by simp)]
 refine zh B hdT m (k _ ⟨λb o n=>(other b λq=>by rw[q,u] at n;cases n).trans (y b o n),z,I.of_keeps λb o i j=>⟨o,(other b (a b o i j)).trans i,QQ⟩,?_⟩ λb o i j=>⟨o.slots,(other b (a b o i j)).trans i⟩)
 exact⟨J,vs,T,_,_,(other e (Ne.symm w)).trans G,t,H,h1,u,w,Heap.get?_update_self _ B (Obj.isFreed_of_fields (Obj.data_mapFields hdT _)),Obj.data_mapFields hdT _,by simp[m]⟩
theorem ep_back{h:Heap}{e:v8}{a0:vU}{bs:Heap}{tk:Nat}{dw:zK}(a:BM.frame=ac L)(f:Heap.HeldW bs (BM::l) e c a0 L h)(cv:Cov BS (BM::l) bs)(i:Fs BS (BM::l) h) :
  zq M A BM (EP BS BM l c s) (.ref e) { s with heap:=h,toks:=tk,drawn:=dw }:=by
 unfold zq;obtain⟨j,m,t,w,vs,T,oT,y,n,b,o,h1,r⟩:=id f;refine vX (yt n o h1 ?_);rw[wo (show ¬ (Value.ref T == Value.none)=vT from by simp)]
 rw[a];exact set_held f λh' q u=>.held a q cv (i.slots f.2.2.1 u)
theorem tH{Q:Unit->vZ->Prop}(a:A.frames=ac (BM::l))(i:BM.frame=ac L)(x:EP BS BM l c s v s')(k:∀ {e a0 bs h tk dw},v=.ref e->Heap.HeldW bs (BM::l) e c a0 L h->Cov BS (BM::l) bs->Fs BS (BM::l) h->Q () { s with heap:=h,toks:=tk,drawn:=dw }):wpAny M A (noteFrame v BM) Q E s':=by
 cases x with
 | @made e _ I h _ _ x w y=>
  have q:=qy x y;obtain⟨t,z,C,J⟩:=x.there;unfold noteFrame;simp only[i];refine vX (yt (x:=.none) z QQ QQ ?_);rw[wo (show ¬ (Value.none != Value.none)=vT from by decide)]
  have fr:=hid_new (r:=frs (BM::l)) x.new;have B:=q.2.of_keeps λb o j Z=>⟨o,x.keeps b o j,QQ⟩
  exact wpAny_entryW (a0:=.ref t) a B i z (λb o j=>x.keeps b o (q.1 b o j)) fr QQ (show 1<6 by decide) QQ λh' n=>k QQ ⟨n.1,fr,n.2.1,n.2.2.1⟩ (tK w y) (Fs.slots (Fs.of λb o e=>Heap.gt_up x.keeps _ _ (w b o e)) B n.2.2.2)
 | fly f cv m=>exact wpAny_looks_onW a i f λh' G u=>k QQ G cv (m.slots f.2.2.1 u)
 | held H f cv m=>
  cases H.symm.trans i;exact wpAny_noteFrame_againW i f.2.2.2 (k QQ f cv m)
theorem ep_loop(a:A.frames=ac (BM::l))(h:BM.frame=ac L)(x:EP BS BM l c s v s'):notedBy M A BM (λe b=>zq M A BM (EP BS BM l c s) e b) v s':=
 tH a h x λe f cv i=>e▸ep_back h f cv i
theorem ep_catch{Q:Unit->vZ->Prop}(b:A.frames=ac (BM::l))(i:BM.frame=ac L)(x:EP BS BM l c s v s')(k:∀ a,Fly BS (BM::l) c s v a->Q () a):wpAny M A (noteFrame v BM) (λZ B2=>wpAny M A (setFlight v wa) Q E B2) E s':=
 tH b i x λ{_ _ _ h tk dw} e f cv j=>e▸wpAny_landsW (s:={ s with heap:=h,toks:=tk,drawn:=dw }) f λh' m u=>k _ (e▸.mk m cv (j.slots f.2.2.1 u))
theorem tC{Q:Unit->vZ->Prop}(x:Fly BS l c s v s')(k:∀ a,Fly BS l c s v a->Q () a):wpAny M A (setFlight v wa) Q E s':=by
 cases x with
 | @mk e a0 bs h tk dw f cv i=>exact wpAny_setFlight_noneW (s:={ s with heap:=h,toks:=tk,drawn:=dw }) f.1 f.2.2.1 f.2.2.2.at λh' j k2 m n=>k _ (.mk ⟨j,f.2.1,k2,m⟩ cv (i.slots f.2.2.1 λb o e q=>⟨o.slots,n b o e q⟩))
end
noncomputable abbrev bmV:vR vU:=[.type "ValueError",.type "Exception",.type "BaseException",.type "object"]
structure nV(h:Heap)(C:v8)(bm:vR vU):Prop where
 ok:∃ nm q N bs hdct sn sub ab col dd k0 k1 k2 k3 k5 mN,h.get? C=ac (excClassObj nm q C N bs bm hdct sn sub ab col dd k0 k1 k2 k3 k5 "ValueError.__new__")/\h.Ns N mN/\mN "__init__"=wa
theorem nV.keeps{h h':Heap}{C:v8}{bm:vR vU}(x:nV h C bm)(a:KH h h'):nV h' C bm:=
 let ⟨nm,q,N,bs,hdct,sn,sub,ab,col,dd,k0,k1,k2,k3,k5,mN,h1,h2,h3⟩:=x.ok
 ⟨nm,q,N,bs,hdct,sn,sub,ab,col,dd,k0,k1,k2,k3,k5,mN,Heap.of_gt (a _ _ (Heap.gt_of h1)),Ns.keepAt h2 (a _),h3⟩
theorem nV.tail{h:Heap}{C:v8}(x:nV h C bmV):OwnTail h bmV (.ref C::bmV):=
 let ⟨_,_,_,_,_,_,_,_,_,_,_,_,_,_,_,_,h1,h2,h3⟩:=x.ok
 .own h1 h2 h3 .base
structure ExOk(mg:Str->vY vU)(h:Heap)(Q:v8):Prop where
 q:mg (vQ "QueryError")=ac (.ref Q)
 qat:nV h Q bmV
 c:∀ c∈bx,∃ C,mg (vQ c)=ac (.ref C)/\C≠Q/\nV h C (.ref Q::bmV)
 inj:∀ c∈bx,∀ c'∈bx,mg (vQ c)=mg (vQ c')->c=c'
noncomputable def cH:vR vV:=["len","isinstance","range","tuple","int","str","list","bool","set","sum","max","min","sorted","reversed","ValueError"]
structure GOk(mg mb:Str->vY vU)(h:Heap):Prop where
 g:h.Ns xj mg
 b:h.Ns Bh mb
 lim:h.NoLimit
 blt:∀ f∈cH,mg (vQ f)=wa/\mb (vQ f)=ac (cY f)
 lam:h.IsCode oc tb #[]/\h.TableAt oc tb #[]/\h.BuiltinsAt mg tb
 ex:∃ Q,ExOk mg h Q
structure HOk(B3 h:Heap)(H:v8->Prop):Prop where
 keep:KH B3 h
 ex:Ex h H
 off:∀ b o,gat B3 b=ac o->¬ H b
theorem HOk.keeps{B3 h h':Heap}{H:v8->Prop}(x:HOk B3 h H)(a:KH h h'):HOk B3 h' H:=
 ⟨λb o e=>a b o (x.keep b o e),x.ex.keeps a,x.off⟩
theorem NoLimit.keepG{h h':Heap}(x:h.NoLimit)(a:KH h h'):h'.NoLimit:=let ⟨mc,h1,h2⟩:=x;⟨mc,Ns.keepAt h1 (a _),h2⟩
structure cD(B9:wq)(w:wy)(B3:Heap)(mg:Str->vY vU)(cf:CF)(A:wt):Prop where
 call:∀ f ds d fr,cf.call f ds=ac (d,fr)->∃ a o fd,mg (vQ f)=ac (.ref a)/\gat B3 a=ac o/\o.data=.func fd /\
  ∀ A',rA A A'->∀ (s:vZ) (H:v8->Prop) (vs:vR vU) (E:vU->vZ->Prop),HOk B3 s.heap H->am w.params s.heap H vs ds ->
   wpAny (wc B9 w) A' (PySem.call (.ref a) vs) (bV w s H d fr) E s
 glob:∀ x d,cf.glob x=ac d->∃ v,mg (vQ x)=ac v/\Rep w.params B3 (λZ=>False) v d
 raz:∀ f ds c,cf.raz f ds=ac c->∃ a o fd cv,mg (vQ f)=ac (.ref a)/\gat B3 a=ac o/\o.data=.func fd/\mg (vQ c)=ac cv /\
  ∀ l,A.frames=ac l->∀ (s:vZ) (H:v8->Prop) (vs:vR vU) (E:vU->vZ->Prop),HOk B3 s.heap H->am w.params s.heap H vs ds->gj s.heap l->(∀ v s',Fly s.heap l cv s v s'->E v s') ->
   wpAny (wc B9 w) A (PySem.call (.ref a) vs) (λZ Z=>False) E s
 fn:∀ f,cf.fn f=vT->∃ a o fd,mg (vQ f)=ac (.ref a)/\gat B3 a=ac o/\o.data=.func fd
noncomputable def CS0(B9:wq)(w:wy)(B3:Heap)(mg:Str->vY vU)(cf:CF)(A:wt):Prop:=∀ f ds d fr,cf.call f ds=ac (d,fr)->∃ a o fd,mg (vQ f)=ac (.ref a)/\gat B3 a=ac o/\o.data=.func fd /\
  ∀ (s:vZ) (H:v8->Prop) (vs:vR vU) (E:vU->vZ->Prop),HOk B3 s.heap H->am w.params s.heap H vs ds ->
   wpAny (wc B9 w) A (PySem.call (.ref a) vs) (bV w s H d fr) E s
theorem cD.at{B9:wq}{w:wy}{B3:Heap}{mg:Str->vY vU}{cf:CF}{A b:wt}(C:cD B9 w B3 mg cf A)(c:rA A b):CS0 B9 w B3 mg cf b:=
 λf ds d fr h=>(C.call f ds d fr h).elim λa q=>q.elim λo q=>q.elim λi q=>⟨a,o,i,q.1,q.2.1,q.2.2.1,q.2.2.2 b c⟩
noncomputable def NV(P:wT)(k:KD)(ns:vR vV)(ρ:vR (vV×D))(m:Str->vY vU)(h:Heap)(H:v8->Prop):Prop:=
 ∀ x∈ns,ez k (vQ x)=vT->∀ d,ρ.lookup x=ac d->∃ v,m (vQ x)=ac v/\Rep P h H v d
structure Cc(w:wy)(B3:Heap)(s:vZ)(BM:Env)(H:v8->Prop)(ρ:vR (vV×D))(m:Str->vY vU)(ns:vR vV):Prop where
 R:aN s.heap BM m
 hw:HOk B3 s.heap H
 hn:NV w.params BM.kindOf ns ρ m s.heap H
section
variable {B9:wq} {w:wy} {A:wt} {s s':vZ} {B3:Heap} {mg mb:Str->vY vU} {cf:CF} {BM:Env} {H:v8->Prop} {ρ:vR (vV×D)} {m:Str->vY vU} {ns B4:vR vV} {e:wi} {E:vU->vZ->Prop} {a b:ME} {d:D} {C:Prop}
theorem Cc.k(c:Cc w B3 s BM H ρ m ns)(k:bj s s'):Cc w B3 s' BM H ρ m ns:=⟨c.R.keeps (Kp.heap k),c.hw.keeps (Kp.heap k),λx a b d f=>(c.hn x a b d f).elim λv q=>⟨v,q.1,q.2.keeps (Kp.heap k)⟩⟩
theorem Cc.sub(c:Cc w B3 s BM H ρ m ns)(a:∀ x∈B4,x∈ns):Cc w B3 s BM H ρ m B4:=⟨c.R,c.hw,λx b=>c.hn x (a x b)⟩
theorem Cc.l(c:Cc w B3 s BM H ρ m (ns++B4)):Cc w B3 s BM H ρ m ns:=c.sub λZ=>yy _
theorem Cc.r(c:Cc w B3 s BM H ρ m (ns++B4)):Cc w B3 s BM H ρ m B4:=c.sub λZ=>xP _
theorem Cc.x(c:Cc w B3 s BM H ρ m ns):Ex s.heap H:=c.hw.ex
noncomputable def SE(B9:wq)(w:wy)(A:wt)(B3:Heap)(cf:CF)(a:ME):Prop:=
 ∀ (s:vZ) (BM:Env) (e:wi) (H:v8->Prop) (ρ:vR (vV×D)) (m:Str->vY vU) (d:D) (E:vU->vZ->Prop),aC BM.kindOf e a=vT->Cc w B3 s BM H ρ m a.names->evE cf ρ a=ac d->wpAny (wc B9 w) A (wM e BM) (bc w s H d) E s
inductive vy(w:wy)(s:vZ)(H:v8->Prop)(ds:vR D)(vs:vR vU)(s':vZ):Prop
 | mk (k:bj s s') (r:am w.params s'.heap H vs ds)
noncomputable def SEs(B9:wq)(w:wy)(A:wt)(B3:Heap)(cf:CF)(a:vR ME):Prop:=
 ∀ (s:vZ) (BM:Env) (es:vR wi) (H:v8->Prop) (ρ:vR (vV×D)) (m:Str->vY vU) (ds:vR D) (E:vU->vZ->Prop),bM BM.kindOf es a=vT->Cc w B3 s BM H ρ m (eH a)->bk cf ρ a=ac ds ->
  wpAny (wc B9 w) A (AP (es.map λe=>(vP,wM e BM))) (vy w s H ds) E s
noncomputable def ST(B9:wq)(w:wy)(A:wt)(B3:Heap)(cf:CF)(a:ME):Prop:=
 ∀ (s:vZ) (BM:Env) (e:wi) (H:v8->Prop) (ρ:vR (vV×D)) (m:Str->vY vU) (d:D) (t:v7) (E:vU->vZ->Prop),aC BM.kindOf e a=vT->Cc w B3 s BM H ρ m a.names->evE cf ρ a=ac d->bg d=ac t ->
  wpAny (wc B9 w) A (yi e BM (wM e BM)) (dS s t) E s
noncomputable def SB(B9:wq)(w:wy)(A:wt)(B3:Heap)(cf:CF)(b:vR ME):Prop:=
 ∀ (s:vZ) (BM:Env) (es:vR wi) (op:y2) (pos:Pos) (H:v8->Prop) (ρ:vR (vV×D)) (m:Str->vY vU) (d:D) (E:vU->vZ->Prop),bM BM.kindOf es b=vT->Cc w B3 s BM H ρ m (eH b)->fq cf ρ op b=ac d ->
  wpAny (wc B9 w) A (wM (.BoolOp op es pos) BM) (bc w s H d) E s/\∀ t a,bg d=ac t->wpAny (wc B9 w) A (yi (.BoolOp op es pos) BM a) (dS s t) E s
noncomputable def SC(B9:wq)(w:wy)(A:wt)(B3:Heap)(cf:CF)(a:vR ME):Prop:=
 ∀ (s:vZ) (BM:Env) (es:vR wi) (H:v8->Prop) (ρ:vR (vV×D)) (m:Str->vY vU) (t:v7) (E:vU->vZ->Prop),bM BM.kindOf es a=vT->Cc w B3 s BM H ρ m (eH a)->lK cf ρ a=ac t ->
  wpAny (wc B9 w) A (forIn es vT λc r=>if r=vT then do let ok <- yi c BM (wM c BM);pure (ForInStep.yield ok) else pure (ForInStep.yield r)) (dS s t) E s
noncomputable def SF(B9:wq)(w:wy)(A:wt)(B3:Heap)(cf:CF)(a:ME):Prop:=
 ∀ (s:vZ) (BM:Env) (e:wi) (H:v8->Prop) (ρ:vR (vV×D)) (m:Str->vY vU) (d:D) (fr:v7) (E:vU->vZ->Prop),aC BM.kindOf e a=vT->Cc w B3 s BM H ρ m a.names->evF cf ρ a=ac (d,fr)->wpAny (wc B9 w) A (wM e BM) (bV w s H d fr) E s
theorem SE.go{Q:vU->vZ->Prop}(b:SE B9 w A B3 cf a)(f:aC BM.kindOf e a=vT)(c:Cc w B3 s BM H ρ m a.names)(he:evE cf ρ a=ac d)(k:∀ v BU,bc w s H d v BU->Q v BU):wpAny (wc B9 w) A (wM e BM) Q E s:=aR (b s BM e H ρ m d E f c he) k
theorem evi_bin{op:xw}(h:evE cf ρ (.bin op a b)=ac d)(k:∀ x y,evE cf ρ a=ac x->evE cf ρ b=ac y->ce op x y=ac d->C):C:=bh (a:=evE cf ρ a) (f:=λx=>oE (evE cf ρ b) (ce op x)) h λx c h=>bh h λy i h=>k x y c i h
theorem tE{op:zn}(h:evE cf ρ (.cmp op a b)=ac d)(k:∀ x y,evE cf ρ a=ac x->evE cf ρ b=ac y->b9 op x y=ac d->C):C:=bh (a:=evE cf ρ a) (f:=λx=>oE (evE cf ρ b) (b9 op x)) h λx c h=>bh h λy i h=>k x y c i h
theorem evi_sub(h:evE cf ρ (.sub a b)=ac d)(k:∀ x y,evE cf ρ a=ac x->evE cf ρ b=ac y->aD x y=ac d->C):C:=bh (a:=evE cf ρ a) (f:=λx=>oE (evE cf ρ b) (aD x)) h λx c h=>bh h λy i h=>k x y c i h
theorem tD(h:evE cf ρ (.not a)=ac d)(k:∀ x t,evE cf ρ a=ac x->bg x=ac t->.bool (!t)=d->C):C:=bh (a:=evE cf ρ a) (f:=λx=>(bg x).map λt=>D.bool (!t)) h λx b h=>br h λt c e=>k x t b c e
theorem evi_neg(h:evE cf ρ (.neg a)=ac d)(k:∀ i,evE cf ρ a=ac (.int i)->.int (-i)=d->C):C:=bh (a:=evE cf ρ a) (f:=λx=>onI x λi=>ac (D.int (-i))) h λx b h=>cI (C:=λx=>evE cf ρ a=ac x->C) h (λi e b=>k i b (v5 e)) b
theorem evi_tup{es:vR ME}(h:evE cf ρ (.tup es)=ac d)(k:∀ ds,bk cf ρ es=ac ds->ds.length<=big->.tup ds=d->C):C:=dJ (a:=bk cf ρ es) (f:=λds=>if ds.length<=big then ac (D.tup ds) else none) h λx b h=>aS h λc e=>k x b c e
theorem evi_lst{es:vR ME}(h:evE cf ρ (.lst es)=ac d)(k:∀ ds,bk cf ρ es=ac ds->ds.length<=big->.list ds=d->C):C:=dJ (a:=bk cf ρ es) (f:=λds=>if ds.length<=big then ac (D.list ds) else none) h λx b h=>aS h λc e=>k x b c e
theorem evi_sl{l u:ME}(h:evE cf ρ (.sl a l u)=ac d)(k:∀ x y z,evE cf ρ a=ac x->evE cf ρ l=ac y->evE cf ρ u=ac z->slD x y z=ac d->C):C:=bh (a:=evE cf ρ a) (f:=λx=>oE (evE cf ρ l) λy=>oE (evE cf ρ u) λz=>slD x y z) h λx b h=>bh h λy c h=>bh h λz i h=>k x y z b c i h
theorem evi_isi{T:vV}(h:evE cf ρ (.isi a T)=ac d)(k:∀ x t,evE cf ρ a=ac x->mS x T=ac t->.bool t=d->C):C:=bh (a:=evE cf ρ a) (f:=λx=>(mS x T).map D.bool) h λx b h=>br h λt c e=>k x t b c e
theorem evi_lcp(h:evE cf ρ (.lcp a)=ac d)(k:∀ x ds,evE cf ρ a=ac x->rS x=ac ds->.list ds=d->C):C:=bh (a:=evE cf ρ a) (f:=λx=>(rS x).map D.list) h λx b h=>br h λt c e=>k x t b c e
theorem evi_sset(h:evE cf ρ (.sset a)=ac d)(k:∀ x,evE cf ρ a=ac x->mu x=ac d->C):C:=bh (a:=evE cf ρ a) (f:=mu) h k
theorem tF{f:vV}{es:vR ME}(h:evE cf ρ (.blt f es)=ac d)(k:∀ ds,bk cf ρ es=ac ds->fZ f ds=ac d->C):C:=dJ (a:=bk cf ρ es) (f:=fZ f) h k
theorem evi_callF{f:vV}{es:vR ME}{r:D×v7}(h:evF cf ρ (.call f es)=ac r)(k:∀ ds,bk cf ρ es=ac ds->cf.call f ds=ac r->C):C:=dJ (a:=bk cf ρ es) (f:=cf.call f) h k
theorem evi_call{f:vV}{es:vR ME}(h:evE cf ρ (.call f es)=ac d)(k:∀ ds r,bk cf ρ es=ac ds->cf.call f ds=ac r->r.1=d->C):C:=dJ (a:=bk cf ρ es) (f:=λds=>(cf.call f ds).map λ(r:D×v7)=>r.1) h λx b h=>br h λr c e=>k x r b c e
theorem qS{es:vR ME}{ds:vR D}(h:bk cf ρ (a::es)=ac ds)(k:∀ x xs,evE cf ρ a=ac x->bk cf ρ es=ac xs->x::xs=ds->C):C:=bh (a:=evE cf ρ a) (f:=λx=>oEs (bk cf ρ es) λxs=>ac (x::xs)) h λx b h=>dJ h λy c h=>k x y b c (v5 h)
noncomputable def p4(op:y2):v7:=match op with | .And=>vP | .Or=>vT
theorem evi_bop{op:y2}{es:vR ME}(h:fq cf ρ op (a::b::es)=ac d)(k:∀ x t,evE cf ρ a=ac x->bg x=ac t->(if t=p4 op then ac x else fq cf ρ op (b::es))=ac d->C):C:=bh (a:=evE cf ρ a) (f:=λx=>oT (bg x) λt=>if t=p4 op then ac x else fq cf ρ op (b::es)) h λx c h=>rQ h λy i h=>k x y c i h
theorem evi_cs{es:vR ME}{t:v7}(h:lK cf ρ (a::es)=ac t)(k:∀ x u,evE cf ρ a=ac x->bg x=ac u->(if u=vT then lK cf ρ es else ac vP)=ac t->C):C:=bh (a:=evE cf ρ a) (f:=λx=>oT (bg x) λu=>if u=vT then lK cf ρ es else ac vP) h λx b h=>rQ h λy c h=>k x y b c h
theorem eQ{fr:v7}(h:evF cf ρ a=ac (d,fr))(b:lY a=wa)(k:evE cf ρ a=ac d->frF a d=fr->C):C:=by
 unfold evF at h;rw[b] at h;exact br h λc e q=>k (e.trans (wv ac (wY q).1)) ((wY q).1▸(wY q).2)
theorem rL(x:vV):SE B9 w A B3 cf (.u x):=λs BM e H ρ m d E b c f=>
 pR.rec (motive:=λe Z=>wpAny (wc B9 w) A (wM e BM) (bc w s H d) E s) (λa=>(c.hn x (.head _) a d f).elim λv q=>ew c.R a q.1 ⟨Kp.refl _,q.2⟩) (fj b)
theorem se_glob(G:GOk mg mb B3)(C:cD B9 w B3 mg cf A)(x:vV):SE B9 w A B3 cf (.glob x):=λs BM e H ρ m d E f c h=>
 vE.rec (motive:=λe Z=>wpAny (wc B9 w) A (wM e BM) (bc w s H d) E s) (λb=>(C.glob x d h).elim λv q=>Calls.Name_function_global c.R.kind (be b).1 (Calls.loadGlobal_global (mg:=mg) (c.R.glob▸Ns.keepAt G.g (c.hw.keep _)) q.1 ⟨Kp.refl _,q.2.mono (λa o Z e=>c.hw.keep a o e) λa o e q=>wI q (c.hw.off a o e)⟩) (by simpa using (be b).2)) (qH f)
theorem se_int(i:Int):SE B9 w A B3 cf (.int i):=λs BM e H ρ m d E a c b=>
 fb.rec (motive:=λe Z=>wpAny (wc B9 w) A (wM e BM) (bc w s H d) E s) (v5 b▸wpAny_Constant_int gL) (pv a)
theorem se_str(i:vV):SE B9 w A B3 cf (.str i):=λs BM e H ρ m d E a c b=>
 fb.rec (motive:=λe Z=>wpAny (wc B9 w) A (wM e BM) (bc w s H d) E s) (v5 b▸Calls.Constant_str og) (s7 a)
theorem se_bool(i:v7):SE B9 w A B3 cf (.bool i):=λs BM e H ρ m d E a c b=>
 fb.rec (motive:=λe Z=>wpAny (wc B9 w) A (wM e BM) (bc w s H d) E s) (v5 b▸PyProof.Rows.Constant_bool hY) (qJ a)
theorem se_none:SE B9 w A B3 cf .none:=λs BM e H ρ m d E a c b=>
 fb.rec (motive:=λe Z=>wpAny (wc B9 w) A (wM e BM) (bc w s H d) E s) (v5 b▸PyProof.Rows.Constant_none ⟨Kp.refl _,QQ⟩) (qG a)
noncomputable def ME.plain:ME->v7
 | .not _ | .bop _ _ | .cmp _ _ _=>vP
 | _=>vT
noncomputable def ME.isComp(e:ME):v7:=decide (e.ctorIdx=16)
structure Looks(me:ME)(e:wi):Prop where
 star:∀ es BM,yO (e::es) BM=(vP,wM e BM)::yO es BM
 test:me.plain=vT->∀ BM whole,yi e BM whole=(do let v <- whole;standAt e.pos;holding [v] (truthy v))
 swap:me.isComp=vP->∀ t l BM,AV e t l BM=pure vP
theorem oq{k:KD}{e:wi}{a:ME}(h:aC k e a=vT):Looks a e:=by
 cases a with
 | u=>exact (fj h).rec λZ=>⟨λZ Z=>QQ,λZ Z Z=>QQ,λZ Z Z Z=>QQ⟩
 | glob=>exact (qH h).rec λZ=>⟨λZ Z=>QQ,λZ Z Z=>QQ,λZ Z Z Z=>QQ⟩
 | int=>exact (pv h).rec ⟨λZ Z=>QQ,λZ Z Z=>QQ,λZ Z Z Z=>QQ⟩
 | str=>exact (s7 h).rec ⟨λZ Z=>QQ,λZ Z Z=>QQ,λZ Z Z Z=>QQ⟩
 | bool=>exact (qJ h).rec ⟨λZ Z=>QQ,λZ Z Z=>QQ,λZ Z Z Z=>QQ⟩
 | none=>exact (qG h).rec ⟨λZ Z=>QQ,λZ Z Z=>QQ,λZ Z Z Z=>QQ⟩
 | bin=>exact (pA h).rec λZ Z=>⟨λZ Z=>QQ,λZ Z Z=>QQ,λZ Z Z Z=>QQ⟩
 | cmp=>exact (l4 h).rec λZ Z Z=>⟨λZ Z=>QQ,nofun,λZ Z Z Z=>QQ⟩
 | bop=>exact (l5 h).rec λZ=>⟨λZ Z=>QQ,nofun,λZ Z Z Z=>QQ⟩
 | not=>exact (pq h).rec λZ=>⟨λZ Z=>QQ,nofun,λZ Z Z Z=>QQ⟩
 | neg=>exact (s9 h).rec λZ=>⟨λZ Z=>QQ,λZ Z Z=>QQ,λZ Z Z Z=>QQ⟩
 | tup=>exact (s5 h).rec λZ=>⟨λZ Z=>QQ,λZ Z Z=>QQ,λZ Z Z Z=>QQ⟩
 | lst=>exact (tc h).rec λZ=>⟨λZ Z=>QQ,λZ Z Z=>QQ,λZ Z Z Z=>QQ⟩
 | dct=>exact (th h).rec λZ Z=>⟨λZ Z=>QQ,λZ Z Z=>QQ,λZ Z Z Z=>QQ⟩
 | sub=>exact (lZ h).rec λZ Z Z=>⟨λZ Z=>QQ,λZ Z Z=>QQ,λZ Z Z Z=>QQ⟩
 | sl=>exact (uX h).rec λZ Z Z=>⟨λZ Z=>QQ,λZ Z Z=>QQ,λZ Z Z Z=>QQ⟩
 | comp=>exact (mU h).rec λZ Z Z Z Z=>⟨λZ Z=>QQ,λZ Z Z=>QQ,nofun⟩
 | call=>exact (fQ h).rec λZ Z=>⟨λZ Z=>QQ,λZ Z Z=>QQ,λZ Z Z Z=>QQ⟩
 | blt=>exact (ti h).rec λZ Z=>⟨λZ Z=>QQ,λZ Z Z=>QQ,λZ Z Z Z=>QQ⟩
 | isi=>exact (pu h).rec λZ Z Z=>⟨λZ Z=>QQ,λZ Z Z=>QQ,λZ Z Z Z=>QQ⟩
 | lcp=>exact (te h).rec λZ Z=>⟨λZ Z=>QQ,λZ Z Z=>QQ,λZ Z Z Z=>QQ⟩
 | sset=>exact (qF h).rec λZ Z=>⟨λZ Z=>QQ,λZ Z Z=>QQ,λZ Z Z Z=>QQ⟩
 | srt=>exact (s8 h).rec λZ Z Z=>⟨λZ Z=>QQ,λZ Z Z=>QQ,λZ Z Z Z=>QQ⟩
theorem dh{k:KD}{es:vR wi}{b:vR ME}{C:vR wi->Prop}(h:bM k es (a::b)=vT)(c:∀ e es,aC k e a=vT->bM k es b=vT->C (e::es)):C es:=by
 cases es with
 | nil=>cases h
 | cons e es=>exact bQ h (c e es)
theorem j9{k:KD}{es:vR wi}{C:vR wi->Prop}(h:bM k es []=vT)(c:C []):C es:=gT h c
theorem fN{k:KD}{e:wi}{a:ME}(h:aC k e a=vT){es:vR wi}{BM:Env}:yO (e::es) BM=(vP,wM e BM)::yO es BM:=(oq h).star es BM
theorem dZ{es:vR wi}{b:vR ME}{k:KD}(c:bM k es b=vT)(BM:Env):yO es BM=es.map λe=>(vP,wM e BM):=by
 induction b generalizing es with
 | nil=>exact j9 (C:=λes=>yO es BM=es.map λe=>(vP,wM e BM)) c QQ
 | cons a r f=>exact dh (C:=λes=>yO es BM=es.map λe=>(vP,wM e BM)) c λe es h1 h=>(fN h1).trans (wv _ (f h))
theorem eT(pos:Pos)(es:vR wi)(BM:Env):backTo pos (es.map λe=>(vP,wM e BM))=es.map λe=>(vP,wM e BM):=wX
theorem sf_bin{op:xw}(t:SE B9 w A B3 cf a)(u:SE B9 w A B3 cf b):SF B9 w A B3 cf (.bin op a b):=λs BM e H ρ m d fr E z c j=>
 eQ j QQ λj B=>evi_bin j λx y C G I=>IBin.rec (motive:=λe Z=>wpAny (wc B9 w) A (wM e BM) (bV w s H d fr) E s) (λh1 J=>wpAny_BinOp (t.go h1 c.l C λv BU f=>u.go J (c.r.k f.k) G λn B2 h=>
  have k:=Kp.trans f.k h.k
  aR (bin_snd (f.r.keeps (Kp.heap h.k)) h.r (c.k k).x I) λo q i=>B▸i.tr k)) (pA z)
theorem uz{op:zn}(q:A.units+2<yg)(t:SE B9 w A B3 cf a)(u:SE B9 w A B3 cf b):SE B9 w A B3 cf (.cmp op a b):=λs BM e H ρ m d E z c B=>
 tE B λx y C G I=>vH.rec (motive:=λe Z=>wpAny (wc B9 w) A (wM e BM) (bc w s H d) E s) (λJ h1 L=>wpAny_Compare1 (t.go h1 c.l C λv BU f=>u.go L (c.r.k f.k) G λj B2 h=>
  aR (pJ (f.r.keeps (Kp.heap h.k)) h.r q I) λn o i=>i.tr (Kp.trans f.k h.k)) (gx J)) (l4 z)
theorem st_cmp{op:zn}(B:A.units+2<yg)(C:SE B9 w A B3 cf a)(G:SE B9 w A B3 cf b):ST B9 w A B3 cf (.cmp op a b):=λs BM e H ρ m d t E I c J L=>
 tE J λx y M N O=>vH.rec (motive:=λe Z=>wpAny (wc B9 w) A (yi e BM (wM e BM)) (dS s t) E s) (λT h1 U=>wpAny_isTrue_Compare1 (C.go h1 c.l M λv BU f=>G.go U (c.r.k f.k) N λn B2 h=>
  aR (pJ (f.r.keeps (Kp.heap h.k)) h.r B O) λo q i=>aR (eR i.r L) λu z j=>j.tr (Kp.trans (Kp.trans f.k h.k) i.k)) (gx T)) (l4 I)
theorem uy(j:SE B9 w A B3 cf a):SE B9 w A B3 cf (.not a):=λs BM e H ρ m d E n c o=>
 tD o λx t q u y=>IUn.rec (motive:=λe Z=>wpAny (wc B9 w) A (wM e BM) (bc w s H d) E s) (λh=>PyProof.Rows.UnaryOp_ (j.go h c q λv BU f=>PyProof.Rows.not_of (aR (eR f.r u) λb B2 i=>⟨Kp.trans f.k i.k,y▸i.e▸rfl⟩))) (pq n)
theorem st_not(j:ST B9 w A B3 cf a):ST B9 w A B3 cf (.not a):=λs BM e H ρ m d t E n c o q=>
 tD o λx u y i z=>IUn.rec (motive:=λe Z=>wpAny (wc B9 w) A (yi e BM (wM e BM)) (dS s t) E s) (λh=>PyProof.Rows.isTrue_not (aR (j s BM _ H ρ m x u E h c y i) λb B2 f=>⟨f.k,(wv _ f.e).trans (v5 ((wv bg z).trans q))⟩)) (pq n)
theorem se_neg(f:SE B9 w A B3 cf a):SE B9 w A B3 cf (.neg a):=λs BM e H ρ m d E j c n=>
 evi_neg n λi o q=>IUn.rec (motive:=λe Z=>wpAny (wc B9 w) A (wM e BM) (bc w s H d) E s) (λh=>PyProof.Rows.UnaryOp_ (f.go h c o λv BU b=>b.r.intE λZ=>PyProof.Rows.neg_int (q▸gL.tr b.k))) (s9 j)
theorem jJ:SEs B9 w A B3 cf []:=λs BM es H ρ m ds E a c b=>
 j9 (C:=λes=>wpAny (wc B9 w) A (AP (es.map λe=>(vP,wM e BM))) (vy w s H ds) E s) a (Calls.spliced_nil ⟨Kp.refl _,v5 b▸rfl⟩)
theorem gZ{r:vR ME}(n:SE B9 w A B3 cf a)(o:SEs B9 w A B3 cf r):SEs B9 w A B3 cf (a::r):=λs BM es H ρ m ds E q c t=>
 qS t λx xs u i e=>dh (C:=λes=>wpAny (wc B9 w) A (AP (es.map λe=>(vP,wM e BM))) (vy w s H ds) E s) q λj f h1 y=>Calls.spliced_cons (n.go h1 c.l u λv BU b=>aR (o BU BM f H ρ m xs E y (c.r.k b.k) i) λvs B2 h=>h.rec λk r=>⟨Kp.trans b.k k,e▸.cons (b.r.keeps (Kp.heap k)) r⟩)
theorem se_tup{f:vR ME}(j:SEs B9 w A B3 cf f):SE B9 w A B3 cf (.tup f):=λs BM e H ρ m d E o c q=>
 evi_tup q λds b i t=>ITup.rec (motive:=λe Z=>wpAny (wc B9 w) A (wM e BM) (bc w s H d) E s) (λ{vs n p} h=>PyProof.Rows.Tuple_ (by
  rw[dZ h,eT];exact aR (j s BM _ H ρ m ds E h c b) λvs BU a=>a.rec λk r=>xh ⟨Kp.trans k (Kp.push _ _),t▸eY (c.k k).x i r⟩ (show vs.toArray.size<=Ae from v6 (wD (zT.trans r.length)) i))) (s5 o)
theorem sf_lst{i:vR ME}(n:SEs B9 w A B3 cf i):SF B9 w A B3 cf (.lst i):=λs BM e H ρ m d fr E o c b=>
 eQ b QQ λb q=>evi_lst b λds f j t=>ILst.rec (motive:=λe Z=>wpAny (wc B9 w) A (wM e BM) (bV w s H d fr) E s) (λ{vs p} h=>PyProof.Rows.List_ (by
  rw[dZ h,eT];exact aR (n s BM _ H ρ m ds E h c f) λvs BU a=>a.rec λk r=>xh (t▸q▸(iO (vs:=vs.toArray) (c.k k).x j r (λZ Z e=>Heap.gt_push_of_some _ e) (Heap.get?_push_size _ QQ)).tr k) (show vs.toArray.size<=Ae from v6 (wD (zT.trans r.length)) j))) (tc o)
end
section
variable {B9:wq} {w:wy} {A:wt} {s:vZ} {B3:Heap} {mg mb:Str->vY vU} {cf:CF} {H:v8->Prop} {E:vU->vZ->Prop} {a b:ME} {d:D}
theorem se_of_sf{a:ME}(h:SF B9 w A B3 cf a)(f:∀ ρ d,evE cf ρ a=ac d->∃ fr,evF cf ρ a=ac (d,fr)):SE B9 w A B3 cf a:=λs BM e H ρ m d E i c j=>
 (f ρ d j).elim λfr b=>aR (h s BM e H ρ m d fr E i c b) λZ Z q=>q.post
theorem subscripted_plain{f:wi}{o i:vU}(h:∀ a b c d,f=.Slice a b c d->False):subscripted f vP o i=operate [o,i] (An o i):=by
 cases f with
 | Slice a b c d=>exact (h a b c d QQ).elim
 | _=>rfl
theorem ux(u:A.units+1<yg)(z:SE B9 w A B3 cf a)(B:SE B9 w A B3 cf b):SE B9 w A B3 cf (.sub a b):=λs BM e H ρ m d E C c G=>
 evi_sub G λx y I J L=>ISub.rec (motive:=λe Z=>wpAny (wc B9 w) A (wM e BM) (bc w s H d) E s) (λj h1 M=>PyProof.Rows.Subscript_ (z.go h1 c.l I λv BU f=>B.go M (c.r.k f.k) J λn B2 h=>
  have g:=getItem_snd u (B9:=B9) (w:=w) (A:=A) (E:=E) (f.r.keeps (Kp.heap h.k)) h.r L
  g.2.elim λT q=>q.elim λid q=>PyProof.Rows.tail_any q.1 q.2 (aR g.1 λo t i=>i.tr (Kp.trans f.k h.k)) (subscripted_plain j))) (lZ C)
theorem qm(f:SE B9 w A B3 cf a){s:vZ}{BM:Env}{l:vY wi}{H:v8->Prop}{ρ:vR (vV×D)}{m:Str->vY vU}{d:D}{Q:vU->vZ->Prop}
  (b:chkO BM.kindOf l a=vT) (c:Cc w B3 s BM H ρ m a.names) (he:evE cf ρ a=ac d) (k:∀ v BU,bc w s H d v BU->Q v BU):wpAny (wc B9 w) A (evalPart l BM) Q E s:=by
 cases l with
 | none=>exact we (k _ _ ⟨Kp.refl _,isNone_inv (C:=λa=>evE cf ρ a=ac d->Rep w.params s.heap H .none d) b (λhe=>v5 he▸rfl) he⟩)
 | some x=>exact f.go b c he k
theorem n5{α:Type}(l:vR α)(a b:Nat):(l.drop (min a l.length)).take (min b l.length - min a l.length)=(l.take b).drop a:=by
 rw[List.drop_take]
 by_cases c:a<=l.length
 ·rw[y5 c]
  by_cases f:b<=l.length
  ·rw[y5 f]
  ·have f:=Nat.le_of_not_le f
   rw[Ag f,zc (wD ym),zc (by rw[ym];exact Nat.sub_le_sub_right f a)]
 ·have c:=Nat.le_of_not_le c
  rw[Ag c,List.drop_of_length_le (wF _),List.drop_of_length_le c,AX,AX]
structure jB(v:vU)(n dflt:Nat)(k:vY Int):Prop where
 p:IsPart v k
 e:(k=wa/\n=dflt)\/k=ac (n:Int)
theorem jL{P:wT}{h:Heap}{v:vU}{x:D}{n:Nat}(dflt:Nat)(b:Rep P h H v x)(a:bnd x dflt=ac n):∃ k,jB v n dflt k:=by
 cases x with
 | none=>exact b.noneE ⟨wa,.none,.inl ⟨QQ,(v5 a).symm⟩⟩
 | int i=>exact b.intE λt=>aS a λc e=>⟨ac i,.int _ _,.inr (by rw[<- e,xW c])⟩
 | _=>exact ag a
theorem jB.clip{v:vU}{n dflt k:Nat}{o:vY Int}(h:jB v k dflt o)(a:dflt<=n):o.elim dflt (clipAt n)=min k n:=h.e.elim (λq=>by rw[q.1,q.2,y5 a];rfl) λq=>by rw[q];exact clipAt_nat n k
theorem sl_list{x:vU}{ds:vR D}{f h:vU}{lo i:D}(t:Ex s.heap H)(u:Rep w.params s.heap H x (.list ds))(y:Rep w.params s.heap H f lo)(z:Rep w.params s.heap H h i)(he:slD (.list ds) lo i=ac d){a:v8}
  (B:s.heap.get? a=ac { cls:=.type "slice",data:=.fields #[f,h,.none] }):wpAny (wc B9 w) A (An x (.ref a)) (bV w s H d d.isList) E s:=
 fD he λj h1 he=>br he λm C e=>e▸u.listE λl vs n G I b c=>(jL 0 y h1).elim λJ o=>(jL vs.size z (c.size.symm▸C)).elim λL q=>
  wpAny_getItem_list_slice (aX G) ⟨_,B,QQ,QQ⟩ o.p q.p .none nofun (iO t (by rw[ym,xK];exact v6 (Nat.sub_le _ _) (v6 (Ah _ _) b)) (by
   rw[slicePick_plain,o.clip (ww _),q.clip (wF _)];exact (n5 vs.toList j m).symm▸(c.take m).drop j) (λZ Z e=>Heap.gt_push_of_some _ e) (Heap.get?_push_size _ QQ)) (c.size.symm▸b)
theorem qj{P:wT}{h:Heap}{v:vU}{d:D}{a:vY Int}(r:Rep P h H v d)(b:bndS d=ac a):∃ l:vY (Int×Tok),v=partValue l/\l.map (·.1)=a:=by
 cases d with
 | none=>exact r.noneE ⟨wa,QQ,v5 b⟩
 | int i=>exact r.intE λt=>⟨ac (i,t),QQ,v5 b⟩
 | _=>exact ag b
theorem sl_str{x:Str}{t:Tok}{c f:vU}{lo h:D}(i:Rep w.params s.heap H c lo)(j:Rep w.params s.heap H f h)(he:slD (.str x) lo h=ac d){a:v8}
  (m:s.heap.get? a=ac { cls:=.type "slice",data:=.fields #[c,f,.none] }):wpAny (wc B9 w) A (An (.str x t) (.ref a)) (bV w s H d d.isList) E s:=
 bK he λb he=>fD he λy h1 he=>br he λz n e=>(qj i h1).elim λl o=>(qj j n).elim λu q=>by
  obtain⟨rfl,rfl⟩:=o;obtain⟨rfl,rfl⟩:=q;exact e▸wpAny_getItem_str_slice (st:=wa) ⟨_,m,QQ,QQ⟩ QQ (post_val_or_str ⟨v6 (Txt.slice_le _ _ _) b,λB k=>og.pf QQ⟩)
theorem i8{v:vU}{k:vY Int}{Q:vY Int->vZ->Prop}(a:IsPart v k)(h:Q k s):wpAny (wc B9 w) A (Builtin.Slice.slicePartIndex v) Q E s:=by
 cases a with
 | none=>exact PyProof.Rows.slicePart_none h
 | int i t=>exact PyProof.Rows.slicePart_int h
theorem adjust_nat{f h:vU}{c kb:vY Int}{a b n:Nat}(i:jB f a 0 c)(j:jB h b n kb):Builtin.Slice.sliceAdjust c kb 1 (n:Int)=(((min a n:Nat):Int),((min b n:Nat):Int)):=by
 unfold Builtin.Slice.sliceAdjust;have h1:¬ ((1:Int)<0):=by decide
 simp only[h1,zb]
 congr 1
 ·rcases i.e with⟨rfl,rfl⟩ | rfl
  ·show (0:Int)=_;exact om44
  ·show (if (a:Int)<0 then _ else _)=_
   rw[wo (rP)];exact om46
 ·rcases j.e with⟨rfl,rfl⟩ | rfl
  ·show (b:Int)=_;exact om47
  ·show (if (b:Int)<0 then _ else _)=_
   rw[wo (rP)];exact om46
theorem places_nat(a b:Nat):Builtin.Slice.slicePlaces (a:Int) (b:Int) 1=b - a:=by
 unfold Builtin.Slice.slicePlaces;have h1:(1:Int) > 0:=by decide
 simp only[h1,AN,Int.ediv_one]
 split
 ·rw[Int.sub_add_cancel];exact Int.toNat_sub b a
 ·next h=>exact (Nat.sub_eq_zero_of_le (yH.mp (zm.mp h))).symm
theorem pick_nat(xs:wA vU)(a k:Nat):((wR k).filterMap λ(j:Nat)=>xs[((a:Int)+(j:Int) * 1).toNat]?)=(xs.toList.drop a).take k:=by
 have e:(λ(j:Nat)=>xs[((a:Int)+(j:Int) * 1).toNat]?)=λj=>xs[a+j]?:=by
  funext j
  have:((a:Int)+(j:Int) * 1).toNat=a+j:=by exact om48
  rw[this]
 rw[e];have:=pick_run xs a k;rw[List.filterMap_map] at this;exact this
theorem sliceApplied_nat{j:v8}{c f:vU}{m kb:vY Int}{a b n:Nat}{Q:Int×Int×Nat->vZ->Prop}(i:s.heap.get? j=ac { cls:=.type "slice",data:=.fields #[c,f,.none] })(o:jB c a 0 m)(q:jB f b n kb)(h:Q (((min a n:Nat):Int),1,min b n - min a n) s):wpAny (wc B9 w) A (Builtin.Slice.sliceApplied (.ref j) (pure (n:Int))) Q E s:=by
 unfold Builtin.Slice.sliceApplied Builtin.Slice.sliceFields;refine vX (vX (yt i QQ (x:=c) QQ (vX (yt i QQ (x:=f) QQ (vX (yt i QQ (x:=.none) QQ (we ?_)))))));refine vX (PyProof.Rows.slicePart_none ?_);show wpAny _ _ (if ((1:Int) == 0)=vT then _ else _) _ _ s
 rw[wo (by decide)]
 refine vX (i8 o.p (vX (i8 q.p (vX (we ?_)))));show wpAny _ _ (match Builtin.Slice.sliceAdjust m kb 1 (n:Int) with | (lo,t)=>pure (lo,(1:Int),Builtin.Slice.slicePlaces lo t 1)) _ _ s
 rw[adjust_nat o q];show wpAny _ _ (pure (((min a n:Nat):Int),(1:Int),Builtin.Slice.slicePlaces ((min a n:Nat):Int) ((min b n:Nat):Int) 1)) _ _ s;rw[places_nat];exact we h
theorem sl_tup{x:vU}{ds:vR D}{q u:vU}{lo y:D}(J:Ex s.heap H)(L:Rep w.params s.heap H x (.tup ds))(M:Rep w.params s.heap H q lo)(N:Rep w.params s.heap H u y)(he:slD (.tup ds) lo y=ac d){i:v8}
  (z:s.heap.get? i=ac { cls:=.type "slice",data:=.fields #[q,u,.none] }):wpAny (wc B9 w) A (An x (.ref i)) (bV w s H d d.isList) E s:=by
 refine fD he λa h1 he=>br he λb O e=>e▸L.tupE λt items n B j o C=>(jL 0 M h1).elim λX T=>(jL items.size N (C.size.symm▸O)).elim λY U=>?_
 have h:=eA B;have f:((ds.take b).drop a).length<=big:=by rw[ym,xK];exact v6 (Nat.sub_le _ _) (v6 (Ah _ _) o)
 have c:am w.params s.heap H ((items.toList.drop (min a items.size)).take (min b items.size - min a items.size)) ((ds.take b).drop a):=(n5 items.toList a b).symm▸(C.take b).drop a;unfold An
 try with_reducible refine yk ?_
 first | refine vX (we ?_) | skip
 refine vX (wpAny_sequenceKey h.typeIs (by decide) ?_)
 refine vX (yC (name:=vQ "__getitem__") h.typeIs PyProof.Rows.slot_tuple_getitem
  (xJ PyProof.Rows.slot_tuple_getitem h.typeIs PyProof.Rows.entry_tuple_getitem ?_ (PyProof.Rows.args_tuple_getitem _ _)))
 show wpAny _ _ (Builtin.Tuple.tupleItemsOf (.ref t) >>= _) _ _ s;refine vX (PyProof.Rows.tupleItemsOf_ h (vX (Br (show s.TypeIs (.ref i) "slice" from⟨_,z,QQ⟩) ?_)));rw[wh (by decide)]
 refine vX (sliceApplied_nat z T U ?_);show wpAny _ _ (if (((min a items.size:Nat):Int) == 0&&(1:Int) == 1&&(min b items.size - min a items.size) == items.size)=vT then _ else _) _ _ s
 split
 ·rename_i V
  refine fL V λc1 Z c2=>?_
  have G:min a items.size=0:=Int.ofNat.inj (eq_of_beq c1);have I:=eq_of_beq c2;rw[G,Nat.sub_zero] at I;rw[G,Nat.sub_zero,I,AQ,zc (wD wN)] at c;refine vX (m:=Builtin.Tuple.tupleIsExact _) (vX (Br h.typeIs (we ?_)));rw[wh (by decide)]
  exact vX (zN (we ⟨_,QQ,we ⟨Kp.refl _,.mk B j f c,nofun⟩⟩))
 ·rw[pick_nat]
  exact vX (m:=Builtin.Tuple.tupleExact _) (xh (we ⟨_,QQ,we ⟨Kp.push _ _,eY J f c,nofun⟩⟩) (show ((items.toList.drop (min a items.size)).take (min b items.size - min a items.size)).toArray.size<=Ae from v6 (wD (zT.trans c.length)) (v6 f (by decide))))
theorem slice_snd{v:vU}{x:D}{j m:vU}{lo n:D}(o:Ex s.heap H)(b:Rep w.params s.heap H v x)(c:Rep w.params s.heap H j lo)(f:Rep w.params s.heap H m n)(he:slD x lo n=ac d){a:v8}
  (h:s.heap.get? a=ac { cls:=.type "slice",data:=.fields #[j,m,.none] }):wpAny (wc B9 w) A (An v (.ref a)) (bV w s H d d.isList) E s/\vK s v:=by
 cases x with
 | str x=>exact b.strE λt=>⟨sl_str c f he h,"str",_,typeIs_str _ _ _,F.slot_str_getitem.lookup⟩
 | tup ds=>exact⟨sl_tup o b c f he h,b.tupE λZ Z Z i Z Z Z=>⟨"tuple",_,(eA i).typeIs,F.slot_tuple_getitem.lookup⟩⟩
 | list ds=>exact⟨sl_list o b c f he h,b.listE λZ Z Z i Z Z Z=>⟨"list",_,(aX i).typeIs,F.slot_list_getitem.lookup⟩⟩
 | _=>exact ag he
theorem sf_sl{lo n:ME}(B:SE B9 w A B3 cf a)(C:SE B9 w A B3 cf lo)(G:SE B9 w A B3 cf n):SF B9 w A B3 cf (.sl a lo n):=λs BM e H ρ m d fr E I c j=>
 eQ j QQ λj J=>evi_sl j λx y z L M N O=>ISl.rec (motive:=λe Z=>wpAny (wc B9 w) A (wM e BM) (bV w s H d fr) E s) (λh1 U V=>PyProof.Rows.Subscript_ (B.go h1 c.l.l L λv BU h=>wpAny_Slice (qm C U (c.l.r.k h.k) M λo B2 i=>
  have k2:=Kp.trans h.k i.k
  qm G V (c.r.k k2) N λt b f=>we (
   have kp:=Kp.push b { cls:=.type "slice",data:=.fields #[o,t,.none] }
   have u:=Kp.trans (Kp.trans k2 f.k) kp
   have g:=slice_snd (B9:=B9) (A:=A) (E:=E) (s:={ b with heap:=b.heap.push { cls:=.type "slice",data:=.fields #[o,t,.none] } }) (c.k u).x (h.r.keeps (Kp.heap (Kp.trans (Kp.trans i.k f.k) kp))) (i.r.keeps (Kp.heap (Kp.trans f.k kp))) (f.r.keeps (Kp.heap kp)) O (Heap.get?_push_size b.heap QQ)
   g.2.elim λT q=>q.elim λid q=>PyProof.Rows.tail_any (ops:=[_,_]) q.1 q.2 (aR g.1 λZ Z q=>J▸q.tr u) QQ)))) (uX I)
end
section
variable {B9:wq} {w:wy} {A:wt} {s:vZ} {B3:Heap} {mg mb:Str->vY vU} {cf:CF}
theorem cA{f:vU}{es:vR wi}{a:vR ME}{BM:Env}{pos:Pos}{Q:Args->vZ->Prop}{E:vU->vZ->Prop}(b:bM BM.kindOf es a=vT)
  (h:wpAny (wc B9 w) A (AP (es.map λe=>(vP,wM e BM))) (λvs s'=>Q ⟨vs,[]⟩ s') E s) :
  wpAny (wc B9 w) A (evalArgs f vT (backTo pos (yO es BM)) []) Q E s:=by
 rw[dZ b,eT];cases es with
 | nil=>
  unfold evalArgs;show wpAny _ A (AP [] >>= _) Q E s;exact vX (aR h λvs s' h'=>vX (we (yk (vX (we (vX (we (we h'))))))))
 | cons e es=>exact Calls.evalArgs_plain h
theorem any_false(es:vR wi)(BM:Env):((es.map λe=>(vP,wM e BM)).any (·.1))=vP:=by
 induction es with
 | nil=>rfl
 | cons _ _ a=>simpa using a
theorem sC(G:GOk mg mb B3)(C:CS0 B9 w B3 mg cf A){f:vV}{t:vR ME}(y:SEs B9 w A B3 cf t):SF B9 w A B3 cf (.call f t):=λs BM e H ρ m d fr E z c B=>
 evi_callF B λds j n=>lH.rec (motive:=λe Z=>wpAny (wc B9 w) A (wM e BM) (bV w s H d fr) E s) (λ{J I pos} u h=>(C f ds d fr n).elim λa q=>q.elim λo q=>q.elim λfd q=>
  PyProof.Rows.Call_Name QQ (Calls.Name_function_global c.R.kind (be u).1 (Calls.loadGlobal_global (mg:=mg) (c.R.glob▸Ns.keepAt G.g (c.hw.keep _)) q.1 (Calls.callWith_function (o:=o) (fd:=fd) (cA h (
   aR (y s BM I H ρ m ds E h c j) λvs BU b=>b.rec λk r=>⟨⟨Heap.of_gt ((c.k k).hw.keep _ _ q.2.1) (aO (by rw[q.2.2.1];nofun)),q.2.2.1⟩,aR (q.2.2.2 BU H vs E (c.k k).hw r) λv B2 i=>i.tr k⟩)))) (by simpa using (be u).2))) (fQ z)
theorem de(G:GOk mg mb B3){BM:Env}{m:Str->vY vU}{H:v8->Prop}{f:vV}{p:Pos}{E:vU->vZ->Prop}{Q:vU->vZ->Prop}(a:f∈cH)(R:aN s.heap BM m)(c:HOk B3 s.heap H)
  (i:bC BM.kindOf (vQ f)=vT) (h:Q (cY f) s):wpAny (wc B9 w) A (wM (.Name (vQ f) p) BM) Q E s:=
 Calls.Name_function_global R.kind (be i).1 (Calls.loadGlobal_builtin (mg:=mg) (mb:=mb) (R.glob▸Ns.keepAt G.g (c.keep _)) (G.blt f a).1 (R.blt▸Ns.keepAt G.b (c.keep _)) (G.blt f a).2 h) (by simpa using (be i).2)
theorem bltVal_is(f:vV):(∃ id,cY f=.builtin id)\/∃ T,cY f=.type T:=by
 unfold cY;cases vj.contains f with
 | true=>exact .inl ⟨_,QQ⟩
 | false=>exact .inr ⟨_,QQ⟩
theorem dQ{f:vV}{pos:Pos}{es:vR wi}{c:vR ME}{BM:Env}{Q:vU->vZ->Prop}{E:vU->vZ->Prop}(a:bM BM.kindOf es c=vT)
  (h:wpAny (wc B9 w) A (AP (es.map λe=>(vP,wM e BM))) (λvs s'=>wpAny (wc B9 w) A (call (cY f) vs) Q E s') E s) :
  wpAny (wc B9 w) A (callWith pos (cY f) [] (backTo pos (yO es BM)) []) Q E s:=by
 have b:(backTo pos (yO es BM)).any (·.1)=vP:=by rw[dZ a,eT];exact any_false _ _
 rcases bltVal_is f with⟨id,e⟩ | ⟨T,e⟩
 ·rw[e] at h ⊢;exact Calls.callWith_builtin b (cA a h)
 ·rw[e] at h ⊢;exact PyProof.Rows.callWith_type b (cA a h)
theorem se_blt(G:GOk mg mb B3)(n:A.handled=wa){f:vV}{j:vR ME}(o:f∈cH)(q:SEs B9 w A B3 cf j):SE B9 w A B3 cf (.blt f j):=λs BM e H ρ m d E t c u=>
 tF u λds i y=>lH.rec (motive:=λe Z=>wpAny (wc B9 w) A (wM e BM) (bc w s H d) E s) (λ{C z pos} B h=>PyProof.Rows.Call_Name QQ (de G o c.R c.hw B (dQ h (
  aR (q s BM z H ρ m ds E h c i) λvs BU a=>a.rec λk r=>aR (blt_snd n r (c.k k).x y) λv B2 b=>b.tr k)))) (ti t)
theorem t9{k:KD}{x:wi}{a:ME}(h:aC k x a=vT):bM k [x] [a]=vT:=wm.mpr ⟨h,QQ⟩
theorem sf_lcp(G:GOk mg mb B3)(o:A.handled=wa){a:ME}(q:SE B9 w A B3 cf a):SF B9 w A B3 cf (.lcp a):=λs BM e H ρ m d fr E t c j=>
 eQ j QQ λj u=>evi_lcp j λx ds y n z=>iH.rec (motive:=λe Z=>wpAny (wc B9 w) A (wM e BM) (bV w s H d fr) E s) (λB h=>PyProof.Rows.Call_Name QQ (de G (f:="list") (by decide) c.R c.hw B (dQ (t9 h) (Calls.spliced_cons (
  q.go h c y λv BU b=>Calls.spliced_nil (aR (lst_snd o b.r (c.k b.k).x n) λv B2 i=>z▸u▸i.tr b.k)))))) (te t)
theorem qC{d:D}{T:vV}{t:v7}(h:mS d T=ac t):T∈cH/\cY T=.type T:=
 bK h λa Z=>ow (C:=λT=>T∈cH/\cY T=.type T) a ⟨by decide,QQ⟩ ⟨by decide,QQ⟩ ⟨by decide,QQ⟩ ⟨by decide,QQ⟩ ⟨by decide,QQ⟩
theorem se_isi(G:GOk mg mb B3){a:ME}{T:vV}(o:SE B9 w A B3 cf a):SE B9 w A B3 cf (.isi a T):=λs BM e H ρ m d E q c u=>
 evi_isi u λx t y j z=>IIsi.rec (motive:=λe Z=>wpAny (wc B9 w) A (wM e BM) (bc w s H d) E s) (λ{I x B pos} C n h=>PyProof.Rows.Call_Name (trees:=[(vP,wM x BM),(vP,wM (.Name (vQ T) B) BM)]) (by rw[fN h];rfl) (de G (f:="isinstance") (by decide) c.R c.hw C
  (Calls.callWith_builtin QQ (Calls.evalArgs_plain (Calls.spliced_cons (o.go h c y λv BU b=>Calls.spliced_cons (de G (qC j).1 (c.k b.k).R (c.k b.k).hw n (Calls.spliced_nil ((qC j).2.symm▸aR (isi_snd b.r j) λv B2 i=>z▸i.tr b.k))))))))) (pu q)
end
end Mine
namespace Mine
open PySem PyProof.Rows
theorem mid_in{lo a:Nat}(h:lo<a):lo<=(lo+a) / 2/\(lo+a) / 2<a:=
 ⟨(Nat.le_div_iff_mul_le (xH 1)).mpr (Nat.mul_two lo▸wW (xb h) lo),Nat.div_lt_of_lt_mul (Nat.two_mul a▸Nat.add_lt_add_right h a)⟩
theorem mid_less{lo a m n x:Nat}(h1:lo<=m)(c:m<a)(b:a - lo<=n - x)(f:x<n):a - (m+1)<=n - (x+1)/\m - lo<=n - (x+1):=
 ⟨v6 (Nat.sub_le_sub_left (wL h1) a) (Nat.pred_le_pred b),Nat.le_pred_of_lt (wJ (Nat.sub_lt_sub_right h1 c) b)⟩
structure Wk(kl:Nat->Nat->v7):Prop where
 irr:∀ p,kl p p=vP
 tr:∀ {p q r},kl p q=vT->kl q r=vT->kl p r=vT
 neg:∀ {p q r},kl p q=vP->kl q r=vP->kl p r=vP
section
variable {kl:Nat->Nat->v7}
structure Mg(R:Nat->Nat->Prop)(T G xs ys:vR Nat):Prop where
 perm:(G++(xs++ys)).Perm T
 srt:G.Pairwise R
 le:∀ g∈G,∀ y,y∈xs\/y∈ys->R g y
variable {R:Nat->Nat->Prop} {T G xs ys:vR Nat}
end
end Mine
namespace Mine
open PySem
noncomputable abbrev Ris(xs:wA Nat):Prop:=xs.toList.Pairwise (·<·)
theorem nE{xs:wA Nat}(y:Ris xs)(j:Nat):∀ (fuel lo a:Nat),a - lo<=fuel->lo<=a->a<=xs.size->(∀ i (h:i<xs.size),i<lo->xs[i]<j)->(∀ i (h:i<xs.size),a<=i->j<=xs[i]) ->
  ∃ k,SetTable.below.go xs j fuel lo a=k/\k<=xs.size/\(∀ i (h:i<xs.size),i<k->xs[i]<j)/\(∀ i (h:i<xs.size),k<=i->j<=xs[i])
 | 0,lo,a,h1,z,n,t,u=>by
  have e:lo=a:=AC z (Nat.le_of_sub_eq_zero (Nat.le_zero.mp h1));subst e;exact⟨lo,QQ,n,t,u⟩
 | fuel+1,lo,a,h1,z,n,t,u=>by
  have mono:∀ i o (h:i<xs.size) (h':o<xs.size),i<o->xs[i]<xs[o]:=λi o h h' l=>by
   have:=zz.mp y i o (by simpa using h) (by simpa using h') l
   simpa using this
  show ∃ k,(if lo<a then (if xs.getD ((lo+a) / 2) j<j then SetTable.below.go xs j fuel ((lo+a) / 2+1) a else SetTable.below.go xs j fuel lo ((lo+a) / 2)) else lo)=k/\_
  by_cases w:lo<a
  ·rw[wh w]
   have s:=mid_in w;have c:lo<=(lo+a) / 2/\(lo+a) / 2<a/\a - ((lo+a) / 2+1)<=fuel/\(lo+a) / 2 - lo<=fuel:=⟨s.1,s.2,mid_less (x:=0) s.1 s.2 h1 (xH fuel)⟩;clear s;generalize (lo+a) / 2=m at c ⊢;have b:m<xs.size:=wJ c.2.1 n;have A:xs.getD m j=xs[m]:=by rw[Array.getD_eq_getD_getElem?,x4 xs m b];rfl
   rw[A]
   by_cases f:xs[m]<j
   ·rw[wh f]
    refine nE y j fuel (m+1) a c.2.2.1 c.2.1 n (λi h q=>?_) u
    rcases zF (zU q) with q | rfl
    ·exact xm (mono i m h b q) f
    ·exact f
   ·rw[wo f]
    refine nE y j fuel lo m c.2.2.2 c.1 (xb b) t λi h q=>?_
    rcases zF q with q | rfl
    ·exact xb (wg (yE f) (mono m i b h q))
    ·exact yE f
  ·rw[wo w]
   have e:lo=a:=AC z (yE w);subst e;exact⟨lo,QQ,n,t,u⟩
theorem rh{xs:wA Nat}(a:Ris xs)(j:Nat):SetTable.below xs j<=xs.size/\(∀ i (h:i<xs.size),i<SetTable.below xs j->xs[i]<j)/\(∀ i (h:i<xs.size),SetTable.below xs j<=i->j<=xs[i]):=by
 obtain⟨k,e,h⟩:=nE a j xs.size 0 xs.size (wD (Nat.sub_zero _)) (ww _) (wF _) (λZ Z h=>wI h (yL _)) λi h q=>wI h (Ai q)
 unfold SetTable.below;rw[e];exact h
structure dF(bt:v7)(t:x7):Prop where
 dum:t.dummies=#[]
 ris:Ris t.place
 led:t.led=!bt
theorem tv(j:Nat):SetTable.has #[] j=vP:=rfl
theorem dF.put{bt:v7}{t:x7}(h:dF bt t){j:Nat}(s:t.slot j=.empty):dF bt (t.put j).1:=by
 have o:=rh h.ris j;have m:t.place[SetTable.below t.place j]?≠ac j:=λe=>by
  unfold SetTable.slot at s;rw[wh (by rw[e];exact wH _)] at s;cases s
 refine⟨?_,?_,h.led⟩
 ·show (if SetTable.has t.dummies j=vT then _ else t.dummies)=#[]
  rw[h.dum,tv];rfl
 ·show (SetTable.insertAt t.place (SetTable.below t.place j) j).toList.Pairwise (·<·)
  rw[SetTable.toList_insertAt];generalize SetTable.below t.place j=k at o m;have n:t.place.toList.Pairwise (·<·):=h.ris;have b:=AD.mp ((Ak k t.place.toList).symm▸n);have lo:∀ x∈t.place.toList.take k,x<j:=λx c=>by
   obtain⟨i,f,rfl⟩:=zt c;have a:i<k:=wJ f (List.length_take_le _ _);have:=o.2.1 i (wJ a o.1) a;rw[List.getElem_take];simpa using this
  have f:∀ x∈t.place.toList.drop k,j<x:=λx c=>by
   obtain⟨i,f,rfl⟩:=zt c;rw[ym] at f;have a:k+i<t.place.size:=by simpa using Nat.add_lt_of_lt_sub' f
   have u:k<t.place.size:=wg (wB _ _) a;have w:=o.2.2 k u (wF _);have h1:t.place[k]≠j:=λe=>m (by rw[x4 _ k u,e])
   have z:t.place[k]<=t.place[k+i]:=by
    rcases Nat.eq_zero_or_pos i with rfl | q
    ·exact wF _
    ·have:=zz.mp h.ris k (k+i) (by simpa using u) (by simpa using a) (yd q)
     exact xb (by simpa using this)
   rw[List.getElem_drop];have:j<t.place[k+i]:=wJ (Nat.lt_of_le_of_ne w (Ne.symm h1)) z;simpa using this
  refine AD.mpr ⟨b.1,yo.mpr ⟨f,b.2.1⟩,λx c y hy=>?_⟩
  rcases wf.mp hy with rfl | hy
  ·exact lo x c
  ·exact b.2.2 x c y hy
theorem ris_range(n:Nat):Ris (Array.range n):=by
 show (Array.range n).toList.Pairwise _;rw[Array.toList_range];exact List.pairwise_lt_range
theorem dF.standIn{bt:v7}{t:x7}(h:dF bt t)(n:Nat):dF bt (t.standIn n):=⟨QQ,ris_range n,h.led⟩
theorem dF.orStandIn{bt:v7}{t:x7}(h:dF bt t)(n:Nat):dF bt (t.orStandIn n):=by
 unfold SetTable.orStandIn;split
 ·exact h
 ·exact h.standIn n
theorem qi{t:x7}(m:t.dummies=#[]){f:Nat->Int}{h:Int}:∀ (fuel:Nat) (p:SetTable.Probe) {j:Nat} {d:vY Nat},p.dummy=wa->SetTable.probe.go t f h fuel p=ac (.empty j d)->t.slot j=.empty/\d=wa
 | 0,p,j,d,b,e=>by cases e
 | fuel+1,p,j,d,b,e=>by
  have c:∀ q:SetTable.Probe,q.dummy=wa->(t.advance q).dummy=wa:=λq n=>by unfold SetTable.advance;split <;> exact n
  unfold SetTable.probe.go at e;cases a:t.slot p.j with
  | empty=>rw[a] at e;cases e;exact⟨a,b⟩
  | dummy=>
   exfalso;unfold SetTable.slot at a;rw[m,tv] at a;dsimp only at a;split at a <;> cases a
  | live i=>
   rw[a] at e;dsimp only at e;split at e
   ·cases e
   ·exact qi m fuel _ (c p b) e
theorem free_ok{bt:v7}{t:x7}(h:dF bt t){x:Int}{j:Nat}{b:v7}(e:t.freeSlot x=ac (j,b)):t.slot j=.empty:=by
 unfold SetTable.freeSlot at e;split at e
 ·rename_i c d a
  have:=qi h.dum _ _ QQ a;rw[this.2] at e;cases e;exact this.1
 ·cases e
theorem dF.layNew{bt:v7}{t:x7}(h:dF bt t)(es:wA (Int×vU))(x:Int)(v:vU):dF bt (layNew t es x v).2.1:=by
 unfold PySem.layNew
 split
 ·rename_i b a e
  exact (h.put (free_ok h e)).orStandIn _
 ·exact h.standIn _
theorem mK{g:Nat->vY Nat}:∀ l:vR Nat,((l.filterMap λj=>(g j).map (j,·)).map (·.1))=l.filter λj=>(g j).isSome
 | []=>rfl
 | j::l=>by
  rw[zu,List.filter_cons];cases e:g j with
  | none=>exact mK l
  | some y=>exact wv (j::·) (mK l)
theorem dF.relay{bt:v7}{t:x7}(h:dF bt t)(es:wA (Int×vU))(n:Nat):dF bt (Bs t es n).2.1:=by
 unfold Bs
 split
 ·rename_i i b e
  dsimp only
  split
  ·unfold SetTable.relaid SetTable.laid at e
   cases c:SetTable.layClean (SetTable.sizeAbove n - 1) (es.map (·.1)) with
   | none=>rw[c] at e;cases e
   | some a=>
    rw[c] at e;have f:=(wY (v5 e)).1;rw[<- f];refine⟨QQ,?_,h.led⟩;show ((((wR (SetTable.sizeAbove n - 1+1)).filterMap λj=>(a.getD j wa).map (j,·)).map (·.1)).toArray).toList.Pairwise (·<·)
    rw[mK];exact List.pairwise_lt_range.sublist List.filter_sublist
  ·exact h.standIn _
 ·exact h.standIn _
noncomputable abbrev gS(es:wA (Int×vU))(ep:Nat)(t:x7):Obj:={ cls:=.type "set",dict:=none,data:=.set es ep t,slots:=#[] }
noncomputable def bA(es:wA (Int×vU)):vR Int:=es.toList.map λe=>PyProof.Rows.numOf e.2
structure jA(bt:v7)(h:Heap)(a:v8)(es:wA (Int×vU)):Prop where
 obj:∃ ep t,h.get? a=ac (gS es ep t)/\t.fits es.size=vT/\dF bt t
 el:∀ e∈es.toList,∃ k tok,e=(zI k,.int k tok)
 nod:(bA es).Nodup
section
variable {B9:wq} {w:wy} {A:wt} {E:vU->vZ->Prop} {s:vZ} {bt:v7} {a:v8} {es:wA (Int×vU)}
theorem els_of(h:∀ e∈es.toList,∃ k tok,e=(zI k,.int k tok)):ElemsOf (Bk B9 w) es.toList:=λe a=>by
 obtain⟨k,tok,rfl⟩:=h e a;exact⟨⟨k,d9 k tok,QQ⟩,QQ⟩
theorem jD{b:wA (Int×vU)}{ep:Nat}{t c:x7}{Q:Unit->vZ->Prop}(f:s.heap.get? a=ac (gS es ep t))(hz:b.size<zk)
  (h:∀ h',Heap.SameBut a s.heap h'->h'.get? a=ac (gS b (ep+1) c)->Q () { s with heap:=h' }):wpAny (wc B9 w) A (storeSet a b c) Q E s:=by
 refine wpAny_storeSet_of f QQ (h _ (Heap.SameBut.update _ _ _) ?_) (Bb hz);exact Heap.get?_update_self (Obj.putSet b c) f QQ
theorem wpAny_addI{k:Int}{tok:Tok}{Q:v7->vZ->Prop}(Cy:jA bt s.heap a es)(B:es.size+1<zk)
  (h:∀ h' i,Heap.SameBut a s.heap h'->jA bt h' a i->(bA i).Perm (if k∈bA es then bA es else bA es++[k])->∀ b,Q b { s with heap:=h' }) :
  wpAny (wc B9 w) A (setAddHashed a (.int k tok) (zI k)) Q E s:=by
 obtain⟨⟨ep,t,Ci,Cj,Cs⟩,C,J⟩:=Cy;have M:=els_of (B9:=B9) (w:=w) C;have Ca:(Bk B9 w).is k (.int k tok)=vT:=d9 k tok;unfold setAddHashed setAddHashedIn;refine yk (vX (yQ Ci QQ Cj ?_));dsimp only;rw[byScan_of (knd:=Bk B9 w) rfl (zf B) M,wh rfl];unfold setAddByScan;refine vX (vX (zN (vX (wpAny_setScan_of Ca Ci QQ Cj M ?_))));have Cb:∀ e∈es.toList,(Bk B9 w).is k e.2=vT->k∈bA es:=λe he q=>by
  obtain⟨N,n,rfl⟩:=C e he;have:=Value.isInt_inj (.int N n) k N q (d9 N n);subst this;exact wz.mpr ⟨_,he,QQ⟩
 cases Ct:List.findIdx? (λe=>(Bk B9 w).is k e.2) es.toList with
 | some j=>
  obtain⟨Cz,Ck,_⟩:=List.findIdx?_eq_some_iff_getElem.mp Ct;have Cm:=Cb _ (yF Cz) Ck;refine we (we ?_);exact h s.heap es (Heap.SameBut.refl a s.heap) ⟨⟨ep,t,Ci,Cj,Cs⟩,C,J⟩ (by rw[wh Cm]) vP
 | none=>
  have O:k ∉ bA es:=λq=>by
   obtain⟨e,he,q⟩:=wz.mp q;obtain⟨N,n,rfl⟩:=C e he;have CA:N=k:=q;subst CA;have:=List.findIdx?_eq_none_iff.mp Ct _ he;rw[show (Bk B9 w).is N (.int N n)=vT from d9 N n] at this;cases this
  rw[wo O] at h;have f:=layNew_perm t es (zI k) (.int k tok);have m:=layNew_fits t es (zI k) (.int k tok);have I:=Cs.layNew es (zI k) (.int k tok);dsimp only;generalize layNew t es (zI k) (.int k tok)=L at f m I ⊢;obtain⟨c,CM,u,Cu⟩:=L;dsimp only at f m I ⊢;rw[zg] at f;have T:∀ e∈c.toList,∃ k tok,e=(zI k,.int k tok):=λe he=>by
   rcases xa.mp (f.mem_iff.mp he) with he | he
   ·exact C e he
   ·rw[wl.mp he];exact⟨k,tok,QQ⟩
  have V:(bA c).Perm (bA es++[k]):=by
   have:=f.map λ(e:Int×vU)=>PyProof.Rows.numOf e.2
   rwa [wS] at this
  have U:c.size<zk:=by
   have:=f.length_eq;rw[wn,wN,wN] at this;rw[this];exact B
  have G:∀ o,(bA o).Perm (bA es++[k])->(bA o).Nodup:=λo CB=>CB.nodup_iff.mpr (List.nodup_append.mpr ⟨J,xQ.mpr ⟨wG,List.nodup_nil⟩,λx CC y CD e=>O (by
   rw[wl.mp CD] at e;exact e▸CC)⟩)
  have Cv:∀ (b:v7) {BU:vZ} {Cn:Unit->vZ->Prop},Cn () BU->wpAny (wc B9 w) A (match b with | true=>rule "set.scan.the-table-gave-way" | false=>pure ()) Cn E BU:=
   λb BU Cn Cw=>by cases b <;> first | exact we Cw | exact zN Cw
  have fin:∀ z:x7,z.fits c.size=vT->dF bt z->wpAny (wc B9 w) A (do
    storeSet a c z
    if (!u&&z.tooFull)=vT then do
      (match (Bs z c (SetTable.grown c.size)).2.2 with | true=>rule "set.scan.the-table-gave-way" | false=>pure ())
      storeSet a (Bs z c (SetTable.grown c.size)).1 (Bs z c (SetTable.grown c.size)).2.1
      pure (ac vT)
     else pure (ac vT)) (λr s'=>∃ h' i,s'={ s with heap:=h' }/\r=ac vT/\Heap.SameBut a s.heap h'/\jA bt h' a i/\(bA i).Perm (bA es++[k])) E s:=λz Co Cd=>by
   refine vX (jD Ci U λh1 Ce Cf=>?_)
   split
   ·have H:=relayAll_perm z c (SetTable.grown c.size)
    have X:=relayAll_fits z c (SetTable.grown c.size);have Y:=Cd.relay c (SetTable.grown c.size);generalize Bs z c (SetTable.grown c.size)=CE at H X Y ⊢;obtain⟨o,CG,Cp⟩:=CE;dsimp only at H X Y ⊢;have Cg:(bA o).Perm (bA es++[k]):=(H.map λ(e:Int×vU)=>PyProof.Rows.numOf e.2).trans V
    have Ch:o.size<zk:=by
     have:=H.length_eq;rw[wN,wN] at this;rw[this];exact U
    refine vX (Cv _ (vX (jD (s:={ s with heap:=h1 }) Cf Ch λCH Cq Cr=>we ?_)))
    exact⟨CH,o,QQ,QQ,Ce.trans Cq,⟨⟨_,CG,Cr,X,Y⟩,λe he=>T e (H.mem_iff.mp he),G o Cg⟩,Cg⟩
   ·exact we ⟨h1,c,QQ,QQ,Ce,⟨⟨_,z,Cf,Co,Cd⟩,T,G c V⟩,V⟩
  have done:∀ r s',(∃ h' i,s'={ s with heap:=h' }/\r=ac vT/\Heap.SameBut a s.heap h'/\jA bt h' a i/\(bA i).Perm (bA es++[k])) ->
    wpAny (wc B9 w) A (match r with | some Z=>pure Z | none=>setAddHashedIn a (.int k tok) (zI k) 99999) Q E s':=λr s' q=>by
   obtain⟨h',i,rfl,rfl,CJ,q2,CL⟩:=q;exact we (h h' i CJ q2 CL vT)
  refine vX (Cv _ ?_)
  split
  ·refine vX ?_
   rw[hashByValue_scannable 8 rfl];exact we (yG (fin _ m I) (λr s' q=>done r s' q) λBF BF e=>e)
  ·exact vX (we (yG (fin _ m I) (λr s' q=>done r s' q) λBF BF e=>e))
end
noncomputable def cO(w:wy):v7:=w.params.followText "set-order"
section
variable {B9:wq} {w:wy} {A:wt} {E:vU->vZ->Prop} {s:vZ}
theorem eM{Q:v7->vZ->Prop}(h:Q (cO w) s):wpAny (wc B9 w) A setsByText Q E s:=by
 unfold setsByText;exact vX (wpAny_askSetting (we h))
theorem code_set_new'(a:vU){Q₁:vU->vZ->Prop}
  (h:Q₁ (.ref s.heap.objs.size) { s with heap:=s.heap.push (gS #[] 0 (.fresh 0 0 (!cO w))) }) :
  Bj (wc B9 w) A (.call (.builtin "set.__new__") ⟨[.type "set",a],[]⟩) (wants Q₁ E) s:=by
 refine codeAny_of_tree ?_;show wpAny _ A.in1 (do checkBuiltinCall "set.__new__" ⟨[.type "set",a],[]⟩;again (.builtin "set.__new__" ⟨[.type "set",a],[]⟩)) _ _ s
 refine vX (yr (F.newCall_set_1 a) (we ⟨Ac F.plain_set_new _,yM F.entry_set_new ?_⟩));rw[Around.under_plainId F.plain_set_new _];unfold xT.«set.__new__» Builtin.Frozenset.newClass;have b:=sub_set_self;obtain⟨c,g,d,tk,os⟩:=s;dsimp only
 wp_walk
 refine wpAny_askSetting (we ?_);dsimp only;simp only[newObj];refine vX (wpAny_alloc (we ?_));exact we h
theorem jA.move{bt:v7}{h h':Heap}{a:v8}{es:wA (Int×vU)}(S:jA bt h a es)(k:∀ o,h.get? a=ac o->h'.get? a=ac o):jA bt h' a es:=by
 obtain⟨ep,t,b,c,f⟩:=S.obj;exact⟨⟨ep,t,k _ b,c,f⟩,S.el,S.nod⟩
theorem fill_loop{R:Result->vZ->Prop}{I:v8}{fp O:vR v8}{n:Nat}{P:Nat->vU->Prop}{St:Nat->Heap->Prop}(W:zp B9 w A.in1 I fp O n P St)(S:v8)(H:S ∉ fp){bt:v7}
  {ns:vR Int} (J:∀ i v,P i v->∃ k t,ns[i]?=ac k/\v=.int k t) (Cb:ns.length=n) (u:n+1<zk)
  (Cd:∀ (h':Heap) (tk:Nat) es,(∀ b o,b ∉ S::O->s.heap.get? b=ac o->h'.get? b=ac o)->jA bt h' S es->(∀ k,k∈bA es↔k∈ns)->R (.ok (.ret .none)) { s with heap:=h',toks:=tk }) :
  ∀ (k i:Nat) (h:Heap) (tk:Nat) (es:wA (Int×vU)),n - i=k->i<=n->St i h->(∀ b o,b ∉ S::O->s.heap.get? b=ac o->h.get? b=ac o)->jA bt h S es->(∀ k,k∈bA es↔k∈ns.take i)->es.size<=i ->
   Bj (wc B9 w) A (.builtin "set.update.loop" ⟨[.ref S,.ref I],[]⟩) R { s with heap:=h,toks:=tk }:=by
 have L:S ∉ O:=λh=>H (W.sub _ h)
 intro k
 induction k with
 | zero=>
  intro i h tk es T U B a V X _;have Y:i=n:=AC U (Nat.le_of_sub_eq_zero T);subst Y;refine yM PyProof.Rows.F.entry_set_update_loop ?_;rw[Around.under_plainId PyProof.Rows.F.plain_set_update_loop _];show wpAny _ A.in1 (yP (.ref I) >>= _) _ _ _;refine vX (W.done _ _ _ B λh' Z M=>?_)
  show wpAny _ A.in1 (ret Value.none) _ _ _;refine we (Cd h' Z es (λb o u e=>M b o (λq=>u (xe _ q)) (a b o u e)) (V.move λo e=>M S o L e) λk=>?_)
  rw[X k,<- Cb,Aj]
 | succ k Ce=>
  intro i h tk es T U B a V X C;have N:i<n:=Nat.lt_of_sub_pos (T▸xH k);refine yM PyProof.Rows.F.entry_set_update_loop ?_;rw[Around.under_plainId PyProof.Rows.F.plain_set_update_loop _];show wpAny _ A.in1 (yP (.ref I) >>= _) _ _ _;refine vX (W.item i _ _ _ N B λv BV c Cf y f=>?_)
  obtain⟨z,t,Cg,rfl⟩:=J i v Cf;show wpAny _ A.in1 (holding [Value.int z t] (setAdd S (.int z t)) >>= _) _ _ _;refine vX (yk ?_);unfold setAdd;refine yk (vX ((Bk B9 w).pyHash (k:=z) (d9 z t) ?_));refine wpAny_addI (s:={ s with heap:=BV,toks:=c+1 }) (V.move λo e=>f S o L e) (wg (wL (v6 C U)) u) λBQ E j G m b=>?_
  refine we ⟨Ac PyProof.Rows.F.plain_set_update_loop _,Ce (i+1) BQ (c+1) E (by rw[Nat.sub_add_eq,T];rfl) N (W.frame _ _ _ y λb u o e=>?_) (λb o u e=>?_) G (λCh=>?_) ?_⟩
  ·rw[j.2 b λq=>H (q▸u)];exact e
  ·rw[j.2 b λq=>u (q▸wE)]
   exact f b o (λq=>u (xe _ q)) (a b o u e)
  ·rw[m.mem_iff,List.take_add_one,Cg,Option.toList_some,xa,<- X Ch]
   split
   ·next q=>exact⟨.inl,λCa=>Ca.elim id λCa=>(wl.mp Ca).symm▸q⟩
   ·rw[xa]
  ·have:=m.length_eq
   unfold bA at this;rw[v9,wN] at this;rw[this]
   split
   ·rw[v9,wN];exact ye C
   ·rw[wn,v9,wN];exact wL C
end
section
variable {B9:wq} {w:wy} {A:wt} {E:vU->vZ->Prop} {s:vZ}
theorem setI_fresh{h:Heap}{a:v8}{b:v7}(c:h.get? a=ac (gS #[] 0 (.fresh 0 0 (!b)))):jA b h a #[]:=
 ⟨⟨_,_,c,QQ,⟨QQ,.nil,QQ⟩⟩,λZ f=>by simp at f,.nil⟩
set_option maxRecDepth 100000 in
set_option maxHeartbeats 3200000 in
theorem call_setI{l:v8}{items:wA vU}{n:Nat}{ns:vR Int}{Q:vU->vZ->Prop}(Z:A.handled=wa)(T:s.heap.get? l=ac (fF items n))(Ca:∀ (i:Nat) (v:vU),items[i]?=ac v->∃ (k:Int) (t:Tok),ns[i]?=ac k/\v=Value.int k t)
  (Cb:ns.length=items.size) (H:items.size+1<zk)
  (h:∀ (h':Heap) (tk:Nat) es,(∀ b o,s.heap.get? b=ac o->h'.get? b=ac o)->jA (cO w) h' s.heap.objs.size es->(∀ k,k∈bA es↔k∈ns)->Q (.ref s.heap.objs.size) { s with heap:=h',toks:=tk }) :
  wpAny (wc B9 w) A (call (.type "set") [.ref l]) Q E s:=by
 obtain⟨c,Cm,U⟩:=F.called_set.mro;have I:=F.called_set.made;have V:=F.called_set.sub;refine wpAny_call (codeAny_of_tree ?_);show wpAny _ _ (callAny (.type "set") _) _ _ _;refine we ⟨Code.quiet_builtin _ (by decide +kernel),yM F.entry_type_call ?_⟩
 rw[Around.under_plain (weight_type_call_type "set" [.ref l] []) QQ];have h1:=F.called_set.notType;have Cn:=F.called_set.canCreate;have Cd:=F.typeCall_set_1 (.ref l)
 repeat (any_goals (first | assumption | wp_step))
 generalize f:s.heap.push (gS #[] 0 (.fresh 0 0 (!cO w)))=q;have j:q.get? s.heap.objs.size=ac (gS #[] 0 (.fresh 0 0 (!cO w))):=f▸Heap.get?_push_size _ QQ;have u:q.objs.size=s.heap.objs.size+1:=f▸Heap.size_push ..;have m:∀ b o,s.heap.get? b=ac o->q.get? b=ac o:=λb o e=>f▸Heap.get?_push_of_some _ e
 refine codeAny_mono (code_set_new' (.ref l) (E:=E) (Q₁:=λobj BU=>obj=.ref s.heap.objs.size/\BU={ s with heap:=q }) ⟨QQ,by rw[f]⟩) λr BU J=>?_
 cases r with
 | error e=>exact J
 | ok Ce=>
  cases Ce with
  | ret obj=>
   obtain⟨rfl,rfl⟩:=J;have Cf:Shared.TypeIs { s with heap:=q } (.ref s.heap.objs.size) "set":=⟨_,j,QQ⟩
   have Cg:=F.called_set.init.lookup;have Ch:=F.called_set.init.bind (.ref s.heap.objs.size)
   repeat (any_goals (first | assumption | wp_step))
   refine codeAny_mono (codeAny_call_builtin (R:=wants (λr B2=>r=.none/\Q (.ref s.heap.objs.size) B2) E) F.called_set.init.plain F.entry_set_init (check_set_init_1 Cf ?_)) λz B2 a=>?_
   ·have L:=m l _ T
    have X:=F.sub_list_set;have Y:=F.sub_list_frozenset;have Ci:(Value.type "list" == Value.type "dict")=vP:=by decide
    have B:q.IsList l items:=⟨_,L,QQ,n,QQ⟩;unfold xT.«set.__init__» noKeywords Builtin.Frozenset.updateFrom;generalize M:zY=Co
    wp_walk
    subst M;refine wpAny_pyIter_list B ?_;refine vX (wpAny_runValue ?_);have C:l<s.heap.objs.size:=Heap.lt_size T;have G:l≠q.objs.size:=by rw[u];exact wU (yf C)
    have N:A.in1.in1.in1.handled=wa:=Z;refine fill_loop (s:={ s with heap:=s.heap }) (Walks.list N _ l G items) s.heap.objs.size ?_ (bt:=cO w) Ca Cb H (λh' tk es Cj O Ck=>?_) (items.size - 0) 0 _ _ #[] QQ (ww _)
     ⟨⟨_,Heap.get?_push_size _ QQ,QQ,QQ⟩,B.push _⟩ (λb o BF e=>Heap.get?_push_of_some _ (m b o e)) (setI_fresh (Heap.get?_push_of_some _ j)) (λk=>by simp[bA]) (wF _)
    ·rw[u];simp only[wf,wG,xx,not_or]
     exact⟨wU (yX _),Bt C⟩
    ·refine we ?_
     show wpAny _ _ (ret Value.none) _ _ _;refine we ⟨QQ,h h' tk es (λb o e=>Cj b o ?_ e) O Ck⟩
     have H:=Heap.lt_size e;rw[u];simp only[wf,wG,xx,not_or];exact⟨wU H,wU (yf H)⟩
   ·cases z with
    | error e=>exact a
    | ok y=>
     cases y with
     | ret r=>
      obtain⟨rfl,Cp⟩:=a
      repeat (any_goals (first | assumption | wp_step))
     | _=>exact a.elim
  | _=>exact J.elim
end
theorem cF:Slot "set_iterator" "__next__" "set_iterator.__next__":=
 .of (owner:="set_iterator") (n:="__next__") (by rw[y6,yq];kernel_rfl) (by decide +kernel) (by decide +kernel) (by decide +kernel)
  (by first | exact .inl (by decide +kernel) | exact .inr (by decide +kernel)) (by rw[yU];kernel_rfl)
theorem gJ:Slot "set_iterator" "__iter__" "set_iterator.__iter__":=
 .of (owner:="set_iterator") (n:="__iter__") (by rw[y6,yq];kernel_rfl) (by decide +kernel) (by decide +kernel) (by decide +kernel)
  (by first | exact .inl (by decide +kernel) | exact .inr (by decide +kernel)) (by rw[yU];kernel_rfl)
theorem entry_setit_next:entryFor table "set_iterator.__next__"=ac xT.«set_iterator.__next__»:=entryFor_of_tree (by kernel_rfl)
theorem entry_set_iter:entryFor table "set.__iter__"=ac xT.«frozenset.__iter__»:=
 entryFor_alias (id':="frozenset.__iter__") (by kernel_rfl) QQ (by decide +kernel) (by kernel_rfl)
theorem entry_setit_iter:entryFor table "set_iterator.__iter__"=ac xT.«dict_keyiterator.__iter__»:=
 entryFor_alias (id':="dict_keyiterator.__iter__") (by kernel_rfl) QQ (by decide +kernel) (by kernel_rfl)
theorem args_setit_iter(a:vU):zG "set_iterator.__iter__" ⟨[a],[]⟩:=by unfold zG;kernel_rfl
theorem args_setit_next(a:vU):zG "set_iterator.__next__" ⟨[a],[]⟩:=by unfold zG;kernel_rfl
noncomputable abbrev d4(first:vU)(a:v8)(i n ep:Nat):Obj:={ cls:=.type "set_iterator",dict:=none,data:=.fields #[first,.int i 0,.ref a,.int n 0,.int ep 0],slots:=#[] }
section
variable {B9:wq} {w:wy} {A:wt} {E:vU->vZ->Prop} {s:vZ} {I a:v8} {first:vU} {i ep:Nat} {es:wA (Int×vU)} {t:x7} {Q:vY vU->vZ->Prop}
theorem iQ(c:s.heap.get? I=ac (d4 first a i es.size ep))(j:s.heap.get? a=ac (gS es ep t))(m:t.fits es.size=vT)
  (h:wpAny (wc B9 w) A.in1 (if let .int slot _:=first then do
    match <- Bl a slot.toNat (i:Int).toNat (ep:Int).toNat with
    | some (x,next)=>
     zD (.ref I) 0 (yc next)
     zD (.ref I) 1 (yc ((i:Int)+1))
     ret x
    | none=>zD (.ref I) 2 .none;Bq (<- AT (.type "StopIteration") [])
   else do
    let ac places <- seqItems? first | z9 "internal:set_iterator"
    match places[(i:Int).toNat]? with
    | some (.int b _)=>
     let x <- setNextDrawn a b.toNat (ep:Int).toNat
     zD (.ref I) 1 (yc ((i:Int)+1))
     ret x
    | some _=>z9 "internal:set_iterator"
    | none=>zD (.ref I) 0 (yc 0);zD (.ref I) 2 .none;Bq (<- AT (.type "StopIteration") []))
   (λfin s'=>∃ v,fin=.done (.ret v)/\Q (ac v) s') (λe s'=>wpAny (wc B9 w) A (do if <- isInstance e (.type "StopIteration") then pure wa else throw e) Q E s') s) :
  wpAny (wc B9 w) A (yP (.ref I)) Q E s:=by
 have f:s.TypeIs (.ref I) "set_iterator":=⟨_,c,QQ⟩;unfold yP;refine vX (zs (yC (name:=vQ "__next__") f cF (xJ cF f entry_setit_next ?_ (args_setit_next _))));refine vX (we (vX (wpAny_fieldsOf c QQ ?_)));refine vX (wpAny_setEntries_of j QQ m ?_);show wpAny _ _ (if (((es.size:Nat):Int) != ((es.size:Nat):Int))=vT then _ else _) _ _ _
 rw[wo (by simp)]
 exact yG h (λfin s' q=>by obtain⟨v,e,q⟩:=q;exact⟨v,e,we q⟩) λe s' q=>q
theorem n9(c:A.handled=wa){BV:Heap}(h:∀ h',(∀ b o,BV.get? b=ac o->h'.get? b=ac o)->Q wa { s with heap:=h' }){f:Fin->vZ->Prop} :
  wpAny (wc B9 w) A.in1 (do Bq (<- AT (.type "StopIteration") [])) f
   (λe s'=>wpAny (wc B9 w) A (do if <- isInstance e (.type "StopIteration") then pure wa else throw e) Q E s') { s with heap:=BV }:=by
 refine vX ?_;simp only[AT,newTuple];refine vX (xh ?_ (by size_fits))
 refine vX (m:=zj _ _) (yr (a:=Value.none) (by first | rfl | (simp only[zj];rfl)) ?_)
 refine xh ?_ (by size_fits)
 simp only[Bq];refine vX (wpAny_handled ?_);rw[show A.in1.handled=wa from c];refine vX (we (wpAny_throw ?_));refine vX (zo (T:="StopIteration") (b:=vT) ⟨_,Heap.get?_push_size _ QQ,QQ⟩ isSubtype_stop ?_);exact we (h _ λb o e=>Heap.get?_push_of_some _ (Heap.get?_push_of_some _ e))
theorem qw{b j:Nat}{x:vU}(c:s.heap.get? I=ac (d4 (.int b 0) a i es.size ep))(n:s.heap.get? a=ac (gS es ep t))(o:t.fits es.size=vT)
  (q:∀ (u:vU->vZ->Prop) (m:vY (vU×Nat)->vZ->Prop),m (ac (x,j)) s->wpAny (wc B9 w) A.in1 (Bl a b i ep) m u s)
  (y:∀ h',h'.get? I=ac (d4 (.int j 0) a (i+1) es.size ep)->Heap.SameBut I s.heap h'->Q (ac x) { s with heap:=h' }):wpAny (wc B9 w) A (yP (.ref I)) Q E s:=by
 refine iQ c n o (vX (q _ _ ?_));refine vX (yJ c (by simp) λBV f BU=>vX (yJ (s:={ s with heap:=BV }) f (by simp) λBQ h B2=>?_))
 exact we ⟨x,QQ,y BQ h (BU.trans B2)⟩
theorem jO(m:A.handled=wa){c:Nat}(f:s.heap.get? I=ac (d4 (.int c 0) a i es.size ep))(n:s.heap.get? a=ac (gS es ep t))(q:t.fits es.size=vT)
  (u:∀ (y:vU->vZ->Prop) (h:vY (vU×Nat)->vZ->Prop),h wa s->wpAny (wc B9 w) A.in1 (Bl a c i ep) h y s)
  (z:∀ h',(∀ b o,b≠I->s.heap.get? b=ac o->h'.get? b=ac o)->Q wa { s with heap:=h' }):wpAny (wc B9 w) A (yP (.ref I)) Q E s:=by
 refine iQ f n q (vX (u _ _ ?_));refine vX (yJ f (by simp) λBV j BU=>n9 m λh' B=>z h' λb o C e=>B b o ((BU.2 b C).trans e))
theorem next_dr{T:v8}{ps:wA vU}{n' pl:Nat}{tok:Tok}{x:Int×vU}(b:s.heap.get? I=ac (d4 (.ref T) a i es.size ep))(h:s.heap.get? a=ac (gS es ep t))(j:t.fits es.size=vT)
  (m:s.heap.get? T=ac (dm ps n')) (n:ps[i]?=ac (.int pl tok)) (o:es[pl]?=ac x)
  (q:∀ h',h'.get? I=ac (d4 (.ref T) a (i+1) es.size ep)->Heap.SameBut I s.heap h'->Q (ac x.2) { s with heap:=h' }):wpAny (wc B9 w) A (yP (.ref I)) Q E s:=by
 refine iQ b h j (vX (wpAny_seqItems m QQ ?_));show wpAny _ _ (match ps[i]? with | some (Value.int f tok)=>_ | some u=>_ | none=>_) _ _ _
 rw[n];refine vX ?_;unfold setNextDrawn;refine vX (yQ h QQ j ?_);show wpAny _ _ (if (ep != ep)=vT then _ else _) _ _ _
 rw[wo (by simp)]
 show wpAny _ _ (match es[pl]? with | some (_,x)=>_ | _=>_) _ _ _
 rw[o];refine we (vX (yJ b (by simp) λBV c BU=>?_))
 exact we ⟨x.2,QQ,q BV c BU⟩
theorem next_dr_end(m:A.handled=wa){T:v8}{ps:wA vU}{n':Nat}(c:s.heap.get? I=ac (d4 (.ref T) a i es.size ep))(n:s.heap.get? a=ac (gS es ep t))(q:t.fits es.size=vT)
  (u:s.heap.get? T=ac (dm ps n')) (y:ps[i]?=wa)
  (z:∀ h',(∀ b o,b≠I->s.heap.get? b=ac o->h'.get? b=ac o)->Q wa { s with heap:=h' }):wpAny (wc B9 w) A (yP (.ref I)) Q E s:=by
 refine iQ c n q (vX (wpAny_seqItems u QQ ?_));show wpAny _ _ (match ps[i]? with | some (Value.int h tok)=>_ | some B=>_ | none=>_) _ _ _
 rw[y];refine vX (yJ c (by simp) λBV f BU=>vX (yJ (s:={ s with heap:=BV }) f (by simp) λBQ j B2=>?_))
 exact n9 m λh' C=>z h' λb o G e=>C b o (((BU.trans B2).2 b G).trans e)
end
section
variable {B9:wq} {w:wy} {A:wt} {E:vU->vZ->Prop} {s:vZ}
theorem wpAny_chooseI{BH:Source}{n:Nat}{Q:Nat->vZ->Prop}(a:0<n)(h:∀ i dw,i<n->Q i { s with drawn:=dw }):wpAny (wc B9 w) A (choose BH n) Q E s:=λZ Z Z=>by
 unfold choose;rw[Sem.wp_choose];exact⟨Bt a,h _ _ (Nat.mod_lt _ a)⟩
theorem jv{α:Type}{x:α}:∀ {l:vR α} {i:Nat},l[i]?=ac x->(x::l.eraseIdx i).Perm l
 | [],_,h=>by simp at h
 | y::l,0,h=>by cases h;exact y7.refl _
 | y::l,i+1,h=>(y7.swap y x (l.eraseIdx i)).trans (y7.cons y (jv h))
theorem tI{α:Type}{Q:vR α->vZ->Prop}:∀ (n:Nat) (xs:vR α) (dw:zK),xs.length=n->(∀ ys f,ys.Perm xs->Q ys { s with drawn:=f })->wpAny (wc B9 w) A (drawOrder n xs) Q E { s with drawn:=dw }
 | 0,xs,dw,c,h=>we (h [] dw (by rw[yB c]))
 | n+1,[],dw,c,h=>nomatch c
 | n+1,x::xs,dw,c,h=>by
  unfold drawOrder;refine vX (wpAny_chooseI (s:={ s with drawn:=dw }) (xH _) λi a j=>?_)
  have e:(x::xs)[i]?=ac (x::xs)[i]:=wj j;rw[e];refine vX (tI n _ a ?_ λys b m=>we (h _ b ((y7.cons _ m).trans (jv e))))
  rw[List.length_eraseIdx,wh j,c];rfl
theorem sI{α:Type}(next:Nat->Nat):∀ (fuel k:Nat) (left:vR α) (out:wA α),left.length=fuel->(pickOrder.go next fuel k left out).toList.Perm (out.toList++left)
 | 0,k,left,out,h=>by rw[yB h,xY];exact y7.refl _
 | fuel+1,k,left,out,h=>by
  have a:next k % left.length<left.length:=Nat.mod_lt _ (h▸xH _);have e:left[next k % left.length]?=ac left[next k % left.length]:=wj a;unfold pickOrder.go;rw[e];refine (sI next fuel (k+1) _ _ (by rw[List.length_eraseIdx,wh a,h];rfl)).trans ?_
  rw[zg,Bc];exact y7.append_left _ (jv e)
theorem kG{α:Type}(next:Nat->Nat)(xs:wA α):(Ao next xs).toList.Perm xs.toList:=sI next _ 0 xs.toList #[] (wN ..)
noncomputable def eD(t:x7)(i:Nat):Nat:=match i with | 0=>0 | i+1=>t.place.getD i 0+1
theorem below_slot{t:x7}(m:Ris t.place){i:Nat}(n:i<=t.place.size):SetTable.below t.place (eD t i)=i:=by
 have f:=rh m (eD t i)
 have mono:∀ i b (h:i<t.place.size) (h':b<t.place.size),i<b->t.place[i]<t.place[b]:=λi b h h' l=>by
  have:=zz.mp m i b (by simpa using h) (by simpa using h') l
  simpa using this
 rcases Nat.lt_trichotomy (SetTable.below t.place (eD t i)) i with h | h | h
 ·exfalso
  cases i with
  | zero=>exact yL _ h
  | succ j=>
   have c:j<t.place.size:=n;have e:eD t (j+1)=t.place[j]+1:=by unfold eD;dsimp only;rw[Array.getD_eq_getD_getElem?,x4 _ j c];rfl
   have:=f.2.2 j c (zU h);rw[e] at this;exact AF _ this
 ·exact h
 ·exfalso
  have a:i<t.place.size:=wJ h f.1;have:=f.2.1 i a h;cases i with
  | zero=>exact yL _ this
  | succ j=>
   have c:j<t.place.size:=zf a;have e:eD t (j+1)=t.place[j]+1:=by unfold eD;dsimp only;rw[Array.getD_eq_getD_getElem?,x4 _ j c];rfl
   rw[e] at this;exact xl _ (wJ (mono j (j+1) c a (yX _)) (zU this))
section
variable {a:v8} {es:wA (Int×vU)} {ep i:Nat} {t:x7}
theorem ol(b:cO w=vT)(c:s.heap.get? a=ac (gS es ep t))(f:t.fits es.size=vT){Q:vY (vU×Nat)->vZ->Prop}
  (h:Q (((Ao (w.params.setOrder a ep) es)[i]?).map λe=>(e.2,0)) s):wpAny (wc B9 w) A (Bl a 0 i ep) Q E s:=by
 unfold Bl;refine vX (yQ c QQ f (vX (eM ?_)));rw[b];show wpAny _ _ (if (ep != ep)=vT then _ else _) _ _ _
 rw[wo (by simp)]
 refine vX ?_;unfold setWalk;refine vX (yQ c QQ f (vX (eM ?_)));rw[b];exact vX (wpAny_askSetting (we (we h)))
theorem qv(n:cO w=vP)(o:(!t.plain&&decide (es.size > 1))=vP)(u:s.heap.get? a=ac (gS es ep t))(c:t.fits es.size=vT)(f:dF vP t)(j:i<=es.size){Q:vY (vU×Nat)->vZ->Prop}
  (h:Q (es[i]?.map λe=>(e.2,eD t (i+1))) s):wpAny (wc B9 w) A (Bl a (eD t i) i ep) Q E s:=by
 have b:t.place.size=es.size:=by
  simp only[SetTable.fits,yl,yx] at c;exact c.1
 unfold Bl;refine vX (yQ u QQ c (vX (eM ?_)));rw[n];refine y8 (λq=>wI q wO) λZ=>?_
 refine y8 (λq=>wI (o▸q:vP=vT) wO) λZ=>?_
 refine vX ?_;show wpAny _ _ (if (!t.led&&!es.isEmpty)=vT then z9 "set:maker-not-led" else pure ()) _ _ _
 rw[f.led,wo (by simp)]
 refine we (we ?_);rw[below_slot f.ris (b▸j)]
 rcases zF j with hl | rfl
 ·have h1:es[i]?=ac es[i]:=x4 es i hl
  have m:t.place[i]?=ac t.place[i]:=x4 _ i (b▸hl);rw[h1] at h;rw[h1,m];have e:eD t (i+1)=t.place[i]'(b▸hl)+1:=by unfold eD;dsimp only;rw[Array.getD_eq_getD_getElem?,m];rfl
  rw[e] at h;exact h
 ·have h1:es[es.size]?=wa:=Array.getElem?_size
  rw[h1] at h ⊢;exact h
end
end
section
variable {B9:wq} {w:wy} {A:wt} {E:vU->vZ->Prop} {s:vZ}
theorem jl{I a:v8}{first:vU}{i n ep:Nat}{Q:vU->vZ->Prop}(b:s.heap.get? I=ac (d4 first a i n ep))(h:Q (.ref I) s):wpAny (wc B9 w) A (zY (.ref I)) Q E s:=by
 have c:s.TypeIs (.ref I) "set_iterator":=⟨_,b,QQ⟩;refine zS c gJ (xJ gJ c entry_setit_iter ?_ (args_setit_iter _));show wpAny _ _ (ret (.ref I)) _ _ s;exact we ⟨_,QQ,"set_iterator",_,c,cF.lookup,h⟩
theorem walks_text(C:A.handled=wa){I a:v8}(z:a≠I){es:wA (Int×vU)}{ep:Nat}{t:x7}(c:cO w=vT)(u:t.fits es.size=vT) :
  zp B9 w A I [I,a] [I] es.size (λi v=>((Ao (w.params.setOrder a ep) es).toList.map (·.2))[i]?=ac v) (λi h=>h.get? I=ac (d4 (.int 0 0) a i es.size ep)/\h.get? a=ac (gS es ep t)) where
 sub:=λb c=>by rw[wl.mp c];exact wE
 frame:=λZ Z Z st y=>⟨y I wE _ st.1,y a (xe _ wE) _ st.2⟩
 item:=λi s Q E G st f=>by
  have B:(Ao (w.params.setOrder a ep) es).size=es.size:=by have:=(kG (w.params.setOrder a ep) es).length_eq;rwa [wN,wN] at this
  have e:(Ao (w.params.setOrder a ep) es)[i]?=ac ((Ao (w.params.setOrder a ep) es)[i]'(B.symm▸G)):=x4 _ i _;refine qw (j:=0) st.1 st.2 u (λH J q=>ol c st.2 u (by rw[e];exact q)) λh' m n=>f _ h' s.toks ?_ ⟨m,(n.2 a z).trans st.2⟩ λb o c e=>(n.2 b λq=>c (q▸wE)).trans e
  rw[xL,xE,e];rfl
 done:=λs Q E st f=>by
  have B:(Ao (w.params.setOrder a ep) es).size=es.size:=by have:=(kG (w.params.setOrder a ep) es).length_eq;rwa [wN,wN] at this
  refine jO C st.1 st.2 u (λH J q=>ol c st.2 u (by rw[zZ (wD B)];exact q)) λh' y=>f h' s.toks λb o c e=>y b o (λq=>c (q▸wE)) e
 self:=λZ Z Z Z st f=>jl st.1 f
theorem walks_tab(G:A.handled=wa){I a:v8}(y:a≠I){es:wA (Int×vU)}{ep:Nat}{t:x7}(c:cO w=vP)(z:(!t.plain&&decide (es.size > 1))=vP)(n:t.fits es.size=vT)(B:dF vP t) :
  zp B9 w A I [I,a] [I] es.size (λi v=>(es.toList.map (·.2))[i]?=ac v) (λi h=>i<=es.size/\h.get? I=ac (d4 (.int (eD t i) 0) a i es.size ep)/\h.get? a=ac (gS es ep t)) where
 sub:=λb c=>by rw[wl.mp c];exact wE
 frame:=λZ Z Z st u=>⟨st.1,u I wE _ st.2.1,u a (xe _ wE) _ st.2.2⟩
 item:=λi s Q E C st f=>by
  have e:es[i]?=ac es[i]:=x4 _ i C;refine qw st.2.1 st.2.2 n (λH J q=>qv c z st.2.2 n B st.1 (by rw[e];exact q)) λh' j m=>f _ h' s.toks ?_ ⟨C,j,(m.2 a y).trans st.2.2⟩ λb o c e=>(m.2 b λq=>c (q▸wE)).trans e
  rw[xL,xE,e];rfl
 done:=λs Q E st f=>
  jO G st.2.1 st.2.2 n (λH J q=>qv c z st.2.2 n B st.1 (by rw[Array.getElem?_size];exact q)) λh' u=>f h' s.toks λb o c e=>u b o (λq=>c (q▸wE)) e
 self:=λZ Z Z Z st f=>jl st.2.1 f
theorem walks_dr(M:A.handled=wa){I a T:v8}(z:a≠I)(B:T≠I){es:wA (Int×vU)}{ep n':Nat}{t:x7}{ys:vR Nat}(C:ys.Perm (wR es.size))(H:t.fits es.size=vT) :
  zp B9 w A I [I,a,T] [I] es.size (λi v=>((ys.map λj=>es.getD j (0,.none)).map (·.2))[i]?=ac v)
   (λi h=>h.get? I=ac (d4 (.ref T) a i es.size ep)/\h.get? a=ac (gS es ep t)/\h.get? T=ac (dm (ys.map λ(i:Nat)=>yc i).toArray n')) where
 sub:=λb f=>by rw[wl.mp f];exact wE
 frame:=λZ Z Z st m=>⟨m I wE _ st.1,m a (xe _ wE) _ st.2.1,m T (xe _ (xe _ wE)) _ st.2.2⟩
 item:=λi s Q E N st n=>by
  have G:ys.length=es.size:=C.length_eq.trans xo;obtain⟨y,e⟩:∃ y,ys[i]?=ac y:=⟨_,wj (G.symm▸N)⟩;have J:y<es.size:=yV.mp (C.mem_iff.mp (List.mem_of_getElem? e));have L:es[y]?=ac (es[y]'J):=x4 es y J;refine next_dr st.1 st.2.1 H st.2.2 (by rw[List.getElem?_toArray,xL,e];rfl) L λh' u c=>n _ h' s.toks ?_ ⟨u,(c.2 a z).trans st.2.1,(c.2 T B).trans st.2.2⟩ λb o f e=>(c.2 b λq=>f (q▸wE)).trans e
  rw[xL,xL,e];show ac (es.getD _ _).2=_;rw[Array.getD_eq_getD_getElem?,L];rfl
 done:=λs Q E st n=>by
  have G:ys.length=es.size:=C.length_eq.trans xo;refine next_dr_end M st.1 st.2.1 H st.2.2 ?_ λh' m=>n h' s.toks λb o f e=>m b o (λq=>f (q▸wE)) e
  rw[List.getElem?_toArray];exact Ap (by rw[v9,G];exact wF _)
 self:=λZ Z Z Z st n=>jl st.1 n
theorem perm_get{es:wA (Int×vU)}{ys:vR Nat}(a:ys.Perm (wR es.size)):((ys.map λj=>es.getD j (0,.none)).map (·.2)).Perm (es.toList.map (·.2)):=by
 refine y7.map _ ((a.map _).trans (y7.of_eq ?_));apply List.ext_getElem
 ·simp
 ·intro i h1 b
  have c:i<es.size:=by simpa using b
  rw[List.getElem_map,List.getElem_range,Array.getD_eq_getD_getElem?,x4 es i c,Array.getElem_toList];rfl
theorem iter_setI{a:v8}{es:wA (Int×vU)}{Q:vU->vZ->Prop}(L:jA (cO w) s.heap a es)(hz:es.size<zk)
  (h:∀ (h':Heap) (dw:zK) (I:v8) (fp:vR v8) (xs:vR vU) (St:Nat->Heap->Prop),(∀ b o,s.heap.get? b=ac o->h'.get? b=ac o)->s.heap.objs.size<=I->(∀ b∈fp,b=a\/s.heap.objs.size<=b)->xs.Perm (es.toList.map (·.2)) ->
   (∀ m:wt,m.handled=wa->zp B9 w m I fp [I] es.size (λi v=>xs[i]?=ac v) St)->St 0 h'->Q (.ref I) { s with heap:=h',drawn:=dw }):wpAny (wc B9 w) A (zY (.ref a)) Q E s:=by
 obtain⟨⟨ep,t,c,j,J⟩,_,_⟩:=L;have n:s.TypeIs (.ref a) "set":=⟨_,c,QQ⟩;have u:a<s.heap.objs.size:=Heap.lt_size c;refine zS n F.slot_set_iter (xJ F.slot_set_iter n entry_set_iter ?_ (F.args_set_iter_1 _));unfold xT.«frozenset.__iter__» Builtin.Frozenset.slot0;refine vX (vX (we (we ?_)));refine vX ?_;unfold Builtin.Frozenset.sizeOf;refine vX (wpAny_setEntries_of c QQ j (we ?_));refine vX ?_;unfold setDrawn;refine vX (yQ c QQ j (vX (eM (we ?_))));refine y8 (λq=>?_) λq=>?_
 ·replace q:(!cO w&&(!t.plain&&decide (es.size > 1)))=vT:=q
  refine vX (tI es.size (wR es.size) s.drawn xo λys dw C=>vX (wpAny_newTuple ?_ (by
   rw[v9,C.length_eq,xo];exact Bb hz)))
  refine vX (wpAny_setEpoch_of (o:=gS es ep t) (Heap.get?_push_of_some _ c) QQ j ?_);refine vX ?_;unfold newFields;refine xh (we ⟨_,QQ,"set_iterator",_,⟨_,Heap.get?_push_size _ QQ,QQ⟩,cF.lookup,?_⟩);generalize hh1:s.heap.push { cls:=.type "tuple",data:=.seq (ys.map λ(i:Nat)=>yc i).toArray }=BV
  have G:BV.get? s.heap.objs.size=ac (dm (ys.map λ(i:Nat)=>yc i).toArray 0):=hh1▸Heap.get?_push_size _ QQ
  have f:BV.objs.size=s.heap.objs.size+1:=hh1▸Heap.size_push ..;have y:∀ b o,s.heap.get? b=ac o->BV.get? b=ac o:=λb o e=>hh1▸Heap.get?_push_of_some _ e
  refine h (BV.push (d4 (.ref s.heap.objs.size) a 0 es.size ep)) dw BV.objs.size [BV.objs.size,a,s.heap.objs.size] _ _ (λb o e=>Heap.get?_push_of_some _ (y b o e)) (f.symm▸xR _) (λb hb=>?_) (perm_get C)
   (λm z=>walks_dr (n':=0) (t:=t) (ep:=ep) z (f.symm▸wU (yf u)) (f.symm▸wU (yX _)) C j) ⟨Heap.get?_push_size _ QQ,Heap.get?_push_of_some _ (y _ _ c),Heap.get?_push_of_some _ G⟩
  rcases wf.mp hb with rfl | hb
  ·exact .inr (f.symm▸xR _)
  ·rcases wf.mp hb with rfl | hb
   ·exact .inl QQ
   ·rw[wl.mp hb];exact .inr (wF _)
 ·replace q:¬ (!cO w&&(!t.plain&&decide (es.size > 1)))=vT:=q
  refine vX (we (vX (wpAny_setEpoch_of c QQ j ?_)));refine vX ?_;unfold newFields;refine xh (we ⟨_,QQ,"set_iterator",_,⟨_,Heap.get?_push_size _ QQ,QQ⟩,cF.lookup,?_⟩);have H:∀ b∈[s.heap.objs.size,a],b=a\/s.heap.objs.size<=b:=λb hb=>by
   rcases wf.mp hb with rfl | hb
   ·exact .inr (wF _)
   ·exact .inl (wl.mp hb)
  have B:a≠s.heap.objs.size:=wU u;have go:=λxs St=>h (s.heap.push (d4 (.int 0 0) a 0 es.size ep)) s.drawn s.heap.objs.size [s.heap.objs.size,a] xs St (λb o e=>Heap.get?_push_of_some _ e) (wF _) H
  cases hb:cO w with
  | true=>exact go _ _ ((kG (w.params.setOrder a ep) es).map _) (λm z=>walks_text (t:=t) z B hb j) ⟨Heap.get?_push_size _ QQ,Heap.get?_push_of_some _ c⟩
  | false=>
   rw[hb] at q J;have M:(!t.plain&&decide (es.size > 1))=vP:=by simpa using q
   exact go _ _ (y7.refl _) (λm z=>walks_tab (t:=t) (ep:=ep) z B hb M j J) ⟨ww _,Heap.get?_push_size _ QQ,Heap.get?_push_of_some _ c⟩
end
section
variable {B9:wq} {w:wy} {A:wt} {E:vU->vZ->Prop} {s:vZ}
set_option maxRecDepth 100000 in
theorem hint_set{r:v8}{Q:v7->vZ->Prop}(c:s.TypeIs (.ref r) "set")(h:Q vP s):wpAny (wc B9 w) A (Builtin.List.listLengthHint (.ref r)) Q E s:=by
 unfold Builtin.List.listLengthHint;refine vX (AG c F.slot_set_len.lookup ?_);generalize hid:("set.__len__":vV)=f
 wp_delta
 rw[show splitId f=ac ("set","__len__") from by subst hid;decide +kernel]
 subst hid;refine vX (zo (T:="set") (b:=vT) c (by rw[yU];kernel_rfl) ?_)
 refine y8 (λa=>wI a (by decide)) (λZ=>?_)
 refine y8 (λZ=>?_) (λa=>wI (by decide +kernel) a)
 refine vX (Br c ?_);exact we h
theorem items_list{xs:vR vU}{acc:wA vU}(h:ItemsOf (λi v=>xs[i]?=ac v) acc xs.length):acc.toList=xs:=by
 apply List.ext_getElem?;intro i
 rcases Nat.lt_or_ge i xs.length with hi | hi
 ·have a:i<acc.size:=h.1.symm▸hi
  rw[xE,x4 acc i a,h.2 i _ (x4 acc i a)]
 ·rw[xE,zZ (h.1.symm▸hi),Ap hi]
theorem extend_setI{R:Result->vZ->Prop}{a S:v8}{es:wA (Int×vU)}(V:A.handled=wa)(M:jA (cO w) s.heap a es)(hz:es.size<zk)(G:S≠a)(n:vU)(X:s.heap.get? S=ac (fF #[] 0))
  (Cb:∀ h' tk dw i C,(∀ b o,b≠S->s.heap.get? b=ac o->h'.get? b=ac o)->h'.get? S=ac (fF i C)->i.toList.Perm (es.toList.map (·.2))->R (.ok (.ret n)) { s with heap:=h',toks:=tk,drawn:=dw }) :
  wpAny (wc B9 w) A.in1 (Builtin.List.listExtendWith (.ref S) (.ref a) n)
   (λfin s'=>match fin with | .done f=>R (.ok f) s' | .again C=>C.quiet=vT/\Bj (wc B9 w) A C R s') (λe s'=>R (.error e) s') s:=by
 have Cd:s.TypeIs (.ref a) "set":=by obtain⟨ep,t,N,_⟩:=M.obj;exact⟨_,N,QQ⟩
 have u:S<s.heap.objs.size:=Heap.lt_size X;unfold Builtin.List.listExtendWith;refine vX (Br Cd ?_);have h1:Builtin.List.listSameRef (.ref S) (.ref a)=vP:=by simp[Builtin.List.listSameRef,G]
 have Ce:(Value.type "set" == Value.type "list")=vP:=by decide
 have Cf:(Value.type "set" == Value.type "tuple")=vP:=by decide
 rw[h1,Ce,Cf];simp only[Bool.or_false,yI,zb];refine vX (iter_setI M hz λBV dw I fp xs St E Y O Z W st=>?_)
 have Cg:S≠I:=wU (wJ u Y);have H:S ∉ fp:=λq=>(O S q).elim G λq=>xl _ (wJ u q)
 have Ch:xs.length=es.size:=by rw[Z.length_eq,v9,wN]
 have J:∀ (h:Heap) (j tk:Nat),St 0 h->(∀ b o,b≠S->s.heap.get? b=ac o->h.get? b=ac o)->h.get? S=ac (fF #[] j) ->
   Bj (wc B9 w) A (.builtin "list.extend.loop" ⟨[.ref S,.ref I,n],[]⟩) R { s with heap:=h,toks:=tk,drawn:=dw }:=by
  intro h j tk T E c;refine codeAny_extend_loopS (W A.in1 V).toS (Bb hz) S H n es.size 0 _ #[] j QQ (ww _) T c (ItemsOf.nil _) λs' i C Ca U y=>?_
  rw[Moved.eq_with Ca];refine Cb s'.heap s'.toks dw i C (λb o z e=>Ca.heap b o (λhmem=>?_) (E b o z e)) U ?_
  ·rcases wf.mp hmem with e' | hmem
   ·exact z e'
   ·exact wI (Heap.lt_size e) (by rw[wl.mp hmem];exact Ai Y)
  ·rw[<- Ch] at y;rw[items_list y];exact Z
 have c:=E _ _ X;refine vX (yk (hint_set (s:={ s with heap:=BV,drawn:=dw }) (by obtain⟨ep,t,N,_⟩:=M.obj;exact⟨_,E _ _ N,QQ⟩) ?_))
 refine y8 (λBF=>?_) (λBF=>we ⟨Ac PySem.F.plain_extend_loop _,J _ 0 _ st (λb o BF e=>E b o e) c⟩)
 refine vX (zN (vX ?_));show wpAny _ _ (updateSeq S (·.push .none) >>= λBF=>updateSeq S (·.pop)) _ _ _
 refine vX (wpAny_updateSeq c QQ ?_);have m:=Heap.get?_update_self (Obj.mapSeq (·.push Value.none)) c QQ;refine wpAny_updateSeq (hz:=by seq_fits) m QQ ?_
 have B:=Heap.get?_update_self (Obj.mapSeq (·.pop)) m QQ;refine we ⟨Ac PySem.F.plain_extend_loop _,J _ _ _ ?_ (λb o z e=>?_) B⟩
 ·refine (W A.in1 V).frame 0 _ _ st λb z o e=>?_
  have L:b≠S:=λh=>H (h▸z)
  exact (Heap.get?_update_other _ _ (Ne.symm L)).trans ((Heap.get?_update_other _ _ (Ne.symm L)).trans e)
 ·exact (Heap.get?_update_other _ _ (Ne.symm z)).trans ((Heap.get?_update_other _ _ (Ne.symm z)).trans (E b o e))
theorem collect_setI{a:v8}{es:wA (Int×vU)}{Q:vR vU->vZ->Prop}(j:A.handled=wa)(f:jA (cO w) s.heap a es)(hz:es.size<zk)
  (h:∀ h' tk dw xs,(∀ b o,s.heap.get? b=ac o->h'.get? b=ac o)->xs.Perm (es.toList.map (·.2))->Q xs { s with heap:=h',toks:=tk,drawn:=dw }):wpAny (wc B9 w) A (collect (.ref a)) Q E s:=by
 have c:a<s.heap.objs.size:=by obtain⟨ep,t,m,_⟩:=f.obj;exact Heap.lt_size m
 unfold collect;refine vX (wpAny_runValue (yM PyProof.Rows.entry_proto_collect' ?_));show wpAny _ _ (do again (.builtin "list.__iadd__" ⟨[<- newList [],.ref a],[]⟩)) _ _ s
 refine vX (AZ (we ⟨Code.quiet_builtin _ (by decide +kernel),yM PyProof.Rows.entry_list_iadd' ?_⟩))
 rw[Around.under_plainId (show plainId "list.__iadd__"=vT by decide +kernel) _]
 show wpAny _ _ (Builtin.List.listExtendWith (.ref s.heap.objs.size) (.ref a) (.ref s.heap.objs.size)) _ _ _;refine extend_setI (R:=λr s'=>match r with
  | .ok (.ret v)=>wpAny (wc B9 w) A (match v with
   | .ref a=>do
    match (<- load a).data with
    | .seq xs _=>pure xs.toList
    | _=>z9 "internal:collect"
   | _=>z9 "internal:collect") Q E s'
  | .ok _=>False
  | .error e=>E e s') (A:=A) (s:={ s with heap:=s.heap.push (fF #[] 0) }) j (f.move λo e=>Heap.get?_push_of_some _ e) hz (Bt c) _ (Heap.get?_push_size _ QQ) λh' tk dw i y n q u=>?_
 show wpAny (wc B9 w) A (do
   let o <- load s.heap.objs.size
   match o.data with
   | .seq xs _=>pure xs.toList
   | _=>z9 "internal:collect") Q E { s with heap:=h',toks:=tk,drawn:=dw }
 refine vX (wpAny_load q (we (h h' tk dw _ (λb o e=>n b o (wU (Heap.lt_size e)) (Heap.get?_push_of_some _ e)) u)))
end
end Mine
namespace Mine
open PySem PyProof.Rows
section
variable {B9:wq} {w:wy} {A:wt} {E:vU->vZ->Prop} {s:vZ}
theorem sorted_setI{a:v8}{es:wA (Int×vU)}{Q:vU->vZ->Prop}(z:A.handled=wa)(u:jA (cO w) s.heap a es)(hz:es.size<64)
  (h:∀ h' tk dw L c (out:wA vU) B4,(∀ b o,s.heap.get? b=ac o->h'.get? b=ac o)->(∀ b o,s.heap.get? b=ac o->@LT.lt Nat _ b L)->h'.get? L=ac (fF out c)->IntsAre out.toList B4->B4.Perm (bA es)->B4.Pairwise (·<=·) ->
   Q (.ref L) { s with heap:=h',toks:=tk,drawn:=dw }):wpAny (wc B9 w) A (call (.builtin "sorted") [.ref a]) Q E s:=by
 refine Calls.call_function_entry kind_sorted plain_sorted entry_sorted (args_sorted1 _) ?_;unfold xT.«sorted»;refine vX (m:=checkCount "sorted" 1 1 _) (we ?_);refine vX (collect_setI (A:=A.in1) z u (xm hz (by decide)) λBV tk dw xs j n=>?_)
 have B:IntsAre xs (xs.map numOf):=intsAre_map xs λv C=>by
  obtain⟨e,G,rfl⟩:=wz.mp (n.mem_iff.mp C);obtain⟨k,tok,rfl⟩:=u.el e G;exact⟨k,tok,QQ⟩
 have q:(xs.map numOf).Perm (bA es):=by
  have:=n.map numOf
  rwa [wX] at this
 have f:xs.length<64:=by rw[n.length_eq,v9,wN];exact hz
 refine vX (AZ ?_ (by rw[sizeLine_eq];exact v6 (xb f) (by decide)))
 have i:(BV.push (xz "list" xs.toArray 0)).get? BV.objs.size=ac (xz "list" xs.toArray 0):=Heap.get?_push_size _ QQ;refine vX (yk (xJ slot_list_sort ⟨_,i,QQ⟩ entry_list_sort (list_sort_tree i B f λout B4 a1 a2 a3=>⟨_,QQ,?_⟩) (args_list_sort _)))
 obtain⟨c,H⟩:=sortedHeap_at (out:=out) (vs:=xs) i;refine we ⟨_,QQ,h _ tk dw BV.objs.size c out B4 (λb o e=>?_) (λb o e=>Heap.lt_size (j b o e)) H a1 (a2.trans q) a3⟩
 ·have y:=Heap.lt_size (j b o e)
  have t:b<(BV.push (xz "list" xs.toArray 0)).objs.size:=by rw[size_push'];exact yf y
  rw[sortedHeap_old (wU y) t];exact Heap.get?_push_of_some _ (j b o e)
end
end Mine
namespace Mine
open PySem PySem.SeqAt
theorem mW(x z:Int):∀ l,z∈rV x l↔z=x\/z∈l
 | []=>wl.trans ⟨.inl,λh=>h.elim id λh=>nomatch h⟩
 | y::l=>by
  unfold rV
  split
  ·exact wf
  ·split
   ·next h=>subst h;exact⟨.inr,λh=>h.elim (λh=>h▸wE) id⟩
   ·rw[wf,mW x z l,wf]
    exact⟨λh=>h.elim (λh=>.inr (.inl h)) λh=>h.elim .inl λh=>.inr (.inr h),λh=>h.elim (λh=>.inr (.inl h)) λh=>h.elim .inl λh=>.inr (.inr h)⟩
theorem qK(x:Int):∀ {l:vR Int},l.Pairwise (·<·)->(rV x l).Pairwise (·<·)
 | [],_=>List.pairwise_singleton _ _
 | y::l,h=>by
  have h':=yo.mp h;unfold rV
  split
  ·next hl=>exact yo.mpr ⟨λz a=>(wf.mp a).elim (λe=>e▸hl) λa=>xO hl (h'.1 z a),h⟩
  ·split
   ·exact h
   ·next h1 h2=>exact yo.mpr ⟨λz a=>((mW x z l).mp a).elim (λe=>e▸Int.lt_iff_le_and_ne.mpr ⟨zm.mp h1,Ne.symm h2⟩) (h'.1 z),qK x h'.2⟩
theorem nZ:∀ ns:vR Int,(fg ns).Pairwise (·<·)
 | []=>.nil
 | x::ns=>qK x (nZ ns)
theorem fM(z:Int):∀ ns:vR Int,z∈fg ns↔z∈ns
 | []=>Iff.rfl
 | x::ns=>by
  show z∈rV x (fg ns)↔_;rw[mW,fM z ns,wf]
theorem uS:∀ {l m:vR Int},l.Nodup->(∀ z∈l,z∈m)->l.length<=m.length
 | [],_,_,_=>ww _
 | x::l,m,i,h=>by
  have a:=xQ.mp i;have b:x∈m:=h x wE;have c:=uS (m:=m.erase x) a.2 λz f=>(List.mem_erase_of_ne (λe:z=x=>a.1 (e▸f))).mpr (h z (xe _ f))
  rw[List.length_erase_of_mem b] at c;exact v6 (wL c) (wD (Nat.sub_add_cancel (List.length_pos_of_mem b)))
theorem p9:∀ {l m:vR Int},l.Pairwise (·<·)->m.Pairwise (·<·)->(∀ z,z∈l↔z∈m)->l=m
 | [],[],_,_,_=>rfl
 | [],y::m,_,_,h=>wI ((h y).mpr wE) wG
 | x::l,[],_,_,h=>wI ((h x).mp wE) wG
 | x::l,y::m,f,i,h=>by
  have a:=yo.mp f;have b:=yo.mp i;have e:x=y:=by
   rcases wf.mp ((h x).mp wE) with e | h1
   ·exact e
   ·rcases wf.mp ((h y).mpr wE) with e | h2
    ·exact e.symm
    ·exact wI (xO (a.1 y h2) (b.1 x h1)) (Int.lt_irrefl _)
  subst e;rw[p9 a.2 b.2 λz=>?_]
  constructor
  ·intro c
   rcases wf.mp ((h z).mp (xe _ c)) with e | hz'
   ·exact wI (a.1 z c) (e▸Int.lt_irrefl _)
   ·exact hz'
  ·intro c
   rcases wf.mp ((h z).mpr (xe _ c)) with e | hz'
   ·exact wI (b.1 z c) (e▸Int.lt_irrefl _)
   ·exact hz'
section
variable {B9:wq} {w:wy} {A:wt} {E:vU->vZ->Prop} {s:vZ} {H:v8->Prop}
theorem intsD_at{ds:vR D}{ns:vR Int}{vs:vR vU}(h:mV ds=ac ns)(a:am w.params s.heap H vs ds):vs.length=ns.length/\∀ (i:Nat) (v:vU),vs[i]?=ac v->∃ (k:Int) (t:Tok),ns[i]?=ac k/\v=Value.int k t:=by
 induction ds generalizing ns vs with
 | nil=>
  rw[show vs=[] from a];cases h;exact⟨QQ,λi v e=>by rw[zR] at e;cases e⟩
 | cons d ds b=>
  cases d with
  | int k=>exact br (o:=mV ds) (f:=λl=>k::l) h λB4 h e=>e▸dR.rec (motive:=λvs Z=>vs.length=(k::B4).length/\∀ (i:Nat) (v:vU),vs[i]?=ac v->∃ (c:Int) (t:Tok),(k::B4)[i]?=ac c/\v=Value.int c t) (λj a=>⟨wv Nat.succ (b h a).1,λi v e=>by
    cases i with
    | zero=>exact v5 e▸j.intE λt=>⟨k,t,QQ,QQ⟩
    | succ i=>exact (b h a).2 i v e⟩) a
  | _=>exact ag h
theorem ints_reps{h:Heap}{P:wT}{vs:vR vU}{ns:vR Int}(r:PyProof.Rows.IntsAre vs ns):am P h H vs (ns.map .int):=r.rec QQ λn t Z Z Z a=>.mk (.mk t) a
theorem sset_snd{x:vU}{a d:D}(T:A.handled=wa)(X:Rep w.params s.heap H x a)(Y:Ex s.heap H)(he:mu a=ac d) :
  wpAny (wc B9 w) A (call (.type "set") [x]) (λv s'=>wpAny (wc B9 w) A (call (.builtin "sorted") [v]) (bV w s H d vT) E s') E s:=by
 cases a with
 | list ds=>
  refine bK he λB he=>br he λns J e=>e▸X.listE λl vs n Z Ci Cj U=>?_
  have f:=intsD_at J U;have C:vs.size<63:=U.size.symm▸B
  refine call_setI (ns:=ns) T Z (λi v e=>f.2 i v (by rw[xE];exact e)) f.1.symm (xm (Bp C) (by decide)) λh' tk es Ca M V=>?_
  have G:es.size<64:=by
   have h1:(bA es).length<=ns.length:=uS M.nod λz Cb=>(V z).mp Cb
   unfold bA at h1;rw[v9,wN,<- f.1] at h1;exact wg h1 (yf C)
  refine sorted_setI (s:={ s with heap:=h',toks:=tk }) T M G λBQ j dw L c Cd B4 m Ce N Cf O Cg=>?_
  have Ch:B4=fg ns:=p9 ((Cg.and (O.nodup_iff.mpr M.nod)).imp λh=>Int.lt_iff_le_and_ne.mpr h) (nZ ns) λz=>by rw[O.mem_iff,V z,fM]
  subst Ch;have t:((fg ns).map D.int).length<=big:=by
   rw[v9,O.length_eq];unfold bA;rw[v9,wN];exact v6 (xb G) (by decide)
  have u:=Heap.gt_up Ca;have I:∀ b o,gat h' b=ac o->@LT.lt Nat _ b L:=λb o e=>(Heap.gt_some e).elim λBF q=>Ce b _ q.1
  have B7:gI w.params BQ H L ((fg ns).map .int):=⟨N,t,ints_reps Cf⟩;have y:gat s.heap L=none:=by
   cases e:gat s.heap L with
   | none=>rfl
   | some o=>exact wI (I L o (u _ _ e)) (xl _)
  exact⟨.mk BQ j dw λb o e=>Heap.gt_up m b o (u b o e),B7.rep λq=>(Y L q).elim λb q=>q.elim λo q=>wI (I b o (u b o q.2)) (Ai q.1),λBF=>⟨y,B7⟩⟩
 | _=>exact ag he
end
section
variable {B9:wq} {w:wy} {A:wt} {s:vZ} {B3:Heap} {mg mb:Str->vY vU} {cf:CF}
theorem sf_sset(G:GOk mg mb B3)(B:A.handled=wa){a:ME}(C:SE B9 w A B3 cf a):SF B9 w A B3 cf (.sset a):=λs BM e H ρ m d fr E I c o=>
 eQ o QQ λo J=>evi_sset o λU L M=>iH.rec (motive:=λe Z=>wpAny (wc B9 w) A (wM e BM) (bV w s H d fr) E s) (λ{N y pos} O T=>iH.rec (motive:=λy Z=>wpAny (wc B9 w) A (wM (.Call (.Name (vQ "sorted") N) [y] [] pos) BM) (bV w s H d fr) E s) (λ{q x p} i h=>by
  have t:bM BM.kindOf [.Call (.Name (vQ "set") q) [x] [] p] [.blt "set" [a]]=vT:=t9 (show (vQ "set" == vQ "set"&&bC BM.kindOf (vQ "set")&&bM BM.kindOf [x] [a])=vT from by rw[i,t9 h];decide)
  refine PyProof.Rows.Call_Name QQ (de G (f:="sorted") (by decide) c.R c.hw O (dQ t (Calls.spliced_cons ?_)))
  refine PyProof.Rows.Call_Name QQ (de G (f:="set") (by decide) c.R c.hw i (dQ (t9 h) (Calls.spliced_cons ?_)))
  refine C.go h c L λv BU b=>Calls.spliced_nil (aR (sset_snd B b.r (c.k b.k).x M) λu B2 j=>Calls.spliced_nil (aR j λv z n=>?_))
  exact J▸n.tr b.k) T) (qF I)
end
end Mine
namespace Mine
open PySem PyProof.Rows PySem.SeqAt PySem.W
noncomputable def InT(n:Nat){α:Type}(R:α->Prop):KasT α->Prop
 | .ret a=>R a
 | .ask i j k=>i<n/\j<n/\∀ b,InT n R (k b)
theorem InT.bind{n:Nat}{α c:Type}{R:α->Prop}{T:c->Prop}{f:α->KasT c}(i:∀ a,R a->InT n T (f a)):∀ {t:KasT α},InT n R t->InT n T (t.bind f)
 | .ret a,h=>i a h
 | .ask _ _ _,h=>⟨h.1,h.2.1,λb=>InT.bind i (h.2.2 b)⟩
theorem InT.run{n:Nat}{α:Type}{R:α->Prop}(lt:Nat->Nat->v7):∀ {t:KasT α},InT n R t->R (pn lt t)
 | .ret _,h=>h
 | .ask i j k,h=>InT.run (t:=k (lt i j)) lt (h.2.2 _)
theorem InT.wp{n:Nat}{α:Type}{R:α->Prop}{lt:Nat->Nat->v7}{a:Nat->Nat->(v7->vZ->Prop)->vZ->Prop}{s:vZ}{Q:α->vZ->Prop}(b:∀ i j C,i<n->j<n->C (lt i j) s->a i j C s):∀ {t:KasT α},InT n R t->Q (pn lt t) s->t.kasWp a Q s
 | .ret _,_,h=>h
 | .ask i j _,k,h=>b i j _ k.1 k.2.1 (InT.wp b (k.2.2 _) h)
noncomputable def Pm(n:Nat)(p:wA Nat):Prop:=p.Perm (wR n).toArray
section
variable {n:Nat}
theorem Pm.lt{p:wA Nat}(h:Pm n p)(a:0<n)(k:Nat):p.getD k 0<n:=by
 unfold Array.getD
 split
 ·exact yV.mp (h.mem_iff.mp (Array.getElem_mem _) |> λq=>by simpa using q)
 ·exact a
theorem Pm.rev{p:wA Nat}(h:Pm n p)(i j:Nat):Pm n (kas_rev p i j):=(mirror_perm _ _ _ _).trans h
theorem rW{p:wA Nat}(a:Pm n p)(c:0<n):∀ f m,InT n (λZ=>True) (kas_asc p f m)
 | 0,_=>trivial
 | f+1,m=>⟨a.lt c _,a.lt c _,λb=>by cases b;exact rW a c f (m+1);exact trivial⟩
theorem l6(c:0<n):∀ f (p:wA Nat) m q,Pm n p->InT n (λr=>Pm n r.1) (kas_desc f p m q)
 | 0,_,_,_,a=>a
 | f+1,p,m,q,a=>⟨a.lt c _,a.lt c _,λb=>by
  cases b with
  | true=>
   show InT n _ (if q > 0 then _ else _)
   split
   ·exact l6 c f _ _ _ (a.rev _ _)
   ·exact l6 c f _ _ _ a
  | false=>exact⟨a.lt c _,a.lt c _,λb=>by cases b;exact l6 c f _ _ _ a;exact a⟩⟩
theorem qL{p:wA Nat}(b:0<n)(m k:Nat)(a:Pm n p):InT n (λr=>Pm n r.2) (kas_tail3 m k p):=InT.bind (n:=n) (T:=λr:Nat×wA Nat=>Pm n r.2) (f:=λk=>.ret (k,kas_rev p 0 m)) (λZ Z=>a.rev 0 m) (rW (a.rev 0 m) b _ _)
theorem lz{p:wA Nat}(a:0<n)(m k:Nat)(c:Pm n p):InT n (λr=>Pm n r.2) (kas_descPart m k p):=(l6 a _ _ _ _ c).bind λr b=>by
 show InT n _ (if _ then _ else _)
 split
 ·exact qL a _ _ (b.rev _ _)
 ·exact qL a _ _ b
theorem in_count{p:wA Nat}(c:0<n)(k:Nat)(a:Pm n p):InT n (λr=>Pm n r.2) (kas_count k p):=(rW a c _ _).bind λm Z=>by
 show InT n _ (if _ then _ else _)
 split
 ·exact a
 ·split
  ·exact⟨a.lt c _,a.lt c _,λb=>by cases b;exact lz c _ _ (a.rev _ _);exact a⟩
  ·exact lz c _ _ a
theorem mX{p:wA Nat}(a:Pm n p)(c:0<n)(k:Nat):∀ f l r,InT n (λZ=>True) (kas_place p k f l r)
 | 0,_,_=>trivial
 | f+1,l,r=>by
  show InT n _ (if _ then _ else _)
  split
  ·exact trivial
  ·exact⟨a.lt c _,a.lt c _,λb=>by cases b;exact mX a c k f _ _;exact mX a c k f _ _⟩
theorem uY(b:0<n):∀ f (p:wA Nat) k,Pm n p->InT n (Pm n) (kas_bin f p k)
 | 0,_,_,a=>a
 | f+1,_,k,a=>(mX a b k _ _ _).bind λZ Z=>uY b f _ _ ((bubble_perm _ _ _).trans a)
theorem tj(a:0<n):InT n (Pm n) (kas_sort n):=(in_count a n (Array.Perm.refl _)).bind λr b=>by
 show InT n _ (if _ then _ else _)
 split
 ·exact uY a _ _ _ b
 ·exact b
end
theorem mP(ks:vR D):(kix ks).Perm (wR ks.length):=by
 unfold kix
 split
 ·exact y7.refl _
 ·next h=>exact ((tj (wJ Nat.two_pos (yS.mp h))).run _).toList
inductive dU(h:Heap):vU->D->Prop where
 | int {a:v8} {i:Int} {t:Tok} {n:Nat} (e:h.get? a=ac (dm #[.bool vP,.int i t] n)):dU h (.ref a) (.int i)
 | str {a:v8} {x:Str} {t:Tok} {n:Nat} (e:h.get? a=ac (dm #[.bool vT,.str x t] n)):dU h (.ref a) (.str x)
theorem dU.keeps{h h':Heap}{k:vU}{d:D}(q:dU h k d)(b:∀ a xs n,h.get? a=ac (dm xs n)->h'.get? a=ac (dm xs n)):dU h' k d:=q.rec (λe=>.int (b _ _ _ e)) λe=>.str (b _ _ _ e)
theorem dU.first{h:Heap}{k:vU}{d:D}(q:dU h k d):∃ a b v n,k=.ref a/\h.get? a=ac (dm #[.bool b,v] n):=q.rec (λe=>⟨_,_,_,_,QQ,e⟩) λe=>⟨_,_,_,_,QQ,e⟩
section
variable {B9:wq} {w:wy} {A:wt} {E:vU->vZ->Prop} {s:vZ}
theorem mB{a b:v7}{Q:v7->vZ->Prop}(h:Q (!a&&b) s):wpAny (wc B9 w) A (oneLt' vT (.bool a) (.bool b)) Q E s:=by
 rw[oneLt'_eq,wh rfl];refine vX (wpAny_cRoomFor_byValue QQ ?_);refine vX (wpAny_callSpecialIfBound?_slot (typeIs_bool' s a) PySem.F.slot_bool_lt (xJ PySem.F.slot_bool_lt (typeIs_bool' s a) PySem.F.entry_int_lt ?_ (PySem.F.args_int_lt_2 _ _)));have e:xT.«int.__lt__» ⟨[.bool a,.bool b],[]⟩=ret (.bool (!a&&b)):=by cases a <;> cases b <;> rfl
 rw[e];exact we ⟨_,QQ,wpAny_truthy_bool h⟩
theorem sT{a b:v8}{k:v7}{v u:vU}{n m:Nat}{Q:v7->vZ->Prop}{e c:v7}(f:s.heap.get? a=ac (dm #[.bool k,v] n))(i:s.heap.get? b=ac (dm #[.bool k,u] m))(he:EqAt A s v u e)(h:Q c s)(h1:e=vT->c=vP)(j:wpAny (wc B9 w) A (y4 .Lt v u) (W.BoolBack Q) (λZ Z=>False) s) :
  wpAny (wc B9 w) A (keyLt' (tuples' vT) (.ref a) (.ref b)) Q E s:=by
 refine kat_lt f QQ i QQ (kat_cons (EqAt.bool_bool _ _ B9 w _ _ ?_));rw[wH];refine kat_yes (kat_cons (he B9 w _ _ ?_));cases e with
 | true=>exact kat_yes (kat_nil (show Q vP s from h1 QQ▸h))
 | false=>exact kat_no (kat_one _ _ j)
theorem key_lt{x y:vU}{c d:D}{Q:v7->vZ->Prop}(i:dU s.heap x c)(f:dU s.heap y d)(h:Q (r5 c d) s):wpAny (wc B9 w) A (keyLt' (tuples' vT) x y) Q E s:=by
 cases i with
 | int b=>cases f with
  | int a=>exact sT b a (EqAt.int_int _ _ _ _) h (λe=>xg λq=>wI (eq_of_beq e) (Int.ne_of_lt q)) (PyProof.Rows.lt_int h)
  | str a=>exact kat_lt b QQ a QQ (kat_cons (EqAt.bool_bool _ _ B9 w _ _ (kat_no (mB h))))
 | str b=>cases f with
  | int a=>exact kat_lt b QQ a QQ (kat_cons (EqAt.bool_bool _ _ B9 w _ _ (kat_no (mB h))))
  | str a=>exact sT b a (EqAt.str_str _ _ _ _) h (λe=>xg λq=>wI (wv (·.cps.toList) (eq_of_beq e)) λr=>List.lt_irrefl _ (r▸q)) (PyProof.Rows.lt_str h)
noncomputable def dT(h:Heap)(BP:vR vU)(ds:vR D):Prop:=BP.length=ds.length/\∀ p∈BP.zip ds,dU h p.1 p.2
theorem dT.snoc{h:Heap}{BP:vR vU}{ds:vR D}{k:vU}{d:D}(K:dT h BP ds)(b:dU h k d):dT h (BP++[k]) (ds++[d]):=
 ⟨by rw[wn,wn,K.1];rfl,λp a=>by
  rw[List.zip_append K.1] at a;exact (xa.mp a).elim (K.2 p) λq=>wl.mp q▸b⟩
theorem dT.keeps{h h':Heap}{BP:vR vU}{ds:vR D}(K:dT h BP ds)(b:∀ a xs n,h.get? a=ac (dm xs n)->h'.get? a=ac (dm xs n)):dT h' BP ds:=⟨K.1,λp c=>(K.2 p c).keeps b⟩
theorem dT.rev{h:Heap}{BP:vR vU}{ds:vR D}(K:dT h BP ds)(b:v7):dT h (xI b BP) (xI b ds):=by
 cases b with
 | false=>exact K
 | true=>exact⟨by show BP.reverse.length=ds.reverse.length;rw[zv,zv,K.1],λp a=>K.2 p (Bu.mp ((List.reverse_zipWith (f:=Prod.mk) K.1)▸a))⟩
theorem dT.at{h:Heap}{BP:vR vU}{ds:vR D}(K:dT h BP ds){i:Nat}(a:i<ds.length):dU h (BP.getD i .none) (ou ds i):=by
 have b:i<BP.length:=K.1.symm▸a
 unfold ou;rw[wC,wC,wj b,wj a];have c:i<(BP.zip ds).length:=by rw[zx,K.1,Au];exact a
 have q:=K.2 _ (yF c);rw[List.getElem_zip] at q;exact q
theorem keys_kind{BP:vR vU}{ds:vR D}{Q:SortKind->vZ->Prop}(K:dT s.heap BP ds)(j:2<=ds.length)(h:Q (tuples' vT) s):wpAny (wc B9 w) A (keyKind' BP.toArray) Q E s:=by
 have go:∀ (ks:vR vU),(∀ k∈ks,∃ a b v n,k=.ref a/\s.heap.get? a=ac (dm #[.bool b,v] n))->∃ c:vR vU,KatTups s.heap ks c/\c.length=ks.length/\∀ v∈c,∃ b,v=.bool b:=by
  intro ks
  induction ks with
  | nil=>exact λZ=>⟨[],.nil,QQ,λZ q=>nomatch q⟩
  | cons k ks t=>
   intro f;obtain⟨c,h1,j,m⟩:=t λy q=>f y (xe _ q)
   obtain⟨a,b,v,n,rfl,z⟩:=f k wE;exact⟨.bool b::c,.cons z QQ QQ QQ h1,wv Nat.succ j,λu q=>(wf.mp q).elim (λe=>⟨_,e⟩) (m u)⟩
 obtain⟨c,h1,m,B⟩:=go BP λk f=>by
  obtain⟨i,o,e⟩:=zt f;have q:=K.at (K.1▸o);rw[wC,wj o,Option.getD_some,e] at q;exact q.first
 refine kat_kind (T:=.type "bool") h1 (by rw[m,K.1];exact wJ Nat.two_pos j) (λv C=>?_) QQ h
 obtain⟨b,rfl⟩:=B v C;exact .now
end
section
variable {B9:wq} {w:wy} {A:wt} {E:vU->vZ->Prop} {s:vZ} {a kS:v8} {rev:v7} {vs:vR vU} {ds:vR D} {BP:vR vU} {f:vU} {e e1:Nat} {P:PySem.Fin->vZ->Prop}
theorem fh{n m:Nat}(h:n<64)(a:n=m):m<=Ae:=by rw[<- a,sizeLine_eq];exact v6 (xb h) (by decide)
noncomputable abbrev Kp2(a b:v8)(h h':Heap):Prop:=∀ c o,c≠a->c≠b->gat h c=ac o->gat h' c=ac o
theorem key_tail{st:SortSt}{out:vR vU}(hX:(arrOf st).map (·.2)=(xI rev out).toArray)(n:s.heap.get? kS=ac (xz "list" BP.toArray e))(u:s.heap.get? a=ac (xz "list" #[] e1))(i:kS≠a)(hz:BP.length<64)(j:out.length=BP.length)(y:failedOf st=wa)
  (h:∀ h' c,Kp2 a kS s.heap h'->h'.get? a=ac (xz "list" out.toArray c)->P (.done (.ret .none)) { s with heap:=h' }) :
  wpAny (wc B9 w) A (ksk_tail a rev e1 (.ref kS) st) P E s:=by
 have t:=Heap.SameBut.update s.heap kS (Obj.mapSeq λZ=>(#[]:wA vU))
 have f:(s.heap.update kS (Obj.mapSeq λZ=>(#[]:wA vU))).get? a=ac (xz "list" #[] e1):=(t.2 a i.symm).trans u
 have z:=Heap.SameBut.update (s.heap.update kS (Obj.mapSeq λZ=>(#[]:wA vU))) a (Obj.mapSeq λZ=>out.toArray)
 have m:=get?_update_seq f λZ=>out.toArray
 delta ksk_tail
 dsimp only;rw[hX,kat_outs,show xI rev (xI rev out)=out from by cases rev;rfl;exact List.reverse_reverse _,y]
 refine vX (A7 n QQ ?_ (fh hz QQ) (ww _));refine vX (wpAny_letGo ?_);refine vX (seqEpoch_at f QQ ?_);refine vX (A7 f QQ ?_ (ww _) (ye (fh hz j.symm)));rw[bne_self_eq_false,wo wO];exact we (h _ _ (λb o h1 B q=>g1 z (bI f) b h1 (g1 t (bI n) b B q)) m)
theorem map_getD{α:Type}{z:α}(l:vR α):(wR l.length).map (λi=>l.getD i z)=l:=by
 apply List.ext_getElem
 ·rw[v9,xo]
 ·intro i h1 a
  rw[List.getElem_map,List.getElem_range,wC,wj a];rfl
theorem mw{α:Type}{z:α}{b:v7}{ks:vR D}{l:vR α}:(fO z b ks l).length=ks.length:=by
 unfold fO;rw[yA,v9,(mP _).length_eq,xo,yA]
theorem key_end(L:s.heap.get? kS=ac (xz "list" BP.toArray e))(M:s.heap.get? a=ac (xz "list" #[] e1))(y:kS≠a)(K:dT s.heap BP ds)(n:vs.length=ds.length)(hz:ds.length<64)
  (h:∀ h' c,Kp2 a kS s.heap h'->h'.get? a=ac (xz "list" (fO .none rev ds vs).toArray c)->P (.done (.ret .none)) { s with heap:=h' }) :
  wpAny (wc B9 w) A (ksk_end a rev vs.toArray e1 (.ref kS) BP.toArray) P E s:=by
 have o:BP.length=vs.length:=K.1.trans n.symm;have m:(xI rev BP).length=(xI rev vs).length:=by rw[yA,yA,o]
 have tail:∀ (st:SortSt),failedOf st=wa->(arrOf st).map (·.2)=((kix (xI rev ds)).map λi=>(xI rev vs).getD i Value.none).toArray->wpAny (wc B9 w) A (ksk_tail a rev e1 (.ref kS) st) P E s:=λst z hX=>
  key_tail (out:=fO .none rev ds vs) (by rw[hX];unfold fO;cases rev;rfl;exact wv _ (List.reverse_reverse _).symm) L M y (K.1.symm▸hz) (mw.trans K.1.symm) z h
 have step:∀ t:Sem PySem.Fin,wpAny (wc B9 w) A t P E s->wpAny (wc B9 w) A (if rev=vT then (do let _ <- rule "list.sort.reverse";t) else t) P E s:=by
  intro t B
  split
  ·exact vX (zN B)
  ·exact B
 delta ksk_end
 dsimp only;refine step _ ?_;rw[kat_pairs rev o]
 by_cases f:vs.toArray.size<2
 ·rw[wh f,wh f]
  refine vX (we ?_);rw[StateT.run_pure];refine vX (we (tail _ QQ ?_));unfold kix;rw[wh (by rw[yA,<- n];exact f),yA,<- n,<- yA rev vs,map_getD]
  show Array.map (·.2) ((xI rev BP).toArray.zip (xI rev vs).toArray)=_;apply Array.ext';rw[Array.toList_map,ksk_zip];exact List.map_snd_zip (wD m.symm)
 ·rw[wo f,wo f]
  have b:2<=ds.length:=n▸yS.mp f;refine vX (keys_kind K b ?_);have u:(xI rev vs).length=(xI rev ds).length:=by rw[yA,yA,n]
  refine vX (yG (kat_run (Q:=λst s'=>s'=s/\failedOf st=wa/\(arrOf st).map (·.2)=((kix (xI rev ds)).map λi=>(xI rev vs).getD i Value.none).toArray) (G:=λp s'=>s'=s/\p.toList=kix (xI rev ds)) m (by rw[u,yA];exact b) (by rw[u,yA];exact hz)
   (λp st s' Z f N H=>⟨H.1,N,(kat_snds m f).trans (H.2▸rfl)⟩) ?_) (λr s' q=>?_) λZ Z x=>x)
  ·refine InT.wp (lt:=λi j=>r5 (ou (xI rev ds) i) (ou (xI rev ds) j)) (λi j C I J O=>?_) (tj (by rw[u,yA];exact wJ Nat.two_pos b)) ⟨QQ,?_⟩
   ·rw[u] at I J
    exact key_lt ((K.rev rev).at I) ((K.rev rev).at J) O
   ·unfold kix
    rw[wo (by rw[yA];exact yS.mpr b),u]
  ·obtain⟨⟨⟩,st⟩:=r
   obtain⟨rfl,z,hX⟩:=q;exact tail st z hX
theorem key_rest(U:s.heap.get? kS=ac (xz "list" #[] 0))(V:s.heap.get? a=ac (xz "list" #[] e1))(z:kS≠a)(I:vs.length=ds.length)(hz:ds.length<64)
  (turn:∀ (i:Nat) (v:vU) (d:D),vs[i]?=ac v->ds[i]?=ac d->∀ h tk dw,Kp2 a kS s.heap h ->
   wpAny (wc B9 w) A (call f [v]) (λk s'=>bj { s with heap:=h,toks:=tk,drawn:=dw } s'/\dU s'.heap k d) (λBF BF=>False) { s with heap:=h,toks:=tk,drawn:=dw })
  (h:∀ h' tk dw c,Kp2 a kS s.heap h'->h'.get? a=ac (xz "list" (fO .none rev ds vs).toArray c)->P (.done (.ret .none)) { s with heap:=h',toks:=tk,drawn:=dw }) :
  wpAny (wc B9 w) A (ksk_rest a f rev vs.toArray e1 (.ref kS)) P E s:=by
 delta ksk_rest
 refine vX (zN ?_);rw[List.forIn_toArray];refine vX (ksk_fold (λi s'=>∃ h' tk dw ks e,s'={ s with heap:=h',toks:=tk,drawn:=dw }/\Kp2 a kS s.heap h'/\h'.get? kS=ac (xz "list" (List.toArray ks) e)/\h'.get? a=ac (xz "list" #[] e1)/\dT h' ks (ds.take i)) vs 0 s
  ⟨s.heap,s.toks,s.drawn,[],0,QQ,λBF BF BF BF q=>q,U,V,by rw[List.take_zero];exact⟨QQ,λBF q=>nomatch q⟩⟩ ?step ?done)
 case step=>
  rintro j x s' T ⟨h',tk,dw,ks,e,rfl,m,t,y,K⟩;rw[x9] at K ⊢;have C:j<ds.length:=I▸(List.getElem?_eq_some_iff.mp T).1;have B:ks.length+1<64:=by rw[K.1,xK,y5 (xb C)];exact wg C hz
  refine vX (zs (yG (turn j x ds[j] T (wj C) h' tk dw m) (λv X q=>?_) λBF BF Y=>Y.elim))
  obtain⟨⟨g,J,L,G⟩,Z⟩:=q;have u:=Heap.of_gt (G _ _ (Heap.gt_of t));have M:=Heap.SameBut.update g kS (Obj.mapSeq (·.push v));have N:=get?_update_seq u (·.push v);refine vX (A7 u QQ ?_ (fh (zf B) QQ) (ye (fh B (Array.size_push v).symm)));refine we ⟨QQ,_,J,L,ks++[v],_,QQ,λb o h1 H q=>g1 M (bI u) b H (G b o (m b o h1 H q)),by rw[<- List.push_toArray];exact N,(M.2 a z.symm).trans (Heap.of_gt (G _ _ (Heap.gt_of y))),?_⟩
  rw[List.take_add_one,wj C];refine ((K.keeps λb xs n q=>Heap.of_gt (G _ _ (Heap.gt_of q))).snoc Z).keeps λb xs n q=>(M.2 b λr=>?_).trans q
  rw[r,u] at q;exact wI (wv Obj.cls (v5 q)) (show ¬ Value.type "list"=Value.type "tuple" by decide)
 case done=>
  rintro s' ⟨h',tk,dw,ks,e,rfl,m,t,y,K⟩;rw[x9,I,Aj] at K;refine vX (listItems_at t QQ ?_);exact key_end (s:={ s with heap:=h',toks:=tk,drawn:=dw }) t y z K I hz λO c h1 H=>h O tk dw c (λb o n1 n2 q=>h1 b o n1 n2 (m b o n1 n2 q)) H
theorem key_tree{n:Nat}(u:s.heap.get? a=ac (xz "list" vs.toArray n))(z:vs.length=ds.length)(hz:ds.length<64)
  (turn:∀ (i:Nat) (v:vU) (d:D),vs[i]?=ac v->ds[i]?=ac d->∀ h tk dw,(∀ b o,b≠a->gat s.heap b=ac o->gat h b=ac o) ->
   wpAny (wc B9 w) A (call f [v]) (λk s'=>bj { s with heap:=h,toks:=tk,drawn:=dw } s'/\dU s'.heap k d) (λZ Z=>False) { s with heap:=h,toks:=tk,drawn:=dw })
  (h:∀ h' tk dw c,(∀ b o,b≠a->gat s.heap b=ac o->gat h' b=ac o)->h'.get? a=ac (xz "list" (fO .none rev ds vs).toArray c)->P (.done (.ret .none)) { s with heap:=h',toks:=tk,drawn:=dw }) :
  wpAny (wc B9 w) A (ksk_tree a f rev) P E s:=by
 have C:a<s.heap.objs.size:=Heap.lt_size u;have G:=Heap.SameBut.update s.heap a (Obj.mapSeq λZ=>(#[]:wA vU))
 have y:=get?_update_seq u λZ=>(#[]:wA vU)
 have t:((s.heap.update a (Obj.mapSeq λZ=>(#[]:wA vU))).push (xz "tuple" vs.toArray 0)).objs.size=s.heap.objs.size+1:=by rw[size_push',Heap.size_update]
 have j:∀ b o,b≠a->gat s.heap b=ac o->(gat (((s.heap.update a (Obj.mapSeq λZ=>(#[]:wA vU))).push (xz "tuple" vs.toArray 0)).push (xz "list" #[] 0)) b=ac o/\b≠s.heap.objs.size+1):=λb o m q=>
  ⟨Heap.gt_push_of_some _ (Heap.gt_push_of_some _ (g1 G (bI u) b m q)),wU (yf (Heap.gt_lt q))⟩
 delta ksk_tree
 refine vX (listItems_at u QQ ?_);refine vX (A7 u QQ ?_ (fh hz z.symm) (ww _));refine vX (seqEpoch_at y QQ ?_);refine vX (wpAny_newTuple ?_ (fh hz z.symm));refine vX (AZ ?_ (ww _));refine yk ?_;exact key_rest (s:={ s with heap:=((s.heap.update a (Obj.mapSeq λZ=>(#[]:wA vU))).push (xz "tuple" vs.toArray 0)).push (xz "list" #[] 0) }) (kS:=((s.heap.update a (Obj.mapSeq λZ=>(#[]:wA vU))).push (xz "tuple" vs.toArray 0)).objs.size)
  (Heap.get?_push_size _ QQ) (Heap.get?_push_of_some _ (Heap.get?_push_of_some _ y)) (by rw[t];exact Bt (yf C)) z hz
  (λi v d H I h tk dw B=>turn i v d H I h tk dw λb o m q=>B b o m (by rw[t];exact (j b o m q).2) (j b o m q).1)
  λh' tk dw c B J=>h h' tk dw c (λb o m q=>B b o m (by rw[t];exact (j b o m q).2) (j b o m q).1) J
end
section
variable {B9:wq} {w:wy} {A:wt} {E:vU->vZ->Prop} {s:vZ} {l:v8} {rev:v7} {vs:vR vU} {ds:vR D} {f:vU} {Q:vU->vZ->Prop}
theorem sorted_key{n:vR (Str×vU)}(G:s.heap.IsList l vs.toArray)(j:vs.length=ds.length)(hz:ds.length<64)
  (z:zG "sorted" ⟨[.ref l],n⟩) (B:∀ x,zG "list.sort" ⟨[.ref x],n⟩) (H:∀ x,xT.«list.sort» ⟨[.ref x],n⟩=ksk_tree x f rev)
  (turn:∀ (i:Nat) (v:vU) (d:D),vs[i]?=ac v->ds[i]?=ac d->∀ h tk dw,KH s.heap h ->
   wpAny (wc B9 w) A.in1.in1 (call f [v]) (λk s'=>bj { s with heap:=h,toks:=tk,drawn:=dw } s'/\dU s'.heap k d) (λZ Z=>False) { s with heap:=h,toks:=tk,drawn:=dw })
  (h:∀ h' tk dw S c,KH s.heap h'->gat s.heap S=wa->(∀ b o,gat s.heap b=ac o->@LT.lt Nat _ b S)->h'.get? S=ac (fF (fO .none rev ds vs).toArray c)->Q (.ref S) { s with heap:=h',toks:=tk,drawn:=dw }) :
  wpAny (wc B9 w) A (call (.builtin "sorted") [.ref l] n) Q E s:=by
 refine call_function_entry_kw kind_sorted plain_sorted entry_sorted z ?_;unfold xT.«sorted»;refine vX (m:=checkCount "sorted" 1 1 _) (we ?_);refine vX (collect_list G ?_ (fh hz j.symm));refine vX (AZ ?_ (fh hz j.symm));have t:((s.heap.push (xz "list" #[] 0)).update s.heap.objs.size (Obj.mapSeq (·++vs.toArray))).objs.size=s.heap.objs.size+1:=by
  rw[Heap.size_update,size_push']
 have u:(((s.heap.push (xz "list" #[] 0)).update s.heap.objs.size (Obj.mapSeq (·++vs.toArray))).push (xz "list" vs.toArray 0)).get? (s.heap.objs.size+1)=ac (xz "list" vs.toArray 0):=by
  rw[<- t];exact Heap.get?_push_size _ QQ
 have a:∀ b o,gat s.heap b=ac o->gat (((s.heap.push (xz "list" #[] 0)).update s.heap.objs.size (Obj.mapSeq (·++vs.toArray))).push (xz "list" vs.toArray 0)) b=ac o/\b<s.heap.objs.size+1:=λb o q=>
  have y:b<s.heap.objs.size:=Heap.gt_lt q
  ⟨Heap.gt_push_of_some _ (g1 (Heap.SameBut.update ..) (bI (Heap.get?_push_size _ QQ)) b (wU y) (Heap.gt_push_of_some _ q)),yf y⟩
 show wpAny _ _ _ _ _ { s with heap:=((s.heap.push (xz "list" #[] 0)).update s.heap.objs.size (Obj.mapSeq (·++vs.toArray))).push (xz "list" vs.toArray 0) }
 rw[t];refine vX (yk (wpAny_call_entry_kw slot_list_sort ⟨_,u,QQ⟩ entry_list_sort ?body (B _)));show wpAny (wc B9 w) A.in1.in1 (xT.«list.sort» ⟨[.ref (s.heap.objs.size+1)],n⟩) _ _ _;rw[H (s.heap.objs.size+1)];refine key_tree (s:={ s with heap:=((s.heap.push (xz "list" #[] 0)).update s.heap.objs.size (Obj.mapSeq (·++vs.toArray))).push (xz "list" vs.toArray 0) }) (ds:=ds) u j hz
  (λi v d I J h tk dw C=>turn i v d I J h tk dw λb o q=>C b o (wU (a b o q).2) (a b o q).1) λh' tk dw c C L=>⟨_,QQ,?_⟩
 refine we ⟨_,QQ,h h' tk dw _ c (λb o q=>C b o (wU (a b o q).2) (a b o q).1) ?_ (λb o q=>(a b o q).2) L⟩
 cases q:gat s.heap (s.heap.objs.size+1) with
 | none=>rfl
 | some o=>exact wI (a _ o q).2 (xl _)
end
end Mine
namespace Mine
open PySem
theorem lookup_zip_mem{α:Type}{ns:vR Str}{vs:vR α}(h:ns.length=vs.length){x:Str}(a:x∈ns):∃ v,(ns.zip vs).lookup x=ac v:=by
 induction ns generalizing vs with
 | nil=>nomatch a
 | cons n ns b=>cases vs with
  | nil=>cases h
  | cons v vs=>
   rw[x3,aL]
   by_cases e:x=n
   ·exact⟨v,wh e⟩
   ·rw[wo e]
    exact b (yv h) ((wf.mp a).resolve_left e)
theorem fm_congr{α b:Type}{f g:α->vY b}{l:vR α}(h:∀ x∈l,f x=g x):l.filterMap f=l.filterMap g:=by
 induction l with
 | nil=>rfl
 | cons a l c=>rw[zu,zu,h a (.head _),c λx i=>h x (.tail _ i)]
theorem filterMap_zip{α:Type}{ns:vR Str}{vs:vR α}(a:ns.Nodup)(h:ns.length=vs.length):ns.filterMap (λn=>((ns.zip vs).lookup n).map (n,·))=ns.zip vs:=by
 induction ns generalizing vs with
 | nil=>rfl
 | cons n ns b=>cases vs with
  | nil=>cases h
  | cons v vs=>
   have a:=xQ.mp a;rw[x3,zu,aL,wh rfl];refine wv ((n,v)::·) ((fm_congr λx c=>?_).trans (b a.2 (yv h)))
   rw[aL,wo (show ¬ x=n from λe=>a.1 (e▸c))]
theorem iF{fd:FuncData}{vals:vR vU}(h1:fd.params.posonlyargs=[])(h:fd.params.kwonlyargs=[])(i:fd.params.vararg=wa)(j:fd.params.kwarg=wa)(m:fd.defaults=.none)
  (b:(fd.params.args.map (·.arg)).Nodup) (c:(fd.params.args.map (·.arg)).length=vals.length):bindArgs fd ⟨vals,[]⟩=pure ((fd.params.args.map (·.arg)).zip vals):=by
 obtain⟨z,A,⟨B,a,C,E,G,H,I⟩,J,sc,L,M,t,u,N,O,T,U,V,X⟩:=fd;dsimp only at h1 h i j m b c;subst h1 h i j m;have w:(a.map (·.arg)).filter (λn=>(AR n ((a.map (·.arg)).zip vals)).isNone)=[]:=List.filter_eq_nil_iff.mpr λx y e=>
  (lookup_zip_mem c y).elim λv q=>by rw[q] at e;cases e
 refine (wo (λe=>Ai (wD c.symm) (xu (wm.mp e).1))).trans ?_
 have o:∀ k,List.drop k ((wa:vY (wA vU)).getD #[]).toList=[]:=λk=>List.drop_nil
 refine (wo λe=>?_).trans ?_
 ·rw[o] at e
  have s:(!(((a.map (·.arg)).take (a.map (·.arg)).length).filter (λn=>(AR n ((a.map (·.arg)).zip vals)).isNone)).isEmpty)=vT:=e
  rw[Aj,w] at s;cases s
 ·rw[o,List.zip_nil_right]
  exact wv (pure (f:=Sem)) ((wv (λl=>l.filterMap λn=>(((a.map (·.arg)).zip vals).lookup n).map (n,·)) (xY (a.map (·.arg)))).trans (filterMap_zip b c))
end Mine
namespace Mine
open PySem PySem.SeqAt PySem.W PyProof.Rows
section
variable {M:Ab} {A:wt} {E:vU->vZ->Prop} {s:vZ}
theorem lam_tail{c:y3}{body:wi}{scope:xZ}{BM:Env}{ps:wA vU}{pos:Pos}{a:Nat}{mg:Str->vY vU}{f:vR (Str×v8)}{name:Str}{Q:vU->vZ->Prop}
  (T:closureFor scope BM=pure f) (U:f.isEmpty=vP) (w:BM.globals=xj) (Cg:s.heap.Ns xj mg) (j:BM.code=.ref oc) (C:CodeHd s.heap oc tb) (y:s.heap.get? tb=ac (tabObj ps)) (V:gU s.heap ps.toList)
  (X:codeAmong pos ps.toList=wa) (O:s.heap.BuiltinsAt mg tb)
  (h:∀ z Y h' tk,KH s.heap h'->gg h' z ->
   Q (.ref h'.objs.size) { s with heap:=h'.push (kla_obj name mM c body scope f ((mg "__name__").getD .none) z Y),toks:=tk }) :
  wpAny M A (makeTail name mM c (.expr body) scope BM .none .none wa pos a) Q E s:=by
 have Z:xj≠tb:=λq=>by
  have e:=dC Cg (tabObj ps) (q▸y);cases e
 refine Classical.byContradiction λCh=>?_
 obtain⟨Cr,Cs,Ca,B,_,G,Cb,H,m,n⟩:=O;refine Ch ?_;clear Ch;unfold makeTail;rw[T,w];refine vX (we ?_);rw[U];simp only[yI,zb];refine vX (wpAny_newTextTuple ?_);refine vX (wpAny_functionCodeX j ((C.keeps λb o e=>Heap.get?_push_of_some _ e).code (Heap.get?_push_of_some _ y) V.triples) ((C.keeps λb o e=>Heap.get?_push_of_some _ e).tab (Heap.get?_push_of_some _ y)) X λz h' tk Ci Ck Cm BF I Cd J=>?_)
 have L:=(Cg.push _).extBut Ci Z;have u:Heap.ExtBut tb s.heap h':=λb o Ce e=>Ci b o Ce (Heap.get?_push_of_some _ e)
 have i:gg h' z:=by
  obtain⟨_,_,_,⟨o1,Ct,Cj,r2,Cu,_⟩,_⟩:=J;obtain⟨c2,o2,vs,t,Cn,Cf,Co,Cp⟩:=I;cases Cn;exact⟨o1,vs,t,Cj,r2,v5 (Cf.symm.trans Cj)▸Co,Cp⟩
 have N:KH s.heap h':=λb o e=>(Classical.em (b=tb)).elim (λq=>by
   subst q;rw[Heap.gt_good y ⟨ps,rfl,V⟩] at e;cases e;refine Heap.gt_good Cd.2 ⟨_,QQ,?_⟩;rw[AJ];exact gU.snoc _ _ i (V.mono λb o e BF Cq=>u b o (λq=>by rw[q,y] at e;cases e;exact Cq QQ) e)) λO=>by
   rw[Heap.gt_ne O] at e ⊢;exact u b o O e
 refine vX (wpAny_builtinsFor L Ca B (u _ _ G Cb) H m n ?_);refine vX (wpAny_nsGet L ?_);exact vX (we (xh (h z _ h' tk N i) (by size_fits)))
theorem lam_make{c:y3}{body:wi}{scope:xZ}{BM:Env}{ps:wA vU}{pos:Pos}{a:Nat}{mg:Str->vY vU}{f:vR (Str×v8)}{name:Str}{Q:vU->vZ->Prop}
  (n:closureFor scope BM=pure f) (t:f.isEmpty=vP) (j:BM.globals=xj) (y:s.heap.Ns xj mg) (i:BM.code=.ref oc) (C:CodeHd s.heap oc tb) (z:s.heap.get? tb=ac (tabObj ps)) (u:gU s.heap ps.toList)
  (B:s.heap.BuiltinsAt mg tb)
  (h:∀ q m h' tk,KH s.heap h'->gg h' q ->
   Q (.ref h'.objs.size) { s with heap:=h'.push (kla_obj name mM c body scope f ((mg "__name__").getD .none) q m),toks:=tk }) :
  wpAny M A (makeFunction name mM c (.expr body) scope BM [] [] [] pos a) Q E s:=by
 cases w:codeAmong pos ps.toList with
 | none=>
  rw[makeFunction_eq];simp only[List.zip_nil_right,List.filterMap_nil,List.isEmpty_nil,AN,pure_bind];exact lam_tail n t j y i C z u w B h
 | some cv=>
  obtain⟨q,rfl,H⟩:=u.among w;exact kla_makeFunctionHit n j y i C z u.triples w B λm h' tk G Z=>h q m h' tk (Heap.gt_up G) (H.mono λb o e Z Z=>G b o e)
end
section
variable {B9:wq} {w:wy} {A:wt} {s:vZ}
noncomputable abbrev mO(scope:xZ)(L:v8)(a:vR (Str×v8))(f c':v8):Env:=newEnv scope L xj a (mM++".<locals>.") (ac f) (.ref c') wa Bh
theorem lam_call{f c':v8}{a:y3}{body:wi}{scope:xZ}{c:vR (Str×v8)}{C i v:vU}{x name:Str}{Q:vU->vZ->Prop}{E:vU->vZ->Prop}
  (N:s.heap.get? f=ac (kla_obj name mM a body scope c C c' i)) (O:gg s.heap c') (u:s.heap.NoLimit) (j:A.depth<xU)
  (h1:a.posonlyargs=[]) (T:a.kwonlyargs=[]) (U:a.vararg=wa) (V:a.kwarg=wa) (G:a.args.map (·.arg)=[x])
  (X:scope.kind=.function) (H:scope.isCoroutine=vP) (z:scope.isGenerator=vP) (m:∀ p∈scope.names,p.2≠.cell) (Y:scope.names.lookup x=ac .local)
  (h:∀ BV tk,BV.Ns s.heap.objs.size (λy=>[(x,v)].lookup y)->(KH s.heap BV) ->
   wpAny (wc B9 w) (A.deeper (mO scope s.heap.objs.size c f c')) (wM body (mO scope s.heap.objs.size c f c')) Q (λBF BF=>False) { s with heap:=BV,toks:=tk }) :
  wpAny (wc B9 w) A (call (.ref f) [v]) Q E s:=by
 obtain⟨I,vs,t,e1,Cb,Z,Ca⟩:=O;refine wpAny_call (kla_callFunE j N QQ H z QQ ⟨c',I,vs,t,QQ,e1,Z,Ca⟩ ?_);have n:bindArgs (kla_fn name mM a body scope c C (.ref c') i) ⟨[v],[]⟩=pure [(x,v)]:=by
  have q:=iF (fd:=kla_fn name mM a body scope c C (.ref c') i) (vals:=[v]) h1 T U V QQ (by show (a.args.map (·.arg)).Nodup;rw[G];exact xQ.mpr ⟨nofun,List.nodup_nil⟩) (by show (a.args.map (·.arg)).length=_;rw[G];rfl)
  have q2:bindArgs (kla_fn name mM a body scope c C (.ref c') i) ⟨[v],[]⟩=pure ((a.args.map (·.arg)).zip [v]):=q;rw[G] at q2;exact q2
 rw[n];refine we (wpAny_newFunctionEnv m (λy M=>?_) (λBV J B=>⟨u.fresh _ B,?_⟩) X)
 ·simp only[wf,wG,xx] at M
  subst M;exact Y
 ·refine kla_codeExpr (yG (h BV _ J λb o e=>?_) (λv s' q=>q) λBF BF q=>q.elim)
  have L:(s.heap.push { cls:=.type "frame",data:=.dict #[] }).get? s.heap.objs.size=ac { cls:=.type "frame",data:=.dict #[] }:=Heap.get?_push_size _ QQ;exact g1 B (bI L) b (wU (Heap.gt_lt e)) (Heap.gt_push_of_some _ e)
theorem lam_env{h BV:Heap}{BM:Env}{m:Str->vY vU}{scope:xZ}{x:Str}{v:vU}{f c':v8}(R:aN h BM m)(s:BV.Ns h.objs.size (λy=>[(x,v)].lookup y))(keep:KH h BV)
  (t:scope.kind=.function) (i:∀ p∈scope.names,p.2≠.cell) (j:∀ p∈scope.names,p.2=.free->BM.kindOf p.1=ac .cell\/BM.kindOf p.1=ac .free) (n:kH (λy=>scope.names.lookup y)=vP) :
  aN BV (mO scope h.objs.size (e9 BM.cells scope.names []) f c') (λy=>if scope.names.lookup y=ac .free then m y else [(x,v)].lookup y):=by
 have a:∀ y c,(e9 BM.cells scope.names []).lookup y=ac c->BM.cells.lookup y=ac c:=e8 _ _ (λZ Z e=>by simp at e)
 refine⟨t,QQ,QQ,⟨_,s,λy hy=>?_⟩,λy hy=>?_,λy z c e1 u=>R.inj y z c (a y c e1) (a z c u),λy c e q=>?_,λy c e=>?_,λb=>?_⟩
 ·have hy:scope.names.lookup y=ac .local:=hy
  rw[hy,wo (by nofun)]
 ·have hy:scope.names.lookup y=ac .cell\/scope.names.lookup y=ac .free:=hy
  rcases hy with hy | hy
  ·exact wI QQ (i _ (mem_of_lookup hy))
  ·obtain⟨c,w,q2⟩:=R.cell y (j _ (mem_of_lookup hy) QQ)
   exact⟨c,fW w _ _ (.inl (mem_of_lookup hy)),by rw[wh hy];exact Cell.keepAt q2 (keep _)⟩
 ·obtain⟨o,b⟩:=R.ex y c (a y c e)
  have h1:=Heap.gt_lt b;have q:@Eq Nat c h.objs.size:=q;exact om49 h1 q
 ·obtain⟨o,b⟩:=R.ex y c (a y c e)
  exact⟨o,keep _ _ b⟩
 ·have b:kH (λy=>scope.names.lookup y)=vT:=b
  rw[n] at b;cases b
end
theorem keysD_inv{g:D->vY D}{d:D}{r ks:vR D}{C:Prop}(h:gM g (d::r)=ac ks)(k:∀ k c b,g d=ac k->rU k=ac c->gM g r=ac b->c::b=ks->C):C:=
 bh (a:=g d) (f:=λk=>oE (rU k) λc=>(gM g r).map λl=>c::l) h λx i h=>bh h λc j h=>br h λb m e=>k x c b i j m e
theorem keysD_at{g:D->vY D}{ds ks:vR D}(h:gM g ds=ac ks):ks.length=ds.length/\∀ (i:Nat) c,ks[i]?=ac c->∃ d k,ds[i]?=ac d/\g d=ac k/\rU k=ac c:=by
 induction ds generalizing ks with
 | nil=>cases h;exact⟨QQ,λi c e=>by rw[zR] at e;cases e⟩
 | cons d r a=>exact keysD_inv h λk c j h1 m b e=>e▸⟨wv Nat.succ (a b).1,λi n f=>by
   cases i with
   | zero=>exact⟨d,k,QQ,h1,v5 f▸m⟩
   | succ i=>exact (a b).2 i n f⟩
theorem keyD_inv{k c:D}(h:rU k=ac c):k=.tup [.bool (cX c),c]/\c.isCell=vT:=by
 cases k with
 | tup l=>
  cases l with
  | nil=>cases h
  | cons x l=>
   cases x with
   | bool b=>
    cases l with
    | nil=>cases h
    | cons y l=>
     cases l with
     | nil=>exact bK h λa e=>v5 e▸bQ a λh1 f=>⟨by rw[eq_of_beq f],h1⟩
     | cons=>cases h
   | _=>cases h
 | _=>cases h
theorem am.rev{P:wT}{h:Heap}{H:v8->Prop}{vs:vR vU}{ds:vR D}(r:am P h H vs ds):am P h H vs.reverse ds.reverse:=
 List.rec (motive:=λds=>∀ l,am P h H l ds->am P h H l.reverse ds.reverse) (λl r=>by rw[show l=[] from r];rfl) (λZ Z a Z r=>dR.rec (λh1 b=>by rw[List.reverse_cons,List.reverse_cons];exact (a _ b).append (.cons h1 .nil)) r) ds vs r
theorem am.kat{P:wT}{h:Heap}{H:v8->Prop}{vs:vR vU}{ds:vR D}(r:am P h H vs ds)(b:v7):am P h H (xI b vs) (xI b ds):=by
 cases b with
 | false=>exact r
 | true=>exact r.rev
theorem repAll_of{P:wT}{h:Heap}{H:v8->Prop}{vs:vR vU}{ds:vR D}(r:am P h H vs ds)(L:vR Nat)(a:∀ j∈L,j<ds.length):am P h H (L.map λp=>vs.getD p .none) (L.map λj=>ds.getD j .none):=by
 induction L with
 | nil=>rfl
 | cons j L c=>
  have b:=a j (.head _);refine .cons ?_ (c λk f=>a k (.tail _ f))
  obtain⟨m,i,q2⟩:=r.get j (wj b);show Rep P h H (vs.getD j .none) (ds.getD j .none);rw[wC,wC,i,wj b];exact q2
theorem repAll_srt{P:wT}{h:Heap}{H:v8->Prop}{vs:vR vU}{ds ks:vR D}(r:am P h H vs ds)(a:ks.length=ds.length)(b:v7):am P h H (fO .none b ks vs) (fO .none b ks ds):=
 (repAll_of (r.kat b) _ λj c=>by rw[yA,<- a,<- yA b ks];exact yV.mp ((mP _).mem_iff.mp c)).kat b
theorem key_of{h:Heap}{P:wT}{H:v8->Prop}{k:vU}{c:D}(r:Rep P h H k (.tup [.bool (cX c),c]))(m:c.isCell=vT):dU h k c:=by
 refine r.tupE λa vs n b Z Z o=>?_
 obtain⟨vs⟩:=vs;cases o with
 | mk h1 f=>cases f with
  | mk f j=>
   have j:_=[]:=j;subst j;have h1:_=Value.bool _:=h1;subst h1;cases c with
   | int i=>
    refine ld.casesOn (motive:=λv Z=>h.get? a=ac (dm #[.bool vP,v] n)->dU h (.ref a) (.int i)) f (λt b=>.int b) b
   | str x=>
    refine vt.casesOn (motive:=λv Z=>h.get? a=ac (dm #[.bool vT,v] n)->dU h (.ref a) (.str x)) f (λt b=>.str b) b
   | _=>cases m
section
variable {B9:wq} {w:wy} {A:wt} {s:vZ} {B3:Heap} {mg mb:Str->vY vU} {cf:CF}
theorem oH{h:Heap}{H:v8->Prop}(G:GOk mg mb B3)(i:HOk B3 h H):CodeHd h oc tb/\h.BuiltinsAt mg tb/\∃ ps,h.get? tb=ac (tabObj ps)/\gU h ps.toList:=by
 obtain⟨c1,c2,t,u,w,y,z,A,B,C,E,j⟩:=G.lam;refine⟨?_,⟨t,u,w,y,z,A,Heap.of_gt (i.keep _ _ (Heap.gt_of B (aO (by rw[j];nofun)))) (aO (by rw[j];nofun)),C,E,j⟩,?_⟩
 ·obtain⟨o,vs,b,I,a,J,m,c,L,e1,M,r⟩:=CodeHd.of c1 c2
  have f:oc≠tb:=r.2.2.2.2.2.2.2;have n:gat B3 oc=ac o:=by rw[Heap.gt_ne f];exact e1
  have s:=i.keep _ _ n;rw[Heap.gt_ne f] at s;exact⟨o,vs,b,I,a,J,m,c,L,s,M,r⟩
 ·obtain⟨O,N,⟨_,q⟩ | ⟨_,_,xs,q,q2⟩⟩:=Heap.gt_some (i.keep _ _ (Heap.gt_good c2.2 gQ.empty))
  ·cases q QQ
  ·subst q;exact⟨xs,N,q2⟩
theorem lamVar{k a:KD}{b:wi}{f x p:vV}(h:aC a b (.call f [.sub (.u x) (.u p)])=vT)(c:k (vQ p)=ac .cell\/k (vQ p)=ac .free):ez k (vQ p)=vT:=
 lH.rec (motive:=λZ Z=>ez k (vQ p)=vT) (λ{o i pos} _ h=>by
  cases i with
  | nil=>cases h
  | cons e es=>exact bQ h λh Z=>ISub.rec (motive:=λZ Z=>ez k (vQ p)=vT) (λZ Z h=>pR.rec (motive:=λZ Z=>ez k (vQ p)=vT) (λj=>nH j λZ m r2 n=>wm.mpr ⟨wm.mpr ⟨wm.mpr ⟨c.elim (λe=>by rw[e];rfl) λe=>by rw[e];rfl,m⟩,r2⟩,n⟩) (fj h)) (lZ h)) (fQ h)
theorem lamAt_keepG{h h':Heap}{c:v8}(x:gg h c)(a:c≠tb)(b:KH h h'):gg h' c:=
 x.elim λo x=>x.elim λvs x=>x.elim λt x=>⟨o,vs,t,(Heap.gt_ne a).symm.trans (b _ _ ((Heap.gt_ne a).trans x.1)),x.2⟩
structure KwOk(fa:v8)(rev:v7)(kw:vR (Str×vU)):Prop where
 a1:∀ la,zG "sorted" ⟨[.ref la],kw⟩
 a2:∀ x,zG "list.sort" ⟨[.ref x],kw⟩
 t:∀ x,xT.«list.sort» ⟨[.ref x],kw⟩=ksk_tree x (.ref fa) rev
inductive oO(mg:Str->vY vU)(ps:y3)(b:wi)(sc:xZ)(BM:Env)(fa:v8)(h:Heap):Prop
 | mk {c' ctv} (ho:h.get? fa=ac (kla_obj "<lambda>" mM ps b sc (e9 BM.cells sc.names []) ((mg "__name__").getD .none) c' ctv)) (hl:gg h c'):oO mg ps b sc BM fa h
structure rB(k:KD)(ps:y3)(sc:xZ)(x p:Str):Prop where
 o1:ps.posonlyargs=[]
 o2:ps.kwonlyargs=[]
 o3:ps.vararg=wa
 o4:ps.kwarg=wa
 o5:ps.defaults=[]
 o6:ps.kw_defaults=[]
 o7:ps.args.map (·.arg)=[x]
 o8:sc.kind=.function
 o9:sc.isCoroutine=vP
 o10:sc.isGenerator=vP
 o12:sc.names.lookup x=ac .local
 cell:∀ p∈sc.names,p.2≠.cell
 free:∀ p∈sc.names,p.2=.free->k p.1=ac .cell\/k p.1=ac .free
 o14:kH k=vT
 o15:kH (λy=>sc.names.lookup y)=vP
 o16:sc.names.lookup p=ac .free
theorem notB{b:v7}(h:(!b)=vT):b=vP:=by
 cases b with
 | false=>rfl
 | true=>cases h
theorem qz{k:KD}{ps:y3}{sc:xZ}{x p:Str}(h:qq k ps sc x p=vT):rB k ps sc x p:=
 fL h λh1 f i=>and6 h1 λa1 a2 a3 j m n=>nG f λo s t u w=>nH i λc1 c2 c3 y=>
  have a:∀ p∈sc.names,p.2≠.cell/\(p.2=.free->k p.1=ac .cell\/k p.1=ac .free):=λp b=>bQ (wQ.mp c1 p b) λz c=>⟨zL.mp z,λe=>(yh.mp c).elim (λc=>(yh.mp c).elim (λq=>wI e (zL.mp q)) λq=>.inl (eq_of_beq q)) λq=>.inr (eq_of_beq q)⟩
  ⟨xf.mp a1,xf.mp a2,xX.mp a3,xX.mp j,xf.mp m,xf.mp n,eq_of_beq o,eq_of_beq s,notB t,notB u,eq_of_beq w,λp b=>(a p b).1,λp b=>(a p b).2,c2,notB c3,eq_of_beq y⟩
section
variable {BM:Env} {m:Str->vY vU} {H:v8->Prop} {ρ:vR (vV×D)} {ns:vR vV} {E:vU->vZ->Prop} {ps:y3} {b:wi} {sc:xZ} {x p f:vV} {lp:Pos}
theorem lam_eval(G:GOk mg mb B3){Q:vU->vZ->Prop}(O:rB BM.kindOf ps sc (vQ x) (vQ p))(c:Cc w B3 s BM H ρ m ns)(k:∀ B2 z,bj s B2->oO mg ps b sc BM z B2.heap->Q (.ref z) B2):wpAny (wc B9 w) A (wM (.Lambda ps b sc lp) BM) Q E s:=by
 obtain⟨j,n,U,t,u⟩:=oH G c.hw;obtain⟨f,h⟩:=c.R.lam O.o14;have i:defaultsOf ps BM=([],[]):=by
  obtain⟨V,q2,B,X,C,Y,I⟩:=ps;have J:I=[]:=O.o5;have L:C=[]:=O.o6;rw[J,L];rfl
 refine kla_eval i ?_;rw[h];refine lam_make (name:="<lambda>") (jf λq M e=>(c.R.cell q.1 (O.free q M e)).elim λa r=>⟨a,r.1⟩) ?_ c.R.glob (Ns.keepAt G.g (c.hw.keep _)) f j t u n λZ N h' tk y T=>k _ _ (.mk _ _ s.drawn λb o e=>Heap.gt_push_of_some _ (y b o e)) ⟨Heap.get?_push_size _ QQ,T.mono λb o e BF BF=>Heap.get?_push_of_some _ e⟩
 obtain⟨a,q,_⟩:=c.R.cell (vQ p) (O.free _ (mem_of_lookup O.o16) QQ);have q2:=fW q sc.names [] (.inl (mem_of_lookup O.o16));cases B:e9 BM.cells sc.names [] with
 | nil=>rw[B] at q2;cases q2
 | cons _ _=>rfl
theorem lam_key(G:GOk mg mb B3)(C:cD B9 w B3 mg cf A)(U:nK A)(O:rB BM.kindOf ps sc (vQ x) (vQ p))(Ca:aC (λy=>sc.names.lookup y) b (.call f [.sub (.u x) (.u p)])=vT){i V c d:D}{v t:vU}{n:v8}(u:aD d i=ac V){fr:v7}(B:cf.call f [V]=ac (.tup [.bool (cX c),c],fr))(E:c.isCell=vT)
  (R:aN s.heap BM m) (X:HOk B3 s.heap H) (I:m (vQ p)=ac t) (Cb:Rep w.params s.heap H t i) (Cd:Rep w.params s.heap H v d) (L:oO mg ps b sc BM n s.heap) :
  wpAny (wc B9 w) A.in1.in1 (call (.ref n) [v]) (λk s'=>bj s s'/\dU s'.heap k c) (λBF BF=>False) s:=L.rec λ{c' Ce} Cf Cg=>by
 refine lam_call Cf Cg (NoLimit.keepG G.lim X.keep) (wg (wB _ _) U.depth) O.o1 O.o2 O.o3 O.o4 O.o7 O.o8 O.o9 O.o10 O.cell O.o12 λBV h J a=>?_
 have o:=lam_env (f:=n) (c':=c') R J a O.o8 O.cell O.free O.o15;have Ch:rA A (A.in1.in1.deeper (mO sc s.heap.objs.size (e9 BM.cells sc.names []) n c')):=⟨QQ,wF _,wW (by decide:5<=10) A.units⟩
 have M:(A.in1.in1.deeper (mO sc s.heap.objs.size (e9 BM.cells sc.names []) n c')).units+1<yg:=wg (wW (by decide:6<=20) A.units) U.units
 have N:(p == x)=vP:=beq_false_of_ne λq=>nomatch (q▸O.o12).symm.trans O.o16
 have Y:[(x,d),(p,i)].lookup x=ac d:=by rw[wk,wH]
 have Z:[(x,d),(p,i)].lookup p=ac i:=by rw[wk,N,wk,wH]
 have T:evF cf [(x,d),(p,i)] (.call f [.sub (.u x) (.u p)])=ac (.tup [.bool (cX c),c],fr):=by
  rw[fU,dO,u9,fI,fI,Y,Z];dsimp only;rw[u];exact B
 refine aR (sC G (C.at Ch) (gZ (ux M (rL x) (rL p)) jJ) { s with heap:=BV,toks:=h } _ b H [(x,d),(p,i)] _ _ fr (λBF BF=>False) Ca ⟨o,X.keeps a,λz Ci Cj Ck j=>?_⟩ T) λCm s' q=>⟨Kp.trans (.mk BV h _ a) q.post.k,key_of q.post.r E⟩
 refine eP (show z∈[x,p] from Ci) (λe=>?_) λe=>?_
 ·subst e
  rw[Y] at j;exact⟨v,(wo (by rw[O.o12];nofun)).trans (by rw[wk,wH]),v5 j▸Cd.keeps a⟩
 ·subst e
  rw[Z] at j;exact⟨t,(wh O.o16).trans I,v5 j▸Cb.keeps a⟩
theorem rowKey_inv{i d k:D}{C:Prop}(h:fA cf f i d=ac k)(K:∀ c fr,aD d i=ac c->cf.call f [c]=ac (k,fr)->C):C:=
 bh (a:=aD d i) (f:=λc=>(cf.call f [c]).map λ(r:D×v7)=>r.1) h λc b h=>br h λr j e=>K c r.2 b (j.trans (wv ac (Bv e QQ)))
theorem lam_ct{a:v8}{h h':Heap}{B3:Heap}{mg mb:Str->vY vU}(G:GOk mg mb B3)(j:HOk B3 h H)(L:oO mg ps b sc BM a h)(c:KH h h'):oO mg ps b sc BM a h':=L.rec λ{t m} n f=>
 ⟨Heap.of_gt (c _ _ (Heap.gt_of n (aO nofun))) (aO nofun),lamAt_keepG f (λq=>by
  obtain⟨_,_,o,e,_⟩:=oH G j;obtain⟨_,_,_,i,s,_⟩:=f;rw[q,e] at i;cases i;cases s) c⟩
theorem srt_call(G:GOk mg mb B3)(C:cD B9 w B3 mg cf A)(Cf:nK A)(O:rB BM.kindOf ps sc (vQ x) (vQ p))(Cg:aC (λy=>sc.names.lookup y) b (.call f [.sub (.u x) (.u p)])=vT){i:D}{Cb v:vU}{T:v8}{rev:v7}{Cd:vR (Str×vU)}{ds:vR D}(hz:ds.length<64){J:vR D}(M:gM (fA cf f i) ds=ac J)
  (R:aN s.heap BM m) (U:HOk B3 s.heap H) (V:m (vQ p)=ac Cb) (Ch:Rep w.params s.heap H Cb i) (r:Rep w.params s.heap H v (.list ds)) (L:oO mg ps b sc BM T s.heap) (K:KwOk T rev Cd) :
  wpAny (wc B9 w) A (call (.builtin "sorted") [v] Cd) (bV w s H (.list (fO .none rev J ds)) vT) E s:=r.listE λCi vs n X Cr Cj N=>by
 have B:=keysD_at M;refine sorted_key (vs:=vs.toList) (ds:=J) (f:=.ref T) (rev:=rev) (aX X) (N.length.trans B.1.symm) (B.1.symm▸hz) (K.a1 Ci) K.a2 K.t (λj v c Ck Cm h tk dw u=>?_) λh' tk dw S cc u I Y Cn=>?_
 ·obtain⟨Cs,k,Co,Ce,Z⟩:=B.2 j c Cm
  have e:=keyD_inv Z;rw[e.1] at Ce;obtain⟨Ct,Cp,q2⟩:=N.get j Co;refine rowKey_inv Ce λCu fr h1 Cq=>lam_key (s:={ s with heap:=h,toks:=tk,drawn:=dw }) G C Cf O Cg h1 Cq e.2 (R.keeps u) (U.keeps u) V (Ch.keeps u) (v5 (Cp.symm.trans Ck)▸q2.keeps u) (lam_ct G U L u)
 ·have Ca:∀ q:H S,False:=λq=>(U.ex S q).elim λb z=>z.elim λo z=>xl _ (wg z.1 (Y b o z.2))
  have B7:gI w.params h' H S (fO .none rev J ds):=⟨Cn,by rw[mw,B.1];exact Cj,(repAll_srt N B.1 rev).mono (λa o BF e=>u a o e) λb o e q=>q.elim id λq=>bv e (q▸I)⟩
  exact⟨.mk h' tk dw u,B7.rep Ca,λBF=>⟨I,B7⟩⟩
theorem evi_srt{a:ME}{rev:v7}{d:D}{C:Prop}(h:evE cf ρ (.srt a f x p rev)=ac d)(k:∀ ds i b,evE cf ρ a=ac (.list ds)->ρ.lookup p=ac i->ds.length<64->gM (fA cf f i) ds=ac b->.list (fO .none rev b ds)=d->C):C:=
 bh (a:=evE cf ρ a) (f:=λx=>oE (ρ.lookup p) λi=>srtD (fA cf f i) rev x) h λc j h=>bh h λi m h=>by
  cases c with
  | list ds=>exact bK h λn h=>br h λb o e=>k ds i b j m n o e
  | _=>exact ag h
theorem kw_inv{ks:vR Keyword}{rev:v7}{C:Prop}(h:IKw BM.kindOf f x p rev ks)(k:∀ ps b sc lp,rB BM.kindOf ps sc (vQ x) (vQ p)->aC (λy=>sc.names.lookup y) b (.call f [.sub (.u x) (.u p)])=vT ->
  (∀ (pos:Pos) (M:Ab) (A:wt) (s:vZ) (E:vU->vZ->Prop) (Q:vR vU->vZ->Prop),wpAny M A (wM (.Lambda ps b sc lp) BM) (λv s'=>∃ c,v=.ref c/\∀ a,KwOk c rev (((backToKw pos (keywordEach ks BM)).filterMap (·.1)).zip a)->Q a s') E s->wpAny M A (evalAll ((backToKw pos (keywordEach ks BM)).map (·.2))) Q E s) ->
  (∀ pos,(backToKw pos (keywordEach ks BM)).all (·.1.isSome)=vT/\(backToKw pos (keywordEach ks BM)).any (·.1.isNone)=vP)->C):C:=by
 cases h with
 | up h1 i=>exact k _ _ _ _ (qz h1) (q8 i) (λpos M A s E Q h=>kws_cons (aR h λv s' q=>q.elim λc q=>kws_nil (q.1▸q.2 _ ⟨λZ=>ksk_s1 _ _,λZ=>ksk_l1 _ _,λZ=>ksk_t1 _ _⟩))) λpos=>⟨QQ,QQ⟩
 | down h1 i=>exact k _ _ _ _ (qz h1) (q8 i) (λpos M A s E Q h=>kws_cons (aR h λv s' q=>q.elim λc q=>kws_cons (Constant_bool (kws_nil (q.1▸q.2 _ ⟨λZ=>ksk_s2 _ _ _,λZ=>ksk_l2 _ _ _,λZ=>ksk_t2 _ _ _⟩))))) λpos=>⟨QQ,QQ⟩
end
theorem sf_srt(G:GOk mg mb B3)(C:cD B9 w B3 mg cf A)(I:nK A){a:ME}{f x p:vV}{rev:v7}(J:SE B9 w A B3 cf a):SF B9 w A B3 cf (.srt a f x p rev):=λs BM e H ρ m d fr E M c he=>
 eQ he QQ λhe N=>evi_srt he λds i T U V q j X=>ISrt.rec (motive:=λe BF=>wpAny (wc B9 w) A (wM e BM) (bV w s H d fr) E s) (λ{Y y ks pos} Z u Ca=>kw_inv Ca λps b sc lp O z Cb hall=>by
  have n:backTo pos (yO [y] BM)=[(vP,wM y BM)]:=by rw[dZ (t9 u),eT];rfl
  obtain⟨Cg,t,Cd⟩:=c.hn p (by rw[uL];exact xP _ (.head _)) (lamVar z (O.free _ (mem_of_lookup O.o16) QQ)) i V
  refine vX (m:=wM (.Name (vQ "sorted") Y) BM) (de G (f:="sorted") (by decide) c.R c.hw Z ?_)
  refine callWith_kw (id:="sorted") ?_ (he:=by rw[n];rfl) (hplain:=by rw[n];rfl) (hall:=(hall pos).1) (hkw:=(hall pos).2)
  rw[n];refine Calls.spliced_cons (J.go u (c.sub λBF q=>by rw[uL];exact yy _ q) U λl BU h=>Calls.spliced_nil (Cb pos _ _ _ _ _ (lam_eval G O (c.k h.k) λB2 Ce k2 L=>⟨Ce,QQ,λCf K=>?_⟩)))
  have c2:=(c.k h.k).k k2;exact aR (srt_call G C I O z q j c2.R c2.hw t ((Cd.keeps (Kp.heap h.k)).keeps (Kp.heap k2)) (h.r.keeps (Kp.heap k2)) L K) λv B o=>X▸N▸o.tr (Kp.trans h.k k2)) (s8 M)
end
end Mine
namespace Mine
open PySem PySem.SeqAt
section
variable {B9:wq} {w:wy} {A:wt} {s:vZ} {B3:Heap} {mg mb:Str->vY vU} {cf:CF}
theorem p8{j:ME}(h:SE B9 w A B3 cf j)(o:∀ e k BM a,aC k e j=vT->yi e BM a=(do let v <- a;standAt e.pos;holding [v] (truthy v))):ST B9 w A B3 cf j:=λs BM e H ρ m d t E n c q u=>
 PyProof.Rows.isTrue_plain (h.go n c q λv BU f=>aR (eR f.r u) λb B2 i=>i.tr f.k) (o e _ BM _ n)
theorem sb_nil:SB B9 w A B3 cf []:=λs BM es b pos H ρ m d E f c a=>ag a
theorem sb_one{a:ME}(q:SE B9 w A B3 cf a)(n:ST B9 w A B3 cf a):SB B9 w A B3 cf [a]:=λs BM es i pos H ρ m d E u c j=>
 dh (C:=λes=>wpAny (wc B9 w) A (wM (.BoolOp i es pos) BM) (bc w s H d) E s/\∀ t h,bg d=ac t->wpAny (wc B9 w) A (yi (.BoolOp i es pos) BM h) (dS s t) E s) u λe es h1 y=>by
  have z:es=[]:=xf.mp y;subst z;refine⟨PyProof.Rows.BoolOp_one (q s BM e H ρ m d E h1 c.l j),λt h o=>?_⟩
  cases i with
  | And=>exact PyProof.Rows.isTrue_and (aR (n s BM e H ρ m d t E h1 c.l j o) λb BU f=>by
    cases b with
    | true=>exact PyProof.Rows.isTrue_and_nil f
    | false=>exact f)
  | Or=>exact PyProof.Rows.isTrue_or (aR (n s BM e H ρ m d t E h1 c.l j o) λb BU f=>by
    cases b with
    | true=>exact f
    | false=>exact PyProof.Rows.isTrue_or_nil f)
theorem sb_cons{a b:ME}{r:vR ME}(O:SE B9 w A B3 cf a)(T:ST B9 w A B3 cf a)(V:SB B9 w A B3 cf (b::r)):SB B9 w A B3 cf (a::b::r):=λs BM es y pos H ρ m d E X c Y=>
 evi_bop Y λx J L z M=>dh (C:=λes=>wpAny (wc B9 w) A (wM (.BoolOp y es pos) BM) (bc w s H d) E s/\∀ t j,bg d=ac t->wpAny (wc B9 w) A (yi (.BoolOp y es pos) BM j) (dS s t) E s) X λe es h1 U=>by
  have B5:∀ BU,bj s BU->fq cf ρ y (b::r)=ac d->_:=λBU (k:bj s BU) (h:fq cf ρ y (b::r)=ac d)=>V BU BM es y pos H ρ m d E U (c.r.k k) h
  have N:∃ G u,es=G::u:=dh (C:=λes=>∃ G u,es=G::u) U λG u Z Z=>⟨G,u,QQ⟩
  obtain⟨G,u,rfl⟩:=N;have go:∀ {v:vU} {BU B2:vZ} {c:v7},bc w s H x v BU->dS BU J c B2->c=p4 y->bc w s H d v B2:=λf i e=>⟨Kp.trans f.k i.k,(v5 ((wh (i.e.symm.trans e)).symm.trans M))▸f.r.keeps (Kp.heap i.k)⟩
  have o:∀ {c:v7},c=J->c≠p4 y->fq cf ρ y (b::r)=ac d:=λe n=>(wo (e▸n)).symm.trans M
  have B:∀ {c t:v7},c=J->c=p4 y->bg d=ac t->c=t:=λe n I=>e.trans (v5 (z.symm.trans ((wv bg (v5 ((wh (e.symm.trans n)).symm.trans M))).trans I)))
  refine⟨?_,λt j I=>?_⟩
  ·cases y with
   | And=>exact PyProof.Rows.BoolOp_and (O.go h1 c.l L λv BU f=>aR (eR f.r z) λc B2 i=>by
     cases c with
     | true=>exact aR (B5 B2 (Kp.trans f.k i.k) (o i.e nofun)).1 λZ Z q=>q.tr (Kp.trans f.k i.k)
     | false=>exact go f i QQ)
   | Or=>exact PyProof.Rows.BoolOp_or (O.go h1 c.l L λv BU f=>aR (eR f.r z) λc B2 i=>by
     cases c with
     | false=>exact aR (B5 B2 (Kp.trans f.k i.k) (o i.e nofun)).1 λZ Z q=>q.tr (Kp.trans f.k i.k)
     | true=>exact go f i QQ)
  ·cases y with
   | And=>exact PyProof.Rows.isTrue_and (aR (T s BM e H ρ m x J E h1 c.l L z) λc BU f=>by
     cases c with
     | true=>exact aR ((B5 BU f.k (o f.e nofun)).2 t j I) λZ Z q=>q.tr f.k
     | false=>exact⟨f.k,B f.e QQ I⟩)
   | Or=>exact PyProof.Rows.isTrue_or (aR (T s BM e H ρ m x J E h1 c.l L z) λc BU f=>by
     cases c with
     | false=>exact aR ((B5 BU f.k (o f.e nofun)).2 t j I) λZ Z q=>q.tr f.k
     | true=>exact⟨f.k,B f.e QQ I⟩)
theorem uA{op:y2}{b:vR ME}(h:SB B9 w A B3 cf b):SE B9 w A B3 cf (.bop op b):=λs BM e H ρ m d E a c f=>
 vJ.rec (motive:=λe Z=>wpAny (wc B9 w) A (wM e BM) (bc w s H d) E s) (λa=>(h s BM _ op _ H ρ m d E a c f).1) (l5 a)
theorem st_bop{op:y2}{b:vR ME}(h:SB B9 w A B3 cf b):ST B9 w A B3 cf (.bop op b):=λs BM e H ρ m d t E a c f i=>
 vJ.rec (motive:=λe Z=>wpAny (wc B9 w) A (yi e BM (wM e BM)) (dS s t) E s) (λa=>(h s BM _ op _ H ρ m d E a c f).2 t _ i) (l5 a)
theorem forIn_false{BM:Env}{E:vU->vZ->Prop}{Q:v7->vZ->Prop}(es:vR wi)(h:Q vP s) :
  wpAny (wc B9 w) A (forIn es vP λc r=>if r=vT then do let ok <- yi c BM (wM c BM);pure (ForInStep.yield ok) else pure (ForInStep.yield r)) Q E s:=by
 induction es with
 | nil=>rw[List.forIn_nil];exact we h
 | cons c es a=>
  rw[By];simp only[yI,zb,pure_bind];exact a
theorem uB:SC B9 w A B3 cf []:=λs BM es H ρ m t E a c b=>
 j9 (C:=λes=>wpAny (wc B9 w) A (forIn es vT _) (dS s t) E s) a (by rw[List.forIn_nil];exact we ⟨Kp.refl _,v5 b⟩)
theorem sE{a:ME}{r:vR ME}(i:ST B9 w A B3 cf a)(j:SC B9 w A B3 cf r):SC B9 w A B3 cf (a::r):=λs BM es H ρ m t E n c o=>
 evi_cs o λx u y z h=>dh (C:=λes=>wpAny (wc B9 w) A (forIn es vT _) (dS s t) E s) n λe es h1 B=>by
  rw[By];simp only[AN,bind_assoc,pure_bind];refine vX (aR (i s BM e H ρ m x u E h1 c.l y z) λb BU f=>?_)
  have e1:=f.e;subst e1;cases b with
  | true=>exact aR (j BU BM es H ρ m t E B (c.r.k f.k) h) λZ Z q=>q.tr f.k
  | false=>exact forIn_false es ⟨f.k,v5 h⟩
theorem comp_inner{BM h:Env}{m B:Str->vY vU}{scope:xZ}{x:vV}{ns:vR vV}{ρ:vR (vV×D)}{B2:vZ}{H f:v8->Prop}{v:vU}{dv:D}(E:gv BM.kindOf scope (vQ x)=vT)
  (L:h.kindOf=dL BM.kindOf scope) (M:B (vQ x)=ac v) (N:Rep w.params B2.heap f v dv) (G:∀ z,scope.names.lookup z=ac .free->B z=m z) (kp:bj s B2) (j:pQ s.heap H f) (O:aN B2.heap h B) (T:Ex B2.heap f)
  (c:Cc w B3 s BM H ρ m (ns.filter (· != x))):Cc w B3 B2 h f ((x,dv)::ρ) B ns:=by
 refine⟨O,⟨λb o e=>Kp.heap kp b o (c.hw.keep b o e),T,λb o e q=>c.hw.off b o e (j b o (c.hw.keep b o e) q)⟩,λz U t d u=>?_⟩
 rw[wk] at u
 by_cases i:z=x
 ·subst i
  rw[wH] at u;exact⟨v,M,v5 u▸N⟩
 ·rw[show (z == x)=vP from wK.mpr i] at u
  refine hZ E λZ C Z n y Z=>nH t λh1 V X I=>?_
  have A:scope.names.lookup (vQ z)=ac .free:=by
   rw[L,jR] at h1;cases J:scope.names.lookup (vQ z) with
   | none=>rw[J] at h1;cases h1
   | some k=>exact (y _ (mem_of_lookup J)).elim (λq=>q.elim (λq=>q.elim (wv ac) λe=>by rw[J,show k=.globalImplicit from e] at h1;cases h1) λe=>wI (cR e) i) λe=>by rw[show vQ z=_ from e] at I;cases I
  exact (c.hn z (Bz.mpr ⟨U,zL.mpr i⟩) (by
   unfold ez;rw[V,X,I]
   rcases n _ (mem_of_lookup A) rfl with e | e <;> rw[e] <;> rfl) d u).elim λY q=>⟨Y,(G _ A).trans q.1,q.2.mono (λa o Z e=>Kp.heap kp a o e) j⟩
noncomputable def compG(cf:CF)(ρ:vR (vV×D))(elt:ME)(x:vV)(cs:vR ME)(a:D):vY (vY D):=oT (lK cf ((x,a)::ρ) cs) λt=>if t=vT then oE (evE cf ((x,a)::ρ) elt) λy=>ac (ac y) else ac none
theorem compM_congr{f g:D->vY (vY D)}(h:∀ d,f d=g d)(l:vR D):bD f l=bD g l:=wv (λf=>bD f l) (funext h)
theorem evi_comp{ρ:vR (vV×D)}{elt BH:ME}{x:vV}{cs:vR ME}{d:D}{C:Prop}(h:evE cf ρ (.comp elt x BH cs)=ac d)(k:∀ y BK out,evE cf ρ BH=ac y->y.items=ac BK->BK.length<=big->bD (compG cf ρ elt x cs) BK=ac out->.list out=d->C):C:=by
 rw[ev_comp] at h;refine bh (a:=evE cf ρ BH) h λy b h=>dJ (a:=y.items) h λBK c h=>bK h λf h=>br h λout i e=>k y BK out b c f ((compM_congr (λj=>?_) BK).trans i) e
 unfold compG;cases lK cf ((x,j)::ρ) cs with
 | none=>rfl
 | some t=>cases t <;> rfl
theorem qY{elt BH:ME}{x:vV}{cs:vR ME}(Cb:A.handled=wa)(he:SE B9 w A B3 cf elt)(Cd:SE B9 w A B3 cf BH)(O:SC B9 w A B3 cf cs)
  {s:vZ} {BM:Env} {H:v8->Prop} {ρ:vR (vV×D)} {m:Str->vY vU} {d:D} {E:vU->vZ->Prop} {t z:wi} {Ce pos B:Pos} {n:vR wi} {scope:xZ} {use:vY (vU->Sem Unit)} {Q:vU->vZ->Prop}
  (G:d7 z=vT) (I:gv BM.kindOf scope (vQ x)=vT) (u:aC BM.kindOf z BH=vT) (a:aC (dL BM.kindOf scope) t elt=vT) (f:bM (dL BM.kindOf scope) n cs=vT) (c:Cc w B3 s BM H ρ m (ME.comp elt x BH cs).names)
  (T:evE cf ρ (.comp elt x BH cs)=ac d)
  (Cf:∀ L C h' tk dw m' j,d=.list j->(∀ b o,gat s.heap b=ac o->@LT.lt Nat _ b L)->gat s.heap C=wa->L≠C->h'.Ns C m'->gI w.params h' (λb=>H b\/b=C) L j->(KH s.heap h') ->
   compPost (wc B9 w) A E use Q (.ref L) C (.ok .next) { s with heap:=h',toks:=tk,drawn:=dw }) :
  wpAny (wc B9 w) A (comprehension (.ListComp t [⟨.Name (vQ x) Ce,z,n,0⟩] scope pos) scope BM B (newList []) vP (wM z BM) use) Q E s:=by
 refine evi_comp T λy BK j U Cg Ch Ci e=>comp_core c.R I G Cb c.x (Cd s BM z H ρ m y E u c.l U) Cg Ch Ci (λh Y B2 V i v dv r Cv N Cj Ck Cm X Cn kp J Z=>?_) λL C h' tk dw m' h1 Co Cp Cq Cr Cs=>Cf L C h' tk dw m' j e.symm h1 Co Cp Cq Cr Cs
 have Ca:Cc w B3 B2 h i ((x,dv)::ρ) V (elt.names++eH cs):=comp_inner I Y Ck Cm X kp J Cj Cn c.r;rw[<- Y] at a f;refine rQ N λb Ct N=>aR (O B2 h n i _ V b Z f Ca.r Ct) λok M q=>⟨q.k,?_⟩
 cases b with
 | true=>exact bh N λy U e=>v5 e▸⟨q.e,λCu e=>v5 e▸he M h t i _ V y Z a (Ca.l.k q.k) U⟩
 | false=>exact v5 N▸⟨q.e,λCu e=>nomatch e⟩
end
theorem dput_len(k d:D)(ks vs:vR D):(cL ks vs k d).1.length<=ks.length+1:=by
 induction ks generalizing vs with
 | nil=>exact wF _
 | cons b ks a=>cases vs with
  | nil=>exact wL (ww _)
  | cons v vs=>
   rw[l8]
   split
   ·exact xR _
   ·exact wL (a vs)
section
variable {B9:wq} {w:wy} {A:wt} {s:vZ} {B3:Heap} {mg mb:Str->vY vU} {cf:CF}
theorem lC{ρ:vR (vV×D)}{b:vR ME}{k:KD}{es:vR wi}(h:bk cf ρ b=ac [])(c:bM k es b=vT):es=[]:=by
 cases b with
 | nil=>exact xf.mp c
 | cons a r=>exact qS h λZ Z Z Z e=>nomatch e
theorem not_sys(G:GOk mg mb B3){h:Heap}(a:KH B3 h):(h.objs.size == zJ)=vP:=(qM G.g).elim λo e=>wK.mpr λq=>wI (q▸Heap.gt_lt (a _ _ e)) (by decide)
theorem evi_dct{ρ:vR (vV×D)}{ks vs:vR ME}{d:D}{C:Prop}(h:evE cf ρ (.dct ks vs)=ac d)(k:bk cf ρ ks=ac []->bk cf ρ vs=ac []->.dict [] []=d->C):C:=
 dJ (a:=bk cf ρ ks) (f:=λds=>oEs (bk cf ρ vs) λes=>if (ds.isEmpty&&es.isEmpty)=vT then ac (D.dict [] []) else none) h λds h1 h=>dJ h λes c h=>aS h λi e=>bQ i λa b=>k (xf.mp a▸h1) (xf.mp b▸c) e
theorem sf_dct(G:GOk mg mb B3){ks vs:vR ME}(b:∀ e∈ks,SE B9 w A B3 cf e)(f:∀ e∈vs,SE B9 w A B3 cf e):SF B9 w A B3 cf (.dct ks vs):=λs BM e H ρ m d fr E h c a=>
 eQ a QQ λa i=>evi_dct a λh1 j o=>IDct.rec (motive:=λe Z=>wpAny (wc B9 w) A (wM e BM) (bV w s H d fr) E s) (λ{q t pos} u y=>by
  have e1:=lC h1 u;have z:=lC j y;subst e1 z;have B7:cM w.params (s.heap.push { cls:=.type "dict",data:=.dict #[] }) H s.heap.objs.size (.dict [] []):=lN.mk (es:=#[]) (n:=0) (Heap.get?_push_size _ QQ) (ww _) QQ QQ QQ QQ .nil (not_sys G c.hw.keep);exact wpAny_Dict_empty (o▸i▸⟨Kp.push _ _,B7.rep c.x.fresh,λZ=>⟨b0 _,B7⟩⟩)) (th h)
end
section
variable {B9:wq} {w:wy} {A:wt} {s:vZ} {B3:Heap} {mg mb:Str->vY vU} {cf:CF}
theorem jI{a:ME}(h:SE B9 w A B3 cf a)(f:∀ ρ,evF cf ρ a=(evE cf ρ a).map λd=>(d,vP)):SF B9 w A B3 cf a:=λs BM e H ρ m d fr E i c j=>
 br ((f ρ).symm.trans j) λn h1 b=>aR (h s BM e H ρ m d E i c (h1.trans (wv ac (wY b).1))) λZ Z q=>q.pf (wY b).2.symm
theorem sf_comp{elt BH:ME}{x:vV}{cs:vR ME}(M:A.handled=wa)(he:SE B9 w A B3 cf elt)(N:SE B9 w A B3 cf BH)(t:SC B9 w A B3 cf cs):SF B9 w A B3 cf (.comp elt x BH cs):=λs BM e H ρ m d fr E O c f=>
 eQ f QQ λf T=>tZ.rec (motive:=λe BF=>wpAny (wc B9 w) A (wM e BM) (bV w s H d fr) E s) (λc1 c2 c3 U V=>by
  rw[eval_ListComp];refine qY (use:=wa) M he N t c1 c2 c3 U V c f λL C h' tk X m' u Y J Z y i j Ca=>⟨m',i,λh n=>?_⟩
  have B:Mv C h' h:=λb o G e=>g1 n (dC i) b G e
  have B7:gI w.params h H L u:=j.mono (λo e=>B L o y e) (λa o G e=>B a o (λq=>G (.inr q)) e) λb o BF q=>.inl (.inl q)
  have I:gat s.heap L=wa:=by
   cases e:gat s.heap L with
   | none=>rfl
   | some o=>exact wI (J _ _ e) (xl _)
  exact Y▸T▸⟨.mk h tk X λb o e=>B b o (λq=>bv e (q▸Z)) (Ca b o e),B7.rep λq=>(c.x L q).elim λb z=>z.elim λo z=>xl _ (wg z.1 (J b o z.2)),λBF=>⟨I,B7⟩⟩) (mU O)
theorem evF_callx(f:vV)(a:vR ME)(ρ:vR (vV×D))(d:D)(h:evE cf ρ (.call f a)=ac d):∃ fr,evF cf ρ (.call f a)=ac (d,fr):=
 evi_call h λds r h1 b e=>⟨r.2,by rw[fU,h1];exact b.trans (wv ac (Bv e QQ))⟩
theorem blt_name{f:vV}{ds:vR D}{d:D}(h:fZ f ds=ac d):f∈cH:=by
 cases ds with
 | nil=>exact ag h
 | cons a ds=>cases ds with
  | nil=>
   refine cz (c:=f="len") h (λe Z=>e▸by decide) λZ h=>?_
   cases a with
   | int i=>exact cz h (λe Z=>e▸by decide) λZ h=>bK h λe Z=>e▸by decide
   | bool b=>exact aS h λe Z=>e▸by decide
   | str x=>exact aS h λe Z=>e▸by decide
   | list ds=>exact cz h (λe Z=>e▸by decide) λZ h=>bK h λe Z=>e▸by decide
   | _=>exact ag h
  | cons b ds=>cases ds with
   | nil=>exact cI (C:=λZ=>f∈cH) h λi h=>cI (C:=λZ=>f∈cH) h λj h=>cz h (λe Z=>e▸by decide) λZ h=>cz h (λe Z=>e▸by decide) λZ h=>aS h λe Z=>e▸by decide
   | cons=>exact ag h
structure AE(B9:wq)(w:wy)(A:wt)(B3:Heap)(cf:CF)(me:ME):Prop where
 e:SE B9 w A B3 cf me
 t:ST B9 w A B3 cf me
 f:SF B9 w A B3 cf me
structure AEs(B9:wq)(w:wy)(A:wt)(B3:Heap)(cf:CF)(ms:vR ME):Prop where
 s:SEs B9 w A B3 cf ms
 b:SB B9 w A B3 cf ms
 c:SC B9 w A B3 cf ms
 m:∀ e∈ms,SE B9 w A B3 cf e
theorem nJ{b:ME}(h:SE B9 w A B3 cf b)(c:b.plain=vT)(f:∀ ρ,evF cf ρ b=(evE cf ρ b).map λd=>(d,vP)):AE B9 w A B3 cf b:=⟨h,p8 h (λe k BM a i=>(oq i).test c BM a),jI h f⟩
theorem pO{b:ME}(h:SF B9 w A B3 cf b)(f:b.plain=vT)(i:∀ ρ d,evE cf ρ b=ac d->∃ fr,evF cf ρ b=ac (d,fr)):AE B9 w A B3 cf b:=
 have c:=se_of_sf h i
 ⟨c,p8 c (λe k BM a j=>(oq j).test f BM a),h⟩
theorem lA{a:ME}(h:lY a=wa)(ρ:vR (vV×D))(d:D)(e:evE cf ρ a=ac d):∃ fr,evF cf ρ a=ac (d,fr):=⟨frF a d,by unfold evF;rw[h,e];rfl⟩
theorem se_bltx(G:GOk mg mb B3)(i:A.handled=wa){f:vV}{b:vR ME}(h:SEs B9 w A B3 cf b):SE B9 w A B3 cf (.blt f b):=
 (Classical.em (f∈cH)).elim (λa=>se_blt G i a h) λa s BM e H ρ m d E n c j=>tF j λds Z h=>wI (blt_name h) a
theorem sb_step{a:ME}{r:vR ME}(h:AE B9 w A B3 cf a)(c:SB B9 w A B3 cf r):SB B9 w A B3 cf (a::r):=by
 cases r with
 | nil=>exact sb_one h.e h.t
 | cons b r=>exact sb_cons h.e h.t c
theorem gP(G:GOk mg mb B3)(C:cD B9 w B3 mg cf A)(y:A.handled=wa)(o:nK A)(B:ME):AE B9 w A B3 cf B:=
 ME.rec (motive_1:=AE B9 w A B3 cf) (motive_2:=AEs B9 w A B3 cf)
  (λx=>nJ (rL x) QQ λZ=>QQ) (λx=>nJ (se_glob G C x) QQ λZ=>QQ) (λi=>nJ (se_int i) QQ λZ=>QQ) (λx=>nJ (se_str x) QQ λZ=>QQ) (λb=>nJ (se_bool b) QQ λZ=>QQ) (nJ se_none QQ λZ=>QQ)
  (λE a b j n=>pO (sf_bin j.e n.e) QQ (lA QQ))
  (λE a b j n=>⟨uz o.u2 j.e n.e,st_cmp o.u2 j.e n.e,jI (uz o.u2 j.e n.e) λZ=>QQ⟩)
  (λE u h=>⟨uA h.b,st_bop h.b,jI (uA h.b) λZ=>QQ⟩)
  (λa h=>⟨uy h.e,st_not h.t,jI (uy h.e) λZ=>QQ⟩) (λa h=>nJ (se_neg h.e) QQ λZ=>QQ)
  (λu h=>nJ (se_tup h.s) QQ λZ=>QQ) (λu h=>pO (sf_lst h.s) QQ (lA QQ))
  (λa b j n=>nJ (ux o.u1 j.e n.e) QQ λZ=>QQ) (λa b c j n H=>pO (sf_sl j.e n.e H.e) QQ (lA QQ))
  (λks vs I J=>pO (sf_dct G I.m J.m) QQ (lA QQ))
  (λL x BH U h1 M N=>pO (sf_comp y h1.e M.e N.c) QQ (lA QQ))
  (λf u h=>pO (sC G (C.at (.refl A)) h.s) QQ (evF_callx f u)) (λa T h=>nJ (se_isi G h.e) QQ λZ=>QQ)
  (λf u h=>nJ (se_bltx G y h.s) QQ λZ=>QQ) (λa h=>pO (sf_lcp G y h.e) QQ (lA QQ))
  (λa h=>pO (sf_sset G y h.e) QQ (lA QQ))
  (λa f x p rev h=>pO (sf_srt G C o h.e) QQ (lA QQ))
  ⟨jJ,sb_nil,uB,λZ h=>nomatch h⟩ (λa r j z=>⟨gZ j.e z.s,sb_step j z.b,sE j.t z.c,λe O=>(wf.mp O).elim (λq=>q▸j.e) (z.m e)⟩) B
theorem all_Cs(G:GOk mg mb B3)(C:cD B9 w B3 mg cf A)(c:A.handled=wa)(f:nK A)(b:vR ME):SC B9 w A B3 cf b:=
 List.rec (motive:=SC B9 w A B3 cf) uB (λa Z h=>sE (gP G C c f a).t h) b
end
noncomputable def bP(k:KD)(x:Str):v7:=(k x == ac .local||k x == ac .cell)&&ez k x
noncomputable def iP(e:wi):v7:=!decide (e.ctorIdx=8)&&!decide (e.ctorIdx=9)&&!decide (e.ctorIdx=10)
noncomputable def kf(e:wZ)(f:vR wi->wi->Pos->v7):v7:=yW (e.ctorIdx=5) (λh=>Stmt.Assign.elim (motive_2:=λZ=>v7) e h f) (λZ=>vP)
@[elab_as_elim] theorem iE{e:wZ}{f:vR wi->wi->Pos->v7}{C:wZ->Prop}(h:kf e f=vT)(k:∀ a b v2,f a b v2=vT->C (.Assign a b v2)):C e:=
 (bb h).elim λc h=>Stmt.Assign.elim (motive_2:=λe=>∀ c,Stmt.Assign.elim (motive_2:=λZ=>v7) e c f=vT->C e) e c (λa b v2 Z h=>k a b v2 h) c h
noncomputable def oJ(e:wZ)(f:wi->Pos->v7):v7:=yW (e.ctorIdx=24) (λh=>Stmt.Expr.elim (motive_2:=λZ=>v7) e h f) (λZ=>vP)
@[elab_as_elim] theorem fY{e:wZ}{f:wi->Pos->v7}{C:wZ->Prop}(h:oJ e f=vT)(k:∀ a b,f a b=vT->C (.Expr a b)):C e:=
 (bb h).elim λc h=>Stmt.Expr.elim (motive_2:=λe=>∀ c,Stmt.Expr.elim (motive_2:=λZ=>v7) e c f=vT->C e) e c (λa b Z h=>k a b h) c h
noncomputable def cIf(e:wZ)(f:wi->vR wZ->vR wZ->Pos->v7):v7:=yW (e.ctorIdx=12) (λh=>Stmt.If.elim (motive_2:=λZ=>v7) e h f) (λZ=>vP)
@[elab_as_elim] theorem tN{e:wZ}{f:wi->vR wZ->vR wZ->Pos->v7}{C:wZ->Prop}(h:cIf e f=vT)(k:∀ a b v2 c,f a b v2 c=vT->C (.If a b v2 c)):C e:=
 (bb h).elim λi h=>Stmt.If.elim (motive_2:=λe=>∀ i,Stmt.If.elim (motive_2:=λZ=>v7) e i f=vT->C e) e i (λa b v2 c Z h=>k a b v2 c h) i h
noncomputable def cFor(e:wZ)(f:wi->wi->vR wZ->vR wZ->Pos->v7):v7:=yW (e.ctorIdx=9) (λh=>Stmt.For.elim (motive_2:=λZ=>v7) e h f) (λZ=>vP)
@[elab_as_elim] theorem nC{e:wZ}{f:wi->wi->vR wZ->vR wZ->Pos->v7}{C:wZ->Prop}(h:cFor e f=vT)(k:∀ a b v2 c i,f a b v2 c i=vT->C (.For a b v2 c i)):C e:=
 (bb h).elim λj h=>Stmt.For.elim (motive_2:=λe=>∀ j,Stmt.For.elim (motive_2:=λZ=>v7) e j f=vT->C e) e j (λa b v2 c i Z h=>k a b v2 c i h) j h
noncomputable def ub(e:wZ)(f:vY wi->Pos->v7):v7:=yW (e.ctorIdx=3) (λh=>Stmt.Return.elim (motive_2:=λZ=>v7) e h f) (λZ=>vP)
@[elab_as_elim] theorem nB{e:wZ}{f:vY wi->Pos->v7}{C:wZ->Prop}(h:ub e f=vT)(k:∀ a b,f a b=vT->C (.Return a b)):C e:=
 (bb h).elim λc h=>Stmt.Return.elim (motive_2:=λe=>∀ c,Stmt.Return.elim (motive_2:=λZ=>v7) e c f=vT->C e) e c (λa b Z h=>k a b h) c h
noncomputable def c3{α:Type}(l:vR α)(f:α->α->α->v7):v7:=match l with | x::l=>c2 l (f x) | _=>vP
@[elab_as_elim] theorem c3_inv{α:Type}{l:vR α}{f:α->α->α->v7}{C:vR α->Prop}(h:c3 l f=vT)(k:∀ x y z,f x y z=vT->C [x,y,z]):C l:=by
 cases l with
 | nil=>cases h
 | cons x l=>exact r6 (C:=λl=>C (x::l)) h (k x)
noncomputable def grp1(k:KD)(st:wZ):v7:=kf st λa v Z=>c1 a λt=>cG t λy Z=>y == vQ "own"&&bP k y&&aC k v (.call "cells_at" [.u "row",.u "places"])
noncomputable def grp2(k:KD)(st:wZ):v7:=cIf st λv b o Z=>aC k v (.cmp .NotIn (.u "own") (.u "groups"))&&o.isEmpty&&c1 b λst=>kf st λa v Z=>c1 a λt=>ua t λc f Z=>aC k c (.u "groups")&&aC k f (.u "own")&&aC k v (.lst [])
noncomputable def grp3(k:KD)(st:wZ):v7:=oJ st λv Z=>ft v λg as ks p=>ks.isEmpty&&c1 as λa=>vi g λb c f=>c == vQ "append"&&f.endLine == p.line&&aC k b (.sub (.u "groups") (.u "own"))&&aC k a (.u "row")
noncomputable def grpB(k:KD)(st:wZ):v7:=cFor st λt a b o Z=>o.isEmpty&&cG t λy Z=>y == vQ "row"&&bP k y&&d7 a&&aC k a (.u "rows")&&c3 b λc f h=>grp1 k c&&grp2 k f&&grp3 k h
noncomputable def vh(e:wZ)(f:vY wi->vY wi->Pos->v7):v7:=yW (e.ctorIdx=16) (λh=>Stmt.Raise.elim (motive_2:=λZ=>v7) e h f) (λZ=>vP)
@[elab_as_elim] theorem cRaise_inv{e:wZ}{f:vY wi->vY wi->Pos->v7}{C:wZ->Prop}(h:vh e f=vT)(k:∀ a b v2,f a b v2=vT->C (.Raise a b v2)):C e:=
 (bb h).elim λc h=>Stmt.Raise.elim (motive_2:=λe=>∀ c,Stmt.Raise.elim (motive_2:=λZ=>v7) e c f=vT->C e) e c (λa b v2 Z h=>k a b v2 h) c h
noncomputable def cTry(e:wZ)(f:vR wZ->vR xB->vR wZ->vR wZ->Pos->v7):v7:=yW (e.ctorIdx=17) (λh=>Stmt.Try.elim (motive_2:=λZ=>v7) e h f) (λZ=>vP)
@[elab_as_elim] theorem re{e:wZ}{f:vR wZ->vR xB->vR wZ->vR wZ->Pos->v7}{C:wZ->Prop}(h:cTry e f=vT)(k:∀ a b v2 c i,f a b v2 c i=vT->C (.Try a b v2 c i)):C e:=
 (bb h).elim λj h=>Stmt.Try.elim (motive_2:=λe=>∀ j,Stmt.Try.elim (motive_2:=λZ=>v7) e j f=vT->C e) e j (λa b v2 c i Z h=>k a b v2 c i h) j h
noncomputable def cHand(h:xB)(f:vY wi->vY Str->vR wZ->Pos->v7):v7:=match h with | .ExceptHandler t n b p=>f t n b p
noncomputable def iS(k:KD)(e:wi)(x:vV):v7:=cG e λy Z=>y == vQ x&&bC k y
noncomputable def chkH1(k:KD)(h:xB)(q:vV×Int):v7:=cHand h λt n b Z=>n.isNone&&(k8 t λt=>iS k t q.1)&&c1 b λst=>ub st λv Z=>k8 v λv=>aC k v (.int q.2)
noncomputable def tM(k:KD)(a:vR xB):vR (vV×Int)->v7
 | []=>a.isEmpty
 | q::r=>(match a with | h::a=>chkH1 k h q&&tM k a r | []=>vP)
noncomputable def chkHq(k:KD)(a:vR xB):v7:=c1 a λh=>cHand h λt n b Z=>n == ac (vQ "e")&&k (vQ "e") == ac .local&&ez k (vQ "e")&&(k8 t λt=>iS k t "QueryError")&&c1 b λst=>ub st λv Z=>k8 v λv=>aC k v (.isi (.u "e") "ValueError")
mutual
noncomputable def gD(k:KD)(st:wZ)(z:MS):v7:=match z with
 | .x0 x e=>kf st λu v Z=>c1 u λt=>cG t λy Z=>y == vQ x&&bP k y&&aC k v e
 | .append x e=>oJ st λv Z=>ft v λg j ks p=>ks.isEmpty&&c1 j λa=>vi g λn w A=>cG n λy Z=>y == vQ x&&bP k y&&w == vQ "append"&&A.endLine == p.line&&aC k a e
 | .setk x B e=>kf st λu v Z=>c1 u λt=>ua t λo i Z=>cG o λy Z=>y == vQ x&&bP k y&&aC k i B&&aC k v e
 | .ite c t f=>cIf st λv b o Z=>aC k v c&&dP k b t&&dP k o f
 | .for_ x BH body=>cFor st λt q b o Z=>o.isEmpty&&cG t λy Z=>y == vQ x&&bP k y&&d7 q&&aC k q BH&&dP k b body
 | .ret e=>ub st λv Z=>k8 v λv=>aC k v e
 | .bad=>vT
 | .grp=>grpB k st
 | .expr e=>oJ st λv Z=>iP v&&aC k v e
 | .forr x BH body=>cFor st λt q b o Z=>o.isEmpty&&cG t λy Z=>y == vQ x&&bP k y&&d7 q&&(ft q λg j ks Z=>ks.isEmpty&&cG g λg Z=>g == vQ "reversed"&&bC k g&&c1 j λa=>aC k a BH)&&dP k b body
 | .raise C m=>vh st λe c Z=>c.isNone&&k8 e λe=>ft e λg j ks Z=>ks.isEmpty&&iS k g C&&c1 j λa=>aC k a (.str m)
 | .tryc g args E=>cTry st λb h o f Z=>o.isEmpty&&f.isEmpty&&(c1 b λs=>oJ s λv Z=>iP v&&aC k v (.call g args))&&tM k h E
 | .tryq g args=>cTry st λb h o f Z=>o.isEmpty&&f.isEmpty&&(c1 b λs=>oJ s λv Z=>iP v&&aC k v (.call g args))&&chkHq k h
termination_by structural z
noncomputable def dP(k:KD)(c:vR wZ)(f:vR MS):v7:=match f with
 | []=>c.isEmpty
 | a::r=>(match c with | s::b=>gD k s a&&dP k b r | []=>vP)
termination_by structural f
end
section
variable {k:KD} {st:wZ}
inductive kq(k:KD)(x:vV)(e:ME):wZ->Prop
 | mk {p v pos} (hst:bP k (vQ x)=vT) (hc:aC k v e=vT):kq k x e (.Assign [.Name (vQ x) p] v pos)
theorem jo{x:vV}{e:ME}(h:gD k st (.x0 x e)=vT):kq k x e st:=
 iE h λc v p h=>cC h λt h=>bw h λy f h=>fL h λh1=>eqb h1 λa b=>⟨a,b⟩
inductive pS(k:KD)(x:vV)(e:ME):wZ->Prop
 | mk {yp ap a p pos} (hst:bP k (vQ x)=vT) (hl:(ap.endLine == p.line)=vT) (hc:aC k a e=vT):pS k x e (.Expr (.Call (.Attribute (.Name (vQ x) yp) (vQ "append") ap) [a] [] p) pos)
theorem inv_append{x:vV}{e:ME}(h:gD k st (.append x e)=vT):pS k x e st:=
 fY h λv pos h=>dE h λg m ks p h=>bQ h λh1 h=>gT h1 (cC h λa h=>oK (e:=g) h λn b o h=>bw (e:=n) h λy q h=>nG h λh1=>eqb h1 λc f=>eqb f λi j=>⟨c,i,j⟩)
inductive vA(k:KD)(x:vV)(ke e:ME):wZ->Prop
 | mk {yp i p v pos} (hst:bP k (vQ x)=vT) (hi:aC k i ke=vT) (hc:aC k v e=vT):vA k x ke e (.Assign [.Subscript (.Name (vQ x) yp) i p] v pos)
theorem inv_setk{x:vV}{ke e:ME}(h:gD k st (.setk x ke e)=vT):vA k x ke e st:=
 iE h λf v pos h=>cC h λt h=>kc h λo i p h=>bw (e:=o) h λy j h=>nH h λh1=>eqb h1 λa b c=>⟨a,b,c⟩
inductive vD(k:KD)(c:ME)(t f:vR MS):wZ->Prop
 | mk {v b o p} (hc:aC k v c=vT) (ht:dP k b t=vT) (hf:dP k o f=vT):vD k c t f (.If v b o p)
theorem pt{c:ME}{t f:vR MS}(h:gD k st (.ite c t f)=vT):vD k c t f st:=tN h λv b o p h=>fL h λh1 a i=>⟨h1,a,i⟩
inductive vG(k:KD)(x:vV)(BH:ME)(body:vR MS):wZ->Prop
 | mk {yp it b p} (hst:bP k (vQ x)=vT) (hn:d7 it=vT) (hc:aC k it BH=vT) (hb:dP k b body=vT):vG k x BH body (.For (.Name (vQ x) yp) it b [] p)
theorem px{x:vV}{BH:ME}{body:vR MS}(h:gD k st (.for_ x BH body)=vT):vG k x BH body st:=
 nC h λt j b o p h=>bQ h λh1 h=>gT h1 (bw (e:=t) h λy m h=>nG h λh1=>eqb h1 λa c f i=>⟨a,c,f,i⟩)
inductive tY(k:KD)(e:ME):wZ->Prop
 | mk {v p} (hn:iP v=vT) (hc:aC k v e=vT):tY k e (.Expr v p)
theorem qI{e:ME}(h:gD k st (.expr e)=vT):tY k e st:=fY h λv p h=>bQ h λh1 a=>⟨h1,a⟩
inductive vF(k:KD)(x:vV)(BH:ME)(body:vR MS):wZ->Prop
 | mk {yp gp a cp b p} (hst:bP k (vQ x)=vT) (hg:bC k (vQ "reversed")=vT) (hc:aC k a BH=vT) (hb:dP k b body=vT):vF k x BH body (.For (.Name (vQ x) yp) (.Call (.Name (vQ "reversed") gp) [a] [] cp) b [] p)
theorem inv_forr{x:vV}{BH:ME}{body:vR MS}(h:gD k st (.forr x BH body)=vT):vF k x BH body st:=
 nC h λt f b o p h=>bQ h λh1 h=>gT h1 (bw (e:=t) h λy w h=>nG h λi=>eqb i λj Z m n=>dE (e:=f) m λg z ks cp h=>bQ h λq h=>gT q (bw (e:=g) h λg A h=>fL h λs=>eqb s λu c=>cC c λa c=>⟨j,u,c,n⟩))
@[elab_as_elim] theorem ii{e:wi}{x:vV}{C:wi->Prop}(h:iS k e x=vT)(c:∀ p,bC k (vQ x)=vT->C (.Name (vQ x) p)):C e:=bw h λy p h=>bQ h λh1=>eqb h1 λa=>c p a
inductive r8(k:KD)(x m:vV):wZ->Prop
 | mk {np a cp p} (hg:bC k (vQ x)=vT) (hc:aC k a (.str m)=vT):r8 k x m (.Raise (ac (.Call (.Name (vQ x) np) [a] [] cp)) wa p)
theorem inv_raise{x m:vV}(h:gD k st (.raise x m)=vT):r8 k x m st:=
 cRaise_inv h λe c p h=>bQ h λh1 h=>by
  cases c with
  | some=>cases h1
  | none=>exact fX (l:=e) h λe h=>dE (e:=e) h λg i ks cp h=>fL h λh1 b f=>gT h1 (ii (e:=g) b λj b=>cC f λa f=>⟨b,f⟩)
inductive vz(k:KD)(g:vV)(args:vR ME)(H:vR xB->Prop):wZ->Prop
 | mk {v ep h0 hs p} (hn:iP v=vT) (hc:aC k v (.call g args)=vT) (hh:H (h0::hs)):vz k g args H (.Try [.Expr v ep] (h0::hs) [] [] p)
theorem inv_tryc{g:vV}{args:vR ME}{q:vV×Int}{c:vR (vV×Int)}(h:gD k st (.tryc g args (q::c))=vT):vz k g args (λi=>tM k i (q::c)=vT) st:=
 re h λb m o f p h=>nH h λh1 n a j=>gT h1 (gT n (cC a λs a=>fY (e:=s) a λv ep a=>bQ a λt u=>by
  cases m with
  | nil=>cases j
  | cons w i=>exact⟨t,u,j⟩))
inductive IH1(k:KD)(q:vV×Int):xB->Prop
 | mk {tp v rp hp} (hg:bC k (vQ q.1)=vT) (hc:aC k v (.int q.2)=vT):IH1 k q (.ExceptHandler (ac (.Name (vQ q.1) tp)) wa [.Return (ac v) rp] hp)
theorem inv_h1{q:vV×Int}{f:xB}(h:chkH1 k f q=vT):IH1 k q f:=by
 cases f with
 | ExceptHandler t n b p=>
  refine fL (show (n.isNone&&(k8 t λt=>iS k t q.1)&&c1 b λst=>ub st λv Z=>k8 v λv=>aC k v (.int q.2))=vT from h) λh1 c a=>?_
  cases n with
  | some=>cases h1
  | none=>exact fX (l:=t) c λt c=>ii (e:=t) c λi c=>cC a λst a=>nB (e:=st) a λv j a=>fX (l:=v) a λv a=>⟨c,a⟩
inductive IHq(k:KD):xB->Prop
 | mk {tp v rp hp} (hl:k (vQ "e")=ac .local) (hv:ez k (vQ "e")=vT) (hg:bC k (vQ "QueryError")=vT) (hc:aC k v (.isi (.u "e") "ValueError")=vT):IHq k (.ExceptHandler (ac (.Name (vQ "QueryError") tp)) (ac (vQ "e")) [.Return (ac v) rp] hp)
theorem inv_tryq{g:vV}{args:vR ME}(h:gD k st (.tryq g args)=vT):vz k g args (λq=>∃ c,q=[c]/\IHq k c) st:=
 re h λb B o f p h=>nH h λh1 u i m=>gT h1 (gT u (cC i λs i=>fY (e:=s) i λv ep i=>bQ i λw y=>cC m λc m=>⟨w,y,c,QQ,by
  cases c with
  | ExceptHandler t n b p=>
   exact nG (show (n == ac (vQ "e")&&k (vQ "e") == ac .local&&ez k (vQ "e")&&(k8 t λt=>iS k t "QueryError")&&c1 b λst=>ub st λv Z=>k8 v λv=>aC k v (.isi (.u "e") "ValueError"))=vT from m) λg1 z A j a=>by
    cases (eq_of_beq g1);exact fX (l:=t) j λt j=>ii (e:=t) j λC j=>cC a λst a=>nB (e:=st) a λv E a=>fX (l:=v) a λv a=>⟨eq_of_beq z,A,j,a⟩⟩))
inductive vC(k:KD)(e:ME):wZ->Prop
 | mk {v p} (hc:aC k v e=vT):vC k e (.Return (ac v) p)
theorem pp{e:ME}(h:gD k st (.ret e)=vT):vC k e st:=nB h λv p h=>fX h λv h=>⟨h⟩
end
noncomputable abbrev Own:=vV->vY v8
noncomputable def frm(BM:Env)(b:v8):Prop:=b=BM.locals\/∃ x,BM.cells.lookup x=ac b
noncomputable def Hot(BM:Env)(B1:v8->Prop)(B7:Own)(b:v8):Prop:=B1 b\/frm BM b\/∃ x,B7 x=ac b
noncomputable def Own.less(B7:Own)(ns:vR vV):Own:=λx=>if x∈ns then wa else B7 x
theorem dK{B7:Own}{ns:vR vV}{x:vV}{a:v8}(e:B7.less ns x=ac a):B7 x=ac a:=by unfold Own.less at e;split at e <;> first | cases e | exact e
theorem Hot.mono{BM:Env}{B1 BO:v8->Prop}{B7 BX:Own}(c:∀ b,BO b->B1 b)(f:∀ x a,BX x=ac a->B7 x=ac a){b:v8}(h:Hot BM BO BX b):Hot BM B1 B7 b:=
 h.imp (c b) λh=>h.imp id λh=>h.elim λx h=>⟨x,f x b h⟩
theorem Hot.less{BM:Env}{B1:v8->Prop}{B7:Own}{ns:vR vV}{b:v8}(h:Hot BM B1 (B7.less ns) b):Hot BM B1 B7 b:=h.mono (λZ q=>q) λZ Z=>dK
structure aP(w:wy)(B3 BS h:Heap)(BM:Env)(B1:v8->Prop)(B7:Own)(m:Str->vY vU)(σ:St):Prop where
 rep:aN h BM m
 plain:∀ x d,σ.lookup x=ac (vP,d)->∃ v,m (vQ x)=ac v/\Rep w.params h (Hot BM B1 B7) v d
 owned:∀ x d,σ.lookup x=ac (vT,d)->∃ a,B7 x=ac a/\m (vQ x)=ac (.ref a)/\cM w.params h (Hot BM B1 B7) a d
 hot:HOk B3 h (Hot BM B1 B7)
 keep:KH BS h
 frE:∀ b,frm BM b->gat BS b=wa
 own1:∀ x a,B7 x=ac a->gat BS a=wa/\¬ B1 a/\¬ frm BM a
 inj:∀ x y a,B7 x=ac a->B7 y=ac a->x=y
 ownx:∀ x a,B7 x=ac a->∃ o,gat h a=ac o
section
variable {w:wy} {B3 BS h h':Heap} {BM:Env} {B1 BO:v8->Prop} {B7 BX:Own} {m m':Str->vY vU} {σ:St}
theorem aP.off(S:aP w B3 BS h BM B1 B7 m σ){x:vV}{a:v8}(c:B7 x=ac a)(f:∀ y b,BX y=ac b->B7 y=ac b)(i:BX x≠ac a):¬ Hot BM B1 BX a:=λq=>q.elim (S.own1 x a c).2.1 λq=>q.elim (S.own1 x a c).2.2 λq=>q.elim λy e=>i (S.inj y x a (f y a e) c▸e)
theorem aP.to(S:aP w B3 BS h BM B1 B7 m σ)(R:aN h' BM m)(kp:lP h (Hot BM B1 B7) h')(c:∀ x a o,B7 x=ac a->gat h a=ac o->gat h' a=ac o)(ls:pQ h (Hot BM B1 B7) (Hot BM BO B7))(ke:KH BS h')(i:∀ b,BO b->∃ f o,@LE.le Nat _ b f/\gat h' f=ac o)(j:∀ x a,B7 x=ac a->¬ BO a):aP w B3 BS h' BM BO B7 m σ where
 rep:=R
 plain:=λx d e=>(S.plain x d e).elim λv q=>⟨v,q.1,q.2.mono kp ls⟩
 owned:=λx d e=>(S.owned x d e).elim λa q=>⟨a,q.1,q.2.1,q.2.2.mono (λo e=>c x a o q.1 e) kp λb o e z=>.inl (ls b o e z)⟩
 hot:=⟨λb o e=>kp b o (S.hot.off b o e) (S.hot.keep b o e),λb q=>q.elim (i b) λq=>q.elim (λq=>(q.elim (λq=>R.loc.elim λZ z=>q▸qM z.1) λq=>q.elim λx z=>R.ex x b z).elim λo z=>⟨b,o,wF _,z⟩) λq=>q.elim λx q=>(S.ownx x b q).elim λo z=>⟨b,o,wF _,c x b o q z⟩,λb o e q=>S.hot.off b o e (ls b o (S.hot.keep b o e) q)⟩
 keep:=ke
 frE:=S.frE
 own1:=λx a e=>⟨(S.own1 x a e).1,j x a e,(S.own1 x a e).2.2⟩
 inj:=S.inj
 ownx:=λx a e=>(S.ownx x a e).elim λo z=>⟨o,c x a o e z⟩
theorem aP.keeps(S:aP w B3 BS h BM B1 B7 m σ)(c:KH h h'):aP w B3 BS h' BM B1 B7 m σ:=
 S.to (S.rep.keeps c) (λb o Z e=>c b o e) (λZ a o Z e=>c a o e) (λZ Z Z q=>q) (λb o e=>c b o (S.keep b o e)) (λb q=>(S.hot.ex b (.inl q)).elim λf z=>z.elim λo z=>⟨f,o,z.1,c _ _ z.2⟩) λx a e=>(S.own1 x a e).2.1
theorem lx{ns:vR vV}{x:vV}{b:v7}{d:D}{C:Prop}(e:(Mine.freeze ns σ).lookup x=ac (b,d))(k:∀ o,σ.lookup x=ac (o,d)->(o&&!ns.contains x)=b->C):C:=by
 rw[aZ] at e;exact br e λp h1 a=>k p.1 (h1.trans (wv ac (Bv QQ (wY a).2))) (wY a).1
theorem aP.freeze(S:aP w B3 BS h BM B1 B7 m σ)(ns:vR vV):aP w B3 BS h BM B1 (B7.less ns) m (Mine.freeze ns σ) where
 rep:=S.rep
 plain:=λx d e=>lx e λo h1 c=>by
  cases o with
  | false=>exact (S.plain x d h1).elim λv q=>⟨v,q.1,q.2.sub λZ q=>q.less⟩
  | true=>
   have f:x∈ns:=xi.mp (by simpa using c)
   exact (S.owned x d h1).elim λa q=>⟨_,q.2.1,(q.2.2.sub λZ q=>q.less).rep (S.off q.1 (λZ Z=>dK) (by unfold Own.less;rw[wh f];nofun))⟩
 owned:=λx d e=>lx e λo h1 c=>bQ c λj i=>by
  subst j;have f:¬ x∈ns:=λq=>by rw[xi.mpr q] at i;cases i
  exact (S.owned x d h1).elim λa q=>⟨a,(wo f).trans q.1,q.2.1,q.2.2.sub λZ q=>q.less⟩
 hot:=⟨S.hot.keep,λa q=>S.hot.ex a q.less,λb o e q=>S.hot.off b o e q.less⟩
 keep:=S.keep
 frE:=S.frE
 own1:=λx a e=>S.own1 x a (dK e)
 inj:=λx y a e1 n=>S.inj x y a (dK e1) (dK n)
 ownx:=λx a e=>S.ownx x a (dK e)
theorem aP.cc(S:aP w B3 BS h BM B1 B7 m σ){s:vZ}(b:s.heap=h)(ns:vR vV):Cc w B3 s BM (Hot BM B1 (B7.less ns)) (vis σ) m ns:=by
 subst b;refine⟨S.rep,(S.freeze ns).hot,λx c Z d a=>?_⟩
 rw[bS] at a;refine br a λp h1 f=>(S.freeze ns).plain x d ?_
 rw[aZ,h1,AH,f,xi.mpr c,Bool.not_true,Bool.and_false]
end
section
variable {w:wy} {B3 BS h BV BQ:Heap} {BM:Env} {B1:v8->Prop} {B7:Own} {m:Str->vY vU} {σ:St}
theorem eB{a:v8}(R:aN h BM m)(b:frm BM a):∃ o,gat h a=ac o:=b.elim (λe=>R.loc.elim λZ q=>e▸qM q.1) λq=>q.elim λy e=>R.ex y a e
noncomputable def Own.set(B7:Own)(x:vV)(a:vY v8):Own:=λy=>if y=x then a else B7 y
theorem iN{x y:vV}{p q:v7×D}{C:Prop}(e:(ax σ x p).lookup y=ac q)(k1:y=x->p=q->C)(k2:¬ y=x->σ.lookup y=ac q->C):C:=by
 rw[aE] at e;exact cz e (λh e=>k1 h (v5 e)) k2
theorem dI{x y:vV}{a:vY v8}{c:v8}{C:Prop}(e:B7.set x a y=ac c)(k1:y=x->a=ac c->C)(k2:¬ y=x->B7 y=ac c->C):C:=cz e k1 k2
theorem ul{x y:vV}{v:vU}(h:¬ y=x):upd m (vQ x) v (vQ y)=m (vQ y):=wo λe=>h (cR e)
theorem aP.set(S:aP w B3 BS h BM B1 B7 m σ){x:vV}{v:vU}{j:vY v8}{fr:v7}{d:D}(i:aN BQ BM (upd m (vQ x) v))(kp:lP h (Hot BM B1 B7) BQ)(J:∀ y a o,B7 y=ac a->gat h a=ac o->gat BQ a=ac o)(A:∀ b o,gat h b=ac o->∃ B,gat BQ b=ac B)(ke:KH BS BQ)
  (f:∀ c,j=ac c->gat h c=wa/\¬ B1 c/\∃ o,gat BQ c=ac o) (L:fr=vP->Rep w.params BQ (Hot BM B1 (B7.set x j)) v d) (M:fr=vT->∃ c,j=ac c/\v=.ref c/\cM w.params BQ (Hot BM B1 (B7.set x j)) c d) :
  aP w B3 BS BQ BM B1 (B7.set x j) (upd m (vQ x) v) (ax σ x (fr,d)):=
 have C:pQ h (Hot BM B1 B7) (Hot BM B1 (B7.set x j)):=λb o e q=>q.imp id λq=>q.imp id λq=>q.elim λy q=>dI q (λZ q=>bv e (f b q).1) λZ q=>⟨y,q⟩
 {rep:=i
  plain:=λy E e=>iN e (λn ep=>⟨v,n▸wh QQ,(wY ep).2▸L (wY ep).1⟩) λs e=>(S.plain y E e).elim λu q=>⟨u,(ul s).trans q.1,q.2.mono kp C⟩
  owned:=λy E e=>iN e (λn ep=>(M (wY ep).1).elim λc q=>⟨c,n▸(wh QQ).trans q.1,n▸(wh QQ).trans (wv ac q.2.1),(wY ep).2▸q.2.2⟩) λs e=>(S.owned y E e).elim λc q=>⟨c,(wo s).trans q.1,(ul s).trans q.2.1,q.2.2.mono (λo e=>J y c o q.1 e) kp λb o e z=>.inl (C b o e z)⟩
  hot:=⟨λb o e=>kp b o (S.hot.off b o e) (S.hot.keep b o e),λb q=>q.elim (λq=>(S.hot.ex b (.inl q)).elim λH z=>z.elim λo z=>(A H o z.2).elim λB e=>⟨H,B,z.1,e⟩) λq=>(q.elim (eB i) λq=>q.elim λy q=>dI q (λZ q=>(f b q).2.2) λZ q=>(S.ownx y b q).elim λo z=>A b o z).elim λo z=>⟨b,o,wF _,z⟩,λb o e q=>S.hot.off b o e (C b o (S.hot.keep b o e) q)⟩
  keep:=ke
  frE:=S.frE
  own1:=λy c G=>dI G (λZ q=>⟨jN S.keep (f c q).1,(f c q).2.1,λz=>(eB S.rep z).elim λo e=>bv e (f c q).1⟩) λZ q=>S.own1 y c q
  inj:=λy z c h1 I=>dI h1 (λe1 t=>dI I (λN Z=>e1.trans N.symm) λZ q=>(S.ownx z c q).elim λo e=>bv e (f c t).1) λZ t=>dI I (λZ q=>(S.ownx y c t).elim λo e=>bv e (f c q).1) λZ q=>S.inj y z c t q
  ownx:=λy c G=>dI G (λZ q=>(f c q).2.2) λZ q=>(S.ownx y c q).elim λo z=>A c o z }
theorem aP.turn(S:aP w B3 BS h BM B1 B7 m σ){x:vV}{a:v8}{j d:D}(G:σ.lookup x=ac (vT,j))(f:B7 x=ac a)(H:Heap.SameBut a h BQ)(s:cM w.params BQ (Hot BM B1 B7) a d) :
  aP w B3 BS BQ BM B1 B7 m (ax σ x (vT,d)):=by
 refine (S.owned x _ G).elim λi q=>?_
 have I:i=a:=v5 (q.1.symm.trans f);subst I;have n:Mv i h BQ:=uC ⟨H,q.2.2.notTab,s.notTab⟩;have g:=S.own1 x i f;have kp:lP h (Hot BM B1 B7) BQ:=λb o J e=>n b o (λz=>J (z▸.inr (.inr ⟨x,f⟩))) e
 have B:∀ b o,gat h b=ac o->∃ t,gat BQ b=ac t:=λb o e=>(Classical.em (b=i)).elim (λq=>q▸s.ex) λq=>⟨o,n b o q e⟩
 exact
  {rep:=S.rep.keepsAt λb o L e=>n b o (λz=>g.2.2 (z▸L)) e
   plain:=λy A e=>iN e (λZ ep=>nomatch (wY ep).1) λZ e=>(S.plain y A e).elim λu z=>⟨u,z.1,z.2.mono kp λZ Z Z q=>q⟩
   owned:=λy A e=>iN e (λC ep=>⟨i,C▸f,C▸q.2.1,(wY ep).2▸s⟩) λM e=>(S.owned y A e).elim λc z=>⟨c,z.1,z.2.1,z.2.2.mono (λo e=>n c o (λw=>M (S.inj y x i (w▸z.1) f)) e) kp λZ Z Z q=>.inl q⟩
   hot:=⟨λb o e=>kp b o (S.hot.off b o e) (S.hot.keep b o e),λb q=>(S.hot.ex b q).elim λE z=>z.elim λo z=>(B E o z.2).elim λt e=>⟨E,t,z.1,e⟩,S.hot.off⟩
   keep:=λb o e=>n b o (λz=>bv e (z▸g.1)) (S.keep b o e)
   frE:=S.frE
   own1:=S.own1
   inj:=S.inj
   ownx:=λy c N=>(S.ownx y c N).elim λo z=>B c o z }
end
section
variable {B9:wq} {w:wy} {A:wt}
theorem isKey_tk(k:vR CK):(dW k).isKey=vT:=wQ.mpr λd a=>(wz.mp a).elim λc q=>q.2▸by cases c <;> rfl
theorem dictH_own{B9:wq}{w:wy}{h:Heap}{H:v8->Prop}{a:v8}{xs:vR (vR CK×v8×vU)}{ks vs:vR D}(y:h.DictOfH (TKd B9 w) a xs)(e1:xs.map kD=ks)(h1:am w.params h (λb=>H b\/b=a) (xs.map λx=>Value.ref x.2.1) ks)(A:am w.params h (λb=>H b\/b=a) (xs.map (·.2.2)) vs)(B:ks.length<=big)(C:(a == zJ)=vP):lN w.params h H a ks vs:=by
 obtain⟨n,f,i,g1,⟨o,s,t⟩,u,j,I,E⟩:=y;have m:n=lL f i:=by obtain⟨a,b,c,d⟩:=n;dsimp only at o s t u;subst o s t u;rfl
 subst e1;exact⟨m▸g1,B,by rw[j,wX];exact h1,by rw[j,wX];exact A,by rw[j,wX,wX];exact yD λx Z=>tu x.1,
  wQ.mpr λz G=>(wz.mp G).elim λx q=>q.2▸isKey_tk x.1,xV.mpr ((xV.mp E).imp λh e=>h (ofTK_inj e)),C⟩
theorem aP.ownAt{B3 BS h:Heap}{BM:Env}{B1:v8->Prop}{B7:Own}{m:Str->vY vU}{σ:St}(S:aP w B3 BS h BM B1 B7 m σ){x:vV}{L:v8}{d:D}(a:σ.lookup x=ac (vT,d))(b:B7 x=ac L):cM w.params h (Hot BM B1 B7) L d:=
 (S.owned x _ a).elim λc q=>v5 (q.1.symm.trans b)▸q.2.2
theorem lm{s:vZ}{H:v8->Prop}{L:v8}{ks vs:vR D}{u M:vU}{d dk:D}{Q:Unit->vZ->Prop}{E:vU->vZ->Prop}(X:A.units+1<yg)(o:lN w.params s.heap H L ks vs)
  (t:Rep w.params s.heap (λb=>H b\/b=L) M dk) (N:Rep w.params s.heap (λb=>H b\/b=L) u d) (Y:cJ dk ks=vT) (a:ks.length<big)
  (y:∀ h' tk dw,Heap.SameBut L s.heap h'->lN w.params h' H L (cL ks vs dk d).1 (cL ks vs dk d).2->Q () { s with heap:=h',toks:=tk,drawn:=dw }):wpAny (wc B9 w) A (setItem (.ref L) M u) Q E s:=by
 refine o.rec λ{es n} o1 o2 j O T Ch m U=>?_
 have i:(cL ks vs dk d).1.length<=big:=v6 (dput_len dk d ks vs) a;have z:∀ {h'},Heap.SameBut L s.heap h'->∀ {l:vR vU} {ds:vR D},am w.params s.heap (λb=>H b\/b=L) l ds->am w.params h' (λb=>H b\/b=L) l ds:=λf BF BF r=>
  r.mono (λb o Z e=>g1 f (bI o1) b (λq=>Z (.inr q)) e) λBF BF BF q=>q
 refine kN Y (λh1 B=>?_) ?_
 ·obtain⟨C,rfl⟩:=ny B
  obtain⟨c,rfl⟩:=gE h1;have V:C.length=(es.toList.map (·.val)).length:=by have:=j.length;rw[v9,v9] at this;rw[v9,this]
  have G:C.Nodup:=(xV.mp m).imp λh e=>h (wv a8 e)
  refine wpAny_setItem_pairs (knd:=bY B9 w) (kE t) (nh o1 j T m) (λh' I f=>?_) (by
   rw[zx,<- V,Au];rw[v9] at a;exact xb a)
  have p:=stored_dput (k:=c) N V G O;refine (rep_dictOf (H:=λb=>H b\/b=L) I).elim λCa r=>r.elim λCi r=>?_
  rw[p.1] at r;exact y _ _ _ f ⟨r.1,i,r.2.1,r.2.2.1▸z f p.2,r.2.2.2.1,r.2.2.2.2.1,r.2.2.2.2.2,U⟩
 ·intro h1 B
  obtain⟨C,rfl⟩:=rJ B;obtain⟨c,rfl⟩:=pY h1;obtain⟨xs,I,e1,Cb,Cd⟩:=kZ (B9:=B9) o1 j T m;obtain⟨b,rfl,Ce⟩:=oZ (B9:=B9) t;subst e1;have Cf:(xs.map (·.1)).Nodup:=(xV.mp m).imp λh e=>h (by rw[e])
  have Cg:(xs.map (·.1)).map dW=xs.map kD:=by rw[wX];rfl
  rw[Cg] at j i y;have p:=storedH_dput t N Cf (Cb▸j) (Cd▸O);exact wpAny_setItem_heap (knd:=TKd B9 w) X Ce I (λh' J f=>y _ _ _ f (dictH_own J p.1 (z f p.2.1) (z f p.2.2) i U)) (by
   rw[v9,v9] at a;exact xb a)
end
structure Tr(B8:Heap)(BM:Env)(BR:Own)(h:Heap)(B7:Own):Prop where
 k:∀ b o,gat B8 b=ac o->¬ frm BM b->(∀ x,BR x≠ac b)->gat h b=ac o
 x:∀ b o,gat B8 b=ac o->∃ o',gat h b=ac o'
 o:∀ x a,B7 x=ac a->BR x=ac a\/gat B8 a=wa
section
variable {B8 h BV BQ:Heap} {BM:Env} {BR B7 BI own₂:Own}
theorem Tr.of(c:KH B8 h)(f:∀ x a,B7 x=ac a->BR x=ac a):Tr B8 BM BR h B7:=⟨λb o e Z Z=>c b o e,λb o e=>⟨o,c b o e⟩,λx a e=>.inl (f x a e)⟩
theorem Tr.keeps(a:KH B8 h):Tr B8 BM B7 h B7:=.of a λZ Z e=>e
theorem Tr.none(t:Tr B8 BM BR h B7){a:v8}(e:gat h a=wa):gat B8 a=wa:=sM (t.x a) e
theorem Tr.sub(t:Tr B8 BM BR h B7){b:v8}{o:Obj}(e:gat B8 b=ac o)(a:∀ x,BR x≠ac b):∀ x,B7 x≠ac b:=λx q=>(t.o x b q).elim (a x) λq=>bv e q
theorem Tr.trans(t:Tr B8 BM BR BV BI)(u:Tr BV BM BI BQ own₂):Tr B8 BM BR BQ own₂:=
 ⟨λb o e c f=>u.k b o (t.k b o e c f) c (t.sub e f),λb o e=>(t.x b o e).elim λh i=>u.x b h i,λx a e=>(u.o x a e).elim (t.o x a) λe=>.inr (t.none e)⟩
end
structure tW(w:wy)(BS h:Heap)(B1:v8->Prop)(v:vU)(fr:v7)(d:D):Prop where
 rep:Rep w.params h B1 v d
 keep:KH BS h
 fr:fr=vT->Fr w.params BS h B1 d v
noncomputable def sN:Own:=λZ=>wa
noncomputable def bE(w:wy)(B3 BS:Heap)(BM:Env)(B1:v8->Prop)(s:vZ)(B7:Own)(r:Fl×St)(f:yY)(s':vZ):Prop:=
 ∀ Q:yY->vZ->Prop,(∀ h tk dw BX m,r.1=.next->Tr s.heap BM B7 h BX->aP w B3 BS h BM B1 BX m r.2->Q .next { s with heap:=h,toks:=tk,drawn:=dw }) ->
  (∀ h tk dw fr d v,r.1=.ret fr d->Tr s.heap BM B7 h sN->tW w BS h B1 v fr d->Q (.ret v) { s with heap:=h,toks:=tk,drawn:=dw })->Q f s'
section
variable {B9:wq} {w:wy} {A:wt} {B3:Heap} {mg mb:Str->vY vU} {cf:CF}
noncomputable def SS(B9:wq)(w:wy)(A:wt)(B3:Heap)(cf:CF)(a:MS):Prop:=
 ∀ (s:vZ) (BM:Env) (st:wZ) (B1:v8->Prop) (BS:Heap) (B7:Own) (m:Str->vY vU) (σ:St) (r:Fl×St) (E:vU->vZ->Prop),gD BM.kindOf st a=vT->aP w B3 BS s.heap BM B1 B7 m σ ->
  exS cf a σ=ac r->wpAny (wc B9 w) A (yj st BM) (bE w B3 BS BM B1 s B7 r) E s
noncomputable def SSs(B9:wq)(w:wy)(A:wt)(B3:Heap)(cf:CF)(a:vR MS):Prop:=
 ∀ (s:vZ) (BM:Env) (b:vR wZ) (B1:v8->Prop) (BS:Heap) (B7:Own) (m:Str->vY vU) (σ:St) (r:Fl×St) (E:vU->vZ->Prop),dP BM.kindOf b a=vT->aP w B3 BS s.heap BM B1 B7 m σ ->
  aY cf a σ=ac r->wpAny (wc B9 w) A (zA b BM) (bE w B3 BS BM B1 s B7 r) E s
section
variable {BS:Heap} {BM:Env} {B1:v8->Prop} {s:vZ} {B7 BI:Own} {m:Str->vY vU} {σ:St} {r:Fl×St} {f:yY} {s':vZ} {BV BQ:Heap} {tk:Nat} {dw:zK}
theorem bE.nx(t:Tr s.heap BM B7 BV BI)(S:aP w B3 BS BV BM B1 BI m σ):bE w B3 BS BM B1 s B7 (.next,σ) .next { s with heap:=BV,toks:=tk,drawn:=dw }:=λZ a Z=>a BV tk dw BI m QQ t S
theorem bE.rt{fr:v7}{d:D}{v:vU}(t:Tr s.heap BM B7 BV sN)(R:tW w BS BV B1 v fr d):bE w B3 BS BM B1 s B7 (.ret fr d,σ) (.ret v) { s with heap:=BV,toks:=tk,drawn:=dw }:=λZ Z a=>a BV tk dw fr d v QQ t R
theorem bE.trans(t:Tr s.heap BM B7 BV BI)(q:bE w B3 BS BM B1 { s with heap:=BV,toks:=tk,drawn:=dw } BI r f s'):bE w B3 BS BM B1 s B7 r f s':=
 λQ a b=>q Q (λh tk dw BX m e u S=>a h tk dw BX m e (t.trans u) S) λh tk dw fr d v e u R=>b h tk dw fr d v e (t.trans u) R
noncomputable def dn(B7:Own)(d:D)(ns:vR vV):Own:=if d.scalar then B7 else B7.less ns
theorem fP{d:D}{ns:vR vV}{x:vV}{a:v8}(e:dn B7 d ns x=ac a):B7 x=ac a:=by
 unfold dn at e;split at e
 ·exact e
 ·exact dK e
theorem aP.settle(S:aP w B3 BS BV BM B1 B7 m σ)(d:D)(ns:vR vV):aP w B3 BS BV BM B1 (dn B7 d ns) m (Mine.settle d ns σ):=by
 unfold Mine.settle dn;cases d.scalar with
 | true=>exact S
 | false=>exact S.freeze ns
theorem rep_settle{H:v8->Prop}{X:v8->Prop}{ns:vR vV}{v:vU}{d:D}(a:Rep w.params BV (λb=>Hot BM B1 (B7.less ns) b\/X b) v d):Rep w.params BV (λb=>Hot BM B1 (dn B7 d ns) b\/X b) v d:=by
 unfold dn;cases c:d.scalar with
 | true=>exact a.scalar c
 | false=>exact a
theorem hM{ns:vR vV}{v:vU}{d:D}(a:Rep w.params BV (Hot BM B1 (B7.less ns)) v d):Rep w.params BV (Hot BM B1 (dn B7 d ns)) v d:=by
 unfold dn;cases b:d.scalar with
 | true=>exact a.scalar b
 | false=>exact a
noncomputable def refOf(v:vU):vY v8:=match v with | .ref c=>ac c | _=>wa
noncomputable def pg(fr:v7)(v:vU):vY v8:=if fr then refOf v else wa
theorem jk{x:vV}{ns:vR vV}{d:D}{fr:v7}{v:vU}{a:v8}{X:v8->Prop}
  (S:aP w B3 BS s.heap BM B1 B7 m σ) (T:KH s.heap BV) (L:Rep w.params BV (λb=>Hot BM B1 (B7.less ns) b\/X b) v d)
  (i:fr=vT->Fr w.params s.heap BV (λb=>Hot BM B1 (B7.less ns) b\/X b) d v)
  (h:aN BQ BM (upd m (vQ x) v)) (j:frm BM a) (hX:∀ b,X b->gat s.heap b=wa) (A:∀ b,b≠a->¬ X b->∀ {o},gat BV b=ac o->gat BQ b=ac o) :
  aP w B3 BS BQ BM B1 ((dn B7 d ns).set x (pg fr v)) (upd m (vQ x) v) (ax (Mine.settle d ns σ) x (fr,d))/\Tr s.heap BM B7 BQ ((dn B7 d ns).set x (pg fr v)):=by
 have U:∀ b o,gat s.heap b=ac o->¬ X b:=λb o e q=>bv e (hX b q)
 have M:=S.settle d ns;have C:Hot BM B1 (dn B7 d ns) a:=.inr (.inl j);have k2:∀ b o,gat s.heap b=ac o->b≠a->gat BQ b=ac o:=λb o e q=>A b q (U b o e) (T b o e)
 have N:∀ b o,gat s.heap b=ac o->∃ E,gat BQ b=ac E:=λb o e=>(Classical.em (b=a)).elim (λq=>q▸eB h j) λq=>⟨o,k2 b o e q⟩
 have G:∀ c,pg fr v=ac c->fr=vT/\v=.ref c:=λc n=>by
  cases fr with
  | false=>cases n
  | true=>
   refine⟨QQ,Fr.rec (motive:=λv BF=>refOf v=ac c->v=.ref c) (λBF BF e=>wv Value.ref (v5 e)) (i QQ) n⟩
 have O:∀ c,v=.ref c->fr=vT->gat s.heap c=wa/\¬ B1 c/\¬ X c/\cM w.params BV (λb=>Hot BM B1 (B7.less ns) b\/X b) c d:=λc e t=>by
  subst e;cases i t with
  | mk g o=>
   have z:=o.off L;exact⟨g,λq=>z (.inl (.inl q)),λq=>z (.inr q),o⟩
 have B:∀ c,pg fr v=ac c->gat s.heap c=wa/\¬ B1 c/\∃ o,gat BQ c=ac o:=λc n=>
  have q:=O c (G c n).2 (G c n).1
  ⟨q.1,q.2.1,q.2.2.2.ex.elim λo e=>⟨o,A c (λz=>(eB S.rep j).elim λE I=>bv I (z▸q.1)) q.2.2.1 e⟩⟩
 have f:∀ b,Hot BM B1 ((dn B7 d ns).set x (pg fr v)) b->Hot BM B1 (dn B7 d ns) b\/pg fr v=ac b:=λb q=>q.elim (λq=>.inl (.inl q)) λq=>q.elim (λq=>.inl (.inr (.inl q))) λq=>q.elim λy q=>dI q (λBF q=>.inr q) λBF q=>.inl (.inr (.inr ⟨y,q⟩))
 refine⟨M.set h (λb o u e=>k2 b o e λq=>u (q▸C)) (λy c o V e=>k2 c o e λq=>(M.own1 y c V).2.2 (q▸j)) N (λb o e=>k2 b o (S.keep b o e) λq=>bv e (q▸S.frE a j)) B (λt=>?_) λt=>?_,λb o e t BF=>k2 b o e λq=>t (q▸j),N,λy c n=>dI n (λBF q=>.inr (B c q).1) λBF q=>.inl (fP q)⟩
 ·subst t
  exact (rep_settle (H:=B1) L).mono (λb o u e=>A b (λq=>u (.inl (q▸C))) (λq=>u (.inr q)) e) λb o BF q=>.inl ((f b q).elim id λq=>nomatch q)
 ·subst t
  have Y:∃ c,v=.ref c:=Fr.rec (motive:=λv BF=>∃ c,v=.ref c) (λBF BF=>⟨_,QQ⟩) (i QQ)
  refine Y.elim λc e=>⟨c,by rw[e];rfl,e,?_⟩
  have q:=O c e QQ;have J:dn B7 d ns=B7.less ns:=by unfold dn;rw[q.2.2.2.scalar];rfl
  have Z:c≠a:=λz=>(eB S.rep j).elim λE I=>bv I (z▸q.1)
  rw[J] at C f ⊢;exact q.2.2.2.mono (λo e=>A c Z q.2.2.1 e) (λb o u e=>A b (λq=>u (.inl (q▸C))) (λq=>u (.inr q)) e) λb o BF z=>(f b z).elim (λz=>.inl (.inl z)) λz=>.inr (Value.ref.inj ((G b z).2.symm.trans e))
end
theorem gz{k:KD}{x:Str}(a:bP k x=vT):k x=ac .local\/k x=ac .cell:=by
 unfold bP at a;simp only[yl,AA,yx] at a;exact a.1
structure Cx(B9:wq)(w:wy)(A:wt)(B3:Heap)(mg mb:Str->vY vU)(cf:CF):Prop where
 G:GOk mg mb B3
 C:cD B9 w B3 mg cf A
 hh:A.handled=wa
 hu:nK A
section
variable {s:vZ} {BM:Env} {B1:v8->Prop} {BS:Heap} {B7:Own} {m:Str->vY vU} {σ:St} {e:ME} {d:D} {fr:v7} {v:wi} {E:vU->vZ->Prop} {Q:vU->vZ->Prop}
theorem i9(Z:Cx B9 w A B3 mg mb cf)(S:aP w B3 BS s.heap BM B1 B7 m σ)(a:aC BM.kindOf v e=vT)(b:evE cf (vis σ) e=ac d)
  (k:∀ u h tk dw,KH s.heap h->Rep w.params h (Hot BM B1 (B7.less e.names)) u d->Q u { s with heap:=h,toks:=tk,drawn:=dw }):wpAny (wc B9 w) A (wM v BM) Q E s:=by
 exact oS ((gP Z.G Z.C Z.hh Z.hu e).e s BM v _ (vis σ) m d E a (S.cc QQ e.names) b) k
theorem uE(Z:Cx B9 w A B3 mg mb cf)(S:aP w B3 BS s.heap BM B1 B7 m σ)(c:aC BM.kindOf v e=vT)(i:evF cf (vis σ) e=ac (d,fr))
  (k:∀ u h tk dw,KH s.heap h->Rep w.params h (Hot BM B1 (B7.less e.names)) u d->(fr=vT->Fr w.params s.heap h (Hot BM B1 (B7.less e.names)) d u)->Q u { s with heap:=h,toks:=tk,drawn:=dw }) :
  wpAny (wc B9 w) A (wM v BM) Q E s:=by
 exact aR ((gP Z.G Z.C Z.hh Z.hu e).f s BM v _ (vis σ) m d fr E c (S.cc QQ e.names) i) λu BU q=>q.rec λkp a b=>bj.rec (motive:=λs' Y=>Rep w.params s'.heap (Hot BM B1 (B7.less e.names)) u d->(fr=vT->Fr w.params s.heap s'.heap (Hot BM B1 (B7.less e.names)) d u)->Q u s') (λh tk dw j a b=>k u h tk dw j a b) kp a b
theorem sG(Z:Cx B9 w A B3 mg mb cf)(S:aP w B3 BS s.heap BM B1 B7 m σ)(a:aC BM.kindOf v e=vT)(c:evE cf (vis σ) e=ac d){b:v7}(f:bg d=ac b){Q:v7->vZ->Prop}
  (k:∀ h tk dw,KH s.heap h->Q b { s with heap:=h,toks:=tk,drawn:=dw }):wpAny (wc B9 w) A (yi v BM (wM v BM)) Q E s:=by
 exact aR ((gP Z.G Z.C Z.hh Z.hu e).t s BM v _ (vis σ) m d b E a (S.cc QQ e.names) c f) λu BU q=>bj.rec (motive:=λs' Y=>Q u s') (λh tk dw i=>q.e▸k h tk dw i) q.k
end
theorem isComp_inv{e:ME}{C:ME->Prop}(h:e.isComp=vT)(k:∀ elt x BH cs,C (.comp elt x BH cs)):C e:=ME.comp.elim (motive_1:=C) e (xu h) k
theorem xi_assign{x:vV}{e:ME}{σ:St}{r:Fl×St}{C:Prop}(h:exS cf (.x0 x e) σ=ac r)(k:∀ d fr,evF cf (vis σ) e=ac (d,fr)->(.next,ax (Mine.settle d e.names σ) x (fr,d))=r->C):C:=by
 rw[kt] at h;cases a:evF cf (vis σ) e with
 | none=>rw[a] at h;exact ag h
 | some p=>rw[a] at h;exact k p.1 p.2 a (v5 h)
theorem assign_comp(Z:Cx B9 w A B3 mg mb cf){s:vZ}{BM:Env}{B1:v8->Prop}{BS:Heap}{B7:Own}{m:Str->vY vU}{σ:St}{x z:vV}{elt BH:ME}{cs:vR ME}{d:D}{fr:v7}{v:wi}{p pos:Pos}{E:vU->vZ->Prop}
  (B:bP BM.kindOf (vQ x)=vT) (S:aP w B3 BS s.heap BM B1 B7 m σ) (H:evF cf (vis σ) (.comp elt z BH cs)=ac (d,fr)) (Ch:tZ BM.kindOf elt z BH cs v)
  (plain:AV v (ac (.Name (vQ x) p)) pos.line BM=pure vP->wpAny (wc B9 w) A (yj (.Assign [.Name (vQ x) p] v pos) BM) (bE w B3 BS BM B1 s B7 (.next,ax (Mine.settle d (ME.comp elt z BH cs).names σ) x (fr,d))) E s) :
  wpAny (wc B9 w) A (yj (.Assign [.Name (vQ x) p] v pos) BM) (bE w B3 BS BM B1 s B7 (.next,ax (Mine.settle d (ME.comp elt z BH cs).names σ) x (fr,d))) E s:=by
 obtain @⟨t,py,it,ifs,scope,lp,c1,c2,c3,c4,c5⟩:=Ch;have h:∃ b,AV (.ListComp t [⟨.Name (vQ z) py,it,ifs,0⟩] scope lp) (ac (.Name (vQ x) p)) pos.line BM=pure b:=⟨_,QQ⟩;obtain⟨b,h⟩:=h;cases b with
 | false=>exact plain h
 | true=>
  clear plain;refine eQ H QQ λH Ci=>?_
  rw[exec_Assign_Name_used _ _ _ _ h];refine vX (wpAny_standAt (vX ?_));show wpAny _ A (do let _ <- comprehension (.ListComp t [⟨.Name (vQ z) py,it,ifs,0⟩] scope lp) scope BM _ (newList []) vP (wM it BM) (ac (assign (.Name (vQ x) p) BM))) _ _ s
  have c:=S.cc (s:=s) QQ (ME.comp elt z BH cs).names;refine vX (aR (qY (use:=ac (assign (.Name (vQ x) p) BM)) (Q:=λBF s'=>bE w B3 BS BM B1 s B7 (.next,ax (Mine.settle d (ME.comp elt z BH cs).names σ) x (fr,d)) .next s') Z.hh (gP Z.G Z.C Z.hh Z.hu elt).e (gP Z.G Z.C Z.hh Z.hu BH).e (all_Cs Z.G Z.C Z.hh Z.hu cs) c1 c2 c3 c4 c5 c H ?_)
   λBF s' Cj=>we (we Cj))
  intro L Cc h' tk dw m' Ck I Ca Cb J M i Cd;subst I Ci;show wpAny _ A (assign (.Name (vQ x) p) BM (.ref L)) _ _ _;refine Ba (iM (s:={ s with heap:=h',toks:=tk,drawn:=dw }) (S.rep.keeps Cd) (gz B) λBQ N O a j Cm Ce=>?_)
  have n:frm BM a:=Cm.imp id λe=>⟨_,e⟩
  have u:¬ frm BM Cc:=λq=>(eB S.rep q).elim λo e=>bv e Cb
  have y:=M.sameBut Ce.s λq=>u (q▸n)
  refine⟨m',y,λCf f=>?_⟩
  have Cg:=dC y;have T:gat s.heap L=wa:=by
   cases e:gat s.heap L with
   | none=>rfl
   | some o=>exact wI (Ca _ _ e) (xl _)
  have U:¬ Hot BM B1 (B7.less (ME.comp elt z BH cs).names) L:=λq=>(c.x L q).elim λb q=>q.elim λo q=>xl _ (wg q.1 (Ca b o q.2))
  have q:=jk (fr:=vT) (X:=λb=>b=Cc) (BV:=h') S Cd (i.rep λq=>q.elim U J) (λBF=>⟨T,i⟩) (j.keepsAt λb o Cn e=>g1 f Cg b (λq=>u (q▸Cn)) e) n (λb q=>q▸Cb) λb V Y BF e=>g1 f Cg b Y ((Ce.g b V).trans e)
  exact bE.nx q.2 q.1
theorem ki(Z:Cx B9 w A B3 mg mb cf){s:vZ}{BM:Env}{B1:v8->Prop}{BS:Heap}{B7:Own}{m:Str->vY vU}{σ:St}{x:vV}{e:ME}{d:D}{fr:v7}{v:wi}{p pos:Pos}{E:vU->vZ->Prop}{Q:yY->vZ->Prop}
  (o:bP BM.kindOf (vQ x)=vT) (B:aC BM.kindOf v e=vT) (S:aP w B3 BS s.heap BM B1 B7 m σ) (C:evF cf (vis σ) e=ac (d,fr)) (t:AV v (ac (.Name (vQ x) p)) pos.line BM=pure vP)
  (k:∀ u h tk dw,aP w B3 BS h BM B1 ((dn B7 d e.names).set x (pg fr u)) (upd m (vQ x) u) (ax (Mine.settle d e.names σ) x (fr,d))->Tr s.heap BM B7 h ((dn B7 d e.names).set x (pg fr u))->Q .next { s with heap:=h,toks:=tk,drawn:=dw }):wpAny (wc B9 w) A (yj (.Assign [.Name (vQ x) p] v pos) BM) Q E s:=
 wpAny_Assign_Name (uE Z S B C λu BV c f z G y=>iM (s:={ s with heap:=BV,toks:=c,drawn:=f }) (S.rep.keeps z) (gz o) λBQ i j a n H I=>
  have q:=jk (X:=λY=>False) S z (G.sub λY q=>q.elim id False.elim) (λJ=>(y J).sub λY q=>q.elim id False.elim) n (H.imp id λe=>⟨_,e⟩) (λY q=>q.elim) λb L Y Y e=>(I.g b L).trans e
  k u BQ i j q.1 q.2) t
theorem ss_assign(Z:Cx B9 w A B3 mg mb cf)(x:vV)(e:ME):SS B9 w A B3 cf (.x0 x e):=λs BM st B1 BS B7 m σ r E a S i=>
 xi_assign i λd fr f q=>q▸kq.rec (motive:=λst Y=>wpAny (wc B9 w) A (yj st BM) (bE w B3 BS BM B1 s B7 (.next,ax (Mine.settle d e.names σ) x (fr,d))) E s) (λ{p v pos} b a=>by
  have plain:AV v (ac (.Name (vQ x) p)) pos.line BM=pure vP->wpAny (wc B9 w) A (yj (.Assign [.Name (vQ x) p] v pos) BM) (bE w B3 BS BM B1 s B7 (.next,ax (Mine.settle d e.names σ) x (fr,d))) E s:=λj=>
   ki Z b a S f j λu h tk dw n q2=>bE.nx q2 n
  cases c:e.isComp with
  | false=>exact plain ((oq a).swap c _ _ _)
  | true=>exact isComp_inv (C:=λe=>aC BM.kindOf v e=vT->evF cf (vis σ) e=ac (d,fr)->(_->wpAny (wc B9 w) A (yj (.Assign [.Name (vQ x) p] v pos) BM) (bE w B3 BS BM B1 s B7 (.next,ax (Mine.settle d e.names σ) x (fr,d))) E s)->wpAny (wc B9 w) A (yj (.Assign [.Name (vQ x) p] v pos) BM) (bE w B3 BS BM B1 s B7 (.next,ax (Mine.settle d e.names σ) x (fr,d))) E s) c (λo z BH t a f plain=>assign_comp Z b S f (mU a) plain) a f plain) (jo a)
end
theorem oh:Manifest.owners.lookup (String.ofList ['d','e','s','r','e','v','e','r'].reverse)=ac Manifest.sig_reversed:=by kernel_rfl
theorem cZ:Slot "reversed" "__next__" "reversed.__next__":=
 .of (owner:="reversed") (n:="__next__") (by rw[y6,yq];kernel_rfl) (by decide +kernel) (by decide +kernel) (by decide +kernel)
  (by first | exact .inl (by decide +kernel) | exact .inr (by decide +kernel)) (by rw[yU];kernel_rfl)
theorem iD:entryFor table "reversed.__next__"=ac xT.«reversed.__next__»:=entryFor_of_tree (by kernel_rfl)
theorem jg(a:vU):zG "reversed.__next__" ⟨[a],[]⟩:=by
 unfold zG;rw[signature?_of (id:="reversed.__next__") (n:=['_','_','t','x','e','n','_','_']) (o:=['d','e','s','r','e','v','e','r']) (by kernel_rfl) oh];kernel_rfl
theorem iZ:Slot "reversed" "__iter__" "reversed.__iter__":=
 .of (owner:="reversed") (n:="__iter__") (by rw[y6,yq];kernel_rfl) (by decide +kernel) (by decide +kernel) (by decide +kernel)
  (by first | exact .inl (by decide +kernel) | exact .inr (by decide +kernel)) (by rw[yU];kernel_rfl)
theorem args_rev_iter(a:vU):zG "reversed.__iter__" ⟨[a],[]⟩:=by
 unfold zG;rw[signature?_of (id:="reversed.__iter__") (n:=['_','_','r','e','t','i','_','_']) (o:=['d','e','s','r','e','v','e','r']) (by kernel_rfl) oh];kernel_rfl
theorem entry_rev_iter:entryFor table "reversed.__iter__"=ac xT.«dict_keyiterator.__iter__»:=
 entryFor_alias (id':="dict_keyiterator.__iter__") (by kernel_rfl) (by first | rfl | decide +kernel | (unfold String.splitOn;simp +decide [String.splitOnAux])) (by decide +kernel) (by kernel_rfl)
theorem lookup_tuple_reversed:typeLookup (.type "tuple") "__reversed__"=pure wa:=by rw[y6,yq];kernel_rfl
noncomputable abbrev rvO(l:v8)(i:Int):Obj:={ cls:=.type "reversed",data:=.fields #[.ref l,yc i] }
theorem i7:Slot "reversed" "__init__" "object.__init__":=
 .of (owner:="object") (n:="__init__") (by rw[y6,yq];kernel_rfl) (by decide +kernel) (by decide +kernel) (by decide +kernel)
  (by first | exact .inl (by decide +kernel) | exact .inr (by decide +kernel)) (by rw[yU];kernel_rfl)
theorem called_rev:TypeCalled "reversed" "reversed.__new__" "object.__init__":=
 ⟨by decide +kernel,F.create_reversed,⟨_,_,F.mro_reversed⟩,F.made_reversed,F.plain_reversed_new,F.sub_reversed_self,i7⟩
section
variable {B9:wq} {w:wy} {A:wt} {E:vU->vZ->Prop} {s:vZ}
theorem code_rev_tuple{l:v8}{items:wA vU}{Q₁:vU->vZ->Prop}(f:PyProof.Rows.IsTup s.heap l items)(hz:(items.size:Int)<2 ^ 63)
  (h:∀ tk,Q₁ (.ref s.heap.objs.size) { s with heap:=s.heap.push (rvO l ((items.size:Int) - 1)),toks:=tk }) :
  Bj (wc B9 w) A (.call (.builtin "reversed.__new__") ⟨[.type "reversed",.ref l],[]⟩) (wants Q₁ E) s:=by
 have c:s.TypeIs (.ref l) "tuple":=let ⟨o,ho,hc,_⟩:=f;⟨o,ho,hc⟩;refine codeAny_of_tree ?_;show wpAny _ A.in1 (do checkBuiltinCall "reversed.__new__" ⟨[.type "reversed",.ref l],[]⟩;again (.builtin "reversed.__new__" ⟨[.type "reversed",.ref l],[]⟩)) _ _ s
 refine vX (yr (F.newCall_reversed_1 _) (we ⟨Ac F.plain_reversed_new _,yM F.entry_reversed_new ?_⟩));rw[Around.under_plainId F.plain_reversed_new _];unfold xT.«reversed.__new__»;refine vX (yr (newClass_reversed _) ?_)
 try dsimp only
 refine vX (yr (a:=()) (by first | rfl | kernel_rfl) ?_)
 refine vX (yr (a:=()) (by first | rfl | kernel_rfl) ?_)
 try dsimp only
 refine vX (AG c lookup_tuple_reversed ?_)
 try dsimp only
 refine vX (vX (zo (T:="tuple") (b:=vP) c (by rw[yU];kernel_rfl) ?_))
 rw[wo wO];refine vX (AG c F.slot_tuple_getitem.lookup ?_);dsimp only;rw[wh (by decide)]
 refine we ?_;rw[wo (by decide)]
 refine vX (PyProof.Rows.len_tuple f hz ?_);refine vX (yr (a:=ac (items.size:Int)) QQ ?_);dsimp only;refine vX ?_;refine xh (data:=.fields #[.ref l,yc ((items.size:Int) - 1)]) (we (h _)) (by size_fits)
theorem call_rev_tuple{l:v8}{items:wA vU}{Q:vU->vZ->Prop}(b:PyProof.Rows.IsTup s.heap l items)(hz:(items.size:Int)<2 ^ 63)
  (h:∀ tk,Q (.ref s.heap.objs.size) { s with heap:=s.heap.push (rvO l ((items.size:Int) - 1)),toks:=tk }):wpAny (wc B9 w) A (call (.type "reversed") [.ref l]) Q E s:=by
 refine callType_codes (Q₁:=λobj BU=>∃ tk,obj=.ref s.heap.objs.size/\BU={ s with heap:=s.heap.push (rvO l ((items.size:Int) - 1)),toks:=tk }) called_rev (F.typeCall_reversed_1 _) F.entry_object_init (code_rev_tuple b hz λtk=>⟨tk,QQ,QQ⟩) ?_
 rintro obj BU ⟨tk,rfl,rfl⟩;have a:Shared.TypeIs { s with heap:=s.heap.push (rvO l ((items.size:Int) - 1)),toks:=tk } (.ref s.heap.objs.size) "reversed":=⟨_,Heap.get?_push_size _ QQ,QQ⟩
 refine⟨a,F.args_object_init_2 _ _,?_⟩;exact object_init_meets i7.lookup F.made_reversed (by decide) B9 w A.in1 _ _ ⟨a,QQ,h tk⟩
end
section
variable {B9:wq} {w:wy} {A:wt} {E:vU->vZ->Prop} {s:vZ}
noncomputable def lQ(h:Heap)(a l:v8)(i:Int):Prop:=∃ o,h.get? a=ac o/\o.cls=.type "reversed"/\o.data=.fields #[.ref l,yc i]
theorem lQ.typeIs{a l:v8}{i:Int}(x:lQ s.heap a l i):s.TypeIs (.ref a) "reversed":=let ⟨o,ho,hc,_⟩:=x;⟨o,ho,hc⟩
theorem next_rv_item{f l:v8}{i:Nat}{items:wA vU}{x:vU}{Q:vY vU->vZ->Prop}(b:lQ s.heap f l (i:Int))(n:PyProof.Rows.IsTup s.heap l items)(hz:(items.size:Int)<2 ^ 63)(q:items[i]?=ac x)
  (u:∀ h' tk,lQ h' f l ((i:Int) - 1)->Heap.SameBut f s.heap h'->Q (ac x) { s with heap:=h',toks:=tk }):wpAny (wc B9 w) A (yP (.ref f)) Q E s:=by
 obtain⟨o,c,m,h⟩:=id b;have t:i<items.size:=(AY.mp q).1;have y:s.TypeIs (.ref l) "tuple":=let ⟨o,c,m,_⟩:=n;⟨o,c,m⟩;unfold yP;refine vX (zs (yC (name:=vQ "__next__") b.typeIs cZ
  (xJ cZ b.typeIs iD ?_ (jg _))))
 unfold xT.«reversed.__next__»;refine vX (yr (a:=(Value.ref f,[])) QQ ?_)
 try dsimp only
 refine vX (yt c h (x:=.ref l) QQ ?_);refine vX (yt c h (x:=yc (i:Int)) QQ ?_);show wpAny _ _ (if (i:Int)<0 then _ else _) _ _ s
 rw[wo (rP)];refine vX (AG y F.slot_tuple_getitem.lookup ?_);rw[wo (by simp)]
 refine vX (wpAny_mkInt ?_);refine vX (zs (PyProof.Rows.getItem_tuple (j:=i) n (om184) (om185 hz t) ?_ q ?_))
 ·have h1:idx (i:Int) items.size=ac i:=by unfold idx;rw[wh (om186 t)];rfl
  exact (pB h1).1
 ·refine vX (yt c h (x:=yc (i:Int)) QQ ?_)
  show wpAny _ _ (zD (.ref f) 1 (yc ((i:Int) - 1)) >>= _) _ _ _;refine vX (zh c h (by simp) ?_)
  refine we ⟨x,QQ,we (u _ _ ?_ (Heap.SameBut.update ..))⟩;exact⟨_,Heap.get?_update_self _ c (Obj.isFreed_of_fields (Obj.data_mapFields h _)),(Obj.cls_mapFields ..).trans m,by
   rw[Obj.data_mapFields h];simp⟩
theorem next_rv_end{h l:v8}{Q:vY vU->vZ->Prop}(n:A.handled=wa)(c:lQ s.heap h l (-1))
  (q:∀ h',Heap.ExtBut h s.heap h'->Q wa { s with heap:=h' }):wpAny (wc B9 w) A (yP (.ref h)) Q E s:=by
 obtain⟨o,i,t,f⟩:=id c;unfold yP;refine vX (zs (yC (name:=vQ "__next__") c.typeIs cZ
  (xJ cZ c.typeIs iD ?_ (jg _))))
 unfold xT.«reversed.__next__»;refine vX (yr (a:=(Value.ref h,[])) QQ ?_)
 try dsimp only
 refine vX (yt i f (x:=.ref l) QQ ?_);refine vX (yt i f (x:=yc (-1)) QQ ?_);show wpAny _ _ (if (-1:Int)<0 then _ else _) _ _ s
 rw[wh (by decide)]
 refine vX (zN ?_);refine vX (vX (zh i f (by simp) ?_))
 have j:=Heap.get?_update_self (Obj.mapFields (λvs=>vs.setIfInBounds 1 (yc (-1)))) i (Obj.isFreed_of_fields (Obj.data_mapFields f _))
 refine zh j (Obj.data_mapFields f _) (by simp) ?_
 first
 | show wpAny _ _ (AT (.type "StopIteration") [] >>= _) _ _ _
 | (refine vX ?_;show wpAny _ _ (AT (.type "StopIteration") [] >>= _) _ _ _)
 refine vX ?_;simp only[AT,newTuple];refine vX (xh ?_ (by size_fits))
 refine vX (m:=zj _ _) (yr (a:=Value.none) (by first | rfl | (simp only[zj];rfl)) ?_)
 refine xh ?_ (by size_fits)
 simp only[Bq];refine vX (wpAny_handled ?_);rw[show A.in1.handled=wa from n];refine vX (we (wpAny_throw ?_));refine vX (zo (T:="StopIteration") (b:=vT) ⟨_,Heap.get?_push_size _ QQ,QQ⟩ isSubtype_stop ?_);exact we (q _ (((((Heap.SameBut.update ..).trans (Heap.SameBut.update ..)).extBut).push _).push _))
end
section
variable {B9:wq} {w:wy} {A:wt} {E:vU->vZ->Prop} {s:vZ}
theorem sX{b l:v8}{i:Int}{Q:vU->vZ->Prop}(a:lQ s.heap b l i)(h:Q (.ref b) s):wpAny (wc B9 w) A (zY (.ref b)) Q E s:=by
 refine zS a.typeIs iZ (xJ iZ a.typeIs entry_rev_iter ?_ (args_rev_iter _));show wpAny _ _ (ret (.ref b)) _ _ s;exact we ⟨_,QQ,"reversed",_,a.typeIs,cZ.lookup,h⟩
theorem lQ.at{h h':Heap}{a l:v8}{i:Int}(x:lQ h a l i)(e:∀ o,h.get? a=ac o->h'.get? a=ac o):lQ h' a l i:=let ⟨o,ho,r⟩:=x;⟨o,e _ ho,r⟩
theorem mT{h h':Heap}{a:v8}{vs:wA vU}(x:PyProof.Rows.IsTup h a vs)(e:∀ o,h.get? a=ac o->h'.get? a=ac o):PyProof.Rows.IsTup h' a vs:=let ⟨o,ho,r⟩:=x;⟨o,e _ ho,r⟩
theorem walks_rv(B:A.handled=wa)(I l:v8)(t:l≠I)(items:wA vU)(hz:(items.size:Int)<2 ^ 63) :
  zp B9 w A I [I,l] [I] items.size (λi v=>items[items.size - 1 - i]?=ac v) (λi h=>i<=items.size/\lQ h I l ((items.size:Int) - 1 - (i:Int))/\PyProof.Rows.IsTup h l items) where
 sub:=λb f=>by simp at f;simp[f]
 frame:=λZ Z Z x y=>⟨x.1,x.2.1.at λo e=>y I (by simp) o e,mT x.2.2 λo e=>y l (by simp) o e⟩
 item:=λi s Q E j x m=>by
  have e:(items.size:Int) - 1 - (i:Int)=((items.size - 1 - i:Nat):Int):=by exact om187 j
  have a:=x.2.1;rw[e] at a;have z:items[items.size - 1 - i]?=ac (items[items.size - 1 - i]'(om188 j)):=Array.getElem?_eq_getElem (om188 j);refine next_rv_item a x.2.2 hz z λh' tk c n=>?_
  have C:((items.size - 1 - i:Nat):Int) - 1=(items.size:Int) - 1 - ((i+1:Nat):Int):=by exact om189 j
  rw[C] at c;exact m _ h' tk z ⟨j,c,mT x.2.2 λo q=>(n.2 l t).trans q⟩ λb o f q=>n.extBut b o (λh=>f (by simp[h])) q
 done:=λs Q E x m=>by
  have e:(items.size:Int) - 1 - (items.size:Int)=-1:=by exact om190
  have a:=x.2.1;rw[e] at a;exact next_rv_end B a λh' u=>m h' s.toks λb o f q=>u b o (λh=>f (by simp[h])) q
 self:=λZ Z Z Z x m=>sX x.2.1 m
end
section
variable {B9:wq} {w:wy} {A:wt} {E:vU->vZ->Prop} {s:vZ} {H:v8->Prop}
theorem item_rev{P:wT}{h:Heap}{vs:wA vU}{ds:vR D}(c:am P h H vs.toList ds){i:Nat}{v:vU}(a:i<ds.reverse.length)(b:vs[ds.reverse.length - 1 - i]?=ac v):∃ d,ds.reverse[i]?=ac d/\Rep P h H v d:=by
 rw[zv] at a b;rw[List.getElem?_reverse a];exact sY c (wg (Nat.sub_le _ _) (Nat.sub_lt (wg (ww _) a) Nat.one_pos)) b
theorem iter_rvs{x:vU}{ds:vR D}(u:Rep w.params s.heap H x (.tup ds))(y:A.handled=wa) :
  wpAny (wc B9 w) A (call (.type "reversed") [x]) (λv B2=>wpAny (wc B9 w) A (zY v) (nL B9 w A s H ds.reverse) E B2) E s:=by
 refine u.tupE λa vs n c B C f=>?_
 have e:vs.size=ds.reverse.length:=f.size.trans zv.symm;have m:(vs.size:Int)<2 ^ 63:=by rw[f.size];exact pi C
 refine call_rev_tuple (eA c) m λtk=>?_
 have t:lQ (s.heap.push (rvO a ((vs.size:Int) - 1))) s.heap.objs.size a ((vs.size:Int) - 1):=⟨_,Heap.get?_push_size _ QQ,QQ,QQ⟩;have W:zp B9 w A s.heap.objs.size [s.heap.objs.size,a] [s.heap.objs.size] ds.reverse.length (λi v=>vs[ds.reverse.length - 1 - i]?=ac v) (λi h=>i<=ds.reverse.length/\lQ h s.heap.objs.size a ((ds.reverse.length:Int) - 1 - (i:Int))/\PyProof.Rows.IsTup h a vs):=e▸walks_rv y s.heap.objs.size a (wU (Heap.lt_size c)) vs m
 refine sX (s:={ s with heap:=s.heap.push (rvO a ((vs.size:Int) - 1)),toks:=tk }) t ⟨.mk _ _ _ λZ Z e=>Heap.gt_push_of_some _ e,b0 _,⟨_,Heap.gt_push_size _ QQ⟩,W,
  ⟨ww _,?_,mT (eA c) λo e=>Heap.get?_push_of_some _ e⟩,λb j=>eP j .inl λe=>.inr (e▸⟨B,_,Heap.gt_of c⟩),λi v G I=>item_rev f G I,λi h st=>st.2.1.elim λo q=>⟨o,Heap.gt_of q.1 (dB q.2.1 (by decide))⟩,
  λb j i h o st e=>eP j (λq=>st.2.1.elim λJ z=>eX (q▸z.1) e (dB z.2.1 (by decide))) λq=>st.2.2.elim λJ z=>eX (q▸z.1) e (dB z.2.1 (by decide))⟩
 rw[Int.natCast_zero,Int.sub_zero,<- e];exact t
end
theorem mZ:∀ (σ:St),freeze [] σ=σ
 | []=>rfl
 | (x,(o,d))::r=>by
  have:=mZ r;unfold freeze at this ⊢;rw[wx,this];simp
theorem settle_nil(d:D)(σ:St):settle d [] σ=σ:=by
 unfold settle
 split
 ·rfl
 ·exact mZ σ
theorem mL(B7:Own):B7.less []=B7:=by
 funext x
 simp[Own.less]
section
variable {B9:wq} {w:wy} {A:wt} {B3:Heap} {mg mb:Str->vY vU} {cf:CF}
variable {BS h h':Heap} {BM:Env} {B1:v8->Prop} {B7:Own} {m:Str->vY vU} {σ:St} {I:v8}
section
variable {r:Fl×St}{C:Prop}{e:ME}
theorem tn{b:v8}(q:Hot BM (λb=>B1 b\/b=I) B7 b):Hot BM B1 B7 b\/b=I:=q.elim (λq=>q.elim (λq=>.inl (.inl q)) .inr) λq=>.inl (.inr q)
theorem hot_sub{b:v8}(q:Hot BM B1 B7 b):Hot BM (λb=>B1 b\/b=I) B7 b:=q.imp .inl id
theorem aP.addH(S:aP w B3 BS h BM B1 B7 m σ)(c:KH h h')(i:gat h I=wa)(f:∃ o,gat h' I=ac o) :
  aP w B3 BS h' BM (λb=>B1 b\/b=I) B7 m σ:=
 S.to (S.rep.keeps c) (λb o Z e=>c b o e) (λZ a o Z e=>c a o e) (λb o e q=>(tn q).elim id λq=>bv e (q▸i)) (λb o e=>c b o (S.keep b o e)) (λb q=>q.elim (λq=>(S.hot.ex b (.inl q)).elim λj z=>z.elim λo z=>⟨j,o,z.1,c _ _ z.2⟩) λq=>f.elim λo z=>⟨I,o,q▸wF _,z⟩)
  λx a e q=>q.elim (S.own1 x a e).2.1 λq=>(S.ownx x a e).elim λo z=>bv z (q▸i)
theorem uU(a:Mv I h h'):lP h (Hot BM (λb=>B1 b\/b=I) B7) h':=λb o c e=>a b o (λq=>c (q▸.inl (.inr QQ))) e
theorem aP.turnI(S:aP w B3 BS h BM (λb=>B1 b\/b=I) B7 m σ)(c:Mv I h h')(f:∃ o,gat h' I=ac o)(j:¬ frm BM I)(n:gat BS I=wa) :
  aP w B3 BS h' BM (λb=>B1 b\/b=I) B7 m σ:=
 S.to (S.rep.keepsAt λb o s e=>c b o (λq=>j (q▸s)) e) (uU c) (λx a o t e=>c a o (λq=>(S.own1 x a t).2.1 (.inr q)) e) (λZ Z Z q=>q) (λb o e=>c b o (λq=>bv e (q▸n)) (S.keep b o e))
  (λb q=>(S.hot.ex b (.inl q)).elim λi z=>z.elim λo z=>(Classical.em (i=I)).elim (λe=>f.elim λu y=>⟨I,u,e▸z.1,y⟩) λe=>⟨i,o,z.1,c i o e z.2⟩) λx a e=>(S.own1 x a e).2.1
theorem aP.leave(S:aP w B3 BS h BM (λb=>B1 b\/b=I) B7 m σ)(c:Mv I h h')(f:Ex h' B1)(i:¬ frm BM I)(j:gat BS I=wa) :
  aP w B3 BS h' BM B1 B7 m σ:=
 S.to (S.rep.keepsAt λb o n e=>c b o (λq=>i (q▸n)) e) (uU c) (λx a o f e=>c a o (λq=>(S.own1 x a f).2.1 (.inr q)) e) (λZ Z Z q=>hot_sub q) (λb o e=>c b o (λq=>bv e (q▸j)) (S.keep b o e)) f λx a e q=>(S.own1 x a e).2.1 (.inl q)
theorem xi_ret(h:exS cf (.ret e) σ=ac r)(c:∀ x d,e=.u x->σ.lookup x=ac (vT,d)->(.ret vT d,σ)=r->C)(k:∀ d fr,evF cf (vis σ) e=ac (d,fr)->(.ret fr d,σ)=r->C):C:=by
 rw[oQ] at h;cases b:e.varOf with
 | none=>
  rw[b] at h;dsimp only at h;cases a:evF cf (vis σ) e with
  | none=>rw[a] at h;exact ag h
  | some p=>rw[a] at h;exact k p.1 p.2 a (v5 h)
 | some x=>
  rw[b] at h;dsimp only at h;cases a:σ.lookup x with
  | none=>rw[a] at h;exact ag h
  | some p=>
   rw[a] at h;obtain⟨fr,d⟩:=p;refine varOf_inv (C:=λe=>e=.u x) b QQ |> λq=>?_
   cases fr with
   | true=>exact c x d q a (v5 h)
   | false=>exact k d vP (q.symm▸by show (evE cf (vis σ) (.u x)).map _=_;rw[fI,bS,a];rfl) (v5 h)
theorem ss_ret(Z:Cx B9 w A B3 mg mb cf)(e:ME):SS B9 w A B3 cf (.ret e):=λs BM st B1 BS B7 m σ r E c S f=>
 vC.rec (motive:=λst Y=>wpAny (wc B9 w) A (yj st BM) (bE w B3 BS BM B1 s B7 r) E s) (λ{v pos} c=>xi_ret f (λx d q h i=>by
  subst i q;refine pR.rec (motive:=λv Y=>wpAny (wc B9 w) A (yj (.Return (ac v) pos) BM) _ E s) (λz=>(S.owned x d h).elim λa q=>yR (ew S.rep z q.2.1 ?_)) (fj c)
  have o:=q.2.2.sub (H':=B1) λY q=>.inl q
  have g:=S.own1 x a q.1;exact bE.rt (tk:=s.toks) (dw:=s.drawn) (.of (λY Y e=>e) λY Y e=>nomatch e) ⟨o.rep g.2.1,S.keep,λY=>⟨g.1,o⟩⟩)
  λd fr h i=>i▸yR (uE Z S c h λu BV j n y B t=>bE.rt (.of y λY Y e=>nomatch e) ⟨B.sub λY q=>.inl q,λb o e=>y b o (S.keep b o e),λC=>((t C).old S.keep).sub λY q=>.inl q⟩)) (pp c)
theorem oU{s:Heap}{B7 BI:Own}{x:vV}{L:v8}{BV BQ:Heap}(c:∀ x a,BI x=ac a->B7 x=ac a)(f:KH s BV)(i:BI x=ac L)(h:∀ b,b≠L->∀ {o},gat BV b=ac o->gat BQ b=ac o)(j:∃ o,gat BQ L=ac o):Tr s BM B7 BQ BI:=
 ⟨λb o e Z m=>h b (λq=>m x (c x b (q▸i))) (f b o e),λb o e=>by
  by_cases q:b=L
  ·exact q▸j
  ·exact⟨o,h b q (f b o e)⟩,λy a e=>.inl (c y a e)⟩
theorem qD{k:KD}{x:Str}(h:bP k x=vT):ez k x=vT:=bQ h λZ h=>h
theorem xi_append{x:vV}(h:exS cf (.append x e) σ=ac r)(k:∀ d ds,evE cf (vis σ) e=ac d->(Mine.settle d e.names σ).lookup x=ac (vT,.list ds)->ds.length<big->(.next,ax (Mine.settle d e.names σ) x (vT,.list (ds++[d])))=r->C):C:=
 bh (a:=evE cf (vis σ) e) (f:=λd=>match (Mine.settle d e.names σ).lookup x with
  | some (vT,.list ds)=>if ds.length<big then ac (Fl.next,ax (Mine.settle d e.names σ) x (vT,.list (ds++[d]))) else none
  | _=>none) h λd c h=>by
  cases b:(Mine.settle d e.names σ).lookup x with
  | none=>rw[b] at h;exact ag h
  | some p=>
   rw[b] at h;obtain⟨o,i⟩:=p;cases o with
   | false=>exact ag h
   | true=>cases i with
    | list ds=>exact aS h λj e=>k d ds c b j e
    | _=>exact ag h
theorem ss_append(Z:Cx B9 w A B3 mg mb cf)(x:vV)(e:ME):SS B9 w A B3 cf (.append x e):=λs BM st B1 BS B7 m σ r E C S H=>
 xi_append H λd ds Ca y z Cb=>Cb▸pS.rec (motive:=λst BF=>wpAny (wc B9 w) A (yj st BM) (bE w B3 BS BM B1 s B7 (.next,ax (Mine.settle d e.names σ) x (vT,.list (ds++[d])))) E s) (λ{Ci Cj a p pos} I j C=>by
  have T:=S.settle d e.names;refine (T.owned x _ y).elim λL q=>gI.rec (motive:=λBF=>_) (λ{vs n} U Cd V=>?_) q.2.2
  have c:yO [a] BM=[(vP,wM a BM)]:=fN C;refine Bi (wpAny_Call_append QQ (by rw[c];rfl) (by simpa using j) (by rw[c];rfl) (ew S.rep (qD I) q.2.1 ⟨L,vs,QQ,⟨_,n,U,QQ,QQ,QQ⟩,?_⟩)) (by unfold AS;rw[S.rep.kind];rfl) QQ
  refine i9 Z S C Ca λu BV J M G Ce=>?_
  have B:=Heap.of_gt (G _ _ (Heap.gt_of U));refine zO (items:=vs) ⟨n,B⟩ (λBQ t f=>?_) (V.size.symm▸Cd)
  have h:∃ X,BQ.get? L=ac (fF (vs.push u) X):=t;have Y:Mv L BV BQ:=λb o N e=>g1 f (bI B) b N e
  have Cf:∀ b,(Hot BM B1 (dn B7 d e.names) b\/b=L)->Hot BM B1 (dn B7 d e.names) b:=λb O=>O.elim id λO=>O▸.inr (.inr ⟨x,q.1⟩)
  have i:gI w.params BQ (Hot BM B1 (dn B7 d e.names)) L (ds++[d]):=h.elim λX Cg=>⟨Cg,by rw[wn];exact z,by
   rw[zg];exact ((V.keeps G).append (.cons ((hM Ce).sub Cf) .nil)).mono (λb o Ch e=>Y b o (λq=>Ch (.inr q)) e) λBF BF BF q=>q⟩
  exact bE.nx (oU (λBF BF e=>fP e) G q.1 (λb N BF e=>Y b _ N e) (cM.ex (d:=.list _) i)) ((T.keeps G).turn y q.1 f (d:=.list _) i)) (inv_append C)
theorem xi_setk{x:vV}{ke:ME}(h:exS cf (.setk x ke e) σ=ac r)(k:∀ d b ks vs,evE cf (vis σ) e=ac d->evE cf (vis σ) ke=ac b->(Mine.settle b ke.names (Mine.settle d e.names σ)).lookup x=ac (vT,.dict ks vs)->cJ b ks=vT->ks.length<big ->
  (.next,ax (Mine.settle b ke.names (Mine.settle d e.names σ)) x (vT,.dict (cL ks vs b d).1 (cL ks vs b d).2))=r->C):C:=
 bh (a:=evE cf (vis σ) e) (f:=λd=>oE (evE cf (vis σ) ke) λb=>match (Mine.settle b ke.names (Mine.settle d e.names σ)).lookup x with
  | some (vT,.dict ks vs)=>if (cJ b ks&&decide (ks.length<big))=vT then ac (Fl.next,ax (Mine.settle b ke.names (Mine.settle d e.names σ)) x (vT,.dict (cL ks vs b d).1 (cL ks vs b d).2)) else none
  | _=>none) h λd j h=>bh h λb c h=>by
  cases i:(Mine.settle b ke.names (Mine.settle d e.names σ)).lookup x with
  | none=>rw[i] at h;exact ag h
  | some p=>
   rw[i] at h;obtain⟨o,m⟩:=p;cases o with
   | false=>exact ag h
   | true=>cases m with
    | dict ks vs=>exact aS h λn e=>bQ n λh1 q=>k d b ks vs j c i h1 (xu q) e
    | _=>exact ag h
theorem less_less{B7:Own}{d:D}{ns b:vR vV}:∀ x a,(dn B7 d ns).less b x=ac a->B7.less b x=ac a:=λx a e=>by
 unfold Own.less at e ⊢;split at e <;> first | cases e | (rename_i c;rw[wo c];exact fP e)
theorem ss_setk(Z:Cx B9 w A B3 mg mb cf)(x:vV)(ke e:ME):SS B9 w A B3 cf (.setk x ke e):=λs BM st B1 BS B7 m σ r E Ca S H=>
 xi_setk H λd n ks vs Cb I t J M Cd=>Cd▸vA.rec (motive:=λst BF=>wpAny (wc B9 w) A (yj st BM) (bE w B3 BS BM B1 s B7 (.next,ax (Mine.settle n ke.names (Mine.settle d e.names σ)) x (vT,.dict (cL ks vs n d).1 (cL ks vs n d).2))) E s) (λ{Cj i p v pos} N O T=>by
  have U:=(S.settle d e.names).settle n ke.names;refine (U.owned x _ t).elim λL q=>wpAny_Assign_Subscript (i9 Z S T Cb λu BV c f V Ce=>ew (s:={ s with heap:=BV,toks:=c,drawn:=f }) (S.rep.keeps V) (qD N) q.2.1 ?_) (by cases v <;> rfl)
  have Cf:aP w B3 BS ({ s with heap:=BV,toks:=c,drawn:=f }:vZ).heap BM B1 B7 m σ:=S.keeps V
  refine i9 Z Cf O I λCk BQ y B G Cg=>?_
  have C:KH s.heap BQ:=λb o e=>G b o (V b o e)
  have h:∀ b,Hot BM B1 (dn (dn B7 d e.names) n ke.names) b\/b=L->Hot BM B1 (dn (dn B7 d e.names) n ke.names) b:=λb z=>z.elim id λz=>z▸.inr (.inr ⟨x,q.1⟩)
  have X:lN w.params BQ (Hot BM B1 (dn (dn B7 d e.names) n ke.names)) L ks vs:=(U.keeps C).ownAt t q.1;refine lm (s:={ s with heap:=BQ,toks:=y,drawn:=B }) Z.hu.u1 X ((hM (Cg.sub λBF q=>q.mono (λBF q=>q) less_less)).sub h) ((hM Ce).mono (λb o BF e=>G b o e) λb o BF q=>(h b q).mono (λBF q=>q) λBF BF=>fP) J M λh' tk dw Y j=>?_
  have Ch:∀ o,BQ.get? L=ac o->bn o=vP:=cM.notTab (d:=.dict _ _) X;exact bE.nx (oU (λBF a e=>fP (fP e)) C q.1 (λb Ci BF e=>g1 Y Ch b Ci e) (cM.ex (d:=.dict _ _) j)) ((U.keeps C).turn t q.1 Y (d:=.dict _ _) j)) (inv_setk Ca)
theorem uk{M:Ab}{s:vZ}{E:vU->vZ->Prop}{c:Sem yY}{Q:yY->vZ->Prop}(a:wpAny M A c (bE w B3 BS BM B1 s B7 r) E s)
  (b:∀ h tk dw BX m,r.1=.next->Tr s.heap BM B7 h BX->aP w B3 BS h BM B1 BX m r.2->Q .next { s with heap:=h,toks:=tk,drawn:=dw })
  (i:∀ h tk dw fr d v,r.1=.ret fr d->Tr s.heap BM B7 h sN->tW w BS h B1 v fr d->Q (.ret v) { s with heap:=h,toks:=tk,drawn:=dw }):wpAny M A c Q E s:=
 yG a (λf s' q=>q Q b i) λZ Z e=>e
theorem oX:SSs B9 w A B3 cf []:=λs BM b B1 BS B7 m σ r E c S a=>
 gT (C:=λb=>wpAny (wc B9 w) A (zA b BM) (bE w B3 BS BM B1 s B7 r) E s) c (yN (v5 a▸bE.nx (tk:=s.toks) (dw:=s.drawn) (.keeps λZ Z e=>e) S))
theorem sq{a:MS}{l:vR MS}(h:aY cf (a::l) σ=ac r)(k1:∀ b,exS cf a σ=ac (.next,b)->aY cf l b=ac r->C)(k2:∀ fr d,exS cf a σ=ac r->r.1=.ret fr d->C):C:=by
 rw[mj] at h;cases c:exS cf a σ with
 | none=>rw[c] at h;exact ag h
 | some p=>
  rw[c] at h;obtain⟨f,b⟩:=p;cases f with
  | next=>exact k1 b c h
  | ret fr d=>exact k2 fr d (c.trans h) (wv Prod.fst (v5 h)).symm
theorem mt{a:MS}{l:vR MS}(u:SS B9 w A B3 cf a)(z:SSs B9 w A B3 cf l):SSs B9 w A B3 cf (a::l):=λs BM B B1 BS B7 m σ r E y S i=>by
 cases B with
 | nil=>cases y
 | cons st j=>
  exact bQ y λc n=>sq i (λb h1 o=>w9 (uk (u s BM st B1 BS B7 m σ _ E c S h1) (λh tk dw BX m' Z t C=>aR (z _ BM j B1 BS BX m' b r E n C o) λf B2 q=>q.trans t) λZ Z Z Z Z Z e Z Z=>nomatch e))
   λfr d h1 o=>w9 (uk (u s BM st B1 BS B7 m σ r E c S h1) (λZ Z Z Z Z e Z Z=>nomatch o.symm.trans e) λh tk dw fr d v e t R Q Z G=>G h tk dw fr d v e t R)
theorem xi_ite{c:ME}{t f:vR MS}(h:exS cf (.ite c t f) σ=ac r)(k:∀ d b,evE cf (vis σ) c=ac d->bg d=ac b->aY cf (if b then t else f) σ=ac r->C):C:=
 bh (a:=evE cf (vis σ) c) (f:=λd=>match bg d with
   | some vT=>aY cf t σ
   | some vP=>aY cf f σ
   | none=>none) h λd j h=>by
  cases i:bg d with
  | none=>rw[i] at h;exact ag h
  | some b=>rw[i] at h;cases b <;> exact k d _ j i h
theorem ss_ite(Z:Cx B9 w A B3 mg mb cf){c:ME}{t f:vR MS}(y:SSs B9 w A B3 cf t)(z:SSs B9 w A B3 cf f):SS B9 w A B3 cf (.ite c t f):=λs BM st B1 BS B7 m σ r E h S i=>
 xi_ite i λd b B C u=>vD.rec (motive:=λst Y=>wpAny (wc B9 w) A (yj st BM) (bE w B3 BS BM B1 s B7 r) E s) (λ{v H o p} h h1 G=>wpAny_If (sG Z S h B C λBV j n a=>by
  cases b with
  | true=>exact aR (y _ BM _ B1 BS B7 m σ r E h1 (S.keeps a) u) λf B2 q=>q.trans (.keeps a)
  | false=>exact aR (z _ BM _ B1 BS B7 m σ r E G (S.keeps a) u) λf B2 q=>q.trans (.keeps a))) (pt h)
end
noncomputable def fu(w:wy)(B3 BS:Heap)(BM:Env)(B1:v8->Prop)(s:vZ)(B7:Own)(J:vR D->Own->St->Prop)(K:v7->D->St->Prop)(B5:vR D)(f:yY)(s':vZ):Prop:=
 ∀ Q:yY->vZ->Prop,(∀ h tk dw BX m σ,J B5 BX σ->Tr s.heap BM B7 h BX->aP w B3 BS h BM B1 BX m σ->Q .next { s with heap:=h,toks:=tk,drawn:=dw }) ->
  (∀ h tk dw fr d v σ,K fr d σ->Tr s.heap BM B7 h sN->tW w BS h B1 v fr d->Q (.ret v) { s with heap:=h,toks:=tk,drawn:=dw })->Q f s'
noncomputable def nf(f:yY):yY:=match f with | .cont=>.next | f=>f
theorem nf_in{P:yY->Prop}(h:P .next->P .cont)(f:yY)(q:P (nf f)):P f:=match f,q with
 | .cont,q=>h q
 | .next,q=>q
 | .brk,q=>q
 | .ret _,q=>q
theorem jpost_nf{s s':vZ}{J:vR D->Own->St->Prop}{K:v7->D->St->Prop}{B5:vR D}{f:yY}(q:fu w B3 BS BM B1 s B7 J K B5 f s'):fu w B3 BS BM B1 s B7 J K B5 (nf f) s':=λQ a b=>q (λf s=>Q (nf f) s) a b
inductive vL(w:wy)(B3 BS h1:Heap)(BM:Env)(B1:v8->Prop)(I:v8)(B7:Own)(BK:vR D)(BL:Nat->Heap->Prop)(J:vR D->Own->St->Prop)(s:vZ)(k:Nat):vZ->Prop
 | mk {h tk dw done B5 BX m' BJ} (dr:BK=done++B5) (st:BL done.length h) (S:aP w B3 BS h BM (λb=>B1 b\/b=I) BX m' BJ) (t:Tr h1 BM B7 h BX) (fr:J B5 BX BJ) (kn:k=B5.length+1) :
  vL w B3 BS h1 BM B1 I B7 BK BL J s k { s with heap:=h,toks:=tk,drawn:=dw }
theorem ownS_nil(B7:Own)(d:D):dn B7 d []=B7:=by
 unfold dn;split
 ·rfl
 ·exact mL B7
noncomputable def mh(Ev:vZ->(vU->vZ->Prop)->Prop)(B9:wq)(w:wy)(A:wt)(B3 BS:Heap)(BM:Env)(x:vV)(J:vR D->Own->St->Prop)(K:v7->D->St->Prop)(b:vR wZ):Prop:=
 ∀ (s:vZ) (BO:v8->Prop) (B7:Own) (m:Str->vY vU) (σ:St) (dv:D) (B5:vR D) (E:vU->vZ->Prop),J (dv::B5) B7 σ->aP w B3 BS s.heap BM BO (B7.set x wa) m (ax σ x (vP,dv))->Ev s E ->
  wpAny (wc B9 w) A (zA b BM) (λf s'=>fu w B3 BS BM BO s (B7.set x wa) J K B5 (nf f) s') E s
noncomputable abbrev se:=mh λZ Z=>True
section
variable {Ev:vZ->(vU->vZ->Prop)->Prop} {h1 hh1:Heap} {BR BX:Own} {BK done B5:vR D} {fp:vR v8} {P:Nat->vU->Prop} {BL:Nat->Heap->Prop}
theorem hot_tr(t:Tr h1 BM BR h BX)(a:gat h1 I=wa){b:v8}{o:Obj}(e:gat h1 b=ac o)(q:Hot BM (λb=>B1 b\/b=I) BX b):Hot BM B1 BR b:=
 (tn q).elim (λq=>q.imp id λq=>q.imp id λq=>q.elim λz q=>(t.o z b q).elim (λq=>⟨z,q⟩) λq=>bv e q) λq=>bv e (q▸a)
theorem kk_tr(t:Tr h1 BM BR h BX)(c:Mv I h h')(f:gat h1 I=wa){b:v8}{o:Obj}(a:¬ Hot BM B1 BR b)(e:gat h1 b=ac o):gat h' b=ac o:=
 c b o (λq=>bv e (q▸f)) (t.k b o e (λq=>a (.inr (.inl q))) λz q=>a (.inr (.inr ⟨z,q⟩)))
theorem tr_I(t:Tr h1 BM BR h BX)(a:Mv I h h')(c:gat h1 I=wa):Tr h1 BM BR h' BX:=
 ⟨λb o e i j=>a b o (λq=>bv e (q▸c)) (t.k b o e i j),λb o e=>(t.x b o e).elim λf m=>⟨f,a b f (λq=>bv e (q▸c)) m⟩,t.o⟩
theorem nY(W:zp B9 w A I fp [I] BK.length P BL)(a:∀ b∈fp,b=I\/(¬ Hot BM B1 BR b/\∃ o,gat h1 b=ac o))(tab:∀ b∈fp,∀ i h o,BL i h->h.get? b=ac o->bn o=vP){BI:Own}{i:Nat}(st:BL i h)(t:Tr h1 BM BR h BX)(u:Tr h BM BX h' BI)(c:¬ frm BM I)(f:∀ z,BX z≠ac I):BL i h':=
 dA W tab i h h' st λb j o e=>(a b j).elim (λq=>q▸(u.k I o (q▸e) c f)) λq=>u.k b o e (λz=>q.1 (.inr (.inl z))) λz y=>q.2.elim λn m=>(t.o z b y).elim (λy=>q.1 (.inr (.inr ⟨z,y⟩))) λy=>bv m y
end
section
variable {r:Fl×St}{C:Prop}{BH:ME}
theorem fbody_inv{b:D->St->vY (Fl×St)}{dv:D}{B5:vR D}{σ:St}(h:cq b (dv::B5) σ=ac r)(k:∀ rb,b dv σ=ac rb->(rb.1=.next->cq b B5 rb.2=ac r)->(∀ fr d,rb.1=.ret fr d->(.ret fr d,rb.2)=r)->C):C:=by
 cases e:b dv σ with
 | none=>rw[cq,e] at h;exact ag h
 | some rb=>
  rw[cq,e] at h;obtain⟨c,a⟩:=rb;cases c with
  | next=>exact k _ e (λZ=>h) λZ Z e=>nomatch e
  | ret fr d=>exact k _ e (λe=>nomatch e) λi j q=>(wv (λf=>(f,a)) q.symm).trans (v5 h)
theorem for_turn{Ev:vZ->(vU->vZ->Prop)->Prop}{x:vV}{Cs:Pos}{b:vR wZ}{BK done B5:vR D}{dv:D}{J:vR D->Own->St->Prop}{K:v7->D->St->Prop}(V:mh Ev B9 w A B3 BS BM x J K b)
  {s:vZ} {B7 BR BX:Own} {m':Str->vY vU} {BJ:St} {h1:Heap} {tk:Nat} {dw:zK} {k:Nat} {fp:vR v8} {P:Nat->vU->Prop} {BL:Nat->Heap->Prop}
  (Ci:bP BM.kindOf (vQ x)=vT) (W:zp B9 w A I fp [I] BK.length P BL) (Y:∀ b∈fp,b=I\/(¬ Hot BM B1 BR b/\∃ o,gat h1 b=ac o)) (item:∀ i v,i<BK.length->P i v->∃ d,BK[i]?=ac d/\Rep w.params h1 (Hot BM B1 BR) v d) (Z:∀ i h,BL i h->∃ o,gat h I=ac o) (tab:∀ b∈fp,∀ i h o,BL i h->h.get? b=ac o->bn o=vP)
  (N:gat h1 I=wa) (O:¬ frm BM I) (Cj:gat BS I=wa) (Ct:Tr s.heap BM B7 h1 BR)
  (Ck:BK=done++dv::B5) (st:BL done.length h) (Cp:aP w B3 BS h BM (λb=>B1 b\/b=I) BX m' BJ) (t:Tr h1 BM BR h BX) (Ca:J (dv::B5) BX BJ) (Cu:k=(dv::B5).length+1)
  {Cg:vU->vZ->Prop} {R:vZ->Prop} (Cm:∀ h tk dw,Ev { s with heap:=h,toks:=tk,drawn:=dw } Cg) :
  wpAny (wc B9 w) A (yP (.ref I)) (λo BU=>match o with
   | none=>R BU
   | some v=>wpAny (wc B9 w) A (assign (.Name (vQ x) Cs) BM v) (λBF B2=>wpAny (wc B9 w) A (zA b BM) (λf c=>match f with
     | .next | .cont=>∃ m,m<k/\vL w B3 BS h1 BM B1 I BR BK BL J s m c
     | .brk=>fu w B3 BS BM B1 s B7 J K [] .next c
     | .ret v=>fu w B3 BS BM B1 s B7 J K [] (.ret v) c) Cg B2) Cg BU) Cg { s with heap:=h,toks:=tk,drawn:=dw }:=by
 have Cb:done.length<BK.length:=by rw[Ck,wn];exact yd (xH _)
 refine W.item done.length _ _ _ Cb st λv BV j Cn n T=>?_
 have Co:Mv I h BV:=λb o V e=>iK W tab st T b o (λq=>V (wl.mp q)) e
 have Cq:=Cp.turnI Co (Z _ _ n) O Cj;have L:=tr_I t Co N;have Cv:Rep w.params BV (Hot BM (λb=>B1 b\/b=I) BX) v dv:=(item _ v Cb Cn).elim λd q=>by
  have e:d=dv:=by
   have e1:=q.1;rw[Ck,xG (wF _),AB] at e1;exact (v5 e1).symm
  exact e▸q.2.mono (λb o Cw e=>kk_tr t Co N Cw e) λb o e q=>hot_tr t N e q
 refine Ba (iM (s:={ s with heap:=BV,toks:=j,drawn:=dw }) Cq.rep (gz Ci) λBQ y B a Cd Cy Cz=>?_)
 have Ce:=jk (s:={ s with heap:=BV,toks:=j,drawn:=dw }) (x:=x) (ns:=[]) (d:=dv) (fr:=vP) (v:=v) (BV:=BV) (BQ:=BQ) (a:=a) (X:=λBF=>False) Cq (λBF BF e=>e)
  (by rw[mL];exact Cv.sub λBF q=>q.elim id False.elim) (λe=>nomatch e) Cd (Cy.imp id λe=>⟨_,e⟩) (λBF q=>q.elim) λb V BF BF e=>(Cz.g b V).trans e
 rw[settle_nil,ownS_nil] at Ce;have U:=nY W Y tab n L Ce.2 O λz q=>(Cp.own1 z I q).2.1 (.inr QQ)
 have C:=L.trans Ce.2;exact aR (V { s with heap:=BQ,toks:=y,drawn:=B } _ BX _ BJ dv B5 _ Ca Ce.1 (Cm BQ y B)) λf c q=>nf_in (P:=λf=>match f with
     | .next | .cont=>∃ m,m<k/\vL w B3 BS h1 BM B1 I BR BK BL J s m c
     | .brk=>fu w B3 BS BM B1 s B7 J K [] .next c
     | .ret v=>fu w B3 BS BM B1 s B7 J K [] (.ret v) c) id f <| q (λf c=>match f with
     | .next | .cont=>∃ m,m<k/\vL w B3 BS h1 BM B1 I BR BK BL J s m c
     | .brk=>fu w B3 BS BM B1 s B7 J K [] .next c
     | .ret v=>fu w B3 BS BM B1 s B7 J K [] (.ret v) c) (λM E G Ch Cr H e u Cf=>
   ⟨B5.length+1,by rw[Cu];exact yX _,.mk (done:=done++[dv]) (B5:=B5) (Ck.trans (Af ..)) (by rw[wn];exact nY W Y tab U C u O λz q=>(Ce.1.own1 z I q).2.1 (.inr QQ)) Cf (C.trans u) e QQ⟩)
  λM E G fr d v H e u R Q BF CA=>CA M E G fr d v H e (Ct.trans (C.trans u)) ⟨R.rep.sub λBF q=>.inl q,R.keep,λCB=>(R.fr CB).sub λBF q=>.inl q⟩
theorem im{Ev:vZ->(vU->vZ->Prop)->Prop}{x:vV}{Cb pos:Pos}{H:wi}{b:vR wZ}{ns:vR vV}{BK:vR D}{J:vR D->Own->St->Prop}{K:v7->D->St->Prop}
  {s:vZ} {BM:Env} {B1:v8->Prop} {BS:Heap} {B7:Own} {m:Str->vY vU} {σ:St} {E:vU->vZ->Prop} (L:mh Ev B9 w A B3 BS BM x J K b) (S:aP w B3 BS s.heap BM B1 B7 m σ) (M:bP BM.kindOf (vQ x)=vT) (f:d7 H=vT)
  (i:∀ Q:vU->vZ->Prop,(∀ I h1 j n u,KH s.heap h1->KH h1 j->gat h1 I=wa->(∃ o,gat j I=ac o)->oP B9 w A h1 (Hot BM B1 (B7.less ns)) BK I j->Q (.ref I) { s with heap:=j,toks:=n,drawn:=u })->wpAny (wc B9 w) A (wM H BM) (λCd BU=>wpAny (wc B9 w) A (zY Cd) Q E BU) E s)
  (N:J BK (B7.less ns) (freeze ns σ)) (O:∀ h tk dw,Ev { s with heap:=h,toks:=tk,drawn:=dw } (notedBy (wc B9 w) A BM λe s'=>zq (wc B9 w) A BM E e s'):=by intros;trivial):wpAny (wc B9 w) A (yj (.For (.Name (vQ x) Cb) H b [] pos) BM) (fu w B3 BS BM B1 s B7 J K []) E s:=by
 refine wpAny_For (i _ λI h1 j n u a y fresh ex Ce=>?_) (jc f)
 have T:=(S.freeze ns).keeps a;have Cf:=T.addH (I:=I) y fresh ex;have z:¬ frm BM I:=λq=>(eB T.rep q).elim λo e=>bv e fresh
 have B:gat BS I=wa:=jN S.keep (jN a fresh);have X:Tr s.heap BM B7 h1 (B7.less ns):=.of a λBF BF=>dK
 refine Ce.rec λ{fp P BL} W st U C G tab=>codeAny_forLoop (vL w B3 BS h1 BM B1 I (B7.less ns) BK BL J s) (λk s' q=>?_) (BK.length+1) (.mk (done:=[]) (B5:=BK) QQ st Cf (.keeps y) N QQ)
 obtain @⟨h,tk,dw,done,B5,BX,m',BJ,dr,st,S',t,hfor,kn⟩:=q;cases B5 with
 | cons dv B5=>exact for_turn L M W U C G tab fresh z B X dr st S' t hfor kn O
 | nil=>
  rw[xY] at dr;subst dr;refine W.done _ _ _ st λh' Cg V=>?_
  have Y:Mv I h h':=λb o L e=>iK W tab st V b o (λq=>L (wl.mp q)) e
  have Z:=tr_I t Y fresh;exact yN λQ Ch BF=>Ch _ _ dw _ _ _ hfor (X.trans Z) (S'.leave Y (λc Ci=>(T.hot.ex c (.inl Ci)).elim λCa q=>q.elim λo q=>(Z.x Ca o q.2).elim λCj Ck=>⟨Ca,Cj,q.1,Ck⟩) z B)
theorem tO{x:vV}{body:vR MS}{b:vR wZ}{BS:Heap}{BM:Env}(i:SSs B9 w A B3 cf body)(c:dP BM.kindOf b body=vT) :
  se B9 w A B3 BS BM x (λB5 Z σ=>cq (λj σ=>aY cf body (ax σ x (vP,j))) B5 σ=ac r) (λfr d σ=>(.ret fr d,σ)=r) b:=λs BO B7 m σ dv B5 E a S Z=>
 fbody_inv a λrb h1 n o=>aR (i s BM b BO BS _ m _ rb E c S h1) λf s' q Q u y=>q (λf s=>Q (nf f) s) (λh tk dw BX m' e t z=>u h tk dw BX m' rb.2 (n e) t z) λh tk dw fr d v e t R=>y h tk dw fr d v rb.2 (o fr d e) t R
theorem sW{s s':vZ}{a:D->St->vY (Fl×St)}{f:yY}(q:fu w B3 BS BM B1 s B7 (λB5 Z σ=>cq a B5 σ=ac r) (λfr d σ=>(.ret fr d,σ)=r) [] f s'):bE w B3 BS BM B1 s B7 r f s':=λQ b c=>
 q Q (λh tk dw BX m σ e t S=>have e:(Fl.next,σ)=r:=v5 e;b h tk dw BX m (e▸rfl) t (e▸S)) λh tk dw fr d v σ e t R=>c h tk dw fr d v (e▸rfl) t R
theorem xi_for{x:vV}{body:vR MS}(h:exS cf (.for_ x BH body) σ=ac r)(k:∀ d BK,evE cf (vis σ) BH=ac d->d.items=ac BK->cq (λb σ=>aY cf body (ax σ x (vP,b))) BK (freeze BH.names σ)=ac r->C):C:=
 bh (a:=evE cf (vis σ) BH) (f:=λd=>oEs d.items λBK=>cq (λb σ=>aY cf body (ax σ x (vP,b))) BK (freeze BH.names σ)) h λd c h=>dJ h λBK i h=>k d BK c i h
theorem ss_for(Z:Cx B9 w A B3 mg mb cf){x:vV}{body:vR MS}(y:SSs B9 w A B3 cf body):SS B9 w A B3 cf (.for_ x BH body):=λs BM st B1 BS B7 m σ r E z S i=>
 vG.rec (motive:=λst Y=>wpAny (wc B9 w) A (yj st BM) (bE w B3 BS BM B1 s B7 r) E s) (λj c n o=>xi_for i λd BK B f C=>aR (im (tO y o) S j c (λQ k=>i9 Z S n B λu BV a b G H=>iI (ig (s:={ s with heap:=BV,toks:=a,drawn:=b }) H Z.hh f) λI h tk dw t fr ex W=>k I BV h tk dw G t fr ex W) C) λY Y q=>sW q) (px z)
theorem scal_post{P:wT}{h:Heap}{H:v8->Prop}{v:vU}{d:D}{X:Prop}(r:Rep P h H v d)(a:d.scalar=vT)(x:X):match (generalizing:=false) v with | .ref _=>False | _=>X:=by
 cases d with
 | none=>exact r.noneE (C:=λv=>match (generalizing:=false) v with | .ref _=>False | _=>X) x
 | bool b=>exact r.boolE (C:=λv=>match (generalizing:=false) v with | .ref _=>False | _=>X) x
 | int i=>exact r.intE (C:=λv=>match (generalizing:=false) v with | .ref _=>False | _=>X) λZ=>x
 | str i=>exact r.strE (C:=λv=>match (generalizing:=false) v with | .ref _=>False | _=>X) λZ=>x
 | _=>cases a
theorem xi_expr{e:ME}(h:exS cf (.expr e) σ=ac r)(k:∀ d,evE cf (vis σ) e=ac d->d.scalar=vT->(.next,σ)=r->C):C:=
 bh (a:=evE cf (vis σ) e) (f:=λd=>if d.scalar=vT then ac (Fl.next,σ) else none) h λd b h=>aS h λc e=>k d b c e
theorem jj{v:wi}(h:iP v=vT){l:Nat}{BM:Env}:AV v wa l BM=pure vP:=by
 cases v with
 | ListComp | SetComp | DictComp=>cases h
 | _=>rfl
theorem ss_expr(Z:Cx B9 w A B3 mg mb cf)(e:ME):SS B9 w A B3 cf (.expr e):=λs BM st B1 BS B7 m σ r E a S b=>
 xi_expr b λd i j n=>n▸tY.rec (motive:=λst Y=>wpAny (wc B9 w) A (yj st BM) (bE w B3 BS BM B1 s B7 (.next,σ)) E s) (λo a=>Bi (i9 Z S a i λu BV c f h q=>scal_post q j (bE.nx (.keeps h) (S.keeps h))) (by unfold AS;rw[S.rep.kind];rfl) (jj o)) (qI a)
theorem xi_forr{x:vV}{body:vR MS}(h:exS cf (.forr x BH body) σ=ac r)(k:∀ ds,evE cf (vis σ) BH=ac (.tup ds)->cq (λa σ=>aY cf body (ax σ x (vP,a))) ds.reverse (freeze BH.names σ)=ac r->C):C:=by
 rw[si] at h;split at h
 ·exact k _ ‹_› h
 ·exact ag h
theorem ss_forr(Z:Cx B9 w A B3 mg mb cf){x:vV}{body:vR MS}(z:SSs B9 w A B3 cf body):SS B9 w A B3 cf (.forr x BH body):=λs BM st B1 BS B7 m σ r E B S j=>
 vF.rec (motive:=λst Y=>wpAny (wc B9 w) A (yj st BM) (bE w B3 BS BM B1 s B7 r) E s) (λn C c o=>xi_forr j λds t H=>aR (im (tO z o) S n QQ (λQ k=>PyProof.Rows.Call_Name QQ (de Z.G (f:="reversed") (by decide) S.rep (S.freeze BH.names).hot C (dQ (t9 c) (Calls.spliced_cons (
  i9 Z S c t λu BV a b J L=>Calls.spliced_nil (aR (iter_rvs (s:={ s with heap:=BV,toks:=a,drawn:=b }) L Z.hh) λv B2 i=>iI (s:={ s with heap:=BV,toks:=a,drawn:=b }) i λI h tk dw y fr ex W=>k I BV h tk dw J y fr ex W)))))) H) λY Y q=>sW q) (inv_forr B)
end
end
noncomputable def gh(i:Nat):vV:=String.ofList (wV (i+1) '#')
theorem gh_list(i:Nat):(gh i).toList=wV (i+1) '#':=String.toList_ofList
theorem pC(i:Nat):(gh i).toList.length=i+1:=by rw[gh_list,Am]
theorem u8{i j:Nat}(h:gh i=gh j):i=j:=yv ((pC i).symm.trans ((wv (λs=>s.toList.length) h).trans (pC j)))
theorem gh_ne{i:Nat}{x:vV}(h:x.toList.length<=i):gh i≠x:=λe=>AF i (v6 (wD ((pC i).symm.trans (wv (λs=>s.toList.length) e))) h)
theorem gh_fresh(names:vR (Str×yw)):∃ N,∀ i,N<=i->names.lookup (vQ (gh i))=wa:=by
 induction names with
 | nil=>exact⟨0,λZ Z=>QQ⟩
 | cons p names b=>
  obtain⟨N,h⟩:=b;refine⟨max N p.1.cps.size,λi a=>?_⟩
  have c:(vQ (gh i) == p.1)=vP:=beq_false_of_ne λe=>by
   have q:(vQ (gh i)).cps.size=i+1:=by rw[Str.ofString_eq_toList,zT,v9,pC]
   exact AF i (v6 (wD (q.symm.trans (wv (·.cps.size) e))) (v6 (yZ _ _) a))
  rw[wk,c];exact h i (v6 (y9 _ _) a)
section
variable {w:wy} {B3 BS h BQ:Heap} {BM:Env} {B1:v8->Prop} {B7:Own} {m:Str->vY vU} {σ:St}
theorem aN.ghost(R:aN h BM m){x:Str}{v:vU}(f:BM.kindOf x=wa):aN h BM (upd m x v):=
 have b:∀ {y k},BM.kindOf y=ac k->upd m x v y=m y:=λ{y k} e=>wo λq=>nomatch (q▸e).symm.trans f
 {R with
  loc:=R.loc.elim λi q=>⟨i,q.1,λy a=>(q.2 y a).trans (b a).symm⟩
  cell:=λy a=>(R.cell y a).elim λc q=>⟨c,q.1,(a.elim b b).symm▸q.2⟩ }
theorem aP.adopt(S:aP w B3 BS h BM B1 B7 m σ){x:vV}(f:BM.kindOf (vQ x)=wa){b:v8}{ds:vR D}(k:KH h BQ)(i:gat h b=wa)(j:¬ B1 b)(o:gI w.params BQ (Hot BM B1 B7) b ds) :
  aP w B3 BS BQ BM B1 (B7.set x (ac b)) (upd m (vQ x) (.ref b)) (ax σ x (vT,.list ds)):=
 S.set ((S.rep.keeps k).ghost f) (λb o Z e=>k b o e) (λZ a o Z e=>k a o e) (λb o e=>⟨o,k b o e⟩) (λb o e=>k b o (S.keep b o e)) (λc e=>v5 e▸⟨i,j,cM.ex (d:=.list ds) o⟩) nofun
  λZ=>⟨b,QQ,QQ,o.mono (λZ e=>e) (λZ Z Z e=>e) λc o Z q=>q.elim (λq=>.inl (.inl q)) λq=>q.elim (λq=>.inl (.inr (.inl q))) λq=>q.elim λy q=>dI q (λZ q=>.inr (v5 q).symm) λZ q=>.inl (.inr (.inr ⟨y,q⟩))⟩
end
noncomputable abbrev GL:=vR (D×v8×vR D)
noncomputable def GL.v(G:GL):vR (D×vR D):=G.map λq=>(q.1,q.2.2)
noncomputable def GL.k(G:GL):vR D:=G.map (·.1)
noncomputable def GL.p(G:GL):vR D:=G.map λq=>.ptr q.2.1
theorem qO{k r:D}{q:D×vR D}{G2:vR (D×vR D)}(a:aU q.1 k=vT):∀ {G1:vR (D×vR D)},(∀ p∈G1,aU p.1 k=vP)->t7 k r (G1++q::G2)=G1++(q.1,q.2++[r])::G2
 | [],_=>wh a
 | p::G1,h=>(wo (by rw[h p (.head _)];nofun)).trans (wv (p::·) (qO a λp b=>h p (.tail _ b)))
theorem qN{k r:D}:∀ {G:vR (D×vR D)},(∀ p∈G,aU p.1 k=vP)->t7 k r G=G++[(k,[r])]
 | [],_=>rfl
 | p::G,h=>(wo (by rw[h p (.head _)];nofun)).trans (wv (p::·) (qN λp a=>h p (.tail _ a)))
theorem qX{k:D}{q:D×v8×vR D}{G2:GL}(a:aU q.1 k=vT):∀ {G1:GL},(∀ p∈G1,aU p.1 k=vP)->lM (GL.k (G1++q::G2)) (GL.p (G1++q::G2)) k=ac (.ptr q.2.1)
 | [],_=>wh a
 | p::G1,h=>(wo (by rw[h p (.head _)];nofun)).trans (qX a λp b=>h p (.tail _ b))
theorem qV{k d:D}:∀ {G:GL},(∀ p∈G,aU p.1 k=vP)->cL G.k G.p k d=(G.k++[k],G.p++[d])
 | [],_=>rfl
 | p::G,h=>(wo (by rw[h p (.head _)];nofun)).trans (by
  show (p.1::(cL (GL.k G) (GL.p G) k d).1,D.ptr p.2.1::(cL (GL.k G) (GL.p G) k d).2)=_;rw[qV λp a=>h p (.tail _ a)];rfl)
theorem qc{k:D}:∀ {G:GL},(G.k.any λx=>aU x k)=vT->∃ G1 q G2,G=G1++q::G2/\aU q.1 k=vT/\∀ p∈G1,aU p.1 k=vP
 | p::G,h=>by
  cases a:aU p.1 k with
  | true=>exact⟨[],p,G,QQ,a,λZ q=>nomatch q⟩
  | false=>
   have h':(aU p.1 k||(GL.k G).any λx=>aU x k)=vT:=h
   rw[a] at h';obtain⟨G1,q,G2,e,h1,b⟩:=qc (G:=G) h';exact⟨p::G1,q,G2,wv (p::·) e,h1,λx c=>(wf.mp c).elim (λe=>e▸a) (b x)⟩
theorem none_of_any{k:D}{G:GL}(h:(G.k.any λx=>aU x k)=vP):∀ p∈G,aU p.1 k=vP:=λp a=>by
 cases e:aU p.1 k with
 | false=>rfl
 | true=>exact wI e (List.any_eq_false.mp h p.1 (wz.mpr ⟨p,a,QQ⟩))
structure GS(N:Nat)(B6:St)(G:GL)(B7:Own)(σ:St):Prop where
 tk:∀ q∈G,q.1.isTK=vT
 gr:σ.lookup "groups"=ac (vT,.dict G.k G.p)
 gs:∀ i q,G[i]?=ac q->σ.lookup (gh (N+i))=ac (vT,.list q.2.2)/\B7 (gh (N+i))=ac q.2.1
 sm:∀ x∈ij,σ.lookup x=B6.lookup x
theorem mQ{k:D}{G:GL}(a:k.isTK=vT)(h:∀ q∈G,q.1.isTK=vT):cJ k G.k=vT:=by
 unfold cJ;rw[a,show (GL.k G).all D.isTK=vT from wQ.mpr λd b=>(wz.mp b).elim λq z=>z.2▸h q z.1]
 exact Bw _
theorem il{N i:Nat}(a:6<=N):gh (N+i)≠"groups"/\gh (N+i)≠"row"/\gh (N+i)≠"own"/\∀ x∈ij,gh (N+i)≠x:=
 have b:6<=N+i:=v6 a (wB _ _)
 have l:∀ x:vV,x.toList.length<=6->gh (N+i)≠x:=λx h=>gh_ne (v6 h b)
 ⟨l _ (by decide),l _ (by decide),l _ (by decide),λx c=>l x ((by decide:∀ x∈ij,x.toList.length<=6) x c)⟩
theorem GS.other{N:Nat}{B6 σ BJ:St}{G:GL}{B7 BX:Own}(b:6<=N)(g:GS N B6 G B7 σ)(h:∀ x,x≠"row"->x≠"own"->(BX x=B7 x\/x∈ij)/\BJ.lookup x=σ.lookup x):GS N B6 G BX BJ where
 tk:=g.tk
 gr:=(h _ (by decide) (by decide)).2.trans g.gr
 gs:=λi q e=>have z:=il (i:=i) b;have y:=h _ z.2.1 z.2.2.1;⟨y.2.trans (g.gs i q e).1,(y.1.elim id λq=>wI QQ (z.2.2.2 _ q)).trans (g.gs i q e).2⟩
 sm:=λx a=>(h x (by rintro rfl;exact wI a (by decide)) (by rintro rfl;exact wI a (by decide))).2.trans (g.sm x a)
section
variable {B9:wq} {w:wy} {A:wt} {B3:Heap} {mg mb:Str->vY vU} {cf:CF}
variable {s:vZ} {BS:Heap} {BM:Env} {B1:v8->Prop} {B7:Own} {m:Str->vY vU} {σ B6:St} {E:vU->vZ->Prop} {N n:Nat} {G G1 G2:GL} {pl k dv:D} {GF:vR (D×vR D)} {B5:vR D}
theorem grp_new(Z:Cx B9 w A B3 mg mb cf){L M v:wi}{Cp pos:Pos}(Cg:6<=N)(T:∀ i,N<=i->BM.kindOf (vQ (gh i))=wa)(U:aC BM.kindOf L (.u "groups")=vT)(V:aC BM.kindOf M (.u "own")=vT)(X:aC BM.kindOf v (.lst [])=vT)
  (S:aP w B3 BS s.heap BM B1 B7 m σ) (g:GS N B6 G B7 σ) (Ch:k.isTK=vT) (Cq:σ.lookup "own"=ac (vP,k)) (Y:∀ p∈G,aU p.1 k=vP) (Cr:G.length<big) {Q:yY->vZ->Prop}
  (K:∀ h tk dw BX m' BJ b,aP w B3 BS h BM B1 BX m' BJ->Tr s.heap BM B7 h BX->GS N B6 (G++[(k,b,[])]) BX BJ->(∀ x,x≠"groups"->(∀ i,x≠gh (N+i))->BJ.lookup x=σ.lookup x)->Q .next { s with heap:=h,toks:=tk,drawn:=dw }) :
  wpAny (wc B9 w) A (yj (.Assign [.Subscript L M Cp] v pos) BM) Q E s:=by
 refine wpAny_Assign_Subscript (uE Z S X (d:=.list []) (fr:=vT) QQ λu BV f j t Ci y=>?_) (by cases v <;> rfl)
 replace y:=y QQ;obtain @⟨b,hb,o⟩:=y;rw[show (ME.lst []).names=[] from rfl,mL] at o Ci;have Cs:=cM.off o Ci;have H:=S.adopt (T _ (wB N G.length)) t hb (λq=>Cs (.inl q)) o
 have z:=il (i:=G.length) Cg;have I:∀ x,x≠gh (N+G.length)->(ax σ (gh (N+G.length)) (vT,D.list [])).lookup x=σ.lookup x:=λx B=>by rw[aE,wo B]
 have Cj:(ax σ (gh (N+G.length)) (vT,D.list [])).lookup "groups"=ac (vT,.dict G.k G.p):=(I _ z.1.symm).trans g.gr;have lo:(ax σ (gh (N+G.length)) (vT,D.list [])).lookup "own"=ac (vP,k):=(I _ z.2.2.1.symm).trans Cq;refine (H.owned _ _ Cj).elim λO C=>(H.plain _ _ lo).elim λCA Ck=>?_
 refine pR.rec (motive:=λL BF=>wpAny _ _ (wM L BM) _ _ _) (λCa=>ew (s:={ s with heap:=BV,toks:=f,drawn:=j }) H.rep Ca C.2.1 ?_) (fj U)
 refine pR.rec (motive:=λM BF=>wpAny _ _ (wM M BM) _ _ _) (λCb=>ew (s:={ s with heap:=BV,toks:=f,drawn:=j }) H.rep Cb Ck.1 ?_) (fj V)
 have Ct:∀ c,Hot BM B1 (B7.set (gh (N+G.length)) (ac b)) c\/c=O->Hot BM B1 (B7.set (gh (N+G.length)) (ac b)) c:=λc z=>z.elim id λz=>z▸.inr (.inr ⟨_,C.1⟩)
 refine lm (s:={ s with heap:=BV,toks:=f,drawn:=j }) (d:=.ptr b) Z.hu.u1 C.2.2 (Ck.2.sub Ct) QQ (mQ Ch g.tk) (by unfold GL.k;rw[v9];exact Cr) λh' tk dw Cd n=>?_
 rw[qV Y] at n;have Cu:=H.turn Cj C.1 Cd (d:=.dict _ _) n;have Cm:∀ o,BV.get? O=ac o->bn o=vP:=cM.notTab (d:=.dict _ _) C.2.2;have Cn:∀ x,x≠gh (N+G.length)->B7.set (gh (N+G.length)) (ac b) x=B7 x:=λx B=>wo B
 have J:B7 "groups"=ac O:=(Cn _ z.1.symm).symm.trans C.1;refine K h' tk dw _ _ _ b Cu ⟨λc o e BF Cv=>g1 Cd Cm c (λq=>Cv _ (q▸J)) (t c o e),λc o e=>(Classical.em (c=O)).elim (λq=>q▸cM.ex (d:=.dict _ _) n) λq=>⟨o,g1 Cd Cm c q (t c o e)⟩,λx a e=>dI e (λBF q=>.inr (v5 q▸hb)) λBF q=>.inl q⟩ ⟨?_,?_,?_,?_⟩ λx h1 Cw=>?_
 ·exact λq Ce=>(xa.mp Ce).elim (g.tk q) λCe=>wl.mp Ce▸Ch
 ·rw[aE,wh rfl];unfold GL.k GL.p;rw[wS,wS];rfl
 ·intro i q e
  have Cy:=il (i:=i) Cg;rw[aE,wo Cy.1]
  by_cases Cf:i<G.length
  ·rw[yT Cf] at e
   have Co:gh (N+i)≠gh (N+G.length):=λq=>wU Cf (Nat.add_left_cancel (u8 q))
   exact⟨(I _ Co).trans (g.gs i q e).1,(Cn _ Co).trans (g.gs i q e).2⟩
  ·have Cz:i=G.length:=by
    have:=(List.getElem?_eq_some_iff.mp e).1;rw[wn] at this;exact AC (Nat.lt_succ_iff.mp this) (yS.mp Cf)
   subst Cz;rw[xG (wF _),AB] at e;rw[<- v5 e,aE,wh rfl];exact⟨QQ,wh QQ⟩
 ·intro x B
  rw[aE,wo (by rintro rfl;exact wI B (by decide))]
  exact (I x λq=>z.2.2.2 x B q.symm).trans (g.sm x B)
 ·rw[aE,wo h1];exact I x (Cw _)
theorem grp_app(Z:Cx B9 w A B3 mg mb cf){f a:wi}{Cf cp pos:Pos}(Cg:6<=N)(O:aC BM.kindOf f (.sub (.u "groups") (.u "own"))=vT)(T:aC BM.kindOf a (.u "row")=vT)(G:(Cf.endLine == cp.line)=vT){q:D×v8×vR D}
  (S:aP w B3 BS s.heap BM B1 B7 m σ) (g:GS N B6 (G1++q::G2) B7 σ) (Cn:k.isTK=vT) (Co:σ.lookup "own"=ac (vP,k)) (Cp:σ.lookup "row"=ac (vP,dv)) (Cq:aU q.1 k=vT) (Y:∀ p∈G1,aU p.1 k=vP) (Cr:q.2.2.length<big) {Q:yY->vZ->Prop}
  (K:∀ h tk dw BJ,aP w B3 BS h BM B1 B7 m BJ->Tr s.heap BM B7 h B7->GS N B6 (G1++(q.1,q.2.1,q.2.2++[dv])::G2) B7 BJ->Q .next { s with heap:=h,toks:=tk,drawn:=dw }) :
  wpAny (wc B9 w) A (yj (.Expr (.Call (.Attribute f (vQ "append") Cf) [a] [] cp) pos) BM) Q E s:=by
 have Cs:evE cf (vis σ) (.sub (.u "groups") (.u "own"))=ac (.ptr q.2.1):=by
  rw[u9,fI,fI,bS,bS,g.gr,Co];exact (wh (mQ Cn g.tk)).trans (qX Cq Y)
 have H:=g.gs G1.length q (by rw[xG (wF _),AB];rfl)
 have t:yO [a] BM=[(vP,wM a BM)]:=fN T;have U:attributeBase f (vQ "append") BM (wM f BM)=wM f BM:=(lZ O).rec λBF BF BF=>QQ
 refine Bi (wpAny_Call_append U (by rw[t];rfl) G (by rw[t];rfl) (i9 Z S O Cs λu BV I J V Ca=>?_)) (by unfold AS;rw[S.rep.kind];rfl) QQ
 have Ca:u=.ref q.2.1:=Ca;subst Ca;have X:=S.keeps V;have o:gI w.params BV (Hot BM B1 B7) q.2.1 q.2.2:=X.ownAt H.1 H.2;refine o.rec λ{vs n} o1 o2 Ch=>⟨q.2.1,vs,QQ,⟨_,n,o1,QQ,QQ,QQ⟩,?_⟩
 refine (X.plain _ _ Cp).elim λCb Ci=>pR.rec (motive:=λa BF=>wpAny _ _ (wM a BM) _ _ _) (λCd=>ew (s:={ s with heap:=BV,toks:=I,drawn:=J }) X.rep Cd Ci.1 ?_) (fj T)
 refine zO (items:=vs) ⟨n,o1⟩ (λBQ L y=>?_) (Ch.size.symm▸o2)
 have B:∃ Cj,BQ.get? q.2.1=ac (fF (vs.push Cb) Cj):=L;have Ck:Mv q.2.1 BV BQ:=λb o U e=>g1 y (bI o1) b U e
 have Ct:∀ c,Hot BM B1 B7 c\/c=q.2.1->Hot BM B1 B7 c:=λc z=>z.elim id λz=>z▸.inr (.inr ⟨_,H.2⟩)
 have C:gI w.params BQ (Hot BM B1 B7) q.2.1 (q.2.2++[dv]):=B.elim λCj Cu=>⟨Cu,by rw[wn];exact Cr,by
  rw[zg];exact (Ch.append (.cons (Ci.2.sub Ct) .nil)).mono (λb o Cv e=>Ck b o (λq=>Cv (.inr q)) e) λBF BF BF q=>q⟩
 refine K BQ _ _ _ (X.turn H.1 H.2 y (d:=.list _) C) (oU (λBF BF e=>e) V H.2 (λb U BF e=>Ck b _ U e) (cM.ex (d:=.list _) C)) ⟨?_,?_,?_,?_⟩
 ·exact λp M=>(xa.mp M).elim (λM=>g.tk p (yy _ M)) λM=>(wf.mp M).elim (λe=>e▸g.tk q (xP _ (.head _))) λM=>g.tk p (xP _ (.tail _ M))
 ·rw[aE,wo (il Cg).1.symm,g.gr];unfold GL.k GL.p;rw[wS,wS,wS,wS];rfl
 ·intro i p e
  by_cases Ce:i=G1.length
  ·subst Ce
   rw[xG (wF _),AB] at e;rw[<- v5 e,aE,wh rfl];exact⟨QQ,H.2⟩
  ·have Cw:(G1++q::G2)[i]?=ac p:=by
    rw[<- e]
    by_cases h:i<G1.length
    ·rw[yT h,yT h]
    ·have h':=Nat.lt_of_le_of_ne (yS.mp h) (Ne.symm Ce)
     rw[xG (yS.mp h),xG (yS.mp h)];obtain⟨j,Cy⟩:=Nat.exists_eq_succ_of_ne_zero (Nat.sub_ne_zero_of_lt h');rw[Cy];rfl
   rw[aE,wo λq=>Ce (Nat.add_left_cancel (u8 q))]
   exact g.gs i p Cw
 ·intro x Cm
  rw[aE,wo λq=>(il Cg).2.2.2 x Cm q.symm]
  exact g.sm x Cm
end
theorem look_settle{d:D}{ns:vR vV}{σ:St}{x:vV}(h:x ∉ ns\/∃ e,σ.lookup x=ac (vP,e)):(settle d ns σ).lookup x=σ.lookup x:=by
 unfold settle;cases d.scalar with
 | true=>rfl
 | false=>
  show (freeze ns σ).lookup x=_;rw[aZ]
  rcases h with h | ⟨e,h⟩
  ·have:ns.contains x=vP:=zV.mpr λq=>h (xi.mp q)
   rw[this];cases σ.lookup x with
   | none=>rfl
   | some p=>exact wv ac (Bv (Bool.and_true _) QQ)
  ·rw[h];rfl
theorem grpD_inv{cf:CF}{pl dv:D}{B5:vR D}{G GF:vR (D×vR D)}{C:Prop}(h:lJ cf pl (dv::B5) G=ac GF)(K:∀ k,cf.call "cells_at" [dv,pl]=ac (k,vP)->k.isTK=vT->lJ cf pl B5 (t7 k dv G)=ac GF->C):C:=by
 rw[lJ] at h;cases e:cf.call "cells_at" [dv,pl] with
 | none=>rw[e] at h;exact ag h
 | some p=>
  rw[e] at h;obtain⟨k,fr⟩:=p;refine bK h λa h=>bQ a λh1 b=>?_
  cases fr with
  | true=>cases b
  | false=>exact K k e h1 h
inductive GJ(cf:CF)(pl:D)(GF:vR (D×vR D))(N n:Nat)(B6:St)(B5:vR D)(B7:Own)(σ:St):Prop
 | mk (G:GL) (g:GS N B6 G B7 σ) (go:lJ cf pl B5 G.v=ac GF) (ln:∀ q∈G,q.2.2.length+B5.length<=n) (lg:G.length+B5.length<=n)
theorem v_no{k:D}{G:GL}(h:∀ p∈G,aU p.1 k=vP):∀ p∈G.v,aU p.1 k=vP:=λp a=>(wz.mp a).elim λb z=>z.2▸h b z.1
theorem keyEq_self{k:D}(h:k.isTK=vT):aU k k=vT:=(pY h).elim λc e=>e▸(jS c c).trans (xF QQ)
section
variable {B9:wq} {w:wy} {A:wt} {B3:Heap} {mg mb:Str->vY vU} {cf:CF}
variable {BS:Heap} {BM:Env} {B6:St} {N n:Nat} {pl:D} {GF:vR (D×vR D)}
theorem tx(Z:Cx B9 w A B3 mg mb cf){s:vZ}{BO:v8->Prop}{B7 BX:Own}{m':Str->vY vU}{BJ:St}{f:wZ}{k dv:D}{B5:vR D}{q:D×v8×vR D}{G1 G2:GL}{h:Heap}{tk:Nat}{dw:zK}{E:vU->vZ->Prop}(G:6<=N)(H:n<=big)(c3:grp3 BM.kindOf f=vT)(I:k.isTK=vT)
  (S:aP w B3 BS h BM BO BX m' BJ) (t:Tr s.heap BM B7 h BX) (g:GS N B6 (G1++q::G2) BX BJ) (J:BJ.lookup "own"=ac (vP,k)) (L:BJ.lookup "row"=ac (vP,dv)) (M:aU q.1 k=vT) (i:∀ p∈G1,aU p.1 k=vP)
  (go:lJ cf pl B5 (G1.v++(q.1,q.2.2++[dv])::G2.v)=ac GF) (j:∀ p∈G1++q::G2,p.2.2.length+(dv::B5).length<=n) (y:(G1++q::G2).length+B5.length<=n) :
  wpAny (wc B9 w) A (zA [f] BM) (fu w B3 BS BM BO s B7 (GJ cf pl GF N n B6) (λBF BF BF=>False) B5) E { s with heap:=h,toks:=tk,drawn:=dw }:=
 fY (C:=λf=>wpAny (wc B9 w) A (zA [f] BM) (fu w B3 BS BM BO s B7 (GJ cf pl GF N n B6) (λBF BF BF=>False) B5) E { s with heap:=h,toks:=tk,drawn:=dw }) c3 λv p c=>dE (e:=v) c λm O ks cp c=>bQ c λT c=>gT (l:=ks) T (cC (l:=O) c λa c=>oK (e:=m) c λz U Cb c=>nH c λc1=>eqb (a:=U) c1 λc2 c3 V=>
  have B:=j q (xP _ (.head _))
  w9 (grp_app (s:={ s with heap:=h,toks:=tk,drawn:=dw }) Z G c3 V c2 S g I J L M i (wJ (wJ (yd (xH _)) B) H) λh' tk dw o X Y Ca=>yN λQ u BF=>
   u h' tk dw BX m' o (.mk _ Ca (by unfold GL.v at go ⊢;rw[wS];exact go) (λp b=>(xa.mp b).elim (λb=>v6 (wW (xR _) _) (j p (yy _ b))) λb=>(wf.mp b).elim (λe=>by
     rw[e,wn];exact v6 (wD (yb _ 1 _)) (v6 (wD (by rw[xS 1];rfl)) B)) λb=>v6 (wW (xR _) _) (j p (xP _ (.tail _ b))))
    (by rw[wn] at y ⊢;exact y)) (t.trans Y) X))
theorem grp_body(Z:Cx B9 w A B3 mg mb cf)(H:6<=N)(Ca:∀ i,N<=i->BM.kindOf (vQ (gh i))=wa)(Cb:n<=big)(Cd:B6.lookup "places"=ac (vP,pl)){T J U:wZ}(c1:grp1 BM.kindOf T=vT)(c2:grp2 BM.kindOf J=vT)(c3:grp3 BM.kindOf U=vT) :
  se B9 w A B3 BS BM "row" (GJ cf pl GF N n B6) (λBF BF BF=>False) [T,J,U]:=λs BO B7 m σ dv B5 E CA S BF=>by
 refine aR (Q:=fu w B3 BS BM BO s (B7.set "row" wa) (GJ cf pl GF N n B6) (λBF BF BF=>False) B5) ?_ λBF BF q=>jpost_nf q
 obtain⟨G,g,go,Cr,V⟩:=CA;refine grpD_inv go λk I L go=>?_
 have Cs:GS N B6 G (B7.set "row" wa) (ax σ "row" (vP,dv)):=g.other H λx h1 BF=>⟨.inl (wo h1),by rw[aE,wo h1]⟩
 have lp:(ax σ "row" (vP,dv)).lookup "places"=ac (vP,pl):=(Cs.sm _ (by decide)).trans Cd
 have Ce:(ax σ "row" (vP,dv)).lookup "row"=ac (vP,dv):=by rw[aE,wh rfl]
 have CB:evF cf (vis (ax σ "row" (vP,dv))) (.call "cells_at" [.u "row",.u "places"])=ac (k,vP):=by
  rw[fU,dO,dO,evs_nil,fI,fI,bS,bS,Ce,lp];exact I
 refine kq.rec (motive:=λT BF=>wpAny (wc B9 w) A (zA [T,J,U] BM) _ E s) (λ{p v pos} Cf Ct=>?_) (jo (x:="own") (e:=.call "cells_at" [.u "row",.u "places"]) c1)
 refine w9 (ki Z Cf Ct S CB ((oq Ct).swap QQ _ _ _) λu h tk dw X Cu=>?_)
 generalize t:ax (settle k (ME.call "cells_at" [.u "row",.u "places"]).names (ax σ "row" (vP,dv))) "own" (vP,k)=j at X;generalize Cg:(dn (B7.set "row" wa) k (ME.call "cells_at" [.u "row",.u "places"]).names).set "own" (pg vP u)=y at X Cu;have Ch:∀ x,x≠"own"->x="row"\/x="places"\/(x≠"row"/\x≠"places")->j.lookup x=(ax σ "row" (vP,dv)).lookup x:=λx h1 a=>by
  rw[<- t,aE,wo h1];exact look_settle (a.elim (λe=>.inr ⟨dv,e▸Ce⟩) λa=>a.elim (λe=>.inr ⟨pl,e▸lp⟩) λa=>.inl λq=>eP (show x∈["row","places"] from q) a.1 a.2)
 have Y:GS N B6 G y j:=Cs.other H λx h1 a=>by
  by_cases z:x="places"
  ·exact⟨.inr (z▸by decide),Ch x a (.inr (.inl z))⟩
  ·refine⟨.inl ?_,Ch x a (.inr (.inr ⟨h1,z⟩))⟩
   rw[<- Cg];refine (wo a).trans ?_;unfold dn
   split
   ·rfl
   ·exact wo λq=>eP (show x∈["row","places"] from q) h1 z
 have o:j.lookup "own"=ac (vP,k):=by rw[<- t,aE,wh rfl]
 have M:j.lookup "row"=ac (vP,dv):=(Ch _ (by decide) (.inl QQ)).trans Ce
 refine tN (C:=λJ=>wpAny (wc B9 w) A (zA [J,U] BM) _ E _) c2 λCQ CC o2 CR c=>fL c λCi Cj c=>gT (l:=o2) Cj (cC (l:=CC) c λCD c=>?_)
 have Ck:evE cf (vis j) (.cmp .NotIn (.u "own") (.u "groups"))=ac (.bool (!(G.k.any λx=>aU x k))):=by
  rw[rZ,fI,fI,bS,bS,o,Y.gr];show (kK k (.dict G.k G.p)).map (λx=>D.bool (!x))=_
  rw[show kK k (.dict G.k G.p)=ac (G.k.any λx=>aU x k) from wh (mQ L Y.tk)];rfl
 refine w9 (wpAny_If (sG (s:={ s with heap:=h,toks:=tk,drawn:=dw }) Z X Ci Ck QQ λa Cm Cn O=>?_))
 have Cv:=X.keeps O;have tb:Tr s.heap BM (B7.set "row" wa) a y:=Cu.trans (.keeps O);cases B:G.k.any λx=>aU x k with
 | true=>
  obtain⟨G1,q,G2,e,Cw,f⟩:=qc B;subst e;refine yN (tx Z H Cb c3 L Cv tb Y o M Cw f ?_ Cr (v6 (wW (xR _) _) V));have e:GL.v (G1++q::G2)=GL.v G1++(q.1,q.2.2)::GL.v G2:=by unfold GL.v;rw[wS];rfl
  rw[e,qO (q:=(q.1,q.2.2)) Cw (v_no f)] at go;exact go
 | false=>
  have f:=none_of_any B;rw[wh (show (!vP)=vT from rfl)];refine iE c λCE v pos c=>?_
  refine cC (l:=CE) c λCG c=>?_
  refine kc (e:=CG) c λCS CT CU c=>fL c λCo Cp Cq=>?_
  have CH:G.length<n:=wJ (yd (xH _)) V;refine w9 (grp_new (s:={ s with heap:=a,toks:=Cm,drawn:=Cn }) Z H Ca Co Cp Cq Cv Y L o f (wJ CH Cb) λCV CJ CL Cy CW CM b CN CO CP Cz=>yN ?_)
  refine tx (q:=(k,b,[])) (G2:=[]) Z H Cb c3 L CN (tb.trans CO) CP ((Cz _ (by decide) λi=>(il H).2.2.1.symm).trans o) ((Cz _ (by decide) λi=>(il H).2.1.symm).trans M) (keyEq_self L) f ?_ (λp z=>(xa.mp z).elim (Cr p) λz=>?_) ?_
  ·rw[qN (v_no f)] at go
   exact go
  ·rw[wl.mp z]
   exact v6 (xc (ww _) _) V
  ·rw[wn]
   exact v6 (wD (by rw[yb,xS [_].length];rfl)) V
theorem ptrs_lists{P:wT}{h:Heap}{H:v8->Prop}{G:GL}{l:vR vU}(a:∀ q∈G,Rep P h H (.ref q.2.1) (.list q.2.2))(r:am P h H l G.p):am P h H l (G.map λq=>.list q.2.2):=by
 induction G generalizing l with
 | nil=>exact r
 | cons q G b=>
  cases r with
  | mk h1 c=>
   have h1:_=Value.ref q.2.1:=h1;subst h1;exact .cons (a q (.head _)) (b (λq f=>a q (.tail _ f)) c)
theorem ly{σ:St}{x:vV}{p:v7×D}(e:(σ.filter λp=>ij.contains p.1).lookup x=ac p):x∈ij/\σ.lookup x=ac p:=by
 induction σ with
 | nil=>cases e
 | cons q σ b=>
  rw[List.filter_cons] at e;rw[wk];cases c:x == q.1 with
  | true=>
   have e1:=eq_of_beq c;cases a:ij.contains q.1 with
   | true=>
    rw[a,wh rfl,wk,c] at e;exact⟨e1▸xi.mp a,e⟩
   | false=>
    rw[a,wo wO] at e;have:=(b e).1;rw[e1,<- xi,a] at this;cases this
  | false=>
   split at e
   ·rw[wk,c] at e;exact b e
   ·exact b e
theorem grp_end{s:vZ}{h:Heap}{B1:v8->Prop}{B7:Own}{m:Str->vY vU}{σ:St}(B:6<=N){B5:vR D}(C:B5=[])(J:GJ cf pl GF N n B6 B5 B7 σ)(S:aP w B3 BS h BM B1 B7 m σ) :
  ∃ BX,(∀ x a,BX x=ac a->B7 x=ac a)/\aP w B3 BS h BM B1 BX m (u6 B6 GF):=by
 subst C;obtain⟨G,g,go,_,_⟩:=J;have go:G.v=GF:=v5 go;subst go;have f:=S.freeze ("groups"::(wR G.length).map λi=>gh (N+i))
 have b:∀ x∈ij,x ∉ "groups"::(wR G.length).map λi=>gh (N+i):=λx b q=>(wf.mp q).elim (λe=>wI (e▸b:"groups"∈ij) (by decide)) λq=>(wz.mp q).elim λi z=>(il B).2.2.2 x b z.2
 generalize j:"groups"::(wR G.length).map (λi=>gh (N+i))=ns at f b
 have u:∀ x∈ns,∀ d,σ.lookup x=ac (vT,d)->(freeze ns σ).lookup x=ac (vP,d):=λx b d e=>by rw[aZ,e,AH,xi.mpr b];rfl
 have c:∀ q∈G,Rep w.params h (Hot BM B1 (B7.less ns)) (.ref q.2.1) (.list q.2.2):=λq E=>by
  obtain⟨i,A,e⟩:=zt E;have o:=g.gs i q (e▸wj A);obtain⟨v,h1,t⟩:=f.plain _ _ (u _ (j▸.tail _ (wz.mpr ⟨i,yV.mpr A,QQ⟩)) _ o.1);obtain⟨a,H,I,_⟩:=S.owned _ _ o.1;have L:a=q.2.1:=v5 (H.symm.trans o.2);exact L▸v5 (h1.symm.trans I)▸t
 obtain⟨v,M,O⟩:=f.plain _ _ (u "groups" (j▸.head _) _ g.gr);have T:Rep w.params h (Hot BM B1 (B7.less ns)) v (.dict (G.v.map (·.1)) (G.v.map λq=>.list q.2)):=by
  have e1:G.v.map (·.1)=G.k:=by unfold GL.v GL.k;rw[wX];rfl
  have U:G.v.map (λq=>D.list q.2)=G.map λq=>.list q.2.2:=by unfold GL.v;rw[wX];rfl
  rw[e1,U];exact nU.rec (motive:=λv BF=>nU w.params h (Hot BM B1 (B7.less ns)) G.k _ _ v) (λV X Y h1 t Z Ca Cb Cd=>.mk V X Y h1 (ptrs_lists c t) Z Ca Cb Cd) O
 refine⟨B7.less ns,λBF BF=>dK,{ f with plain:=λy d e=>iN e (λCe ep=>?_) λBF e=>?_,owned:=λy d e=>iN e (λBF ep=>nomatch (wY ep).1) λBF e=>?_ }⟩
 ·exact⟨v,Ce▸M,(wY ep).2▸T⟩
 ·have q:=ly e
  refine f.plain y d ?_;rw[aZ,(g.sm y q.1).trans q.2];rfl
 ·have q:=ly e
  refine f.owned y d ?_;rw[aZ,(g.sm y q.1).trans q.2,AH,show ns.contains y=vP from zV.mpr λz=>b y q.1 (xi.mp z)];rfl
theorem isNew_inv{o:vY (v7×D)}(h:isNew o=vT):o=ac (vT,.dict [] []):=by
 cases o with
 | none=>cases h
 | some p=>
  obtain⟨b,d⟩:=p;cases b with
  | false=>cases h
  | true=>
   cases d with
   | dict ks vs=>
    cases ks with
    | cons=>cases h
    | nil=>
     cases vs with
     | cons=>cases h
     | nil=>rfl
   | _=>cases h
theorem xi_grp{σ:St}{r:Fl×St}{C:Prop}(h:exS cf .grp σ=ac r)(K:∀ b pl GF,σ.lookup "rows"=ac (vP,.list b)->σ.lookup "places"=ac (vP,pl)->σ.lookup "groups"=ac (vT,.dict [] [])->lJ cf pl b []=ac GF->(.next,u6 σ GF)=r->C):C:=by
 rw[uh] at h;cases a:u5 cf σ with
 | none=>rw[a] at h;exact ag h
 | some BJ=>
  rw[a] at h;unfold u5 at a;split at a
  ·split at a
   ·exact bK a λh1 a=>br a λGF c e=>K _ _ GF ‹_› ‹_› (isNew_inv h1) c (e▸v5 h)
   ·cases a
  ·cases a
theorem ss_grp(Z:Cx B9 w A B3 mg mb cf):SS B9 w A B3 cf .grp:=λs BM st B1 BS B7 m σ r E Ce S H=>xi_grp H λL pl GF j M N Cf Cg=>by
 obtain⟨Y,O⟩:=gh_fresh BM.scope.names;have Ca:6<=max Y 6:=yZ _ _;have T:∀ i,max Y 6<=i->BM.kindOf (vQ (gh i))=wa:=λi Ch=>O i (v6 (y9 _ _) Ch)
 have Ci:evE cf (vis σ) (.u "rows")=ac (.list L):=by rw[fI,bS,j];rfl
 have B:L.length<=big:=(S.plain _ _ j).elim λv q=>q.2.listE (C:=λBF=>L.length<=big) λBF BF BF BF BF Cj BF=>Cj
 have Ck:∀ x d,σ.lookup x=ac (vP,d)->(freeze ["rows"] σ).lookup x=ac (vP,d):=λx d e=>by rw[aZ,e];rfl
 have Cb:∀ x,x≠"rows"->(freeze ["rows"] σ).lookup x=σ.lookup x:=λx Cm=>by
  rw[aZ,show["rows"].contains x=vP from zV.mpr λq=>Cm (wl.mp (xi.mp q))]
  cases σ.lookup x with
  | none=>rfl
  | some p=>exact wv ac (Bv (Bool.and_true _) QQ)
 have Cn:∀ x∈ij,(freeze ["rows"] σ).lookup x=σ.lookup x:=λx BF=>(Classical.em (x="rows")).elim (λe=>e▸(Ck _ _ j).trans j.symm) (Cb x)
 refine Cg▸nC (C:=λst=>wpAny (wc B9 w) A (yj st BM) (bE w B3 BS BM B1 s B7 (.next,u6 σ GF)) E s) Ce λt Cw b o p c=>bQ c λCo c=>gT (l:=o) Co (bw (e:=t) c λy Cy c=>nG c λc1=>eqb (a:=y) c1 λU G V c=>c3_inv (l:=b) c λCz CA CB c=>fL c λCp Cq Cr=>
  aR (im (ns:=["rows"]) (grp_body (BS:=BS) (GF:=GF) Z Ca T B (B6:=σ) M Cp Cq Cr) S U G (λQ k=>i9 Z S V Ci λu BV n z Cs Ct=>iI (ig (s:={ s with heap:=BV,toks:=n,drawn:=z }) Ct Z.hh QQ) λI h tk dw X fr ex W=>k I BV h tk dw Cs X fr ex W)
   (.mk [] ⟨λBF q=>(nomatch q),(Cb _ (by decide)).trans N,λi q e=>(by rw[zR] at e;cases e),Cn⟩ Cf (λBF q=>nomatch q) (wD (x9 _)))) λf s' q=>?_)
 refine q _ (λh tk dw BX m' BJ J t Cu=>?_) λBF BF BF BF BF BF BF k=>k.elim
 obtain⟨Cd,h1,Cv⟩:=grp_end (s:=s) Ca QQ J Cu;exact bE.nx (t.trans (.of (λBF BF e=>e) h1)) Cv
end
section
variable {B9:wq} {w:wy} {A:wt} {B3:Heap} {mg mb:Str->vY vU} {cf:CF}
theorem rn(Z:Cx B9 w A B3 mg mb cf)(j:MS):SS B9 w A B3 cf j:=
 MS.rec (motive_1:=SS B9 w A B3 cf) (motive_2:=SSs B9 w A B3 cf) (λx e=>ss_assign Z x e) (λx e=>ss_append Z x e) (λx k e=>ss_setk Z x k e) (λc t f n o=>ss_ite Z n o) (λx BH body h=>ss_for Z h) (λe=>ss_ret Z e)
  (λs BM st B1 BS B7 m σ r E i S b=>ag b)
  (ss_grp Z)
  (λx BH body h=>ss_forr Z h)
  (λe=>ss_expr Z e)
  (λY Y s BM st B1 BS B7 m σ r E i S b=>ag b) (λY Y Y s BM st B1 BS B7 m σ r E i S b=>ag b) (λY Y s BM st B1 BS B7 m σ r E i S b=>ag b)
  oX (λa r q u=>mt q u) j
theorem all_Ss(Z:Cx B9 w A B3 mg mb cf)(b:vR MS):SSs B9 w A B3 cf b:=List.rec (motive:=SSs B9 w A B3 cf) oX (λa r c=>mt (rn Z a) c) b
end
structure FrA(A:wt)(BM:Env)(l:vR Env)(BS:Heap):Prop where
 fr:A.frames=ac (BM::l)
 loc:BM.frame=ac BM.locals
 ok:gj BS l
theorem FrA.at{A:wt}{BM:Env}{l:vR Env}{BS h:Heap}{m:Str->vY vU}(F:FrA A BM l BS)(R:aN h BM m)(a:KH BS h):gj h (BM::l):=
 R.loc.elim λb q=>let ⟨o,es,ep,ho,hd,_⟩:=id q.1;(F.ok.keeps a).cons (by rw[R.kind];nofun) F.loc (Heap.gt_of ho (aO (by rw[hd];nofun))) (by rw[hd];nofun)
section
variable {B9:wq} {w:wy} {A:wt} {B3:Heap} {mg mb:Str->vY vU} {cf:CF} {l:vR Env} {BS:Heap}
noncomputable def RE(B9:wq)(w:wy)(A:wt)(B3:Heap)(mg:Str->vY vU)(cf:CF)(l:vR Env)(BS:Heap)(a:ME):Prop:=
 ∀ (s:vZ) (BM:Env) (e:wi) (H:v8->Prop) (ρ:vR (vV×D)) (m:Str->vY vU) (c:vV) (cv:vU) (E:vU->vZ->Prop) (Q:vU->vZ->Prop),aC BM.kindOf e a=vT->Cc w B3 s BM H ρ m a.names->rzE cf ρ a=ac c->mg (vQ c)=ac cv->FrA A BM l BS->KH BS s.heap ->
  (∀ v s',EP BS BM l cv s v s'->E v s')->wpAny (wc B9 w) A (wM e BM) Q E s
noncomputable def REs(B9:wq)(w:wy)(A:wt)(B3:Heap)(mg:Str->vY vU)(cf:CF)(l:vR Env)(BS:Heap)(a:vR ME):Prop:=
 ∀ (s:vZ) (BM:Env) (es:vR wi) (H:v8->Prop) (ρ:vR (vV×D)) (m:Str->vY vU) (c:vV) (cv:vU) (E:vU->vZ->Prop) (Q:vR vU->vZ->Prop),bM BM.kindOf es a=vT->Cc w B3 s BM H ρ m (eH a)->jK cf ρ a=ac c->mg (vQ c)=ac cv->FrA A BM l BS->KH BS s.heap ->
  (∀ v s',EP BS BM l cv s v s'->E v s')->wpAny (wc B9 w) A (AP (es.map λe=>(vP,wM e BM))) Q E s
theorem EP.kp{BM:Env}{cv:vU}{s BU:vZ}{v:vU}{s':vZ}(k:bj s BU)(x:EP BS BM l cv BU v s'):EP BS BM l cv s v s':=bj.rec (motive:=λBU Z=>EP BS BM l cv BU v s'->EP BS BM l cv s v s') (λh tk dw a x=>x.sh) k x
theorem rei_cons{a:ME}{r:vR ME}{ρ:vR (vV×D)}{c:vV}{C:Prop}(h:jK cf ρ (a::r)=ac c)(k1:∀ d,evE cf ρ a=ac d->jK cf ρ r=ac c->C)(k2:rzE cf ρ a=ac c->C):C:=by
 have h:(match evE cf ρ a with | some _=>jK cf ρ r | none=>rzE cf ρ a)=ac c:=h
 cases e:evE cf ρ a with
 | none=>rw[e] at h;exact k2 h
 | some d=>rw[e] at h;exact k1 d e h
theorem res_cons{a:ME}{r:vR ME}(u:SE B9 w A B3 cf a)(y:RE B9 w A B3 mg cf l BS a)(z:REs B9 w A B3 mg cf l BS r):REs B9 w A B3 mg cf l BS (a::r):=λs BM es H ρ m c cv E Q B cc i j F q t=>
 dh (C:=λes=>wpAny (wc B9 w) A (AP (es.map λe=>(vP,wM e BM))) Q E s) B λn h h1 G=>Calls.spliced_cons (rei_cons i
  (λd I i=>u.go h1 cc.l I λv BU f=>z BU BM h H ρ m c cv E _ G (cc.r.k f.k) i j F (λb o e=>Kp.heap f.k b o (q b o e)) λv s' x=>t v s' (x.kp f.k))
  λi=>y s BM n H ρ m c cv E _ h1 cc.l i j F q t)
theorem rei_call{f:vV}{es:vR ME}{ρ:vR (vV×D)}{c:vV}{C:Prop}(h:rzE cf ρ (.call f es)=ac c)(k1:∀ ds,bk cf ρ es=ac ds->cf.raz f ds=ac c->C)(k2:cf.fn f=vT->jK cf ρ es=ac c->C):C:=by
 have h:(match bk cf ρ es with | some ds=>cf.raz f ds | none=>if cf.fn f=vT then jK cf ρ es else none)=ac c:=h
 cases e:bk cf ρ es with
 | none=>rw[e] at h;exact bK h k2
 | some d=>rw[e] at h;exact k1 d e h
theorem Fly.ep{BM:Env}{cv v:vU}{s s':vZ}(x:Fly s.heap (BM::l) cv s v s')(a:KH BS s.heap):EP BS BM l cv s v s':=Fly.rec (motive:=λv s' Z=>EP BS BM l cv s v s') (λf cv b=>.fly f (cv.old a) (b.old a)) x
theorem re_call(G:GOk mg mb B3)(C:cD B9 w B3 mg cf A){f:vV}{z:vR ME}(N:SEs B9 w A B3 cf z)(O:REs B9 w A B3 mg cf l BS z):RE B9 w A B3 mg cf l BS (.call f z):=λs BM e H ρ m c cv E Q T cc h j F J L=>
 lH.rec (motive:=λe Z=>wpAny (wc B9 w) A (wM e BM) Q E s) (λ{X M pos} u y=>rei_call h
  (λds B i=>(C.raz f ds c i).elim λa q=>q.elim λo q=>q.elim λfd q=>q.elim λI q=>
   PyProof.Rows.Call_Name QQ (Calls.Name_function_global cc.R.kind (be u).1 (Calls.loadGlobal_global (mg:=mg) (cc.R.glob▸Ns.keepAt G.g (cc.hw.keep _)) q.1 (Calls.callWith_function (o:=o) (fd:=fd) (cA y (
    aR (N s BM M H ρ m ds E y cc B) λvs BU n=>n.rec λk r=>⟨⟨Heap.of_gt ((cc.k k).hw.keep _ _ q.2.1) (aO (by rw[q.2.2.1];nofun)),q.2.2.1⟩,
     have t:KH BS BU.heap:=λb o e=>Kp.heap k b o (J b o e)
     have U:I=cv:=v5 (q.2.2.2.1.symm.trans j)
     aR (q.2.2.2.2 _ F.fr BU H vs E (cc.k k).hw r (F.at (cc.k k).R t) λv s' x=>L v s' (EP.kp k (U▸x.ep t))) λZ Z q=>q.elim⟩)))) (by simpa using (be u).2)))
  λV i=>(C.fn f V).elim λa q=>q.elim λo q=>q.elim λfd q=>
   PyProof.Rows.Call_Name QQ (Calls.Name_function_global cc.R.kind (be u).1 (Calls.loadGlobal_global (mg:=mg) (cc.R.glob▸Ns.keepAt G.g (cc.hw.keep _)) q.1 (Calls.callWith_function (o:=o) (fd:=fd) (cA y (
    O s BM M H ρ m c cv E _ y cc i j F J L)))) (by simpa using (be u).2))) (fQ T)
theorem rei_bin{op:xw}{a b:ME}{ρ:vR (vV×D)}{c:vV}{C:Prop}(h:rzE cf ρ (.bin op a b)=ac c)(k1:∀ d,evE cf ρ a=ac d->rzE cf ρ b=ac c->C)(k2:rzE cf ρ a=ac c->C):C:=by
 have h:(match evE cf ρ a with | some _=>rzE cf ρ b | none=>rzE cf ρ a)=ac c:=h
 cases e:evE cf ρ a with
 | none=>rw[e] at h;exact k2 h
 | some d=>rw[e] at h;exact k1 d e h
theorem re_bin{op:xw}{a b:ME}(t:SE B9 w A B3 cf a)(u:RE B9 w A B3 mg cf l BS a)(rb:RE B9 w A B3 mg cf l BS b):RE B9 w A B3 mg cf l BS (.bin op a b):=λs BM e H ρ m c cv E Q y cc h i F n q=>
 IBin.rec (motive:=λe Z=>wpAny (wc B9 w) A (wM e BM) Q E s) (λh1 z=>wpAny_BinOp (rei_bin h
  (λd B j=>t.go h1 cc.l B λv BU f=>rb BU BM _ H ρ m c cv E _ z (cc.r.k f.k) j i F (λb o e=>Kp.heap f.k b o (n b o e)) λv s' x=>q v s' (x.kp f.k))
  λj=>u s BM _ H ρ m c cv E _ h1 cc.l j i F n q)) (pA y)
theorem vn(G:GOk mg mb B3)(C:cD B9 w B3 mg cf A)(i:A.handled=wa)(j:nK A)(q:ME):RE B9 w A B3 mg cf l BS q:=by
 induction q using ME.rec (motive_2:=λn=>SEs B9 w A B3 cf n/\REs B9 w A B3 mg cf l BS n) with
 | bin z a b o u=>exact re_bin (gP G C i j a).e o u
 | call f n h=>exact re_call G C h.1 h.2
 | nil=>exact⟨jJ,λs BM es H ρ m c cv E Q y cc h=>ag h⟩
 | cons a r o t=>exact⟨gZ (gP G C i j a).e t.1,res_cons (gP G C i j a).e o t.2⟩
 | _=>exact λs BM e H ρ m c cv E Q y cc h=>ag h
noncomputable def RS(B9:wq)(w:wy)(A:wt)(B3:Heap)(mg:Str->vY vU)(cf:CF)(l:vR Env)(a:MS):Prop:=
 ∀ (s:vZ) (BM:Env) (st:wZ) (B1:v8->Prop) (BS:Heap) (B7:Own) (m:Str->vY vU) (σ:St) (c:vV) (cv:vU) (E:vU->vZ->Prop) (Q:yY->vZ->Prop),gD BM.kindOf st a=vT->aP w B3 BS s.heap BM B1 B7 m σ->rzS cf a σ=ac c->mg (vQ c)=ac cv->FrA A BM l BS ->
  (∀ v s',EP BS BM l cv s v s'->E v s')->wpAny (wc B9 w) A (yj st BM) Q E s
noncomputable def RSs(B9:wq)(w:wy)(A:wt)(B3:Heap)(mg:Str->vY vU)(cf:CF)(l:vR Env)(a:vR MS):Prop:=
 ∀ (s:vZ) (BM:Env) (b:vR wZ) (B1:v8->Prop) (BS:Heap) (B7:Own) (m:Str->vY vU) (σ:St) (c:vV) (cv:vU) (E:vU->vZ->Prop) (Q:yY->vZ->Prop),dP BM.kindOf b a=vT->aP w B3 BS s.heap BM B1 B7 m σ->et cf a σ=ac c->mg (vQ c)=ac cv->FrA A BM l BS ->
  (∀ v s',EP BS BM l cv s v s'->E v s')->wpAny (wc B9 w) A (zA b BM) Q E s
theorem uD(Z:Cx B9 w A B3 mg mb cf){s:vZ}{BM:Env}{B1:v8->Prop}{B7:Own}{m:Str->vY vU}{σ:St}{e:ME}{v:wi}{c:vV}{cv:vU}{E:vU->vZ->Prop}{Q:vU->vZ->Prop}(S:aP w B3 BS s.heap BM B1 B7 m σ)(b:aC BM.kindOf v e=vT)(h:rzE cf (vis σ) e=ac c)(a:mg (vQ c)=ac cv)(F:FrA A BM l BS)
  (f:∀ v s',EP BS BM l cv s v s'->E v s'):wpAny (wc B9 w) A (wM v BM) Q E s:=
 vn Z.G Z.C Z.hh Z.hu e s BM v _ (vis σ) m c cv E Q b (S.cc QQ e.names) h a F S.keep f
theorem rs_expr(Z:Cx B9 w A B3 mg mb cf)(e:ME):RS B9 w A B3 mg cf l (.expr e):=λs BM st B1 BS B7 m σ c cv E Q a S h b F f=>
 tY.rec (motive:=λst Y=>wpAny (wc B9 w) A (yj st BM) Q E s) (λi a=>Bi (uD Z S a h b F f) (by unfold AS;rw[S.rep.kind];rfl) (jj i)) (qI a)
theorem rs_ret(Z:Cx B9 w A B3 mg mb cf)(e:ME):RS B9 w A B3 mg cf l (.ret e):=λs BM st B1 BS B7 m σ c cv E Q a S h b F f=>
 vC.rec (motive:=λst Y=>wpAny (wc B9 w) A (yj st BM) Q E s) (λa=>yR (uD Z S a h b F f)) (pp a)
theorem rz_comp{e:ME}{ρ:vR (vV×D)}{c:vV}(h:rzE cf ρ e=ac c):e.isComp=vP:=by
 cases e with
 | comp=>cases h
 | _=>rfl
theorem rs_assign(Z:Cx B9 w A B3 mg mb cf)(x:vV)(e:ME):RS B9 w A B3 mg cf l (.x0 x e):=λs BM st B1 BS B7 m σ c cv E Q a S h b F f=>
 kq.rec (motive:=λst Y=>wpAny (wc B9 w) A (yj st BM) Q E s) (λ{p v pos} i a=>wpAny_Assign_Name (uD Z S a h b F f) ((oq a).swap (rz_comp h) _ _ _)) (jo a)
theorem rsi_ite{c:ME}{t f:vR MS}{σ:St}{n:vV}{C:Prop}(h:rzS cf (.ite c t f) σ=ac n)(k:∀ d b,evE cf (vis σ) c=ac d->bg d=ac b->et cf (if b then t else f) σ=ac n->C):C:=
 bh (a:=evE cf (vis σ) c) (f:=λd=>match bg d with
   | some vT=>et cf t σ
   | some vP=>et cf f σ
   | none=>none) h λd j h=>by
  cases i:bg d with
  | none=>rw[i] at h;exact ag h
  | some b=>rw[i] at h;exact k d b j i (by cases b <;> exact h)
theorem rs_ite(Z:Cx B9 w A B3 mg mb cf){c:ME}{t f:vR MS}(B:RSs B9 w A B3 mg cf l t)(C:RSs B9 w A B3 mg cf l f):RS B9 w A B3 mg cf l (.ite c t f):=λs BM st B1 BS B7 m σ n cv E Q i S h a F u=>
 rsi_ite h λd b G H y=>vD.rec (motive:=λst Y=>wpAny (wc B9 w) A (yj st BM) Q E s) (λ{v J o p} i h1 I=>wpAny_If (sG Z S i G H λBV j q z=>by
  cases b with
  | true=>exact B _ BM _ B1 BS B7 m σ n cv E Q h1 (S.keeps z) y a F λv s' x=>u v s' x.sh
  | false=>exact C _ BM _ B1 BS B7 m σ n cv E Q I (S.keeps z) y a F λv s' x=>u v s' x.sh)) (pt i)
theorem rsi_cons{a:MS}{r:vR MS}{σ:St}{c:vV}{C:Prop}(h:et cf (a::r) σ=ac c)(k1:∀ BJ,exS cf a σ=ac (.next,BJ)->et cf r BJ=ac c->C)(k2:rzS cf a σ=ac c->C):C:=by
 have h:(match exS cf a σ with | some (.next,BJ)=>et cf r BJ | some _=>none | none=>rzS cf a σ)=ac c:=h
 cases e:exS cf a σ with
 | none=>rw[e] at h;exact k2 h
 | some q=>
  rw[e] at h;obtain⟨b,BJ⟩:=q;cases b with
  | next=>exact k1 BJ e h
  | ret=>exact ag h
theorem qh{a:MS}{r:vR MS}(u:SS B9 w A B3 cf a)(y:RS B9 w A B3 mg cf l a)(z:RSs B9 w A B3 mg cf l r):RSs B9 w A B3 mg cf l (a::r):=λs BM B B1 BS B7 m σ c cv E Q o S h f F q=>by
 cases B with
 | nil=>cases o
 | cons st j=>
  exact bQ o λi n=>w9 (rsi_cons h
   (λb h1 C=>uk (u s BM st B1 BS B7 m σ _ E i S h1) (λh tk dw BX m' Z t G=>z _ BM j B1 BS BX m' b c cv E _ n G C f F λv s' x=>q v s' x.sh) λZ Z Z Z Z Z e Z Z=>nomatch e)
   λH=>y s BM st B1 BS B7 m σ c cv E _ i S H f F q)
theorem rs_raise(Z:Cx B9 w A B3 mg mb cf)(x t:vV):RS B9 w A B3 mg cf l (.raise x t):=λs BM st B1 BS B7 m σ c cv E Q u S h y F J=>
 bK (c:=bx.contains x=vT) h λL e=>r8.rec (motive:=λst Y=>wpAny (wc B9 w) A (yj st BM) Q E s) (λ{U a cp p} B u=>by
  cases e;obtain⟨M,X⟩:=Z.G.ex;obtain⟨C,H,_,z⟩:=X.c x (xi.mp L);cases y.symm.trans H;obtain⟨nm,q,N,bs,hdct,sn,sub,ab,col,dd,k0,k1,k2,k3,k5,mN,h1,O,T⟩:=z.ok;have f:bM BM.kindOf [a] [.str t]=vT:=by show (aC BM.kindOf a (.str t)&&vT)=vT;rw[u];rfl
  have I:=S.hot.keep;refine wpAny_Raise_call_subT (C:=C) (nm:=nm) (q:=q) (N:=N) (bs:=bs) (bm:=.ref M::bmV) (hdct:=hdct) (sn:=sn) (sub:=sub) (ab:=ab) (col:=col) (dd:=dd) (k0:=k0) (k1:=k1) (k2:=k2) (k3:=k3) (k5:=k5) (mN:=mN) PySem.F.excBase_ValueError QQ Z.hh (by rw[dZ f,eT];rfl) T
   (Calls.Name_function_global S.rep.kind (be B).1 (Calls.loadGlobal_global (mg:=mg) (S.rep.glob▸Ns.keepAt Z.G.g (I _)) H ⟨QQ,cA f (aR (gZ (gP Z.G Z.C Z.hh Z.hu (.str t)).e jJ s BM [a] _ (vis σ) m [.str (vQ t)] E f (S.cc QQ _) QQ) λvs BU j=>j.rec λk r=>?_)⟩) (by simpa using (be B).2))
  have n:KH s.heap BU.heap:=Kp.heap k;have i:KH B3 BU.heap:=λb o e=>n b o (I b o e)
  refine⟨QQ,by show vs.length<=Ae;rw[r.length];exact vW QQ,Heap.of_gt (i _ _ (Heap.gt_of h1)),Ns.keepAt O (i _),(X.qat.keeps i).tail,λh' e x=>J _ _ (EP.kp k (.made (tk:=BU.toks) (dw:=BU.drawn) x (λb o e=>n b o (S.keep b o e)) (F.at (S.rep.keeps n) λb o e=>n b o (S.keep b o e))))⟩) (inv_raise u)
theorem noted_mono{M:Ab}{BM:Env}{E a:vU->vZ->Prop}(h:∀ v s,E v s->a v s){v:vU}{s:vZ}(x:notedBy M A BM (λe s'=>zq M A BM E e s') v s):notedBy M A BM (λe s'=>zq M A BM a e s') v s:=
 have k:∀ v s,zq M A BM E v s->zq M A BM a v s:=λv s x=>yG x (λZ Z q=>h _ _ q) h
 yG x (λZ Z q=>k _ _ q) k
theorem rfi_cons{f:D->St->vY (Fl×St)}{g:D->St->vY vV}{dv:D}{B5:vR D}{σ:St}{c:vV}{C:Prop}(h:eE f g (dv::B5) σ=ac c)(k1:∀ BJ,f dv σ=ac (.next,BJ)->eE f g B5 BJ=ac c->C)(k2:g dv σ=ac c->C):C:=by
 have h:(match f dv σ with | some (.next,BJ)=>eE f g B5 BJ | some _=>none | none=>g dv σ)=ac c:=h
 cases e:f dv σ with
 | none=>rw[e] at h;exact k2 h
 | some q=>
  rw[e] at h;obtain⟨a,BJ⟩:=q;cases a with
  | next=>exact k1 BJ e h
  | ret=>exact ag h
theorem rsi_for{x:vV}{BH:ME}{body:vR MS}{σ:St}{c:vV}{C:Prop}(h:rzS cf (.for_ x BH body) σ=ac c)(k:∀ d BK,evE cf (vis σ) BH=ac d->d.items=ac BK->eE (λb σ=>aY cf body (ax σ x (vP,b))) (λb σ=>et cf body (ax σ x (vP,b))) BK (freeze BH.names σ)=ac c->C):C:=
 bh (a:=evE cf (vis σ) BH) (f:=λd=>oEs d.items λBK=>eE (λb σ=>aY cf body (ax σ x (vP,b))) (λb σ=>et cf body (ax σ x (vP,b))) BK (freeze BH.names σ)) h λd i h=>dJ h λBK j h=>k d BK i j h
theorem rs_for(Z:Cx B9 w A B3 mg mb cf){x:vV}{BH:ME}{body:vR MS}(L:SSs B9 w A B3 cf body)(rb:RSs B9 w A B3 mg cf l body):RS B9 w A B3 mg cf l (.for_ x BH body):=λs BM st B1 BS B7 m σ c cv E Q M S h B F C=>
 rsi_for h λd BK N j y=>vG.rec (motive:=λst BF=>wpAny (wc B9 w) A (yj st BM) Q E s) (λ{Cb z b p} G n H o=>by
  have O:mh (λs E=>∀ v s',EP BS BM l cv s v s'->E v s') B9 w A B3 BS BM x (λB5 BF σ=>eE (λz σ=>aY cf body (ax σ x (vP,z))) (λz σ=>et cf body (ax σ x (vP,z))) B5 σ=ac c) (λBF BF BF=>False) b:=λs BO B7 m σ dv B5 E T S C=>
   rfi_cons T (λBJ h1 U=>aR (L s BM b BO BS _ m _ _ E o S h1) λf s' q Q V y=>q (λf s=>Q (nf f) s) (λh tk dw BX m' e t X=>V h tk dw BX m' BJ U t X) λh tk dw fr d v e t R=>nomatch e)
    λy=>rb s BM b BO BS _ m _ c cv E _ o S y B F C
  exact aR (im O S G n (λQ k=>i9 Z S H N λu BV a i Y Ca=>iI (ig (s:={ s with heap:=BV,toks:=a,drawn:=i }) Ca Z.hh j) λI h tk dw J fr ex W=>k I BV h tk dw Y J fr ex W) y λh tk dw v s' x=>noted_mono C (ep_loop F.fr F.loc x.sh)) λf s' q=>q Q (λBF BF BF BF BF BF e BF BF=>ag e) λBF BF BF BF BF BF BF e BF BF=>e.elim) (px M)
theorem all_RS(Z:Cx B9 w A B3 mg mb cf)(b:MS):RS B9 w A B3 mg cf l b:=by
 induction b using MS.rec (motive_2:=λb=>SSs B9 w A B3 cf b/\RSs B9 w A B3 mg cf l b) with
 | x0 x e=>exact rs_assign Z x e
 | ite c t f j n=>exact rs_ite Z j.2 n.2
 | for_ x BH body h=>exact rs_for Z h.1 h.2
 | ret e=>exact rs_ret Z e
 | expr e=>exact rs_expr Z e
 | raise x t=>exact rs_raise Z x t
 | nil=>exact⟨oX,λs BM u B1 BS B7 m σ c cv E Q o S h=>ag h⟩
 | cons a r q i=>exact⟨mt (rn Z a) i.1,qh (rn Z a) q i.2⟩
 | _=>exact λs BM st B1 BS B7 m σ c cv E Q o S h=>ag h
theorem all_RSs(Z:Cx B9 w A B3 mg mb cf)(b:vR MS):RSs B9 w A B3 mg cf l b:=List.rec (motive:=RSs B9 w A B3 mg cf l) (λs BM i B1 BS B7 m σ c cv E Q j S h=>ag h) (λa r f=>qh (rn Z a) (all_RS Z a) f) b
end
noncomputable def nN(h:Heap)(a:vU)(q:Str):Prop:=∃ c o vs t,a=.ref c/\gat h c=ac o/\o.cls=.type "code"/\o.data=.fields vs/\vs[1]?=ac (.str q t)
theorem nN.rec{h:Heap}{a:vU}{q:Str}(x:nN h a q):h.CodeRec a q:=x.elim λc x=>x.elim λo x=>x.elim λvs x=>x.elim λt x=>⟨c,o,vs,t,x.1,Heap.of_gt' x.2.1 (by rw[x.2.2.1];nofun),x.2.2.2⟩
theorem nN.keeps{h h':Heap}{a:vU}{q:Str}(x:nN h a q)(b:KH h h'):nN h' a q:=x.elim λc x=>x.elim λo x=>x.elim λvs x=>x.elim λt x=>⟨c,o,vs,t,x.1,b _ _ x.2.1,x.2.2⟩
structure FnAt(B3:Heap)(mg:Str->vY vU)(f:vV)(fn:Fn)(a:v8)(o:Obj)(fd:FuncData)(body:vR wZ):Prop where
 f1:mg (vQ f)=ac (.ref a)
 f2:gat B3 a=ac o
 f3:o.data=.func fd
 f4:fd.body=.stmts body
 f5:fd.closure=[]
 f6:fd.globals=xj
 f7:fd.builtins=Bh
 f8:nN B3 fd.code fd.qualname
 f9:fd.params.posonlyargs=[]
 f10:fd.params.kwonlyargs=[]
 f11:fd.params.vararg=wa
 f12:fd.params.kwarg=wa
 f13:fd.defaults=.none
 f14:fd.params.args.map (·.arg)=fn.params.map vQ
 f15:fn.params.Nodup
 f16:fd.scope.kind=.function
 f17:fd.scope.isCoroutine=vP
 f18:fd.scope.isGenerator=vP
 f19:(fd.scope.names.map (·.1)).Nodup
 f20:(∀ p∈fd.scope.names,p.2≠.free)
 f21:(∀ x∈fn.params,fd.scope.names.lookup (vQ x)=ac .local\/fd.scope.names.lookup (vQ x)=ac .cell)
 f22:dP (λx=>fd.scope.names.lookup x) body fn.body=vT
 f23:(kH (λx=>fd.scope.names.lookup x)=vT->fd.code=.ref oc/\fd.qualname=rT)
structure sa(B3:Heap)(mg:Str->vY vU)(f:vV)(fn:Fn):Prop where
 ok:∃ a o fd body,FnAt B3 mg f fn a o fd body
theorem oj{r:vR (Str×vU)}{n:Str}(h:¬ n∈r.map (·.1)):r.lookup n=wa:=by
 cases q:r.lookup n with
 | none=>rfl
 | some c=>exact wI (xn (f:=(·.1)) (mem_of_lookup q)) h
theorem bindL_eq{k:KD}(binds:vR (Str×vU))(m:Str->vY vU)(x:Str)(a:(binds.map (·.1)).Nodup)(b:k x=ac .local):bindL k binds m x=(binds.lookup x).or (m x):=by
 induction binds generalizing m with
 | nil=>rfl
 | cons p r c=>
  have a:=xQ.mp a;unfold bindL;rw[c _ a.2,aL]
  by_cases h:x=p.1
  ·subst h
   rw[oj a.1,wh rfl,wh b];exact wh QQ
  ·rw[wo h]
   split
   ·exact wv _ (wo h)
   ·rfl
theorem bindC_eq{k:KD}(binds:vR (Str×vU))(m:Str->vY vU)(x:Str)(a:(binds.map (·.1)).Nodup)(b:k x≠ac .local):bindC k binds m x=(binds.lookup x).or (m x):=by
 induction binds generalizing m with
 | nil=>rfl
 | cons p r c=>
  have a:=xQ.mp a;unfold bindC;rw[c _ a.2,aL]
  by_cases h:x=p.1
  ·subst h
   rw[oj a.1,wh rfl,wo b];exact wh QQ
  ·rw[wo h]
   split
   ·rfl
   ·exact wv _ (wo h)
theorem lookup_zip_map{h:Heap}{P:wT}{H:v8->Prop}{ns:vR vV}{vs:vR vU}{ds:vR D}{x:vV}{d:D}(r:am P h H vs ds)(e:(ns.zip ds).lookup x=ac d):∃ v,((ns.map vQ).zip vs).lookup (vQ x)=ac v/\Rep P h H v d:=by
 induction ns generalizing vs ds with
 | nil=>cases e
 | cons n ns a=>
  cases ds with
  | nil=>cases e
  | cons f ds=>
   refine dR.rec (motive:=λvs Z=>∃ v,(((n::ns).map vQ).zip vs).lookup (vQ x)=ac v/\Rep P h H v d) (λb c=>?_) r
   rw[x3,wk] at e;rw[wx,x3,aL]
   by_cases h:x=n
   ·subst h
    rw[wH] at e;exact⟨_,wh QQ,v5 e▸b⟩
   ·rw[show (x == n)=vP from wK.mpr h] at e
    rw[wo (λq=>h (cR q))]
    exact a c e
theorem jQ(x:vV)(ns:vR vV)(ds:vR D):((ns.zip ds).map λp=>(p.1,(vP,p.2))).lookup x=((ns.zip ds).lookup x).map λd=>(vP,d):=by
 generalize ns.zip ds=l
 induction l with
 | nil=>rfl
 | cons p l a=>
  rw[wx,wk,wk];cases x == p.1 with
  | true=>rfl
  | false=>exact a
section
variable {B9:wq} {w:wy} {B3:Heap} {mg mb:Str->vY vU} {P:vR (vV×Fn)} {X:CF}
theorem kL{a b k j n m l:Nat}(h:a<=b+k)(c:b+m<l)(f:k+j+n<=m:=by decide):a+j+n<l:=wg (v6 (xc (xc h j) n) (by rw[yb b,yb b];exact wW f b)) c
theorem ma(G:GOk mg mb B3){f:vV}{L:Fn}(F:sa B3 mg f L){ds:vR D}(Cy:ds.length=L.params.length) :
  ∃ a o i,mg (vQ f)=ac (.ref a)/\gat B3 a=ac o/\o.data=.func i /\
  ∀ A:wt,A.depth<xU->∀ (s:vZ) (H:v8->Prop) (vs:vR vU) (Q:vU->vZ->Prop) (E:vU->vZ->Prop),HOk B3 s.heap H->am w.params s.heap H vs ds ->
   (∀ BM body BV j m,BM.frame=ac BM.locals->gat s.heap BM.locals=wa->dP BM.kindOf body L.body=vT->aP w B3 s.heap BV BM H (λBF=>wa) m ((L.params.zip ds).map λp=>(p.1,(vP,p.2))) ->
    wpAny (wc B9 w) (A.deeper BM) (zA body BM) (λf s'=>Q (match f with | .ret v=>v | _=>.none) s') (λe s'=>wpAny (wc B9 w) (A.deeper BM) (leaving BM e) (λBF M=>E e M) (λCz M=>E Cz M) s') { s with heap:=BV,toks:=j }) ->
   wpAny (wc B9 w) A (PySem.call (.ref a) vs) Q E s:=by
 refine F.ok.elim λa q=>q.elim λo q=>q.elim λi q=>q.elim λbody q=>q.rec λCA Cv Cf CB CC CD CE CG CH Cg Ch Ci Cj I Ck Y Cm Cn CJ Co Cp Cq Z=>⟨a,o,i,CA,Cv,Cf,λA CL s H vs Q E N Ca CM=>?_⟩
 have n:(i.params.args.map (·.arg)).Nodup:=I▸xV.mpr (Ck.imp λCr e=>Cr (cR e))
 have J:(i.params.args.map (·.arg)).length=vs.length:=by rw[I,v9,Ca.length,Cy]
 have Cb:((((i.params.args.map (·.arg)).zip vs)).map (·.1))=i.params.args.map (·.arg):=lS J;have Cd:((((i.params.args.map (·.arg)).zip vs)).map (·.1)).Nodup:=Cb.symm▸n
 have t:∀ x,i.scope.names.lookup x=ac .cell->∃ c,(zH i s.heap.objs.size a).cells.lookup x=ac c:=λx O=>(en i.scope.names (s.heap.objs.size+1) x (mem_of_lookup O)).elim λc C=>dq C
 refine wpAny_call (codeAny_call_cells (binds:=(i.params.args.map (·.arg)).zip vs) CL (Heap.of_gt (N.keep _ _ Cv) (aO (by rw[Cf];nofun))) Cf (NoLimit.keepG G.lim N.keep) (CG.keeps N.keep).rec CB (iF (vals:=vs) CH Cg Ch Ci Cj n J) CC (λx O=>?_) (λBU V=>?_) Cm Cn Y)
 ·have Cs:x.1∈L.params.map vQ:=I▸Cb▸xn O
  exact (wz.mp Cs).elim λz q=>q.2▸(Cp z q.1).imp id λe=>⟨e,(t _ e).elim λc h=>by rw[show (xt (s.heap.objs.size+1) i.scope.names []).lookup (vQ z)=ac c from h];rfl⟩
 ·obtain⟨BV,j,rfl,X⟩:=V.toInCall.done
  replace X:=Heap.gt_up X;have Ce:∀ x c,(zH i s.heap.objs.size a).cells.lookup x=ac c->@LT.lt Nat _ s.heap.objs.size c:=λx c C=>V.above x c (mem_of_lookup C)
  have R:aN BV (zH i s.heap.objs.size a) (λx=>((i.params.args.map (·.arg)).zip vs).lookup x):=by
   refine⟨Y,CD,CE,⟨_,V.toInCall.ns,λx O=>?_⟩,λx O=>?_,λx y c h1 CN=>name_of_addr V.apart (mem_of_lookup h1) (mem_of_lookup CN),λx c C e=>xl _ (e▸Ce x c C),λx c C=>l7 (V.cell x c C),λCw=>⟨(Z Cw).1,by show i.qualname++_=_;rw[(Z Cw).2];rfl⟩⟩
   ·rw[bindL_eq _ _ x Cd O,Option.or_none]
   ·have B:i.scope.names.lookup x=ac .cell:=O.elim id λq=>wI QQ (Co _ (mem_of_lookup q))
    refine (t x B).elim λc C=>⟨c,C,?_⟩
    have:=V.cell x c C
    rwa [bindC_eq _ _ x Cd (by rw[show (zH i s.heap.objs.size a).kindOf x=_ from B];nofun),Option.or_none] at this
  have T:∀ b,frm (zH i s.heap.objs.size a) b->gat s.heap b=wa:=λb q=>q.elim (λq=>q▸b0 _) λq=>q.elim λx q=>Heap.gt_none_of_le (xb (Ce x b q))
  have U:∀ b,Hot (zH i s.heap.objs.size a) H (λBF=>wa) b->H b\/frm (zH i s.heap.objs.size a) b:=λb q=>q.imp id λq=>q.elim id λq=>q.elim λBF e=>ag e
  have S:aP w B3 s.heap BV (zH i s.heap.objs.size a) H (λBF=>wa) (λx=>((i.params.args.map (·.arg)).zip vs).lookup x) ((L.params.zip ds).map λp=>(p.1,(vP,p.2))):=by
   refine⟨R,λx CO e=>?_,λx CO e=>?_,⟨λb u e=>X b u (N.keep b u e),λb q=>(U b q).elim (λq=>(N.ex b q).elim λCP z=>z.elim λu z=>⟨CP,u,z.1,X _ _ z.2⟩) λq=>(eB R q).elim λu Ct=>⟨b,u,wF _,Ct⟩,λb u e q=>(U b q).elim (N.off b u e) λq=>bv (N.keep b u e) (T b q)⟩,X,T,λx c e=>ag e,λx y c e=>ag e,λx c e=>ag e⟩
   ·rw[jQ] at e
    exact br e λCQ e1 Cu=>(lookup_zip_map (ns:=L.params) Ca e1).elim λv q=>⟨v,I▸q.1,(wY Cu).2▸q.2.mono (λb u BF e=>X b u e) λb u e q=>(U b q).elim id λq=>bv e (T b q)⟩
   ·rw[jQ] at e
    exact br e λBF BF Cu=>nomatch (wY Cu).1
  exact CM (zH i s.heap.objs.size a) body BV j _ QQ (b0 _) Cq S
theorem call_fn(G:GOk mg mb B3){b:wt}{cf:CF}(M:b.handled=wa)(L:b.depth+10<xU)(N:b.units+40<yg)(C:∀ A,rA b A->∀ BM,cD B9 w B3 mg cf (A.deeper BM)){f:vV}{n:Fn}(F:sa B3 mg f n){ds:vR D}(O:ds.length=n.params.length)
  {r:Fl×St} (z:aY cf n.body ((n.params.zip ds).map λp=>(p.1,(vP,p.2)))=ac r) {d:D} {fr:v7} (t:r.1=.next->d=.none/\fr=vP) (u:∀ c B,r.1=.ret c B->B=d/\c=fr) :
  ∃ a o I,mg (vQ f)=ac (.ref a)/\gat B3 a=ac o/\o.data=.func I /\
  ∀ A,rA b A->∀ (s:vZ) (H:v8->Prop) (vs:vR vU) (E:vU->vZ->Prop),HOk B3 s.heap H->am w.params s.heap H vs ds->wpAny (wc B9 w) A (PySem.call (.ref a) vs) (bV w s H d fr) E s:=
 (ma (B9:=B9) (w:=w) G F O).elim λa q=>q.elim λo q=>q.elim λI q=>⟨a,o,I,q.1,q.2.1,q.2.2.1,λA y s H vs E T J=>
  q.2.2.2 A (wg y.depth (wg (wW (by decide) _) L)) s H vs _ E T J λBM body BV h m X Y U S=>
   uk (all_Ss ⟨G,C A y BM,y.handled.trans M,⟨kL y.units N,kL y.depth L⟩⟩ (A:=A.deeper BM) n.body { s with heap:=BV,toks:=h } BM body H s.heap (λZ=>wa) _ _ r _ U S z)
   (λh' i j BX m' e Z V=>⟨.mk h' i j V.keep,(t e).1▸rfl,λq=>nomatch (t e).2.symm.trans q⟩) λh' i j c B v e Z R=>(u _ _ e).1▸(u _ _ e).2▸⟨.mk h' i j R.keep,R.rep,R.fr⟩⟩
theorem call_rz(G:GOk mg mb B3){A:wt}{cf:CF}(M:A.handled=wa)(B:A.depth+10<xU)(N:A.units+40<yg)(C:∀ BM,cD B9 w B3 mg cf (A.deeper BM)){f:vV}{h:Fn}(F:sa B3 mg f h){ds:vR D}(O:ds.length=h.params.length)
  {c:vV} (T:c∈bx) (i:et cf h.body ((h.params.zip ds).map λp=>(p.1,(vP,p.2)))=ac c) :
  ∃ a o j cv,mg (vQ f)=ac (.ref a)/\gat B3 a=ac o/\o.data=.func j/\mg (vQ c)=ac cv /\
  ∀ l,A.frames=ac l->∀ (s:vZ) (H:v8->Prop) (vs:vR vU) (E:vU->vZ->Prop),HOk B3 s.heap H->am w.params s.heap H vs ds->gj s.heap l->(∀ v s',Fly s.heap l cv s v s'->E v s') ->
   wpAny (wc B9 w) A (PySem.call (.ref a) vs) (λBF BF=>False) E s:=
 (ma (B9:=B9) (w:=w) G F O).elim λa q=>q.elim λo q=>q.elim λj q=>G.ex.elim λCb X=>(X.c c T).elim λI z=>⟨a,o,j,.ref I,q.1,q.2.1,q.2.2.1,z.1,λl n s H vs E U t V Y=>
  q.2.2.2 A (wg (wB _ _) B) s H vs _ E U t λBM body BV b m J Z Ca S=>
   have L:FrA (A.deeper BM) BM l s.heap:=⟨by show A.frames.map _=_;rw[n];rfl,J,V⟩
   all_RSs ⟨G,C BM,M,⟨kL (wB _ 0) N,kL (wB _ 0) B⟩⟩ (A:=A.deeper BM) h.body { s with heap:=BV,toks:=b } BM body H s.heap (λBF=>wa) m _ c (.ref I) _ _ Ca S i z.1 L
    λv s' x=>yG (ep_leave L.fr J Z x.sh) (λBF u y=>Y v u y) λBF BF y=>y⟩
theorem AOk.zero{A:wt}{n:Nat}(h:AOk A n):AOk A 0:=⟨h.handled,wg (xc (wW (ww _) _) _) h.depth,wg (xc (wW (ww _) _) _) h.units⟩
theorem AOk.deeper{A a:wt}{n:Nat}(h:AOk A (n+1))(b:rA A a)(BM:Env):AOk (a.deeper BM) n:=⟨b.handled.trans h.handled,wg (by
  have:=b.depth;show a.depth+1+2 * n+20<=A.depth+2 * (n+1)+20;exact om51 this) h.depth,wg (by
  have:=b.units;show a.units+3+13 * n+100<=A.units+13 * (n+1)+100;exact om52 this) h.units⟩
theorem lF(G:GOk mg mb B3)(m:∀ f i,P.lookup f=ac i->sa B3 mg f i)(s:∀ A,AOk A 0->cD B9 w B3 mg X A)(n:Nat):∀ (A:wt),AOk A n->cD B9 w B3 mg (ae P X n) A:=by
 induction n with
 | zero=>exact λA b=>⟨λf ds d fr h=>ag h,(s A b).glob,λf ds c h=>ag h,λf h=>nomatch h⟩
 | succ n B=>
  refine λA b=>⟨λf ds d fr h=>?_,(s A b.zero).glob,λf ds c h=>fD (o:=P.lookup f) h λi j h=>bK h λt h=>fD h λN u h=>bK h λE e=>?_,λf h=>?_⟩
  rotate_left
  ·cases e
   exact call_rz G b.handled (wg (wP (wB _ _) (by decide)) b.depth) (wg (wP (wB _ _) (by decide)) b.units) (λBM=>B _ (b.deeper (.refl A) BM)) (m f i j) t (xi.mp E) u
  ·have h:(P.lookup f).isSome=vT:=h
   exact (Option.isSome_iff_exists.mp h).elim λi j=>(m f i j).ok.elim λa q=>q.elim λo q=>q.elim λH q=>q.elim λbody q=>⟨a,o,H,q.f1,q.f2,q.f3⟩
  simp only[ae] at h;cases j:P.lookup f with
  | none=>rw[j] at h;exact (s A b.zero).call f ds d fr h
  | some i=>
   rw[j] at h;refine bK h λt h=>?_
   have I:A.depth+10<xU:=wg (wP (wB _ _) (by decide)) b.depth
   have J:A.units+40<yg:=wg (wP (wB _ _) (by decide)) b.units
   cases y:aY (ae P X n) i.body ((i.params.zip ds).map λp=>(p.1,(vP,p.2))) with
   | none=>rw[y] at h;exact ag h
   | some r=>
    rw[y] at h;obtain⟨C,σ⟩:=r;refine call_fn G b.handled I J (λO L BM=>B _ (b.deeper L BM)) (m f i j) t y ?_ ?_
    ·intro q
     have q:C=.next:=q;subst q;exact⟨(wY (v5 h)).1.symm,(wY (v5 h)).2.symm⟩
    ·intro z M q
     have q:C=.ret z M:=q;subst q;exact wY (v5 h)
end
end Mine
namespace Mine
open PySem PySem.SeqAt PySem.W PyProof.Rows
noncomputable def chkFn(d:DefRec)(a:Fn):v7:=
 (d.params.posonlyargs.isEmpty&&d.params.kwonlyargs.isEmpty&&d.params.vararg.isNone&&d.params.kwarg.isNone&&d.params.args.map (·.arg) == a.params.map vQ)&&(decide a.params.Nodup &&
 d.scope.kind == .function&&!d.scope.isCoroutine&&!d.scope.isGenerator&&decide (d.scope.names.map (·.1)).Nodup)&&(d.scope.names.all (λp=>p.2 != .free) &&
 a.params.all (λx=>d.scope.names.lookup (vQ x) == ac .local||d.scope.names.lookup (vQ x) == ac .cell)&&dP (λx=>d.scope.names.lookup x) d.body a.body&&(!kH (λx=>d.scope.names.lookup x)||d.name == rT))
noncomputable def pK(a:vR DefRec)(P:vR (vV×Fn)):v7:=P.all λq=>match a.find? (λd=>d.name == vQ q.1) with
 | some d=>chkFn d q.2
 | none=>vP
noncomputable def md(p:wq)(loose:vR Str):v7:=((zX p).map (·.name)).contains rT&&cH.all λf=>!startupNames.contains (vQ f)&&!loose.contains (vQ f)&&!((zX p).map (·.name)).contains (vQ f)&&!((litsOf p).map (·.1)).contains (vQ f)&&!((clssOf p loose).map (·.name)).contains (vQ f)
theorem mem_of_lookupS{α:Type}{l:vR (vV×α)}{x:vV}{c:α}(h:l.lookup x=ac c):(x,c)∈l:=by
 induction l with
 | nil=>cases h
 | cons p l a=>
  rw[wk] at h;cases e:x == p.1 with
  | true=>rw[e] at h;exact (show (x,c)=p from Bv (eq_of_beq e) (v5 h).symm)▸.head _
  | false=>rw[e] at h;exact .tail _ (a h)
noncomputable def TbOk(mg:Str->vY vU)(h:Heap):Prop:=∃ a o fd c vs,mg rT=ac (.ref a)/\h.get? a=ac o/\o.data=.func fd/\fd.code=.ref oc/\h.get? oc=ac c/\c.data=.fields vs/\vs[11]?=ac (.ref tb)
theorem TbOk.keeps{mg:Str->vY vU}{h h':Heap}(x:TbOk mg h)(f:∀ b o,h.get? b=ac o->h'.get? b=ac o):TbOk mg h':=
 x.elim λa x=>x.elim λo x=>x.elim λi x=>x.elim λc x=>x.elim λvs x=>⟨a,o,i,c,vs,x.1,f _ _ x.2.1,x.2.2.1,x.2.2.2.1,f _ _ x.2.2.2.2.1,x.2.2.2.2.2⟩
theorem cRef_inv{v:vY vU}{f:v8->v7}{C:Prop}(h:cRef v f=vT)(k:∀ a,v=ac (.ref a)->f a=vT->C):C:=by
 cases v with
 | none=>cases h
 | some v=>cases v with
  | ref a=>exact k a QQ h
  | _=>cases h
theorem rf{v:vY Obj}{f:Data->v7}{C:Prop}(h:cObj v f=vT)(k:∀ o,v=ac o->f o.data=vT->C):C:=by
 cases v with
 | none=>cases h
 | some v=>exact k v QQ h
theorem tb_of(s:vZ)(e:tbAt s=vT):TbOk (s.heap.nsMap xj) s.heap:=by
 refine cRef_inv e λa h e=>rf e λo i e=>?_
 generalize j:o.data=b at e;cases b with
 | func m=>
  refine bQ e λe1 e=>rf e λc n e=>?_
  generalize f:c.data=b at e;cases b with
  | fields vs=>exact⟨a,o,m,c,vs,h,i,j,eq_of_beq e1,n,f,eq_of_beq e⟩
  | _=>cases e
 | _=>cases e
theorem lam_of{p:wq}{loose:vR Str}{b:ExcName->vY vU}{mg mb:Str->vY vU}{h:Heap}(T:Top p loose b mg mb h)(i:md p loose=vT)(y:TbOk mg h):h.IsCode oc tb #[]/\h.TableAt oc tb #[]/\h.BuiltinsAt mg tb:=by
 refine Classical.byContradiction λz=>bQ i λi BF=>?_
 obtain⟨d,j,A⟩:=wz.mp (xi.mp i);obtain⟨Cd,Ce,B,c,C,g1,s,t,E,G,m⟩:=T.tab d j;obtain⟨a,o,Cf,H,vs,I,q2,J,L,M,N,O⟩:=y;rw[A,I] at g1;cases g1;rw[q2] at s;cases s;rw[J] at t;cases t;have e1:c=oc:=(Value.ref.inj ((show Value.ref oc=Value.ref c from L.symm.trans E))).symm;subst e1;obtain⟨o1,Cg,u,_,r2,U⟩:=m.1;rw[M] at u;cases u;rw[N] at r2;cases r2;have V:C=tb:=(Value.ref.inj (v5 (O.symm.trans U))).symm;subst V;obtain⟨X,Y,Z,Ca,f,w,Cb,n⟩:=T.bmain;refine z ⟨G,m,X,Y,Z,Ca,λq=>?_,λq=>?_,f,w,Cb,n⟩
 ·obtain⟨o,es,ep,e,j,_⟩:=T.g
  rw[q,e] at f;cases f;rw[j] at n;cases n
 ·rw[q,m.2] at f;cases f;cases w
theorem notT:∀ {b:v7},(!b)=vT->b=vP
 | false,_=>rfl
theorem fnOk_of{p:wq}{loose:vR Str}{b:ExcName->vY vU}{mg mb:Str->vY vU}{h:Heap}(T:Top p loose b mg mb h)(u:TbOk mg h)(w:h.TableAt oc tb #[]){P:vR (vV×Fn)}(X:pK (zX p) P=vT){f:vV}{L:Fn}(Y:P.lookup f=ac L):sa h mg f L:=by
 refine Classical.byContradiction λZ=>?_
 have this:=wQ.mp X _ (mem_of_lookupS Y);dsimp only at this;cases j:(zX p).find? (λd=>d.name == vQ f) with
 | none=>rw[j] at this;cases this
 | some d=>
  rw[j] at this;have Ca:d.name=vQ f:=eq_of_beq (List.find?_some (p:=λd:DefRec=>d.name == vQ f) j)
  have M:=List.mem_of_find?_eq_some j;obtain⟨a,o,Cw,code,Cb,h1,m,i,Cd⟩:=T.fn d M;refine fL this λCe k2 Cf=>nG Ce λc1 c2 c3 Cg Ch=>nG k2 λCi Cj Ck Cm y=>nH Cf λz A B C=>?_
  have Cn:nN h code d.name:=by
   obtain⟨Co,Cp,E,c,Cy,g1,N,O,Cq,_,⟨oc,Cz,U,G,_⟩,_⟩:=T.tab d M;rw[h1] at g1;cases g1;rw[m] at N;cases N;rw[i] at O;cases O;obtain⟨n,Cr,vs,t,s,q2,H,I⟩:=Cd;have Cs:n=c:=Value.ref.inj (show Value.ref n=Value.ref c from s.symm.trans Cq);subst Cs;rw[q2] at U;cases U;have J:n≠tb:=λq=>by
    rw[q,w.2] at q2;rw[<- v5 q2] at G;cases G
   exact⟨n,_,vs,t,s,by rw[Heap.gt_ne J];exact q2,G,H,I⟩
  refine Z ⟨a,o,_,d.body,Ca▸h1,Heap.gt_of m (aO (by rw[i];nofun)),i,QQ,QQ,QQ,QQ,Cn,xf.mp c1,xf.mp c2,xX.mp c3,xX.mp Cg,QQ,eq_of_beq Ch,xu Ci,eq_of_beq Cj,notT Ck,notT Cm,xu y,λq Ct=>zL.mp (wQ.mp z q Ct),λx Cu=>(yh.mp (wQ.mp A x Cu)).imp eq_of_beq eq_of_beq,B,λCv=>?_⟩
  have V:d.name=rT:=(yh.mp C).elim (λq=>by rw[show kH (λx=>d.scope.names.lookup x)=vT from Cv] at q;cases q) eq_of_beq
  obtain⟨Co,Cp,E,_,_,s,q2,H,I,_⟩:=u;rw[V,s] at h1;cases h1;rw[q2] at m;cases m;rw[H] at i;cases i;exact⟨I,V⟩
theorem gOk_of{p:wq}{loose:vR Str}{a:ExcName->vY vU}{mg mb:Str->vY vU}{h:Heap}(T:Top p loose a mg mb h)(c:md p loose=vT)(n:TbOk mg h)(o:∃ Q,ExOk mg h Q):GOk mg mb h:=by
 refine⟨T.g,T.b,T.nolimit,λf i=>⟨?_,?_⟩,lam_of T c n,o⟩
 ·refine bQ c λZ c=>nG (wQ.mp c f i) λc1 c2 c3 j m=>?_
  simp only[Bool.not_eq_true',List.contains_eq_mem,decide_eq_false_iff_not] at c1 c2 c3 j m;exact T.free _ c1 c2 c3 j m
 ·rw[T.builtins]
  ·have:(cH.all λf=>bootBuiltins (vQ f) == ac (cY f))=vT:=by decide +kernel
   exact eq_of_beq (wQ.mp this f i)
  ·have:(cH.all λf=>vQ f != vQ "__name__")=vT:=by decide +kernel
   exact zL.mp (wQ.mp this f i)
theorem oldK_of{h h':Heap}(f:∃ c,h.TableAt c tb #[])(m:KH h h'):OldK h h':=by
 obtain⟨c,i⟩:=f;have a:∀ b o,h.get? b=ac o->h'.get? b=ac o\/b=tb/\o=t5/\∃ xs,h'.get? b=ac { cls:=.none,data:=.fields xs }:=λb o e=>by
  by_cases j:b=tb
  ·subst j
   have n:o=t5:=v5 (e.symm.trans i.2);obtain⟨t,s,⟨_,q⟩ | ⟨_,_,xs,q,_⟩⟩:=Heap.gt_some (m _ _ (Heap.gt_good i.2 gQ.empty))
   ·cases q QQ
   ·exact .inr ⟨QQ,n,xs,q▸s⟩
  ·have q:=m b o (by rw[Heap.gt_ne j];exact e)
   rw[Heap.gt_ne j] at q;exact .inl q
 refine⟨λb o e=>?_,λb o e=>?_⟩
 ·rcases a b o e with q | ⟨rfl,rfl,xs,q⟩
  ·exact .inl q
  ·exact .inr (.inl ⟨i.isCodeTable,QQ,#[],xs,QQ,by rw[q,Array.empty_append]⟩)
 ·rcases a b o e with q | ⟨_,_,xs,q⟩
  ·exact⟨_,q⟩
  ·exact⟨_,q⟩
theorem wellInts{P:wT}{h:Heap}{H:v8->Prop}{ns:vR Int}{vs:vR vU}(a:WellAll P h vs (ofPys (ns.map PyData.int))):am P h H vs (ns.map .int):=by
 induction ns generalizing vs with
 | nil=>cases a;rfl
 | cons n ns b=>
  cases a with
  | cons h1 c=>
   cases h1;exact .mk (.mk _) (b c)
theorem aOk_top{N:Nat}(b:N<=300):AOk y0 N:=⟨QQ,by
  show 1+claimMargin+2 * N+20<xU;have e1:claimMargin=300:=rfl;have a:xU=1000:=rfl;exact om53 b e1 a,by
  show 4+13 * N+100<yg;have a:yg=9900:=rfl;exact om54 b a⟩
end Mine
namespace Mine
open PySem PySem.SeqAt
section
variable {B9:wq} {w:wy} {M:Ab} {A:wt} {E:vU->vZ->Prop} {h:Heap} {g:wA GenState} {d:zK} {t:Nat} {os:OsState}
theorem oz{C i e:v8}{bm a:vR vU}{j:Obj}{b:v7}{Q:v7->vZ->Prop}(x:nV h C bm)(y:nV h i a)(he:h.get? e=ac j)(m:j.cls=.ref C)(n:(Value.ref i::a).contains (.type "BaseException")=vT)
  (o:(Value.ref C::bm).contains (.ref i)=b) (q:Q b ⟨h,g,d,t,os⟩):wpAny M A (excMatches (.ref e) (.ref i)) Q E ⟨h,g,d,t,os⟩:=by
 obtain⟨_,_,_,_,_,_,_,_,_,_,_,_,_,_,_,_,s,_⟩:=x.ok;obtain⟨_,_,_,_,_,_,_,_,_,_,_,_,_,_,_,_,c,_⟩:=y.ok;have f:=tc_notTuple;unfold excMatches;cases b <;> (repeat (first | (with_reducible refine Be he ?_;rw[m]) | with_reducible refine Be c ?_ | (with_reducible refine AK c ?_;rw[n]) | (with_reducible refine AK s ?_;rw[o]) | wp_step)) <;> exact q
theorem isi_exc{C e:v8}{bm:vR vU}{a:Obj}{Q:vU->vZ->Prop}(x:nV h C bm)(he:h.get? e=ac a)(b:a.cls=.ref C)(c:(Value.ref C::bm).contains (.type "ValueError")=vT)(f:Q (.bool vT) ⟨h,g,d,t,os⟩) :
  wpAny (wc B9 w) A (call (.builtin "isinstance") [.ref e,.type "ValueError"]) Q E ⟨h,g,d,t,os⟩:=by
 obtain⟨_,_,_,_,_,_,_,_,_,_,_,_,_,_,_,_,i,_⟩:=x.ok;refine call_isinstance (S:=λZ R s=>s=⟨h,g,d,t,os⟩/\R (.ok (.ret (.bool vT))) s) (λB9 w A R s j=>?_) ⟨QQ,f⟩
 obtain⟨rfl,n⟩:=j;refine isinstance_outer ?_ (by intro e;cases e)
 have m:typeOf (.type "ValueError")=pure (.type "type"):=by kernel_rfl
 repeat (any_goals (first | assumption | (with_reducible refine Be he ?_;rw[b]) | (with_reducible refine AK i ?_;rw[c]) | wp_step))
end
structure Lk(g:Heap)(l:vR Env)(h:Heap):Prop where
 k:∀ b o,gat g b=ac o->b ∉ frs l->gat h b=ac o
 f:Fs g l h
section
variable {B9:wq} {w:wy} {A:wt} {B3:Heap} {mg mb:Str->vY vU} {cf:CF} {l:vR Env} {BS g h:Heap} {BM:Env} {m:Str->vY vU} {cv v:vU} {s s':vZ}
theorem Fly.lk(x:Fly g l cv s v s'):∃ h tk dw,s'={ s with heap:=h,toks:=tk,drawn:=dw }/\Lk g l h:=by
 cases x with
 | @mk e a0 bs h tk dw f cv a=>exact⟨h,tk,dw,QQ,λb o e c=>Heap.gt_up f.1 b o (cv b o e c),a⟩
theorem aN.lk(R:aN g BM m)(x:Lk g (BM::l) h)(b:BM.frame=ac BM.locals)(a:∀ y c,BM.cells.lookup y=ac c->c ∉ frs l):aN h BM m:=
 have i:∀ y c,BM.cells.lookup y=ac c->c ∉ frs (BM::l):=λy c q=>by rw[dg b];exact λz=>(wf.mp z).elim (R.off y c q) (a y c q)
 ⟨R.kind,R.glob,R.blt,let ⟨ml,h1,h2⟩:=R.loc;let ⟨o,es,ep,ho,hd,r⟩:=h1
  let ⟨sl,e⟩:=x.f BM.locals o (by rw[dg b];exact .head _) (Heap.gt_of ho (aO (by rw[hd];nofun)))
  ⟨ml,⟨{ o with slots:=sl },es,ep,Heap.of_gt e (aO (o:={ o with slots:=sl }) (by rw[hd];nofun)),hd,r⟩,h2⟩,
  λy j=>let ⟨c,h1,h2⟩:=R.cell y j;⟨c,h1,Cell.keepAt h2 λo e=>x.k c o e (i y c h1)⟩,R.inj,R.off,λy c a=>let ⟨o,e⟩:=R.ex y c a;⟨o,x.k c o e (i y c a)⟩,R.lam⟩
theorem Fly.tok{k:Nat}(x:Fly g l cv s v s'):Fly g l cv s v { s' with toks:=k }:=by
 cases x with
 | mk f cv a=>exact .mk f cv a
theorem cls_b(Q:v8)(C:v8):(Value.ref C::.ref Q::bmV).contains (.type "BaseException")=vT:=rfl
theorem cls_v(Q:v8)(C:v8):(Value.ref C::.ref Q::bmV).contains (.type "ValueError")=vT:=rfl
theorem cls_q(Q:v8)(C:v8):(Value.ref C::.ref Q::bmV).contains (.ref Q)=vT:=by simp
theorem cls_t{Q C:v8}:(Value.ref C::.ref Q::bmV).contains (.ref C)=vT:=by simp
theorem cls_f{Q C a:v8}(h1:a≠C)(b:a≠Q):(Value.ref C::.ref Q::bmV).contains (.ref a)=vP:=by
 simp[h1,b]
theorem hand_ok(G:GOk mg mb B3){c:vV}(V:c∈bx)(L:mg (vQ c)=ac cv)(R:aN g BM m)(kb:∀ s',Fly g (BM::l) cv s v s'->KH B3 s'.heap){Q:yY->vZ->Prop}{E:vU->vZ->Prop}{i:Int}
  (k:∀ u a,ld i u->Fly g (BM::l) cv s v a->Q (.ret u) a) (y:vR (vV×Int)):∀ (n:vR xB) (s':vZ),tM BM.kindOf n y=vT->(∀ q∈y,q.1∈bx)->y.lookup c=ac i->Fly g (BM::l) cv s v s'->wpAny (wc B9 w) A (handleBy v BM n) Q E s':=by
 induction y with
 | nil=>exact λn s' BF BF o BF=>nomatch o
 | cons q y M=>
  intro n s' Y N o x;cases n with
  | nil=>cases Y
  | cons Z n=>
   have z:=wm.mp Y;have O:=kb s' x;have M:=M n s' z.2 (λq j=>N q (.tail _ j))
   refine IH1.rec (motive:=λZ BF=>wpAny (wc B9 w) A (handleBy v BM (Z::n)) Q E s') (λ{Cg u Ch Ci} Ca T=>?_) (inv_h1 z.1)
   obtain⟨Cj,X⟩:=G.ex;obtain⟨C,J,Cd,U⟩:=X.c c V;obtain⟨Ck,t,B,H⟩:=X.c q.1 (N q (.head _));cases L.symm.trans J;rw[wk] at o;have Cb:=x;cases x with
   | @mk e a0 bs h tk dw f cv Cm=>
    obtain⟨Cn,Ce,I⟩:=f.there;obtain⟨sh,Co,Cp,st,Cq⟩:=s;refine wpAny_handleBy_cons (codeAny_handlers_test (Calls.Name_function_global R.kind (be Ca).1 (Calls.loadGlobal_global (mg:=mg) (R.glob▸Ns.keepAt G.g (O _)) t (oz (b:=c == q.1) (U.keeps O) (H.keeps O) Ce I (cls_b _ _) ?_ ?_)) (by simpa using (be Ca).2))) nofun
    ·by_cases j:c=q.1
     ·rw[yx.mpr j]
      rw[j,t] at J;cases J;exact cls_t
     ·rw[wK.mpr j]
      exact cls_f (λe=>j (X.inj c V q.1 (N q (.head _)) (by rw[J,t,e]))) B
    ·cases j:c == q.1 with
     | true=>
      rw[j] at o;cases v5 o;exact codeAny_handlers_suite (tC Cb λa Cf=>w9 (yR (fb.rec (motive:=λu BF=>wpAny (wc B9 w) _ (wM u BM) _ _ a) (wpAny_Constant_int (k _ _ (.mk _) Cf.tok)) (pv T))))
     | false=>
      rw[j] at o;exact M o Cb
theorem handq_ok(G:GOk mg mb B3){c:vV}(CC:c∈bx)(Y:mg (vQ c)=ac cv)(R:aN g BM m)(Cs:BM.frame=ac BM.locals)(Z:∀ y c,BM.cells.lookup y=ac c->c ∉ frs l)(Ca:∀ b o,gat B3 b=ac o->b≠BM.locals)(kb:∀ s',Fly g (BM::l) cv s v s'->KH B3 s'.heap){Q:yY->vZ->Prop}{E:vU->vZ->Prop}
  (k:∀ h h' tk dw,Lk g (BM::l) h->(∀ b,b≠BM.locals->gat h' b=gat h b)->Q (.ret (.bool vT)) { s with heap:=h',toks:=tk,drawn:=dw }) {O:xB} (CD:IHq BM.kindOf O) {s':vZ} (x:Fly g (BM::l) cv s v s'):wpAny (wc B9 w) A (handleBy v BM [O]) Q E s':=by
 have Cb:=kb s' x;refine IHq.rec (motive:=λO BF=>wpAny (wc B9 w) A (handleBy v BM [O]) Q E s') (λ{Ct u CT CU} Cu Cv Cw Cd=>?_) CD
 obtain⟨CV,X⟩:=G.ex;obtain⟨C,CE,CG,z⟩:=X.c c CC;cases Y.symm.trans CE;have CH:=x;cases x with
 | @mk e a0 bs h tk dw f cv CW=>
  obtain⟨CX,CJ,B⟩:=f.there;obtain⟨sh,T,CY,st,U⟩:=s;refine wpAny_handleBy_cons (codeAny_handlers_test (Calls.Name_function_global R.kind (be Cw).1 (Calls.loadGlobal_global (mg:=mg) (R.glob▸Ns.keepAt G.g (Cb _)) X.q (oz (b:=vT) (z.keeps Cb) (X.qat.keeps Cb) CJ B QQ (cls_q _ _) (codeAny_handlers_suite_as (tC CH λCe Cf=>?_)))) (by simpa using (be Cw).2))) nofun
  have Cg:=kb Ce Cf;obtain⟨h1,CL,CM,e1,lk⟩:=Cf.lk;cases Cf with
  | @mk _ a1 CN a H I Cy CO CP=>
   have CQ:a=h1:=wv Shared.heap e1;subst CQ;obtain⟨Ch,Ci,_,_,_,J,i,Cj,_⟩:=Cy.2.2.2;have CR:e≠BM.locals:=λq=>by
    obtain⟨_,o,Cz,Ck⟩:=Cy.2.2.1.mem (b:=BM.locals) (show BM.locals∈frs (BM::l) by rw[dg Cs];exact .head _)
    rw[<- q,J] at Cz;cases Cz;exact Ck Ci Cj
   refine n8 (s:=⟨a,T,I,H,U⟩) (R.lk lk Cs Z) Cu λt j n V Cm=>?_
   have L:KH B3 t:=λb o e=>(Cm.g b (Ca b o e)).trans (Cg b o e)
   have M:HOk B3 t (λBF=>False):=⟨L,λBF q=>q.elim,λBF BF BF q=>q⟩
   have Cn:t.get? e=ac Ch:=(Cm.s.2 e CR).trans J;refine w9 (yR (IIsi.rec (motive:=λu BF=>wpAny (wc B9 w) _ (wM u BM) _ _ _) (λ{CZ x Ct pos} Co Cp CA=>PyProof.Rows.Call_Name (trees:=[(vP,wM x BM),(vP,wM (.Name (vQ "ValueError") Ct) BM)]) (by rw[fN CA];rfl)
    (de (s:=⟨t,T,n,j,U⟩) G (f:="isinstance") (by decide) V M Co (Calls.callWith_builtin QQ (Calls.evalArgs_plain (Calls.spliced_cons (pR.rec (motive:=λx BF=>wpAny (wc B9 w) _ (wM x BM) _ _ _) (λCv=>ew V Cv (wh QQ) (Calls.spliced_cons
     (de (s:=⟨t,T,n,j,U⟩) G (f:="ValueError") (by decide) V M Cp (Calls.spliced_nil (isi_exc (z.keeps L) Cn i.1 (cls_v _ _) ?_))))) (fj CA))))))) (pu Cd)))
   obtain⟨C0,N,_⟩:=V.loc;exact wpAny_nameGoes (s:=⟨t,T,n,j,U⟩) Cu N (by rw[R.kind];rfl) λCS C1 Cq Cr=>k a CS _ _ lk λb CB=>((Heap.SB.mk Cr (dC N) (dC Cq)).g b CB).trans (Cm.g b CB)
theorem um(Z:Cx B9 w A B3 mg mb cf){B1:v8->Prop}{B7:Own}{σ:St}{f:vV}{args:vR ME}{P:vR xB->Prop}{st:wZ}{c:vV}{Q:yY->vZ->Prop}{E:vU->vZ->Prop}(S:aP w B3 BS s.heap BM B1 B7 m σ)(j:rzE cf (vis σ) (.call f args)=ac c)(a:mg (vQ c)=ac cv)(F:FrA A BM l s.heap)
  (k:∀ b v s',P b->Fly s.heap (BM::l) cv s v s'->wpAny (wc B9 w) A (handleBy v BM b) Q E s') (h:vz BM.kindOf f args P st):wpAny (wc B9 w) A (yj st BM) Q E s:=
 vz.rec (motive:=λst Y=>wpAny (wc B9 w) A (yj st BM) Q E s) (λ{v ep t b p} n h o=>wpAny_Try_except (w9 (Bi (vn Z.G Z.C Z.hh Z.hu (.call f args) s BM v _ (vis σ) m c cv _ _ h (S.cc QQ _) j a F (λY Y e=>e) λv s' x=>ep_catch F.fr F.loc x λi q=>k _ v i o q) (by unfold AS;rw[S.rep.kind];rfl) (jj n)))) h
theorem pL(G:GOk mg mb B3)(Cr:A.handled=wa)(Ck:A.depth+10<xU)(V:A.units+40<yg)(C:∀ BM,cD B9 w B3 mg cf (A.deeper BM)){f:vV}{T:Fn}(F:sa B3 mg f T){ds:vR D}(Cs:ds.length=T.params.length)(Y:A.frames=ac l)
  {q:vV} {args:vR ME} {st r:MS} {R:vU->Prop} (I:T.body=[st,r]) {c:vV} (Ca:c∈bx) (Cm:rzE cf (vis ((T.params.zip ds).map λp=>(p.1,(vP,p.2)))) (.call q args)=ac c)
  (Cb:(∃ J L i,st=.tryc q args (J::L)/\(∀ p∈J::L,p.1∈bx)/\(J::L).lookup c=ac i/\∀ v,ld i v->R v)\/(st=.tryq q args/\R (.bool vT))) :
  ∃ a o Cd,mg (vQ f)=ac (.ref a)/\gat B3 a=ac o/\o.data=.func Cd /\
  ∀ (s:vZ) (H:v8->Prop) (vs:vR vU) (Q:vU->vZ->Prop) (E:vU->vZ->Prop),HOk B3 s.heap H->am w.params s.heap H vs ds->gj s.heap l->(∀ b o,gat B3 b=ac o->b ∉ frs l)->(∀ v h tk dw,R v->Lk s.heap l h->Q v { s with heap:=h,toks:=tk,drawn:=dw }) ->
   wpAny (wc B9 w) A (PySem.call (.ref a) vs) Q E s:=by
 obtain⟨a,o,Cd,h1,Ct,Cu,go⟩:=ma (B9:=B9) (w:=w) G F Cs;refine⟨a,o,Cd,h1,Ct,Cu,λs H vs Q E Cn Ce Cf Cg Co=>go A (wg (wB _ _) Ck) s H vs Q E Cn Ce λBM body BV j m M U Ch S=>?_⟩
 obtain⟨CH,X⟩:=id G.ex;obtain⟨Cv,n,_⟩:=X.c c Ca;have Z:Cx B9 w (A.deeper BM) B3 mg mb cf:=⟨G,C BM,Cr,⟨kL (wB _ 0) V,kL (wB _ 0) Ck⟩⟩;have Cw:BM.locals ∉ frs l:=λq=>(Cf.mem q).elim λo z=>bv z.2.1 U
 have Cp:FrA (A.deeper BM) BM l BV:=⟨by show A.frames.map _=_;rw[Y];rfl,M,Cf.keeps S.keep⟩
 have N:∀ b o,gat B3 b=ac o->b≠BM.locals:=λb o e q=>bv (Cn.keep b o e) (q▸U)
 have Ci:∀ b o,gat B3 b=ac o->b ∉ frs (BM::l):=λb o e=>by rw[dg M];exact λq=>(wf.mp q).elim (N b o e) (Cg b o e)
 have Cy:∀ y c,BM.cells.lookup y=ac c->c ∉ frs l:=λy c q z=>(Cf.mem z).elim λo z=>bv z.2.1 (S.frE c (.inr ⟨y,q⟩))
 have Cq:∀ v s',Fly BV (BM::l) (.ref Cv) { s with heap:=BV,toks:=j } v s'->KH B3 s'.heap:=λv s' x=>by
  obtain⟨h,tk,dw,rfl,lk⟩:=x.lk;exact λb o e=>lk.k b o (S.hot.keep b o e) (Ci b o e)
 have up:∀ {h h':Heap},Lk BV (BM::l) h->(∀ b,b≠BM.locals->gat h' b=gat h b)->Lk s.heap l h':=λlk t=>
  ⟨λb o e I=>(t b λq=>bv e (q▸U)).trans (lk.k b o (S.keep b o e) (by rw[dg M];exact λq=>(wf.mp q).elim (λq=>bv e (q▸U)) I)),λb o I e=>(lk.f b o (by rw[dg M];exact .tail _ I) (S.keep b o e)).elim λCz z=>⟨Cz,(t b λq=>Cw (q▸I)).trans z⟩⟩
 rw[I] at Ch;cases body with
 | nil=>cases Ch
 | cons CA body=>
  have O:gD BM.kindOf CA st=vT:=(wm.mp Ch).1
  rcases Cb with⟨J,L,i,rfl,CB,CC,Cj⟩ | ⟨rfl,Cj⟩
  ·exact w9 (um (s:={ s with heap:=BV,toks:=j }) Z S Cm n Cp (λt v s' B x=>hand_ok G Ca n S.rep (Cq v) (λu CD V CE=>by
    obtain⟨h,tk,dw,rfl,lk⟩:=CE.lk;exact Co u h tk dw (Cj u V) (up lk λBF BF=>QQ)) (J::L) t s' B CB CC x) (inv_tryc O))
  ·exact w9 (um (s:={ s with heap:=BV,toks:=j }) Z S Cm n Cp (λt v s' B x=>B.elim λCJ z=>by
    obtain⟨rfl,CG⟩:=z;exact handq_ok G Ca n S.rep M Cy N (Cq v) (λh h' tk dw lk t=>Co _ h' tk dw Cj (up lk t)) CG x) (inv_tryq O))
end
end Mine
namespace Mine
open PySem
noncomputable def Run(cf:CF)(a:vR MS)(σ:St)(d:D)(fr:v7):Prop:=fin (aY cf a σ)=ac (d,fr)
structure Stp(cf:CF)(s:MS)(σ BJ:St):Prop where
 go:∀ r,aY cf (s::r) σ=aY cf r BJ
section
variable {cf:CF} {ρ:vR (vV×D)} {σ BJ:St} {a b c e:ME} {d x y:D} {i j:Int} {fr:v7} {r t f body:vR MS} {z:vV}
section
variable {BH:ME}{u:Str}{k:Int}
theorem ao(h:evE cf ρ e=ac d)(a:lY e=wa)(b:frF e d=fr):evF cf ρ e=ac (d,fr):=by
 unfold evF;rw[a,h];show ac (d,frF e d)=_;rw[b]
theorem aI{g:vV}{as:vR ME}{ds:vR D}(h:bk cf ρ as=ac ds)(a:cf.call g ds=ac (d,fr)):evF cf ρ (.call g as)=ac (d,fr):=by
 rw[fU,h];exact a
theorem au{g:vV}{as:vR ME}{ds:vR D}(h:bk cf ρ as=ac ds)(a:cf.call g ds=ac (d,fr)):evE cf ρ (.call g as)=ac d:=by
 rw[r4,h];show (cf.call g ds).map _=_;rw[a];rfl
theorem aa{es:vR ME}{ds:vR D}(h:evE cf ρ e=ac d)(a:bk cf ρ es=ac ds):bk cf ρ (e::es)=ac (d::ds):=by
 rw[pG,h,a];rfl
theorem aj{op:xw}(c:evE cf ρ a=ac x)(f:evE cf ρ b=ac y)(h:ce op x y=ac d):evE cf ρ (.bin op a b)=ac d:=by
 rw[e_bin,c,f];exact h
theorem vm(h:-lim<j/\j<lim):ce .Mult (.int i) (.int j)=ac (.int (i * j)):=wh (.inr h)
theorem k9(h:-lim<i/\i<lim):ce .Mult (.int i) (.int j)=ac (.int (i * j)):=wh (.inl h)
theorem aQ(h:0<j/\j<lim):ce .FloorDiv (.int i) (.int j)=ac (.int (i / j)):=wh h
theorem aB(h:0<j):ce .Mod (.int i) (.int j)=ac (.int (i % j)):=wh h
theorem oM(h:-eG<i/\i<eG/\0<=j/\j<=100):ce .Pow (.int i) (.int j)=ac (.int (i ^ j.toNat)):=wh h
theorem cm:ce .Add (.int i) (.int j)=ac (.int (i+j)):=rfl
theorem nS:ce .Sub (.int i) (.int j)=ac (.int (i - j)):=rfl
theorem al{op:zn}(c:evE cf ρ a=ac x)(f:evE cf ρ b=ac y)(h:b9 op x y=ac d):evE cf ρ (.cmp op a b)=ac d:=by
 rw[e_cmp,c,f];exact h
theorem ay(c:evE cf ρ a=ac x)(f:evE cf ρ b=ac y)(h:aD x y=ac d):evE cf ρ (.sub a b)=ac d:=by
 rw[e_sub,c,f];exact h
theorem nQ{l h:ME}{u v:D}(b:evE cf ρ a=ac x)(c:evE cf ρ l=ac u)(f:evE cf ρ h=ac v)(i:slD x u v=ac d):evE cf ρ (.sl a l h)=ac d:=by
 rw[e_sl,b,c,f];exact i
theorem sy{k:v7}(b:evE cf ρ a=ac x)(h:bg x=ac k):evE cf ρ (.not a)=ac (.bool (!k)):=by
 rw[e_not,b];show (bg x).map _=_;rw[h];rfl
theorem v_isi{T:vV}{k:v7}(b:evE cf ρ a=ac x)(h:mS x T=ac k):evE cf ρ (.isi a T)=ac (.bool k):=by
 rw[e_isi,b];show (mS x T).map _=_;rw[h];rfl
theorem cg{g:vV}{as:vR ME}{ds:vR D}(a:bk cf ρ as=ac ds)(h:fZ g ds=ac d):evE cf ρ (.blt g as)=ac d:=by
 rw[e_blt,a];exact h
theorem aw{as:vR ME}{ds:vR D}(a:bk cf ρ as=ac ds)(h:ds.length<=big):evE cf ρ (.tup as)=ac (.tup ds):=by
 rw[e_tup,a];exact wh h
theorem cE{as:vR ME}{ds:vR D}(a:bk cf ρ as=ac ds)(h:ds.length<=big):evE cf ρ (.lst as)=ac (.list ds):=by
 rw[e_lst,a];exact wh h
theorem v_sset(b:evE cf ρ a=ac x)(h:mu x=ac d):evE cf ρ (.sset a)=ac d:=by rw[e_sset,b];exact h
theorem v_lcp{ds:vR D}(b:evE cf ρ a=ac x)(h:rS x=ac ds):evE cf ρ (.lcp a)=ac (.list ds):=by
 rw[e_lcp,b];show (rS x).map _=_;rw[h];rfl
theorem gX{elt:ME}{cs:vR ME}{BK ds:vR D}(a:evE cf ρ BH=ac x)(b:x.items=ac BK)(c:BK.length<=big)(h:bD (j7 cf ρ elt z cs) BK=ac ds):evE cf ρ (.comp elt z BH cs)=ac (.list ds):=by
 rw[e_comp,a];show (match x.items with | some BK=>_ | none=>_)=_;rw[b];show (if BK.length<=big then _ else _)=_;rw[wh c,h];rfl
theorem dX{k l:v7}{c:vR ME}(f:evE cf ρ a=ac (.bool k))(h:k=vT->evE cf ρ (.bop .And (b::c))=ac (.bool l)):evE cf ρ (.bop .And (a::b::c))=ac (.bool (k&&l)):=by
 rw[e_bop,b_and,f,sL];cases k with
 | false=>rfl
 | true=>exact h QQ
theorem gV{k l:v7}{c:vR ME}(f:evE cf ρ a=ac (.bool k))(h:k=vP->evE cf ρ (.bop .Or (b::c))=ac (.bool l)):evE cf ρ (.bop .Or (a::b::c))=ac (.bool (k||l)):=by
 rw[e_bop,b_or,f,sL];cases k with
 | true=>rfl
 | false=>exact h QQ
theorem bz{op:y2}(b:evE cf ρ a=ac d):evE cf ρ (.bop op [a])=ac d:=b
theorem ak(h:evF cf (vis σ) e=ac (d,fr)):Stp cf (.x0 z e) σ (ax (settle d e.names σ) z (fr,d)):=⟨λr=>t4 (by rw[kt,h])⟩
theorem eu{ds:vR D}(h:evE cf (vis σ) e=ac d)(a:(settle d e.names σ).lookup z=ac (vT,.list ds))(b:ds.length<big):Stp cf (.append z e) σ (ax (settle d e.names σ) z (vT,.list (ds++[d]))):=⟨λr=>t4 (by rw[xs_append,h];dsimp only;rw[a];exact wh b)⟩
theorem rO{k:ME}{dk:D}{ks vs:vR D}(h:evE cf (vis σ) e=ac d)(a:evE cf (vis σ) k=ac dk)(b:(settle dk k.names (settle d e.names σ)).lookup z=ac (vT,.dict ks vs))(c:(cJ dk ks&&decide (ks.length<big))=vT) :
  Stp cf (.setk z k e) σ (ax (settle dk k.names (settle d e.names σ)) z (vT,.dict (cL ks vs dk d).1 (cL ks vs dk d).2)):=⟨λr=>t4 (by rw[xs_setk,h];dsimp only;rw[a];dsimp only;rw[b];exact wh c)⟩
theorem p_grp(h:u5 cf σ=ac BJ):Stp cf .grp σ BJ:=⟨λr=>t4 (by rw[uh,h])⟩
theorem aA{s:MS}(h:Stp cf s σ BJ)(k:Run cf r BJ d fr):Run cf (s::r) σ d fr:=by unfold Run;rw[h.go];exact k
theorem bp{k:v7}(h:evE cf (vis σ) c=ac x)(a:bg x=ac k)(b:k=vT->Run cf (t++r) σ d fr)(i:k=vP->Run cf (f++r) σ d fr):Run cf (.ite c t f::r) σ d fr:=by
 unfold Run;rw[ui h a];cases k with
 | true=>exact b QQ
 | false=>exact i QQ
theorem aT(h:evF cf (vis σ) e=ac (d,fr))(a:e.varOf=wa):Run cf (.ret e::r) σ d fr:=by unfold Run;rw[sv (x_rv a h)];rfl
theorem eF(h:σ.lookup z=ac (fr,d)):Run cf (.ret (.u z)::r) σ d fr:=by unfold Run;rw[sv (x_rx h)];rfl
theorem gK{BK:vR D}(a:evE cf (vis σ) BH=ac x)(b:x.items=ac BK)(h:cq (cP cf body z) BK (freeze BH.names σ)=ac (.next,BJ))(k:Run cf r BJ d fr):Run cf (.for_ z BH body::r) σ d fr:=by
 unfold Run;rw[uj a b,h];exact k
theorem rN{BK:vR D}(a:evE cf (vis σ) BH=ac x)(b:x.items=ac BK)(h:cq (cP cf body z) BK (freeze BH.names σ)=ac (.ret fr d,BJ)):Run cf (.for_ z BH body::r) σ d fr:=by
 unfold Run;rw[uj a b,h];rfl
theorem fC(h:evE cf (vis σ) e=ac d)(a:d.scalar=vT):Stp cf (.expr e) σ σ:=⟨λr=>t4 (by rw[sk,h];exact wh a)⟩
theorem r_forr{ds:vR D}(a:evE cf (vis σ) BH=ac (.tup ds))(h:cq (cP cf body z) ds.reverse (freeze BH.names σ)=ac (.next,BJ))(k:Run cf r BJ d fr):Run cf (.forr z BH body::r) σ d fr:=by
 unfold Run;rw[x_forr _ _ _ _ _ _ a,h,mq];exact k
theorem az{P:vR (vV×Fn)}{X:CF}{g:vV}{ps:vR vV}{a:vR MS}{n:Nat}{args:vR D}(h:P.lookup g=ac ⟨ps,a⟩)(b:args.length=ps.length)(k:Run (ae P X n) a ((ps.zip args).map λp=>(p.1,(vP,p.2))) d fr) :
  (ae P X (n+1)).call g args=ac (d,fr):=by rw[pM n args h b];exact k
theorem mH{k:v7}{α:Prop}(h:k=vT)(h':k=vP):α:=by rw[h] at h';cases h'
theorem jy{v:Str}(h:u.length+v.length<=big):ce .Add (.str u) (.str v)=ac (.str (u++v)):=wh h
theorem bin_tt{u v:vR D}(h:u.length+v.length<=big):ce .Add (.tup u) (.tup v)=ac (.tup (u++v)):=wh h
theorem r7{u v:vR D}(h:u.length+v.length<=big):ce .Add (.list u) (.list v)=ac (.list (u++v)):=wh h
theorem vk{u:D}(h:0<=k/\k<=5000):ce .Mult (.tup [u]) (.int k)=ac (.tup (wV k.toNat u)):=wh ⟨h.1,h.2,QQ⟩
theorem bin_sm(h:0<=k/\k<=1000/\u.length<=1000):ce .Mult (.str u) (.int k)=ac (.str (Txt.mul u k)):=wh h
theorem sub_s(h:0<=k/\k<u.length/\u.length<=big):aD (.str u) (.int k)=ac (.str (bH u k.toNat)):=wh h
theorem n7{u:vR D}{k:Nat}(h:k<u.length)(he:u[k]?=ac d):aD (.list u) (.int k)=ac d:=by
 show (idx k u.length).bind _=_;have:idx (k:Int) u.length=ac k:=wh ⟨xk k,xN.mpr h⟩;rw[this];exact he
theorem uv{u:vR D}{k:Nat}(h:k<u.length)(he:u[k]?=ac d):aD (.tup u) (.int k)=ac d:=n7 h he
theorem kg{k:Nat}(h:k<=big):fZ "range" [.int k]=ac (.rng 0 k):=by
 show (if _ then _ else _)=_
 exact wh (om183 h)
theorem len_s(h:u.length<=big):fZ "len" [.str u]=ac (.int u.length):=wh h
end
noncomputable def Rex(cf:CF)(a:vR MS)(σ:St)(Q:D->v7->Prop):Prop:=∃ d fr,Q d fr/\Run cf a σ d fr
variable {Q:D->v7->Prop}
theorem bG{s:MS}(h:Stp cf s σ BJ)(k:Rex cf r BJ Q):Rex cf (s::r) σ Q:=let ⟨d,fr,q,k⟩:=k;⟨d,fr,q,aA h k⟩
theorem bT{k:v7}(h:evE cf (vis σ) c=ac x)(a:bg x=ac k)(b:k=vT->Rex cf (t++r) σ Q)(i:k=vP->Rex cf (f++r) σ Q):Rex cf (.ite c t f::r) σ Q:=by
 cases k with
 | true=>obtain⟨d,fr,q,k⟩:=b QQ;exact⟨d,fr,q,bp h a (λZ=>k) nofun⟩
 | false=>obtain⟨d,fr,q,k⟩:=i QQ;exact⟨d,fr,q,bp h a nofun λZ=>k⟩
theorem aW(h:evF cf (vis σ) e=ac (d,fr))(a:e.varOf=wa)(q:Q d fr):Rex cf (.ret e::r) σ Q:=⟨d,fr,q,aT h a⟩
theorem q_retv(h:σ.lookup z=ac (fr,d))(q:Q d fr):Rex cf (.ret (.u z)::r) σ Q:=⟨d,fr,q,eF h⟩
theorem uG(h:σ=BJ)(k:Rex cf r BJ Q):Rex cf r σ Q:=h▸k
theorem q_for{BH:ME}{BK:vR D}(a:evE cf (vis σ) BH=ac x)(b:x.items=ac BK)(h:cq (cP cf body z) BK (freeze BH.names σ)=ac (.next,BJ))(k:Rex cf r BJ Q):Rex cf (.for_ z BH body::r) σ Q:=
 let ⟨d,fr,q,k⟩:=k;⟨d,fr,q,gK a b h k⟩
theorem q_forR{BH:ME}{BK:vR D}(a:evE cf (vis σ) BH=ac x)(b:x.items=ac BK)(h:cq (cP cf body z) BK (freeze BH.names σ)=ac (.ret fr d,BJ))(q:Q d fr):Rex cf (.for_ z BH body::r) σ Q:=⟨d,fr,q,rN a b h⟩
theorem bW{P:vR (vV×Fn)}{X:CF}{g:vV}{ps:vR vV}{a:vR MS}{n:Nat}{args:vR D}(h:P.lookup g=ac ⟨ps,a⟩)(b:args.length=ps.length)(k:Rex (ae P X n) a ((ps.zip args).map λp=>(p.1,(vP,p.2))) Q) :
  ∃ d fr,Q d fr/\(ae P X (n+1)).call g args=ac (d,fr):=let ⟨d,fr,q,k⟩:=k;⟨d,fr,q,az h b k⟩
theorem ji{elt BH:ME}{k:Nat}(f:k<=1000)(R:D->Prop)(j:evE cf ρ BH=ac (.int k))(h:∀ i:Nat,i<k->∃ d,R d/\evE cf ((z,.int i)::ρ) elt=ac d) :
  ∃ ds:vR D,ds.length=k/\(∀ d∈ds,R d)/\evE cf ρ (.blt "tuple" [.comp elt z (.blt "range" [BH]) []])=ac (.tup ds):=by
 obtain⟨ds,e,m,n⟩:=nk (j7 cf ρ elt z []) (λZ d=>R d) ((wR k).map λ(i:Nat)=>D.int (i:Int)) (by
  intro t b;obtain⟨i,o,rfl⟩:=wz.mp b;obtain⟨d,q,e⟩:=h i (yV.mp o);exact⟨d,q,eS e⟩)
 have c:k<=big:=v6 f (by decide)
 have a:((wR k).map λ(i:Nat)=>D.int (i:Int)).length=k:=by simp
 refine⟨ds,m.trans a,λd s=>let ⟨_,_,q⟩:=n d s;q,?_⟩
 exact cg (aa (gX (cg (aa j vN) (kg c)) (d8 k) (v6 (wD a) c) e) vN) QQ
noncomputable def Out(cf:CF)(b:vR MS)(σ:St)(R:Fl->St->Prop):Prop:=∃ a BJ,R a BJ/\aY cf b σ=ac (a,BJ)
variable {R:Fl->St->Prop}
theorem aM{s:MS}(h:Stp cf s σ BJ)(k:Out cf r BJ R):Out cf (s::r) σ R:=let ⟨fl,s',q,k⟩:=k;⟨fl,s',q,(h.go r).trans k⟩
theorem d6{k:v7}(h:evE cf (vis σ) c=ac x)(a:bg x=ac k)(b:k=vT->Out cf (t++r) σ R)(i:k=vP->Out cf (f++r) σ R):Out cf (.ite c t f::r) σ R:=by
 unfold Out;rw[ui h a];cases k with
 | true=>exact b QQ
 | false=>exact i QQ
theorem o_ret(h:evF cf (vis σ) e=ac (d,fr))(a:e.varOf=wa)(q:R (.ret fr d) σ):Out cf (.ret e::r) σ R:=⟨_,_,q,sv (x_rv a h)⟩
theorem cu(q:R .next σ):Out cf [] σ R:=⟨_,_,q,su cf σ⟩
theorem bq(h:evF cf (vis σ) e=ac (d,fr))(a:d.isCell=vT):Stp cf (.x0 z e) σ (ax σ z (fr,d)):=by
 have:=ak (z:=z) h;unfold settle at this
 rwa [wh (by cases d <;> first | rfl | cases a)] at this
theorem oo(p:D->v7)(I:St->Prop)(fr:v7)(d:D):∀ (BK:vR D),(∀ it∈BK,∀ σ,I σ->Out cf body (ax σ z (vP,it)) λc BJ=>if p it=vT then c=.ret fr d else c=.next/\I BJ) ->
  ∀ σ,I σ->∃ BJ,(BK.any p=vT->cq (cP cf body z) BK σ=ac (.ret fr d,BJ))/\(BK.any p=vP->I BJ/\cq (cP cf body z) BK σ=ac (.next,BJ))
 | [],_,σ,b=>⟨σ,nofun,λZ=>⟨b,QQ⟩⟩
 | it::r,h,σ,b=>by
  obtain⟨c,a,q,e⟩:=h it (.head _) σ b;rw[xM,bL,e];cases f:p it with
  | true=>
   rw[wh f] at q;subst q;exact⟨a,λZ=>QQ,nofun⟩
  | false=>
   rw[wo (by rw[f];exact wO)] at q
   obtain⟨rfl,j⟩:=q;exact oo p I fr d r (λi m=>h i (.tail _ m)) a j
theorem jP(I:vR D->St->Prop):∀ (BK c:vR D) (σ:St),I c σ->(∀ a it b σ,c++BK=a++it::b->I a σ->Out cf body (ax σ z (vP,it)) λm BJ=>m=.next/\I (a++[it]) BJ) ->
  ∃ BJ,I (c++BK) BJ/\cq (cP cf body z) BK σ=ac (.next,BJ)
 | [],c,σ,h,_=>⟨σ,by simpa using h,QQ⟩
 | it::r,c,σ,h,n=>by
  obtain⟨m,f,⟨rfl,o⟩,e⟩:=n c it r σ QQ h;obtain⟨j,q,t⟩:=jP I r (c++[it]) f o λa i b s h=>n a i b s (by simpa using h)
  exact⟨j,by simpa using q,by rw[bL,e];exact t⟩
end
noncomputable abbrev zNC:MS:=.raise "NoColumn" "no such column"
noncomputable abbrev zCt:MS:=.raise "NoCount" "a count below nought"
noncomputable abbrev zUs:MS:=.raise "UnlikeSides" "two sides of unlike widths"
noncomputable abbrev zNS:MS:=.raise "NoStep" "no such step"
noncomputable abbrev zNT:MS:=.raise "NoTable" "no such table"
noncomputable def pT(ρ:vR (vV×D))(x:vV)(d:D):Prop:=ρ.lookup x=ac d
noncomputable def Has(σ:St)(x:vV)(d:D):Prop:=∃ fr,σ.lookup x=ac (fr,d)
noncomputable def cV(σ:St)(x:vV)(d:D):Prop:=σ.lookup x=ac (vT,d)
section
variable {cf:CF} {ρ:vR (vV×D)} {σ:St} {x y:vV} {d e:D} {v:v7×D} {ns:vR vV} {fr:v7}
theorem cw:pT ((x,d)::ρ) x d:=by unfold pT;rw[wk,wH]
theorem bR(h:(x == y)=vP)(k:pT ρ x d):pT ((y,e)::ρ) x d:=by unfold pT;rw[wk,h];exact k
theorem aV(h:Has σ x d):pT (vis σ) x d:=by obtain⟨fr,h⟩:=h;unfold pT;rw[bS,h];rfl
theorem aq:Has (ax σ x (fr,d)) x d:=⟨fr,by rw[aE,wh rfl]⟩
theorem ai(h:(x == y)=vP)(k:Has σ x d):Has (ax σ y v) x d:=let ⟨fr,k⟩:=k;⟨fr,by rw[aE,wo (by rintro rfl;rw[wH] at h;cases h)];exact k⟩
theorem cx(k:Has σ x d):Has (freeze ns σ) x d:=let ⟨fr,k⟩:=k;⟨_,by rw[aZ,k];rfl⟩
theorem av(k:Has σ x d):Has (settle e ns σ) x d:=by unfold settle;split;exact k;exact cx k
theorem ad:Has ((x,(fr,d))::σ) x d:=⟨fr,by rw[wk,wH]⟩
theorem af(h:(x == y)=vP)(k:Has σ x d):Has ((y,v)::σ) x d:=let ⟨fr,k⟩:=k;⟨fr,by rw[wk,h];exact k⟩
theorem tw(k:cV σ x d):Has σ x d:=⟨vT,k⟩
theorem fw:cV (ax σ x (vT,d)) x d:=by unfold cV;rw[aE,wh rfl]
theorem eW(h:(x == y)=vP)(k:cV σ x d):cV (ax σ y v) x d:=by unfold cV;rw[aE,wo (by rintro rfl;rw[wH] at h;cases h)];exact k
theorem nP(h:ns.contains x=vP)(k:cV σ x d):cV (freeze ns σ) x d:=by unfold cV;rw[aZ,k];show ac (vT&&!ns.contains x,d)=_;rw[h];rfl
theorem gR(h:ns.contains x=vP)(k:cV σ x d):cV (settle e ns σ) x d:=by unfold settle;split;exact k;exact nP h k
theorem uK{BH:ME}{z:vV}{body r:vR MS}{BK:vR D}{BJ:St}{R:Fl->St->Prop}(a:evE cf (vis σ) BH=ac d)(b:d.items=ac BK)(h:cq (cP cf body z) BK (freeze BH.names σ)=ac (.next,BJ))(k:Out cf r BJ R):Out cf (.for_ z BH body::r) σ R:=by
 unfold Out;rw[uj a b,h];exact k
theorem gW:evE cf ρ (.neg (.int 1))=ac (.int (-1)):=rfl
theorem aH(h:pT ρ x d):evE cf ρ (.u x)=ac d:=h
theorem vr{cf:CF}{σ:St}{x:vV}{d:D}(h:Has σ x d):evE cf (vis σ) (.u x)=ac d:=aV h
theorem vv{cf:CF}{σ:St}{x:vV}{d:D}{es:vR ME}{ds:vR D}(h:Has σ x d)(a:bk cf (vis σ) es=ac ds):bk cf (vis σ) (.u x::es)=ac (d::ds):=aa (aV h) a
theorem vsi{cf:CF}{σ:St}{x:vV}{d r:D}{i:Int}(h:Has σ x d)(k:aD d (.int i)=ac r):evE cf (vis σ) (.sub (.u x) (.int i))=ac r:=ay (aV h) QQ k
end
set_option maxHeartbeats 4000000
noncomputable def kX:Fn:=⟨["one","other"],[
  .ite (.cmp .NotEq (.isi (.u "one") "str") (.isi (.u "other") "str")) [.ret (.isi (.u "other") "str")] [],
  .ret (.cmp .Lt (.u "one") (.u "other"))]⟩
noncomputable def fn_law_before:Fn:=⟨["_law_one","_law_other"],[
  .ite (.bop .And [.isi (.u "_law_one") "str",.isi (.u "_law_other") "str"]) [.ret (.cmp .Lt (.u "_law_one") (.u "_law_other"))] [],
  .ite (.bop .Or [.isi (.u "_law_one") "str",.isi (.u "_law_other") "str"]) [.ret (.isi (.u "_law_other") "str")] [],
  .ret (.cmp .Lt (.u "_law_one") (.u "_law_other"))]⟩
noncomputable def fn_law_alike:Fn:=⟨["_law_one","_law_other"],[
  .ite (.bop .Or [.isi (.u "_law_one") "str",.isi (.u "_law_other") "str"]) [.ret (.bop .And [.isi (.u "_law_one") "str",.isi (.u "_law_other") "str",.cmp .Eq (.u "_law_one") (.u "_law_other")])] [],
  .ret (.cmp .Eq (.u "_law_one") (.u "_law_other"))]⟩
noncomputable def iu:Fn:=⟨["_law_cell"],[
  .x0 "_law_some" (.str " !\"#$&'()*+,-./0123456789:;<=>?@ABCDEFGHIJKLMNOPQRSTUVWXYZ[\\]^_`"),
  .x0 "_law_some" (.bin .Add (.u "_law_some") (.str "abcdefghijklmnopqrstuvwxyz{|}~")),
  .ret (.sub (.u "_law_some") (.bin .Mod (.u "_law_cell") (.int 94)))]⟩
noncomputable def iC:Fn:=⟨["_law_script","_law_k"],[
  .ite (.cmp .Lt (.u "_law_k") (.blt "len" [.u "_law_script"])) [.ret (.sub (.u "_law_script") (.u "_law_k"))] [],
  .ret (.int 0)]⟩
noncomputable def eJ:Fn:=⟨["_law_cell"],[
  .x0 "_law_way" (.bin .Mod (.u "_law_cell") (.int 9)),
  .x0 "_law_rest" (.bin .FloorDiv (.u "_law_cell") (.int 9)),
  .ite (.cmp .Lt (.u "_law_way") (.int 4)) [.ret (.bin .Sub (.bin .Mod (.u "_law_rest") (.int 4)) (.int 1))] [],
  .ite (.cmp .Eq (.u "_law_way") (.int 4)) [.ret (.bin .Sub (.bin .Mod (.u "_law_rest") (.int 2000001)) (.int 1000000))] [],
  .ite (.cmp .Eq (.u "_law_way") (.int 5)) [.ret (.sub (.lst [.str "a",.str "b",.str "1",.str "0",.str "-1",.str "col",.str "is",.str "count"]) (.bin .Mod (.u "_law_rest") (.int 8)))] [],
  .ite (.cmp .Eq (.u "_law_way") (.int 6)) [.ret (.bin .Mult (.call "_law_sign_by" [.u "_law_rest"]) (.bin .Mod (.bin .FloorDiv (.u "_law_rest") (.int 94)) (.int 100)))] [],
  .ite (.cmp .Eq (.u "_law_way") (.int 7)) [.ret (.bin .Add (.bin .Sub (.bin .Mod (.bin .Pow (.bin .Add (.bin .Mod (.u "_law_rest") (.bin .Pow (.int 10) (.int 60))) (.int 3)) (.int 9)) (.bin .Sub (.bin .Mult (.int 2) (.bin .Pow (.int 10) (.int 60))) (.int 1))) (.bin .Pow (.int 10) (.int 60))) (.int 1))] [],
  .x0 "_law_word" (.sl (.str "any word") .none (.bin .Mod (.u "_law_rest") (.int 9))),
  .x0 "_law_at" (.bin .Mod (.bin .FloorDiv (.u "_law_rest") (.int 9)) (.bin .Add (.blt "len" [.u "_law_word"]) (.int 1))),
  .ret (.bin .Add (.bin .Add (.sl (.u "_law_word") .none (.u "_law_at")) (.call "_law_sign_by" [.bin .FloorDiv (.u "_law_rest") (.int 81)])) (.sl (.u "_law_word") (.u "_law_at") .none))]⟩
noncomputable def jV:Fn:=⟨["_law_cell","_law_k"],[
  .ret (.bin .Mod (.bin .Pow (.bin .Mod (.bin .Add (.bin .Mult (.u "_law_cell") (.int 48271)) (.bin .Mult (.bin .Add (.u "_law_k") (.int 1)) (.int 1299721))) (.int 2147483647)) (.int 5)) (.int 2147483647))]⟩
structure BG(P:vR (vV×Fn)):Prop where
 sign:P.lookup "_law_sign_by"=ac iu
 cell:P.lookup "_law_cell_at"=ac iC
 thing:P.lookup "_law_thing_by"=ac eJ
 mixed:P.lookup "_law_mixed"=ac jV
structure BC(P:vR (vV×Fn)):Prop where
 before:P.lookup "before"=ac kX
 lalike:P.lookup "_law_alike"=ac fn_law_alike
 lbefore:P.lookup "_law_before"=ac fn_law_before
noncomputable def cj:Str:=vQ " !\"#$&'()*+,-./0123456789:;<=>?@ABCDEFGHIJKLMNOPQRSTUVWXYZ[\\]^_`"++vQ "abcdefghijklmnopqrstuvwxyz{|}~"
theorem signs_len:cj.length=94:=by decide +kernel
theorem a9(c:Int){k:Nat}(h:0<k):∃ m:Nat,c % (k:Int)=m/\m<k:=⟨(c % k).toNat,(xW (w8 _ (om15 h))).symm,by have:=w8 c (b:=(k:Int)) (om15 h);have:=xy c (b:=(k:Int)) (om16 h);exact om17 h this⟩
section
variable {P:vR (vV×Fn)} {X:CF}
theorem oY(B:BG P)(n:Nat)(c:Int):(ae P X (n+1)).call "_law_sign_by" [.int c]=ac (.str (bH cj (c % 94).toNat),vP):=by
 have h1:(vQ " !\"#$&'()*+,-./0123456789:;<=>?@ABCDEFGHIJKLMNOPQRSTUVWXYZ[\\]^_`").length+(vQ "abcdefghijklmnopqrstuvwxyz{|}~").length<=big:=by decide +kernel
 have a:0<=c % 94/\c % 94<(cj.length:Int)/\cj.length<=big:=by rw[signs_len];refine⟨by exact om18,by exact om19,by decide⟩
 refine az B.sign QQ ?_;have q:ce .Add (.str (vQ " !\"#$&'()*+,-./0123456789:;<=>?@ABCDEFGHIJKLMNOPQRSTUVWXYZ[\\]^_`")) (.str (vQ "abcdefghijklmnopqrstuvwxyz{|}~"))=ac (.str cj):=jy h1;have q2:=sub_s a;exact aA (bq (d:=.str (vQ " !\"#$&'()*+,-./0123456789:;<=>?@ABCDEFGHIJKLMNOPQRSTUVWXYZ[\\]^_`")) (fr:=vP) (ao vS QQ QQ) QQ) (aA (bq (d:=.str cj) (fr:=vP) (ao (aj (vr aq) vS q) QQ QQ) QQ) (aT (ao (ay (vr aq) (aj (vr (ai QQ (ai QQ ad))) vI (aB (by decide))) q2) QQ QQ) QQ))
theorem lW(B:BG P)(n:Nat)(c:Int):∃ x:Str,x.length=1/\(ae P X (n+1)).call "_law_sign_by" [.int c]=ac (.str x,vP):=⟨bH cj (c % 94).toNat,QQ,oY B n c⟩
noncomputable def iG(a b:D):v7:=cB a b
noncomputable def cr(a b:D):v7:=match a with
 | .int i=>(match b with | .int j=>decide (i<j) | _=>vT)
 | .str x=>(match b with | .str y=>decide (x.cps.toList<y.cps.toList) | _=>vP)
 | _=>vP
theorem k7{a:D}{C:D->Prop}(b:a.isCell=vT)(c:∀ i,C (.int i))(f:∀ x,C (.str x)):C a:=by
 cases a <;> first | exact c _ | exact f _ | cases b
theorem cU(B:BG P)(n:Nat)(ns:vR Int)(k:Nat):(ae P X (n+1)).call "_law_cell_at" [.list (ns.map .int),.int k]=ac (.int (ns.getD k 0),vP):=by
 have b:(ns.map D.int).length=ns.length:=v9 ..;refine az B.cell QQ ?_;have a:fZ "len" [.list (ns.map .int)]=ac (.int ns.length):=by show ac (D.int ((ns.map D.int).length:Nat))=_;rw[b]
 refine bp (k:=decide ((k:Int)<ns.length)) (al (vr (af QQ ad)) (cg (vv ad vN) a) QQ) QQ (λh=>?_) λh=>?_
 ·have h:k<ns.length:=xN.mp (xu h)
  exact aT (ao (ay (vr ad) (vr (af QQ ad)) (n7 (by rw[b];exact h) (by rw[xL,wj h,wC,wj h];rfl))) QQ QQ) QQ
 ·have h:ns.length<=k:=yS.mp λq=>yK h (xN.mpr q)
  rw[wC,Ap h];exact aT (ao vI QQ QQ) QQ
theorem mixed(B:BG P)(n:Nat)(c k:Int):∃ r:Int,0<=r/\(ae P X (n+1)).call "_law_mixed" [.int c,.int k]=ac (.int r,vP):=by
 have a:-eG<(c * 48271+(k+1) * 1299721) % 2147483647/\(c * 48271+(k+1) * 1299721) % 2147483647<eG/\(0:Int)<=5/\(5:Int)<=100:=by
  have h1:(2147483647:Int)<eG:=by decide +kernel
  generalize eG=pl at *;generalize c * 48271+(k+1) * 1299721=z;exact om20 h1
 have q:=oM a;exact⟨((c * 48271+(k+1) * 1299721) % 2147483647) ^ (5:Int).toNat % 2147483647,w8 _ (by decide),az B.mixed QQ (aT (ao (aj (aj (aj (aj (aj (vr ad) vI (vm (by decide))) (aj (aj (vr (af QQ ad)) vI cm) vI (vm (by decide))) cm) vI (aB (by decide))) vI q) vI (aB (by decide))) QQ QQ) QQ)⟩
end
noncomputable def r9(d:D):Prop:=(∃ i:Int,d=.int i/\-(10 ^ 61)<i/\i<10 ^ 61)\/∃ x:Str,d=.str x/\x.length<=200
theorem r9.cell{d:D}(h:r9 d):d.isCell=vT:=by rcases h with⟨i,rfl,_⟩ | ⟨x,rfl,_⟩ <;> rfl
theorem cy(x y:Str):(x++y).length=x.length+y.length:=by
 show (x.cps++y.cps).size=_;simp[Str.length]
theorem mul_len{x:Str}(b:x.length=1){n:Int}(f:0<=n)(h1:n<=100):(Txt.mul x n).length<=100:=by
 unfold Txt.mul
 split
 ·decide
 ·split
  ·exact om21 b
  ·show ((wV n.toNat x.cps).foldl (·++·) #[]).size<=100
   have:∀ (k:Nat) (a:wA Nat),((wV k x.cps).foldl (·++·) a).size=a.size+k:=by
    intro k
    induction k with
    | zero=>intro a;simp
    | succ k c=>
     intro a;rw[AI,List.foldl_cons,c];have:x.cps.size=1:=b;simp;exact om22 this
   rw[this];simp;exact om23 h1
theorem uw(x:Str)(j:Int)(h:x.length<=big):∃ W:Str,W.length<=x.length/\slD (.str x) .none (.int j)=ac (.str W):=⟨_,Txt.slice_le _ _ _,wh h⟩
theorem slD_lo(x:Str)(j:Int)(h:x.length<=big):∃ W:Str,W.length<=x.length/\slD (.str x) (.int j) .none=ac (.str W):=⟨_,Txt.slice_le _ _ _,wh h⟩
noncomputable def T60:Int:=10 ^ 60
theorem bJ{l:vR D}(b:0<l.length)(c:Int){R:D->Prop}(h:∀ d∈l,R d):∃ d,R d/\aD (.list l) (.int (c % (l.length:Int)))=ac d:=by
 obtain⟨m,e,a⟩:=a9 c b;rw[e];exact⟨l[m],h _ (yF a),n7 a (wj a)⟩
theorem pZ{P:vR (vV×Fn)}{X:CF}(B:BG P)(n:Nat)(c:Int):∃ d,r9 d/\(ae P X (n+2)).call "_law_thing_by" [.int c]=ac (d,vP):=by
 obtain⟨x,A,Z⟩:=lW (X:=X) B n (c / 9);obtain⟨C,f,E⟩:=lW (X:=X) B n (c / 9 / 81);obtain⟨y,⟨Ca,rfl,Cb⟩,M⟩:=bJ (l:=[.str (vQ "a"),.str (vQ "b"),.str (vQ "1"),.str (vQ "0"),.str (vQ "-1"),.str (vQ "col"),.str (vQ "is"),.str (vQ "count")]) (by decide) (c / 9) (R:=λd=>∃ x:Str,d=.str x/\x.length<=200) (by
  intro d w;simp only[wf,wG,xx] at w
  rcases w with rfl | rfl | rfl | rfl | rfl | rfl | rfl | rfl <;> exact⟨_,QQ,by decide +kernel⟩)
 have G:aD (.list [.str (vQ "a"),.str (vQ "b"),.str (vQ "1"),.str (vQ "0"),.str (vQ "-1"),.str (vQ "col"),.str (vQ "is"),.str (vQ "count")]) (.int (c / 9 % 8))=ac (.str Ca):=M;have t:0<=c / 9 / 94 % 100/\c / 9 / 94 % 100<=100:=by exact om24
 have Cd:=bin_sm (u:=x) (k:=c / 9 / 94 % 100) ⟨t.1,xr t.2 (by decide),by rw[A];decide⟩
 have Ce:ce .Pow (.int 10) (.int 60)=ac (.int T60):=oM (i:=10) (j:=60) (by decide +kernel)
 have H:0<T60:=by decide +kernel
 have N:0<=c / 9 % T60/\c / 9 % T60<T60:=⟨w8 _ (by decide +kernel),xy _ H⟩
 have Cf:ce .Pow (.int (c / 9 % T60+3)) (.int 9)=ac (.int ((c / 9 % T60+3) ^ (9:Int).toNat)):=oM (by
  have I:T60+3<eG:=by decide +kernel
  generalize eG=pl at *;exact om25 N I)
 have Cg:ce .Mult (.int 2) (.int T60)=ac (.int (2 * T60)):=k9 (by decide)
 have O:0<2 * T60 - 1:=by exact om26 H
 obtain⟨W,T,Ch⟩:=uw (vQ "any word") (c / 9 % 9) (by decide +kernel)
 have a:W.length<=8:=v6 T (by decide +kernel)
 have m:W.length<=big:=v6 a (by decide)
 have w2:=len_s m;have Ci:(0:Int)<(W.length:Int)+1:=by exact om27
 obtain⟨U,z,Cj⟩:=uw W (c / 9 / 9 % ((W.length:Int)+1)) m;obtain⟨V,J,Ck⟩:=slD_lo W (c / 9 / 9 % ((W.length:Int)+1)) m;have o:(16:Nat)+1<=big:=by decide
 have Cm:=jy (u:=U) (v:=C) (om28 f a z o);have Cn:=jy (u:=U++C) (v:=V) (by rw[cy];exact om29 f a z J o)
 have g1:-(10:Int) ^ 61<c / 9 % 4 - 1/\c / 9 % 4 - 1<10 ^ 61:=by exact om30
 have Co:-(10:Int) ^ 61<c / 9 % 2000001 - 1000000/\c / 9 % 2000001 - 1000000<10 ^ 61:=by exact om31
 have Cp:-(10:Int) ^ 61<(c / 9 % T60+3) ^ (9:Int).toNat % (2 * T60 - 1) - T60+1/\(c / 9 % T60+3) ^ (9:Int).toNat % (2 * T60 - 1) - T60+1<10 ^ 61:=by
  have h1:=w8 ((c / 9 % T60+3) ^ (9:Int).toNat) (b:=2 * T60 - 1) (om32);have I:=xy ((c / 9 % T60+3) ^ (9:Int).toNat) O;generalize (c / 9 % T60+3) ^ (9:Int).toNat % (2 * T60 - 1)=v at *;have Cq:(10:Int) ^ 61=10 * T60:=by decide +kernel
  rw[Cq];generalize T60=Cu at *;exact om33 h1 I
 have Cr:(U++C++V).length<=200:=by rw[cy,cy];exact om34 f a z J
 have Cs:=v6 (mul_len A t.1 t.2) (show 100<=200 by decide)
 have L:Rex (ae P X (n+1)) eJ.body [("_law_cell",(vP,.int c))] λd fr=>r9 d/\fr=vP:=by
  clear t N T a m z J o A f M;refine bG (bq (d:=.int (c % 9)) (fr:=vP) (ao (aj (vr ad) vI (aB (by decide))) QQ QQ) QQ) (bG (bq (d:=.int (c / 9)) (fr:=vP) (ao (aj (vr (ai QQ ad)) vI (aQ (by decide))) QQ QQ) QQ) ?_)
  have Y:Has (ax (ax [("_law_cell",(vP,.int c))] "_law_way" (vP,.int (c % 9))) "_law_rest" (vP,.int (c / 9))) "_law_way" (.int (c % 9)):=ai QQ aq;have s:Has (ax (ax [("_law_cell",(vP,.int c))] "_law_way" (vP,.int (c % 9))) "_law_rest" (vP,.int (c / 9))) "_law_rest" (.int (c / 9)):=aq;generalize ax (ax [("_law_cell",(vP,.int c))] "_law_way" (vP,.int (c % 9))) "_law_rest" (vP,.int (c / 9))=σ at *;have B5:∀ {k:Int},0<k->evE (ae P X (n+1)) (vis σ) (.bin .Mod (.u "_law_rest") (.int k))=ac (.int (c / 9 % k)):=λh=>aj (vr s) vI (aB h)
  have way:∀ k:Int,evE (ae P X (n+1)) (vis σ) (.cmp .Eq (.u "_law_way") (.int k))=ac (.bool (c % 9 == k)):=λBF=>al (vr Y) vI QQ
  have q:evE (ae P X (n+1)) (vis σ) (.bin .Pow (.int 10) (.int 60))=ac (.int T60):=aj vI vI Ce;refine bT (k:=decide (c % 9<4)) (al (vr Y) vI QQ) QQ (λBF=>aW (ao (aj (B5 (by decide)) vI nS) QQ QQ) QQ ⟨.inl ⟨_,QQ,g1⟩,QQ⟩) λBF=>?_
  refine bT (way 4) QQ (λBF=>aW (ao (aj (B5 (by decide)) vI nS) QQ QQ) QQ ⟨.inl ⟨_,QQ,Co⟩,QQ⟩) λBF=>?_
  refine bT (way 5) QQ (λBF=>aW (ao (ay (x:=.list [.str (vQ "a"),.str (vQ "b"),.str (vQ "1"),.str (vQ "0"),.str (vQ "-1"),.str (vQ "col"),.str (vQ "is"),.str (vQ "count")]) QQ (B5 (by decide)) G) QQ QQ) QQ ⟨.inr ⟨_,QQ,Cb⟩,QQ⟩) λBF=>?_
  refine bT (way 6) QQ (λBF=>aW (ao (aj (au (vv s vN) Z) (aj (aj (vr s) vI (aQ (by decide))) vI (aB (by decide))) Cd) QQ QQ) QQ ⟨.inr ⟨_,QQ,Cs⟩,QQ⟩) λBF=>?_
  refine bT (way 7) QQ (λBF=>aW (ao (aj (aj (aj (aj (aj (aj (vr s) q (aB H)) vI cm) vI Cf) (aj (aj vI q Cg) vI nS) (aB O)) q nS) vI cm) QQ QQ) QQ ⟨.inl ⟨_,QQ,Cp⟩,QQ⟩) λBF=>?_
  refine bG (bq (d:=.str W) (fr:=vP) (ao (nQ vS (gC _ _) (B5 (by decide)) Ch) QQ QQ) QQ) (bG (bq (d:=.int (c / 9 / 9 % ((W.length:Int)+1))) (fr:=vP) (ao (aj (aj (vr (ai QQ s)) vI (aQ (by decide))) (aj (cg (vv aq vN) w2) vI cm) (aB Ci)) QQ QQ) QQ) ?_)
  exact aW (ao (aj (aj (nQ (vr (ai QQ aq)) (gC _ _) (vr aq) Cj) (au (aa (aj (vr (ai QQ (ai QQ s))) vI (aQ (by decide))) vN) E) Cm) (nQ (vr (ai QQ aq)) (vr aq) (gC _ _) Ck) Cn) QQ QQ) QQ ⟨.inr ⟨_,QQ,Cr⟩,QQ⟩
 obtain⟨d,fr,⟨w,rfl⟩,Ct⟩:=bW (X:=X) (n:=n+1) (args:=[.int c]) B.thing QQ L;exact⟨d,w,Ct⟩
theorem ofS_eq(a b:vV):(vQ a=vQ b)=(a=b):=propext ⟨cR,λh=>by rw[h]⟩
theorem ofS_beq(a b:vV):(vQ a == vQ b)=(a == b):=by
 rw[Az,yx,yx,ofS_eq]
theorem str_tri(x y:Str):(decide (y.cps.toList<x.cps.toList)||(x == y))=!decide (x.cps.toList<y.cps.toList):=by
 rw[Az];simp only[AA,Bf,yx,Bool.not_eq_true',decide_eq_false_iff_not]
 constructor
 ·rintro (h | rfl)
  ·exact List.lt_asymm h
  ·exact List.lt_irrefl _
 ·intro h
  by_cases a:y.cps.toList<x.cps.toList
  ·exact .inl a
  ·refine .inr ?_
   have:x.cps.toList=y.cps.toList:=List.le_antisymm (List.not_lt.mp a) (List.not_lt.mp h);cases x;cases y
   congr 1
   exact Bn.mp this
theorem tri{a b:D}(c:a.isCell=vT)(f:b.isCell=vT):(cr b a||iG a b)=!cr a b:=by
 cases a <;> first | (cases c;done) | (cases b <;> first | (cases f;done) | rfl | exact str_tri _ _ | skip)
 rename_i i j
 show (decide (j<i)||i == j)=!decide (i<j)
 rw[Az];simp;exact om36
theorem alike_comm{a b:D}(c:a.isCell=vT)(f:b.isCell=vT):iG a b=iG b a:=by
 cases a <;> first | (cases c;done) | (cases b <;> first | (cases f;done) | rfl | exact Bool.beq_comm)
theorem leaf_t{k:v7}{A B:Prop}(a:k=vT)(h:A):if k=vT then A else B:=by rw[wh a];exact h
theorem leaf_f{k:v7}{A B:Prop}(a:k=vP)(h:B):if k=vT then A else B:=by rw[wo (by rw[a];exact wO)];exact h
theorem pD{row:vR D}{p:Nat}(h:p<row.length):aD (.tup row) (.int p)=ac (row.getD p .none):=uv h (by rw[wC,wj h];rfl)
set_option maxHeartbeats 400000
noncomputable def fH:Fn:=⟨["_law_cell","_law_many_here"],[
  .x0 "_law_word" (.sub (.lst [.str "same",.str "unlike",.str "before",.str "upto",.str "behind",.str "from",.str "unlike",.str "upto",.str "from"]) (.bin .Mod (.u "_law_cell") (.int 9))),
  .x0 "_law_place" (.bin .Mod (.bin .FloorDiv (.u "_law_cell") (.int 9)) (.u "_law_many_here")),
  .x0 "_law_rest" (.bin .FloorDiv (.bin .FloorDiv (.u "_law_cell") (.int 9)) (.u "_law_many_here")),
  .ite (.cmp .Eq (.bin .Mod (.u "_law_rest") (.int 2)) (.int 0)) [.ret (.tup [.u "_law_word",.u "_law_place",.str "col",.bin .Mod (.bin .FloorDiv (.u "_law_rest") (.int 2)) (.u "_law_many_here")])] [],
  .ret (.tup [.u "_law_word",.u "_law_place",.str "is",.call "_law_thing_by" [.bin .FloorDiv (.u "_law_rest") (.int 2)]])]⟩
noncomputable def cS:Fn:=⟨["_law_cell","_law_many_here"],[
  .ite (.bop .Or [.cmp .Eq (.u "_law_many_here") (.int 0),.cmp .Eq (.bin .Mod (.u "_law_cell") (.int 32)) (.int 15)]) [.ret (.tup [])] [],
  .ite (.cmp .Eq (.bin .Mod (.u "_law_cell") (.int 16)) (.int 14)) [.ret (.tup [.tup [.str "same",.bin .Sub (.u "_law_many_here") (.int 1),.str "col",.int 0]])] [],
  .ite (.cmp .Eq (.bin .Mod (.u "_law_cell") (.int 16)) (.int 13)) [.ret (.tup [.tup [.str "same",.int 0,.str "col",.bin .Sub (.u "_law_many_here") (.int 1)]])] [],
  .x0 "_law_count" (.bin .Add (.int 1) (.bin .Mod (.bin .FloorDiv (.u "_law_cell") (.int 16)) (.int 2))),
  .ite (.cmp .Eq (.bin .Mod (.bin .FloorDiv (.u "_law_cell") (.int 32)) (.int 11)) (.int 1)) [.x0 "_law_count" (.bin .Mod (.bin .FloorDiv (.u "_law_cell") (.int 352)) (.int 13))] [],
  .ret (.blt "tuple" [.comp (.call "_law_one_by" [.call "_law_mixed" [.u "_law_cell",.bin .Add (.int 40) (.u "_law_k")],.u "_law_many_here"]) "_law_k" (.blt "range" [.u "_law_count"]) []])]⟩
structure BD(P:vR (vV×Fn)):Prop extends BG P where
 one:P.lookup "_law_one_by"=ac fH
 clause:P.lookup "_law_clause_by"=ac cS
noncomputable def iX:vR vV:=["same","unlike","before","upto","behind","from"]
noncomputable def tst(w:vV)(p:Nat)(a:vV)(o:D):D:=.tup [.str (vQ w),.int p,.str (vQ a),o]
noncomputable def Tst(m:Nat)(d:D):Prop:=∃ w p,w∈iX/\p<m/\((∃ q:Nat,q<m/\d=tst w p "col" (.int q))\/∃ o,r9 o/\d=tst w p "is" o)
theorem word_at(c:Int):∃ w,w∈iX/\aD (.list [.str (vQ "same"),.str (vQ "unlike"),.str (vQ "before"),.str (vQ "upto"),.str (vQ "behind"),.str (vQ "from"),.str (vQ "unlike"),.str (vQ "upto"),.str (vQ "from")]) (.int (c % 9))=ac (.str (vQ w)):=by
 obtain⟨d,⟨w,rfl,a⟩,h⟩:=bJ (l:=["same","unlike","before","upto","behind","from","unlike","upto","from"].map λs=>D.str (vQ s)) (by decide) c (R:=λd=>∃ w,d=.str (vQ w)/\w∈iX) (by
  intro d b;obtain⟨w,a,rfl⟩:=wz.mp b;exact⟨w,QQ,(by decide:∀ w∈["same","unlike","before","upto","behind","from","unlike","upto","from"],w∈iX) w a⟩)
 exact⟨w,a,h⟩
section
variable {P:vR (vV×Fn)} {X:CF}
theorem one_by(B:BD P)(n:Nat)(c:Int)(m:Nat)(b:0<m)(h1:m<=1000):∃ d,Tst m d/\(ae P X (n+3)).call "_law_one_by" [.int c,.int m]=ac (d,vP):=by
 obtain⟨w,j,t⟩:=word_at c;have q2:(0:Int)<(m:Int)/\(m:Int)<lim:=by unfold lim;exact om37 b h1
 have o:=q2.1;obtain⟨p,s,a⟩:=a9 (c / 9) b;obtain⟨q,u,f⟩:=a9 (c / 9 / m / 2) b;obtain⟨d,y,h⟩:=pZ (X:=X) B.toBG n (c / 9 / m / 2);have i:Rex (ae P X (n+2)) fH.body [("_law_cell",(vP,.int c)),("_law_many_here",(vP,.int m))] λd fr=>Tst m d/\fr=vP:=by
  refine bG (bq (d:=.str (vQ w)) (fr:=vP) (ao (ay (x:=.list [.str (vQ "same"),.str (vQ "unlike"),.str (vQ "before"),.str (vQ "upto"),.str (vQ "behind"),.str (vQ "from"),.str (vQ "unlike"),.str (vQ "upto"),.str (vQ "from")]) QQ (aj (vr ad) vI (aB (by decide))) t) QQ QQ) QQ) ?_
  refine bG (bq (d:=.int (c / 9 % m)) (fr:=vP) (ao (aj (aj (vr (ai QQ ad)) vI (aQ (by decide))) (vr (ai QQ (af QQ ad))) (aB o)) QQ QQ) QQ) ?_
  refine bG (bq (d:=.int (c / 9 / m)) (fr:=vP) (ao (aj (aj (vr (ai QQ (ai QQ ad))) vI (aQ (by decide))) (vr (ai QQ (ai QQ (af QQ ad)))) (aQ q2)) QQ QQ) QQ) ?_
  refine bT (k:=c / 9 / m % 2 == 0) (al (aj (vr aq) vI (aB (by decide))) vI QQ) QQ (λZ=>?_) λZ=>?_
  ·exact aW (ao (aw (vv (ai QQ (ai QQ aq)) (vv (ai QQ aq) (aa vS (aa (aj (aj (vr aq) vI (aQ (by decide))) (vr (ai QQ (ai QQ (ai QQ (af QQ ad))))) (aB o)) vN)))) (vW QQ)) QQ QQ) QQ ⟨⟨w,p,j,a,.inl ⟨q,f,by rw[s,u];rfl⟩⟩,QQ⟩
  ·exact aW (ao (aw (vv (ai QQ (ai QQ aq)) (vv (ai QQ aq) (aa vS (aa (au (aa (aj (vr aq) vI (aQ (by decide))) vN) h) vN)))) (vW QQ)) QQ QQ) QQ ⟨⟨w,p,j,a,.inr ⟨d,y,by rw[s];rfl⟩⟩,QQ⟩
 obtain⟨d,fr,⟨h,rfl⟩,z⟩:=bW (X:=X) (n:=n+2) (args:=[.int c,.int m]) B.one QQ i;exact⟨d,h,z⟩
noncomputable def Cls(m:Nat)(d:D):Prop:=∃ a,d=.tup a/\(∀ t∈a,Tst m t)/\a.length<=31
theorem clause_by(B:BD P)(n:Nat)(c:Int)(m:Nat)(h1:m<=1000):∃ d,Cls m d/\(ae P X (n+4)).call "_law_clause_by" [.int c,.int m]=ac (d,vP):=by
 have s:Rex (ae P X (n+3)) cS.body [("_law_cell",(vP,.int c)),("_law_many_here",(vP,.int m))] λd fr=>Cls m d/\fr=vP:=by
  have a:Cls m (.tup []):=⟨[],QQ,(λZ h=>nomatch h),ww _⟩
  by_cases b:m=0
  ·subst b
   exact bT (k:=vT) (gV (k:=vT) (l:=vT) (al (x:=.int (0:Nat)) (vr (af QQ ad)) vI QQ) nofun) QQ (λZ=>aW (ao (aw vN (ww _)) QQ QQ) QQ ⟨a,QQ⟩) nofun
  have u:0<m:=by exact om38 b
  have H:(m:Int) - 1=((m - 1:Nat):Int):=by exact om39 b
  have f:∀ p q:Nat,p<m->q<m->Cls m (.tup [.tup [.str (vQ "same"),.int p,.str (vQ "col"),.int q]]):=λp q I J=>⟨_,QQ,λt L=>wl.mp L▸⟨"same",p,by decide,I,.inl ⟨q,J,QQ⟩⟩,vW QQ⟩
  have C:=f (m - 1) 0 (om40 b) u;have E:=f 0 (m - 1) u (om40 b);rw[<- H] at C E;have tail:∀ k:Nat,k<=13->Rex (ae P X (n+3)) (cS.body.drop 5) [("_law_cell",(vP,.int c)),("_law_many_here",(vP,.int m)),("_law_count",(vP,.int k))] λd fr=>Cls m d/\fr=vP:=by
   intro k o;obtain⟨ds,M,q2,N⟩:=ji (cf:=ae P X (n+3)) (ρ:=vis [("_law_cell",(vP,.int c)),("_law_many_here",(vP,.int m)),("_law_count",(vP,.int k))]) (elt:=.call "_law_one_by" [.call "_law_mixed" [.u "_law_cell",.bin .Add (.int 40) (.u "_law_k")],.u "_law_many_here"]) (z:="_law_k") (BH:=.u "_law_count") (v6 o (by decide)) (Tst m) QQ (by
    intro i _;obtain⟨r,_,w⟩:=mixed (X:=X) B.toBG (n+2) c (40+i);obtain⟨d,O,y⟩:=one_by (X:=X) B n r m u h1;exact⟨d,O,(au (aa (au (aa (Eq.trans (vd (ae P X (n+3)) (("_law_k",D.int ↑i)::vis [("_law_cell",vP,D.int c),("_law_many_here",vP,D.int ↑m),("_law_count",vP,D.int ↑k)]) "_law_cell") QQ) (aa (aj vI (Eq.trans (vd (ae P X (n+3)) (("_law_k",D.int ↑i)::vis [("_law_cell",vP,D.int c),("_law_many_here",vP,D.int ↑m),("_law_count",vP,D.int ↑k)]) "_law_k") QQ) cm) vN)) w) (aa (Eq.trans (vd (ae P X (n+3)) (("_law_k",D.int ↑i)::vis [("_law_cell",vP,D.int c),("_law_many_here",vP,D.int ↑m),("_law_count",vP,D.int ↑k)]) "_law_many_here") QQ) vN)) y)⟩)
   exact aW (ao N QQ QQ) QQ ⟨⟨ds,QQ,q2,M▸v6 o (by decide)⟩,QQ⟩
  obtain⟨G,e1,T⟩:∃ k:Nat,1+c / 16 % 2=k/\k<=13:=⟨(1+c / 16 % 2).toNat,by exact om41,by exact om42⟩
  obtain⟨k2,A,U⟩:=a9 (c / 352) (k:=13) (by decide)
  have A:c / 352 % 13=(k2:Int):=A;have cell:∀ {σ:St} (k:Int) (j:Int),0<k->Has σ "_law_cell" (.int c)->evE (ae P X (n+3)) (vis σ) (.cmp .Eq (.bin .Mod (.u "_law_cell") (.int k)) (.int j))=ac (.bool (c % k == j)):=λk j o i=>al (aj (vr i) vI (aB o)) vI QQ
  refine bT (k:=(m:Int) == 0||c % 32 == 15) (gV (al (vr (af QQ ad)) vI QQ) λZ=>bz (cell 32 15 (by decide) ad)) QQ (λZ=>aW (ao (aw vN (ww _)) QQ QQ) QQ ⟨a,QQ⟩) λZ=>?_
  refine bT (cell 16 14 (by decide) ad) QQ (λZ=>aW (ao (aw (aa (aw (aa vS (aa (aj (vr (af QQ ad)) vI nS) (aa vS (aa vI vN)))) (vW QQ)) vN) (vW QQ)) QQ QQ) QQ ⟨C,QQ⟩) λZ=>?_
  refine bT (cell 16 13 (by decide) ad) QQ (λZ=>aW (ao (aw (aa (aw (aa vS (aa vI (aa vS (aa (aj (vr (af QQ ad)) vI nS) vN)))) (vW QQ)) vN) (vW QQ)) QQ QQ) QQ ⟨E,QQ⟩) λZ=>?_
  refine bG (bq (d:=.int G) (fr:=vP) (by rw[<- e1];exact ao (aj vI (aj (aj (vr ad) vI (aQ (by decide))) vI (aB (by decide))) cm) QQ QQ) QQ) ?_
  refine bT (k:=c / 32 % 11 == 1) (al (aj (aj (vr (ai QQ ad)) vI (aQ (by decide))) vI (aB (by decide))) vI QQ) QQ (λZ=>?_) λZ=>uG QQ (tail G T)
  exact bG (bq (d:=.int k2) (fr:=vP) (by rw[<- A];exact ao (aj (aj (vr (ai QQ ad)) vI (aQ (by decide))) vI (aB (by decide))) QQ QQ) QQ) (uG QQ (tail k2 (xb U)))
 obtain⟨d,fr,⟨y,rfl⟩,w⟩:=bW (X:=X) (n:=n+3) (args:=[.int c,.int m]) B.clause QQ s;exact⟨d,y,w⟩
end
theorem oG{cf:CF}{ρ:vR (vV×D)}{elt c:ME}{x:vV}{a y d:D}{k:v7}(b:evE cf ((x,a)::ρ) c=ac d)(f:bg d=ac k)(he:k=vT->evE cf ((x,a)::ρ) elt=ac y):j7 cf ρ elt x [c] a=ac (if k=vT then ac y else wa):=by
 have e:lK cf ((x,a)::ρ) [c]=ac k:=by
  show (match evE cf ((x,a)::ρ) c with | some d=>(match bg d with | some t=>if t then ac vT else ac vP | none=>wa) | none=>wa)=_
  rw[b];show (match bg d with | some t=>_ | none=>_)=_;rw[f];cases k <;> rfl
 unfold j7;rw[e];cases k with
 | true=>show (match evE cf ((x,a)::ρ) elt with | some y=>_ | none=>_)=_;rw[he rfl];rfl
 | false=>rfl
theorem j6{α:Type}(f:D->vY (vY D))(h g:α->D):∀ (l:vR α),(∀ a∈l,f (h a)=ac (ac (g a)))->bD f (l.map h)=ac (l.map g)
 | [],_=>rfl
 | a::r,e=>by
  rw[wx,bD,e a (.head _)];show (match bD f (r.map h) with | none=>wa | some ds=>_)=_
  rw[j6 f h g r λi b=>e i (.tail _ b)];rfl
set_option maxHeartbeats 400000
noncomputable def jT:Fn:=⟨["clause"],[
  .x0 "found" (.lst []),
  .for_ "test" (.u "clause") [.append "found" (.sub (.u "test") (.int 1)),.ite (.cmp .Eq (.sub (.u "test") (.int 2)) (.str "col")) [.append "found" (.sub (.u "test") (.int 3))] []],
  .ret (.sset (.u "found"))]⟩
noncomputable def eI:Fn:=⟨["places","many"],[
  .for_ "place" (.u "places") [.ite (.bop .Or [.cmp .Lt (.u "place") (.int 0),.cmp .GtE (.u "place") (.u "many")]) [zNC] []]]⟩
noncomputable def fG:Fn:=⟨["query","within"],[
  .x0 "word" (.sub (.u "query") (.int 0)),
  .ite (.cmp .Eq (.u "word") (.str "sieve")) [.for_ "clause" (.sub (.u "query") (.int 1)) [.expr (.call "need_columns" [.call "places_of" [.u "clause"],.u "within"])]] [],
  .ite (.cmp .Eq (.u "word") (.str "pick")) [.expr (.call "need_columns" [.sub (.u "query") (.int 1),.u "within"]),.ret (.blt "len" [.sub (.u "query") (.int 1)])] [],
  .ite (.cmp .Eq (.u "word") (.str "group")) [.expr (.call "need_columns" [.sub (.u "query") (.int 1),.u "within"]),.expr (.call "need_columns" [.comp (.sub (.u "one") (.int 1)) "one" (.sub (.u "query") (.int 2)) [],.u "within"]),.ret (.bin .Add (.blt "len" [.sub (.u "query") (.int 1)]) (.blt "len" [.sub (.u "query") (.int 2)]))] [],
  .ite (.cmp .Eq (.u "word") (.str "order")) [.expr (.call "need_columns" [.comp (.sub (.u "one") (.int 0)) "one" (.sub (.u "query") (.int 1)) [],.u "within"])] [],
  .ite (.bop .And [.cmp .Eq (.u "word") (.str "first"),.cmp .Lt (.sub (.u "query") (.int 1)) (.int 0)]) [zCt] [],
  .ret (.u "within")]⟩
noncomputable def gN:Fn:=⟨["query","first","second"],[
  .ite (.cmp .Eq (.sub (.u "query") (.int 0)) (.str "join")) [.expr (.call "need_columns" [.comp (.sub (.u "pair") (.int 0)) "pair" (.sub (.u "query") (.int 3)) [],.u "first"]),.expr (.call "need_columns" [.comp (.sub (.u "pair") (.int 1)) "pair" (.sub (.u "query") (.int 3)) [],.u "second"]),.ret (.bin .Add (.u "first") (.u "second"))] [],
  .ite (.cmp .NotEq (.u "first") (.u "second")) [zUs] [],
  .ret (.u "first")]⟩
noncomputable def qQ:Fn:=⟨["query","widths"],[
  .x0 "word" (.sub (.u "query") (.int 0)),
  .ite (.cmp .NotIn (.u "word") (.glob "STEPS")) [zNS] [],
  .ite (.cmp .Eq (.u "word") (.str "table")) [.ite (.cmp .NotIn (.sub (.u "query") (.int 1)) (.u "widths")) [zNT] [],.ret (.sub (.u "widths") (.sub (.u "query") (.int 1)))] [],
  .ite (.bop .Or [.cmp .Eq (.u "word") (.str "join"),.cmp .Eq (.u "word") (.str "both")]) [.x0 "first" (.call "width" [.sub (.u "query") (.int 1),.u "widths"]),.x0 "second" (.call "width" [.sub (.u "query") (.int 2),.u "widths"]),.ret (.call "width_of_two" [.u "query",.u "first",.u "second"])] [],
  .ret (.call "width_upon" [.u "query",.call "width" [.sub (.u "query") (.neg (.int 1)),.u "widths"]])]⟩
structure BW(P:vR (vV×Fn)):Prop where
 po:P.lookup "places_of"=ac jT
 nc:P.lookup "need_columns"=ac eI
 wu:P.lookup "width_upon"=ac fG
 w2:P.lookup "width_of_two"=ac gN
 wd:P.lookup "width"=ac qQ
noncomputable def fB(t:D):vR Int:=match t with
 | .tup [_,.int p,.str k,o]=>if k == vQ "col" then (match o with | .int q=>[p,q] | _=>[p]) else [p]
 | _=>[]
theorem col_t:(vQ "col" == vQ "col")=vT:=by decide +kernel
theorem col_f:(vQ "is" == vQ "col")=vP:=by decide +kernel
theorem plsG_col(w:D)(p q:Int):fB (.tup [w,.int p,.str (vQ "col"),.int q])=[p,q]:=rfl
theorem plsG_is(w:D)(p:Int)(o:D):fB (.tup [w,.int p,.str (vQ "is"),o])=[p]:=rfl
theorem pls_col(w:vV)(p q:Nat):fB (tst w p "col" (.int q))=[(p:Int),(q:Int)]:=rfl
theorem pls_is(w:vV)(p:Nat)(o:D):fB (tst w p "is" o)=[(p:Int)]:=rfl
theorem eq_col:b9 .Eq (.str (vQ "col")) (.str (vQ "col"))=ac (.bool vT):=by show ac (D.bool (_ == _))=_;rw[col_t]
theorem eq_is:b9 .Eq (.str (vQ "is")) (.str (vQ "col"))=ac (.bool vP):=by show ac (D.bool (_ == _))=_;rw[col_f]
noncomputable def GT(t:D):Prop:=∃ (w:D) (p:Int),(∃ q:Int,t=.tup [w,.int p,.str (vQ "col"),.int q])\/∃ o,t=.tup [w,.int p,.str (vQ "is"),o]
theorem Tst.gt{m:Nat}{t:D}(h:Tst m t):GT t:=let ⟨w,p,_,_,h⟩:=h;⟨.str (vQ w),p,h.elim (λ⟨q,_,e⟩=>.inl ⟨q,e⟩) λ⟨o,_,e⟩=>.inr ⟨o,e⟩⟩
theorem ng:∀ a:vR D,(∀ t∈a,GT t)->(a.flatMap fB).length<=2 * a.length
 | [],_=>ww _
 | t::a,h=>by
  rw[zW,wn,xC,Nat.mul_succ,xS];refine wP (ng a λu b=>h u (.tail _ b)) ?_
  obtain⟨w,p,⟨q,rfl⟩ | ⟨o,rfl⟩⟩:=h t (.head _)
  ·exact wF 2
  ·exact xR 1
theorem ox:∀ ns:vR Int,mV (ns.map .int)=ac ns
 | []=>rfl
 | n::ns=>by
  show (mV (ns.map .int)).map (n::·)=_;rw[ox ns];rfl
inductive Q where
 | table (nm:Str)
 | sieve (cs:vR (vR D)) (q:Q)
 | pick (ps:vR Nat) (q:Q)
 | group (ps:vR Nat) (ss:vR (vV×Nat)) (q:Q)
 | order (ks:vR (Nat×v7)) (q:Q)
 | once (q:Q)
 | first (c:Nat) (q:Q)
 | join (a b:Q) (prs:vR (Nat×Nat))
 | both (a b:Q)
noncomputable def sD(s:vV):D:=.str (vQ s)
noncomputable def bi(n:Nat):D:=.int n
noncomputable def clD(c:vR D):D:=.tup c
noncomputable def dY(x:vV×Nat):D:=.tup [sD x.1,bi x.2]
noncomputable def kM(k:Nat×v7):D:=.tup [bi k.1,.bool k.2]
noncomputable def prT(k:Nat×Nat):D:=.tup [bi k.1,bi k.2]
noncomputable def Q.d:Q->D
 | table h=>.tup [sD "table",.str h]
 | sieve i q=>.tup [sD "sieve",.tup (i.map clD),q.d]
 | pick ps q=>.tup [sD "pick",.tup (ps.map bi),q.d]
 | group ps j q=>.tup [sD "group",.tup (ps.map bi),.tup (j.map dY),q.d]
 | order ks q=>.tup [sD "order",.tup (ks.map kM),q.d]
 | once q=>.tup [sD "once",q.d]
 | first c q=>.tup [sD "first",bi c,q.d]
 | join a b f=>.tup [sD "join",a.d,b.d,.tup (f.map prT)]
 | both a b=>.tup [sD "both",a.d,b.d]
noncomputable abbrev Wd:=vR (Str×Nat)
noncomputable def Wd.d(W:Wd):D:=.dict (W.map λp=>.str p.1) (W.map λp=>bi p.2)
noncomputable def Q.wd(W:Wd):Q->Nat
 | table c=>(W.lookup c).getD 0
 | sieve _ q | order _ q | once q | first _ q=>q.wd W
 | pick ps _=>ps.length
 | group ps f _=>ps.length+f.length
 | join a b _=>a.wd W+b.wd W
 | both a _=>a.wd W
noncomputable def kr(m:Nat)(c:vR D):Prop:=(∀ t∈c,Tst m t)/\c.length<=31
noncomputable def Q.ok(W:Wd):Q->Prop
 | table j=>∃ n,W.lookup j=ac n
 | sieve h q=>q.ok W/\(∀ c∈h,kr (q.wd W) c)/\h.length<=1000
 | pick ps q=>q.ok W/\(∀ p∈ps,p<q.wd W)/\ps.length<=1000
 | group ps i q=>q.ok W/\(∀ p∈ps,p<q.wd W)/\(∀ x∈i,x.2<q.wd W)/\ps.length<=1000/\i.length<=1000
 | order ks q=>q.ok W/\(∀ k∈ks,k.1<q.wd W)/\ks.length<=1000
 | once q | first _ q=>q.ok W
 | join a b f=>a.ok W/\b.ok W/\(∀ k∈f,k.1<a.wd W/\k.2<b.wd W)/\f.length<=5000
 | both a b=>a.ok W/\b.ok W/\a.wd W=b.wd W
noncomputable def Q.dp:Q->Nat
 | table _=>0
 | sieve _ q | order _ q | once q | first _ q | pick _ q | group _ _ q=>q.dp+1
 | join a b _ | both a b=>max a.dp b.dp+1
theorem dpS{d:Nat}:{n:Nat}->d+1<=n->∃ m,n=m+1/\d<=m
 | _+1,h=>⟨_,QQ,Nat.le_of_succ_le_succ h⟩
noncomputable def Q.cp:Q->Nat
 | table _=>0
 | sieve c q=>c.length+q.cp
 | pick _ q | group _ _ q | order _ q | once q | first _ q=>q.cp
 | join a b _ | both a b=>max a.cp b.cp
noncomputable def Q.pr:Q->Nat
 | table _=>0
 | sieve _ q | pick _ q | group _ _ q | order _ q | once q | first _ q=>q.pr
 | join a b c=>max c.length (max a.pr b.pr)
 | both a b=>max a.pr b.pr
noncomputable def sz:vR vV:=["count","sum","least","most"]
noncomputable def Q.nar(W:Wd)(k:Nat):Q->Prop
 | table _=>True
 | sieve _ q | pick _ q | order _ q | once q | first _ q=>q.nar W k
 | group _ c q=>q.nar W k/\∀ s∈c,s.1∈sz
 | join a b _=>a.nar W k/\b.nar W k/\a.wd W+b.wd W<=k
 | both a b=>a.nar W k/\b.nar W k
section
variable {P:vR (vV×Fn)} {X:CF} {m:Nat}
theorem my(B:BW P)(n:Nat){c:vR D}(A:∀ t∈c,GT t)(s:c.length<=31):(ae P X (n+1)).call "places_of" [.tup c]=ac (.list ((fg (c.flatMap fB)).map .int),vT):=by
 have f:2000<big:=by decide
 refine az B.po QQ ?_;refine aA (ak (d:=.list []) (fr:=vT) QQ) ?_;obtain⟨BJ,u,G⟩:=jP (cf:=ae P X n) (body:=[.append "found" (.sub (.u "test") (.int 1)),.ite (.cmp .Eq (.sub (.u "test") (.int 2)) (.str "col")) [.append "found" (.sub (.u "test") (.int 3))] []]) (z:="test")
  (λa σ=>cV σ "found" (.list ((a.flatMap fB).map .int))) c [] [("clause",(vP,.tup c)),("found",(vT,.list []))] QQ (by
   rintro a E b σ i u;rw[zy] at i;have C:E∈c:=by rw[i];simp
   have j:a.length<c.length:=by rw[i];simp
   have m:=ng a λt h=>A t (by rw[i];exact yy _ h)
   obtain⟨w,p,⟨q,rfl⟩ | ⟨o,rfl⟩⟩:=A E C
   ·rw[AL,zW,Bx,plsG_col,wS]
    refine aM (eu (d:=.int p) (ds:=(a.flatMap fB).map .int) (ay (x:=.tup [w,.int p,.str (vQ "col"),.int q]) (y:=.int 1) (vr aq) vI QQ) (?_:cV _ _ _) (by rw[v9];exact om78 s f j m)) ?_
    ·exact gR QQ (eW QQ u)
    refine d6 (k:=vT) (al (ay (x:=.tup [w,.int p,.str (vQ "col"),.int q]) (y:=.int 2) (vr (ai QQ (av aq))) vI QQ) vS eq_col) QQ (λZ=>?_) nofun
    refine aM (eu (d:=.int q) (ds:=(a.flatMap fB).map .int++[.int p]) (ay (x:=.tup [w,.int p,.str (vQ "col"),.int q]) (y:=.int 3) (vr (ai QQ (av aq))) vI QQ) (?_:cV _ _ _) (by rw[wn,v9];simp only[xC,za];exact om79 s f j m)) (cu ⟨QQ,?_⟩)
    ·exact gR QQ fw
    ·rw[Bc];exact fw
   ·rw[AL,zW,Bx,plsG_is,wS]
    refine aM (eu (d:=.int p) (ds:=(a.flatMap fB).map .int) (ay (x:=.tup [w,.int p,.str (vQ "is"),o]) (y:=.int 1) (vr aq) vI QQ) (?_:cV _ _ _) (by rw[v9];exact om78 s f j m)) ?_
    ·exact gR QQ (eW QQ u)
    exact d6 (k:=vP) (al (ay (x:=.tup [w,.int p,.str (vQ "is"),o]) (y:=.int 2) (vr (ai QQ (av aq))) vI QQ) vS eq_is) QQ nofun λZ=>cu ⟨QQ,fw⟩)
 have H:mu (.list ((c.flatMap fB).map .int))=ac (.list ((fg (c.flatMap fB)).map .int)):=by
  show (if _<63 then (mV _).map _ else _)=_
  have:=ng c A;rw[wh (by rw[v9];exact om80 s this),ox];rfl
 refine gK (x:=.tup c) (BK:=c) QQ QQ G (aT (ao (v_sset (x:=.list ((c.flatMap fB).map .int)) (vr (tw u)) H) QQ QQ) QQ)
theorem places_of(B:BW P)(n:Nat){a:vR D}(b:∀ t∈a,Tst m t)(c:a.length<=31):(ae P X (n+1)).call "places_of" [.tup a]=ac (.list ((fg (a.flatMap fB)).map .int),vT):=my B n (λt h=>(b t h).gt) c
theorem fall_call{g:vV}{ps:vR vV}{a:vR MS}{n:Nat}{args:vR D}{BJ:St}(h:P.lookup g=ac ⟨ps,a⟩)(b:args.length=ps.length)(k:aY (ae P X n) a ((ps.zip args).map λp=>(p.1,(vP,p.2)))=ac (.next,BJ)) :
  (ae P X (n+1)).call g args=ac (.none,vP):=by rw[pM n args h b];show fin (aY _ a _)=_;rw[k];rfl
theorem bX(B:BW P)(n:Nat){ls:D}{BK:vR D}(o:ls.items=ac BK){w:Nat}(h:∀ d∈BK,∃ p:Nat,p<w/\d=.int p):(ae P X (n+1)).call "need_columns" [ls,.int w]=ac (.none,vP):=by
 have f:∃ BJ,cq (cP (ae P X n) [.ite (.bop .Or [.cmp .Lt (.u "place") (.int 0),.cmp .GtE (.u "place") (.u "many")]) [zNC] []] "place") BK (freeze ["places"] [("places",(vP,ls)),("many",(vP,.int w))])=ac (.next,BJ):=by
  obtain⟨BJ,_,j⟩:=jP (cf:=ae P X n) (body:=[.ite (.bop .Or [.cmp .Lt (.u "place") (.int 0),.cmp .GtE (.u "place") (.u "many")]) [zNC] []]) (z:="place") (λZ σ=>Has σ "many" (.int w)) BK [] (freeze ["places"] [("places",(vP,ls)),("many",(vP,.int w))]) (cx (af QQ ad)) (by
   rintro a s b σ c i;rw[zy] at c;obtain⟨p,t,rfl⟩:=h s (by rw[c];simp)
   have h1:b9 .Lt (.int p) (.int 0)=ac (.bool vP):=by
    show ac (D.bool (decide ((p:Int)<0)))=_;rw[xg (rP)]
   have u:b9 .GtE (.int p) (.int w)=ac (.bool vP):=by
    show ac (D.bool (decide ((p:Int) ≥ w)))=_;rw[xg (om81 t)]
   exact d6 (k:=vP) (x:=.bool (vP||false)) (gV (k:=vP) (l:=vP) (al (vr aq) vI h1) λZ=>bz (al (vr aq) (vr (ai QQ i)) u)) QQ nofun λZ=>cu ⟨QQ,ai QQ i⟩)
  exact⟨BJ,j⟩
 obtain⟨BJ,j⟩:=f;obtain⟨m,y,rfl,q⟩:Out (ae P X n) eI.body [("places",(vP,ls)),("many",(vP,.int w))] λm Z=>m=.next:=uK (d:=ls) QQ o j (cu QQ)
 exact fall_call B.nc QQ q
theorem iR{α:Type}{l:vR α}{f:α->Nat}{w:Nat}(h:∀ x∈l,f x<w):∀ d∈l.map (λx=>D.int (f x)),∃ p:Nat,p<w/\d=.int p:=λd a=>by
 obtain⟨x,b,rfl⟩:=wz.mp a;exact⟨f x,h x b,QQ⟩
theorem cls_places{w:Nat}{c:vR D}(b:kr w c):∀ d∈(fg (c.flatMap fB)).map D.int,∃ p:Nat,p<w/\d=.int p:=λd f=>by
 obtain⟨z,hz,rfl⟩:=wz.mp f;obtain⟨t,h,hz⟩:=zr.mp ((fM z _).mp hz);obtain⟨j,p,_,a,⟨q,i,rfl⟩ | ⟨o,_,rfl⟩⟩:=b.1 t h
 ·rw[pls_col] at hz
  rcases wf.mp hz with rfl | hz
  ·exact⟨p,a,QQ⟩
  ·rw[wl.mp hz];exact⟨q,i,QQ⟩
 ·rw[pls_is] at hz
  rw[wl.mp hz];exact⟨p,a,QQ⟩
theorem eO{cf:CF}{ρ:vR (vV×D)}{z:vV}{BH:ME}{i:Int}{α:Type}{l:vR α}{g:α->D}{f:α->D}(c:evE cf ρ BH=ac (.tup (l.map g)))(j:l.length<=big)(h:∀ x∈l,aD (g x) (.int i)=ac (f x)) :
  evE cf ρ (.comp (.sub (.u z) (.int i)) z BH [])=ac (.list (l.map f)):=by
 refine gX c QQ (by rw[v9];exact j) ?_
 have:∀ a:vR α,(∀ x∈a,x∈l)->bD (j7 cf ρ (.sub (.u z) (.int i)) z []) (a.map g)=ac (a.map f):=λa=>by
  induction a with
  | nil=>intro _;rfl
  | cons x a m=>
   intro b;rw[wx,bD,eS (d:=f x) (ay (aH cw) vI (h x (b x (.head _))))];dsimp only;rw[m λy n=>b y (.tail _ n)]
   rfl
 exact this l λZ h=>h
end
set_option maxHeartbeats 400000
noncomputable def aJ:vR D:=[.str (vQ "table"),.str (vQ "sieve"),.str (vQ "pick"),.str (vQ "join"),.str (vQ "group"),.str (vQ "order"),.str (vQ "both"),.str (vQ "once"),.str (vQ "first")]
noncomputable def lI:vR vV:=["sieve","pick","group","order","once","first"]
theorem wd_mem{W:Wd}{nm:Str}{k:Nat}(h:W.lookup nm=ac k):kK (.str nm) W.d=ac vT/\aD W.d (.str nm)=ac (.int k):=by
 have j:cJ (.str nm) (W.map λp=>D.str p.1)=vT:=by
  have:(W.map λp=>D.str p.1).all D.isCell=vT:=by rw[List.all_map];exact wQ.mpr λZ Z=>QQ
  unfold cJ;rw[this];rfl
 have go:∀ W:Wd,W.lookup nm=ac k->((W.map λp=>D.str p.1).any λx=>aU x (.str nm))=vT/\lM (W.map λp=>D.str p.1) (W.map λp=>bi p.2) (.str nm)=ac (.int k):=λW=>by
  induction W with
  | nil=>intro h;cases h
  | cons p W m=>
   intro h;obtain⟨a,b⟩:=p;rw[wk] at h;have e:aU (.str a) (.str nm)=(a == nm):=rfl
   by_cases c:nm=a
   ·subst c
    rw[wH] at h;cases h;refine⟨by rw[wx,xM,e,wH];rfl,?_⟩
    rw[wx,wx,lM,e,wH];rfl
   ·rw[show (nm == a)=vP from by simpa using c] at h
    obtain⟨h1,f⟩:=m h;have i:(a == nm)=vP:=by simpa using λe=>c e.symm
    refine⟨by rw[wx,xM,h1,Bw],?_⟩
    rw[wx,wx,lM,e,i];exact f
 obtain⟨h1,f⟩:=go W h;exact⟨by show (if cJ _ _=vT then _ else _)=_;rw[wh j,h1],by show (if cJ _ _=vT then _ else _)=_;rw[wh j];exact f⟩
section
variable {P:vR (vV×Fn)} {X:CF} {W:Wd}
theorem width_table(B:BW P)(hX:X.glob "STEPS"=ac (.tup aJ))(n:Nat){nm:Str}{k:Nat}(h:W.lookup nm=ac k):(ae P X (n+1)).call "width" [(Q.table nm).d,W.d]=ac (.int k,vP):=by
 obtain⟨h1,f⟩:=wd_mem h;have i:(ae P X n).glob "STEPS"=ac (.tup aJ):=(dM P X n "STEPS").trans hX;have j:b9 .NotIn (.str nm) W.d=ac (.bool vP):=by show (kK _ _).map _=_;rw[h1];rfl
 refine az B.wd QQ ?_;show Run _ _ [("query",(vP,.tup [sD "table",.str nm])),("widths",(vP,W.d))] _ _;generalize W.d=T at *;generalize ae P X n=cf at *;unfold sD;exact aA (ak (ao (vsi ad QQ) QQ QQ)) (bp (al (vr aq) (Eq.trans (dy _ _ _) i) QQ) QQ (λa=>wI a (dtt QQ)) λa=>bp (al (vr aq) vS QQ) QQ (λc=>bp (al (vsi (ai QQ (av ad)) QQ) (vr (ai QQ (av (af QQ ad)))) j) QQ (λb=>mH b a) λa=>aT (ao (ay (vr (ai QQ (av (af QQ ad)))) (vsi (ai QQ (av ad)) QQ) f) QQ QQ) QQ) λa=>wI a (dtt QQ))
theorem di(B:BW P)(hX:X.glob "STEPS"=ac (.tup aJ))(n:Nat){wd:vV}(h:wd∈lI){q I T:D}{a b:Nat}(i:aD q (.int 0)=ac (sD wd))(j:aD q (.int (-1))=ac I)
  (h1:(ae P X n).call "width" [I,T]=ac (.int a,vP)) (m:(ae P X n).call "width_upon" [q,.int a]=ac (.int b,vP)):(ae P X (n+1)).call "width" [q,T]=ac (.int b,vP):=by
 have o:(ae P X n).glob "STEPS"=ac (.tup aJ):=(dM P X n "STEPS").trans hX;refine az B.wd QQ ?_;show Run _ _ [("query",(vP,q)),("widths",(vP,T))] _ _;generalize ae P X n=cf at *;unfold sD at i;simp only[lI,wf,wG,xx] at h
 rcases h with rfl | rfl | rfl | rfl | rfl | rfl
 all_goals exact aA (ak (ao (vsi ad i) QQ QQ)) (bp (al (vr aq) (Eq.trans (dy _ _ _) o) QQ) QQ (λf=>wI f (dtt QQ)) λf=>bp (al (vr aq) vS QQ) QQ (λc=>mH c f) λf=>bp (gV (al (vr aq) vS QQ) λa=>bz (al (vr aq) vS QQ)) QQ (λc=>mH c f) λf=>aT (aI (vv (ai QQ (av ad)) (aa (au (aa (ay (vr (ai QQ (av ad))) gW j) (vv (ai QQ (av (af QQ ad))) vN)) h1) vN)) m) QQ)
theorem nW(B:BW P)(hX:X.glob "STEPS"=ac (.tup aJ))(n:Nat){wd:vV}(j:wd="join"\/wd="both"){q I J T:D}{a b c:Nat}(i:aD q (.int 0)=ac (sD wd))(h1:aD q (.int 1)=ac I)(m:aD q (.int 2)=ac J)
  (k1:(ae P X n).call "width" [I,T]=ac (.int a,vP)) (k2:(ae P X n).call "width" [J,T]=ac (.int b,vP)) (k3:(ae P X n).call "width_of_two" [q,.int a,.int b]=ac (.int c,vP)):(ae P X (n+1)).call "width" [q,T]=ac (.int c,vP):=by
 have o:(ae P X n).glob "STEPS"=ac (.tup aJ):=(dM P X n "STEPS").trans hX;refine az B.wd QQ ?_;show Run _ _ [("query",(vP,q)),("widths",(vP,T))] _ _;generalize ae P X n=cf at *;unfold sD at i
 rcases j with rfl | rfl
 all_goals exact aA (ak (ao (vsi ad i) QQ QQ)) (bp (al (vr aq) (Eq.trans (dy _ _ _) o) QQ) QQ (λf=>wI f (dtt QQ)) λf=>bp (al (vr aq) vS QQ) QQ (λh=>mH h f) λf=>bp (gV (al (vr aq) vS QQ) λa=>bz (al (vr aq) vS QQ)) QQ (λf=>aA (ak (aI (aa (vsi (ai QQ (av ad)) h1) (vv (ai QQ (av (af QQ ad))) vN)) k1)) (aA (ak (aI (aa (vsi (ai QQ (av (ai QQ (av ad)))) m) (vv (ai QQ (av (ai QQ (av (af QQ ad))))) vN)) k2)) (aT (aI (vv (ai QQ (av (ai QQ (av (ai QQ (av ad)))))) (vv (ai QQ (av aq)) (vv aq vN))) k3) QQ))) λf=>wI f (dtt QQ))
end
set_option maxHeartbeats 400000
theorem ps_at{ps:vR Nat}{p:Nat}(h:p<ps.length):aD (.tup (ps.map bi)) (.int p)=ac (bi (ps.getD p 0)):=by
 refine uv (by rw[v9];exact h) ?_
 rw[xL,wj h,wC,wj h];rfl
theorem lk_ne{σ:St}{x y:vV}{v w:v7×D}(h:(x == y)=vP)(k:σ.lookup x=ac v):(ax σ y w).lookup x=ac v:=by
 rw[aE,wo (by rintro rfl;rw[wH] at h;cases h)];exact k
section
variable {P:vR (vV×Fn)} {X:CF}
section
variable {a:Nat}{I:D}
theorem ku{cf:CF}{σ:St}{w:vV}(b:w="sieve"\/w="order"\/w="once")(h1:Has σ "word" (sD w))(c:σ.lookup "within"=ac (vP,.int a)):Run cf (fG.body.drop 5) σ (.int a) vP:=by
 refine bp (k:=vP) (x:=.bool (vP&&vP)) (dX (k:=vP) (l:=vP) (al (vr h1) vS ?_) nofun) QQ nofun λZ=>eF c
 unfold sD;rcases b with rfl | rfl | rfl <;> rfl
theorem upon_sieve(B:BW P)(n:Nat){cs:vR (vR D)}(i:∀ c∈cs,kr a c):(ae P X (n+2)).call "width_upon" [.tup [sD "sieve",.tup (cs.map clD),I],.int a]=ac (.int a,vP):=by
 refine az B.wu QQ ?_;refine aA (ak (d:=sD "sieve") (fr:=vP) QQ) ?_;obtain⟨BJ,⟨b,j,m⟩,q⟩:=jP (cf:=ae P X (n+1)) (body:=[.expr (.call "need_columns" [.call "places_of" [.u "clause"],.u "within"])]) (z:="clause")
  (λZ σ=>Has σ "word" (sD "sieve")/\σ.lookup "within"=ac (vP,.int a)/\Has σ "query" (.tup [sD "sieve",.tup (cs.map clD),I])) (cs.map clD) [] (freeze ["query"] (ax (settle (sD "sieve") ["query"] [("query",(vP,.tup [sD "sieve",.tup (cs.map clD),I])),("within",(vP,.int a))]) "word" (vP,sD "sieve")))
  ⟨cx aq,QQ,(cx (ai QQ (av ad)))⟩ (by
   rintro x s y σ h ⟨b,j,m⟩;rw[zy] at h;obtain⟨c,f,rfl⟩:=wz.mp (by rw[h];simp:s∈cs.map clD)
   have t:=places_of (X:=X) B n (i c f).1 (i c f).2;have k2:=bX (X:=X) B n (ls:=.list ((fg (c.flatMap fB)).map .int)) QQ (cls_places (i c f));have o:=lk_ne (y:="clause") (w:=(vP,clD c)) QQ j;refine aM (fC (d:=.none) (au (aa (au (vv aq vN) t) (vv ⟨_,o⟩ vN)) k2) QQ) (cu ⟨QQ,ai QQ b,o,ai QQ m⟩))
 refine bp (k:=vT) (al (vr aq) vS QQ) QQ (λZ=>?_) nofun
 refine gK (x:=.tup (cs.map clD)) (BK:=cs.map clD) QQ QQ q ?_;unfold sD at b;refine bp (k:=vP) (al (vr b) vS QQ) QQ nofun λZ=>bp (k:=vP) (al (vr b) vS QQ) QQ nofun λZ=>bp (k:=vP) (al (vr b) vS QQ) QQ nofun λZ=>?_
 exact ku (.inl QQ) b j
theorem n3(B:BW P)(n:Nat){ps:vR Nat}(b:∀ p∈ps,p<a):(ae P X (n+2)).call "width_upon" [.tup [sD "pick",.tup (ps.map bi),I],.int a]=ac (.int ps.length,vP):=by
 have k2:=bX (X:=X) B n (ls:=.tup (ps.map bi)) (BK:=ps.map bi) QQ (iR (f:=λx=>x) b)
 refine az B.wu QQ ?_;refine aA (ak (d:=sD "pick") (fr:=vP) QQ) ?_;generalize ae P X (n+1)=cf at *;refine bp (k:=vP) (al (vr aq) vS QQ) QQ nofun λZ=>bp (k:=vT) (al (vr aq) vS QQ) QQ (λZ=>?_) nofun
 refine aA (fC (d:=.none) (au (aa (d:=.tup (ps.map bi)) QQ (aa (d:=.int a) QQ vN)) k2) QQ) ?_;refine aT (ao (cg (aa (d:=.tup (ps.map bi)) QQ vN) ?_) QQ QQ) QQ;show ac (D.int ((ps.map bi).length:Nat))=_;rw[v9]
theorem upon_group(B:BW P)(n:Nat){ps:vR Nat}{b:vR (vV×Nat)}(h:∀ p∈ps,p<a)(i:∀ x∈b,x.2<a)(j:b.length<=1000):(ae P X (n+2)).call "width_upon" [.tup [sD "group",.tup (ps.map bi),.tup (b.map dY),I],.int a]=ac (.int (ps.length+b.length:Nat),vP):=by
 have m:=bX (X:=X) B n (ls:=.tup (ps.map bi)) (BK:=ps.map bi) QQ (iR (f:=λx=>x) h)
 have k2:=bX (X:=X) B n (ls:=.list (b.map λx=>.int x.2)) QQ (iR (f:=λx:vV×Nat=>x.2) i)
 have c:2000<big:=by decide
 refine az B.wu QQ ?_;refine aA (ak (d:=sD "group") (fr:=vP) QQ) ?_;generalize ae P X (n+1)=cf at *;refine bp (k:=vP) (al (vr aq) vS QQ) QQ nofun λZ=>bp (k:=vP) (al (vr aq) vS QQ) QQ nofun λZ=>bp (k:=vT) (al (vr aq) vS QQ) QQ (λZ=>?_) nofun
 refine aA (fC (d:=.none) (au (aa (d:=.tup (ps.map bi)) QQ (aa (d:=.int a) QQ vN)) m) QQ) ?_;refine aA (fC (d:=.none) (au (aa (eO (l:=b) (g:=dY) (f:=λx=>.int x.2) QQ (om82 j c) λx Z=>QQ) (aa (d:=.int a) QQ vN)) k2) QQ) ?_
 refine aT (ao (aj (cg (aa (d:=.tup (ps.map bi)) QQ vN) QQ) (cg (aa (d:=.tup (b.map dY)) QQ vN) QQ) ?_) QQ QQ) QQ;show ac (D.int (((ps.map bi).length:Nat)+((b.map dY).length:Nat):Int))=_;rw[v9,v9,xA]
theorem upon_order(B:BW P)(n:Nat){ks:vR (Nat×v7)}(c:∀ x∈ks,x.1<a)(h:ks.length<=1000):(ae P X (n+2)).call "width_upon" [.tup [sD "order",.tup (ks.map kM),I],.int a]=ac (.int a,vP):=by
 have k2:=bX (X:=X) B n (ls:=.list (ks.map λx=>.int x.1)) QQ (iR (f:=λx:Nat×v7=>x.1) c)
 have b:2000<big:=by decide
 refine az B.wu QQ ?_;refine aA (ak (d:=sD "order") (fr:=vP) QQ) ?_;generalize ae P X (n+1)=cf at *;refine bp (k:=vP) (al (vr aq) vS QQ) QQ nofun λZ=>bp (k:=vP) (al (vr aq) vS QQ) QQ nofun λZ=>bp (k:=vP) (al (vr aq) vS QQ) QQ nofun λZ=>bp (k:=vT) (al (vr aq) vS QQ) QQ (λZ=>?_) nofun
 refine aA (fC (d:=.none) (au (aa (eO (l:=ks) (g:=kM) (f:=λx=>.int x.1) QQ (om82 h b) λx Z=>QQ) (aa (d:=.int a) QQ vN)) k2) QQ) ?_
 exact ku (.inr (.inl QQ)) aq QQ
theorem upon_once(B:BW P)(n:Nat):(ae P X (n+2)).call "width_upon" [.tup [sD "once",I],.int a]=ac (.int a,vP):=by
 refine az B.wu QQ ?_;refine aA (ak (d:=sD "once") (fr:=vP) QQ) ?_;generalize ae P X (n+1)=cf at *;refine bp (k:=vP) (al (vr aq) vS QQ) QQ nofun λZ=>bp (k:=vP) (al (vr aq) vS QQ) QQ nofun λZ=>bp (k:=vP) (al (vr aq) vS QQ) QQ nofun λZ=>bp (k:=vP) (al (vr aq) vS QQ) QQ nofun λZ=>?_
 exact ku (.inr (.inr QQ)) aq QQ
theorem upon_first(B:BW P)(n:Nat){c:Nat}:(ae P X (n+2)).call "width_upon" [.tup [sD "first",bi c,I],.int a]=ac (.int a,vP):=by
 have b:b9 .Lt (.int c) (.int 0)=ac (.bool vP):=by
  show ac (D.bool (decide ((c:Int)<0)))=_;rw[xg (rP)]
 refine az B.wu QQ ?_;refine aA (ak (d:=sD "first") (fr:=vP) QQ) ?_;generalize ae P X (n+1)=cf at *;refine bp (k:=vP) (al (vr aq) vS QQ) QQ nofun λZ=>bp (k:=vP) (al (vr aq) vS QQ) QQ nofun λZ=>bp (k:=vP) (al (vr aq) vS QQ) QQ nofun λZ=>bp (k:=vP) (al (vr aq) vS QQ) QQ nofun λZ=>?_
 refine bp (k:=vP) (x:=.bool (vT&&vP)) (dX (k:=vT) (l:=vP) (al (vr aq) vS QQ) λZ=>bz (al (ay (x:=.tup [sD "first",bi c,I]) (y:=.int 1) QQ QQ QQ) vI b)) QQ nofun λZ=>eF QQ
theorem two_join(B:BW P)(n:Nat){prs:vR (Nat×Nat)}{J:D}{b:Nat}(h:∀ x∈prs,x.1<a/\x.2<b)(j:prs.length<=5000):(ae P X (n+2)).call "width_of_two" [.tup [sD "join",I,J,.tup (prs.map prT)],.int a,.int b]=ac (.int (a+b:Nat),vP):=by
 have m:=bX (X:=X) B n (ls:=.list (prs.map λx=>.int x.1)) QQ (iR (f:=λx=>x.1) λx i=>(h x i).1)
 have k2:=bX (X:=X) B n (ls:=.list (prs.map λx=>.int x.2)) QQ (iR (f:=λx=>x.2) λx i=>(h x i).2)
 have c:5000<=big:=by decide
 refine az B.w2 QQ ?_;generalize ae P X (n+1)=cf at *;refine bp (k:=vT) (al (ay (x:=.tup [sD "join",I,J,.tup (prs.map prT)]) (y:=.int 0) QQ QQ QQ) vS QQ) QQ (λZ=>?_) nofun
 refine aA (fC (d:=.none) (au (aa (eO (l:=prs) (g:=prT) (f:=λx=>.int x.1) QQ (om83 j c) λx Z=>QQ) (aa (d:=.int a) QQ vN)) m) QQ) ?_
 refine aA (fC (d:=.none) (au (aa (eO (l:=prs) (g:=prT) (f:=λx=>.int x.2) QQ (om83 j c) λx Z=>QQ) (aa (d:=.int b) QQ vN)) k2) QQ) ?_
 exact aT (ao (aj (x:=.int a) (y:=.int b) QQ QQ (by rw[xA];rfl)) QQ QQ) QQ
theorem two_both(B:BW P)(n:Nat){J:D}:(ae P X (n+1)).call "width_of_two" [.tup [sD "both",I,J],.int a,.int a]=ac (.int a,vP):=by
 have e:b9 .NotEq (.int a) (.int a)=ac (.bool vP):=by show ac (D.bool (!((a:Int) == a)))=_;rw[wH];rfl
 refine az B.w2 QQ ?_;generalize ae P X n=cf at *;refine bp (k:=vP) (al (ay (x:=.tup [sD "both",I,J]) (y:=.int 0) QQ QQ QQ) vS QQ) QQ nofun λZ=>?_
 exact bp (k:=vP) (al (x:=.int a) (y:=.int a) QQ QQ e) QQ nofun λZ=>eF QQ
theorem width_eq(B:BW P)(hX:X.glob "STEPS"=ac (.tup aJ)){W:Wd}:∀ (q:Q) (n:Nat),q.ok W->q.dp<=n->(ae P X (n+3)).call "width" [q.d,W.d]=ac (.int (q.wd W),vP):=by
 intro q
 induction q with
 | table y=>
  rintro n ⟨k,h⟩ _;have:=width_table B hX (n+2) h;rw[this,Q.wd,h];rfl
 | sieve z q j=>rintro n ⟨h1,m,_⟩ i;obtain⟨n,rfl,f⟩:=dpS i;exact di B hX _ (wd:="sieve") (by decide) QQ QQ (j n h1 f) (upon_sieve B (n+1) m)
 | pick ps q j=>rintro n ⟨h1,m,_⟩ i;obtain⟨n,rfl,f⟩:=dpS i;exact di B hX _ (wd:="pick") (by decide) QQ QQ (j n h1 f) (n3 B (n+1) m)
 | group ps A q j=>rintro n ⟨h1,m,o,_,u⟩ i;obtain⟨n,rfl,f⟩:=dpS i;exact di B hX _ (wd:="group") (by decide) QQ QQ (j n h1 f) (upon_group B (n+1) m o u)
 | order ks q j=>rintro n ⟨h1,m,o⟩ i;obtain⟨n,rfl,f⟩:=dpS i;exact di B hX _ (wd:="order") (by decide) QQ QQ (j n h1 f) (upon_order B (n+1) m o)
 | once q j=>rintro n h1 i;obtain⟨n,rfl,f⟩:=dpS i;exact di B hX _ (wd:="once") (by decide) QQ QQ (j n h1 f) (upon_once B (n+1))
 | first c q j=>rintro n h1 i;obtain⟨n,rfl,f⟩:=dpS i;exact di B hX _ (wd:="first") (by decide) QQ QQ (j n h1 f) (upon_first B (n+1))
 | join a b w s t=>rintro n ⟨h1,m,o,u⟩ i;obtain⟨n,rfl,f⟩:=dpS i;exact nW B hX _ (.inl QQ) QQ QQ QQ (s n h1 (v6 (y9 _ _) f)) (t n m (v6 (yZ _ _) f)) (two_join B (n+1) o u)
 | both a b s t=>
  rintro n ⟨h1,m,o⟩ i;obtain⟨n,rfl,f⟩:=dpS i;have k2:=t n m (v6 (yZ _ _) f);rw[<- o] at k2;exact nW B hX _ (.inr QQ) QQ QQ QQ (s n h1 (v6 (y9 _ _) f)) k2 (two_both B (n+2))
end
end
set_option maxHeartbeats 400000
noncomputable def qR:Fn:=⟨["one","other"],[
  .ret (.bop .And [.cmp .Eq (.isi (.u "one") "str") (.isi (.u "other") "str"),.cmp .Eq (.u "one") (.u "other")])]⟩
noncomputable def pF:Fn:=⟨["test","row"],[
  .x0 "one" (.sub (.u "row") (.sub (.u "test") (.int 1))),
  .x0 "other" (.sub (.u "test") (.int 3)),
  .ite (.cmp .Eq (.sub (.u "test") (.int 2)) (.str "col")) [.x0 "other" (.sub (.u "row") (.sub (.u "test") (.int 3)))] [],
  .x0 "word" (.sub (.u "test") (.int 0)),
  .ite (.cmp .Eq (.u "word") (.str "same")) [.ret (.call "alike" [.u "one",.u "other"])] [],
  .ite (.cmp .Eq (.u "word") (.str "unlike")) [.ret (.not (.call "alike" [.u "one",.u "other"]))] [],
  .ite (.cmp .Eq (.u "word") (.str "before")) [.ret (.call "before" [.u "one",.u "other"])] [],
  .ite (.cmp .Eq (.u "word") (.str "upto")) [.ret (.bop .Or [.call "before" [.u "one",.u "other"],.call "alike" [.u "one",.u "other"]])] [],
  .ite (.cmp .Eq (.u "word") (.str "behind")) [.ret (.call "before" [.u "other",.u "one"])] [],
  .ret (.bop .Or [.call "before" [.u "other",.u "one"],.call "alike" [.u "one",.u "other"]])]⟩
noncomputable def nb:Fn:=⟨["clause","row"],[
  .for_ "test" (.u "clause") [.ite (.call "does" [.u "test",.u "row"]) [.ret (.bool vT)] []],
  .ret (.bool vP)]⟩
noncomputable def m9:Fn:=⟨["clauses","row"],[
  .for_ "clause" (.u "clauses") [.ite (.not (.call "holds" [.u "clause",.u "row"])) [.ret (.bool vP)] []],
  .ret (.bool vT)]⟩
noncomputable def lB:Fn:=⟨["row","places"],[
  .ret (.blt "tuple" [.comp (.sub (.u "row") (.u "place")) "place" (.u "places") []])]⟩
noncomputable def m4:Fn:=⟨["one","other","pairs"],[
  .for_ "pair" (.u "pairs") [.ite (.not (.call "alike" [.sub (.u "one") (.sub (.u "pair") (.int 0)),.sub (.u "other") (.sub (.u "pair") (.int 1))])) [.ret (.bool vP)] []],
  .ret (.bool vT)]⟩
noncomputable def rY:Fn:=⟨["first","second","pairs"],[
  .x0 "found" (.lst []),
  .for_ "one" (.u "first") [.for_ "other" (.u "second") [.ite (.call "meets" [.u "one",.u "other",.u "pairs"]) [.append "found" (.bin .Add (.u "one") (.u "other"))] []]],
  .ret (.u "found")]⟩
noncomputable def jr:Fn:=⟨["one","rows"],[
  .x0 "word" (.sub (.u "one") (.int 0)),
  .x0 "place" (.sub (.u "one") (.int 1)),
  .ite (.cmp .Eq (.u "word") (.str "count")) [.ret (.blt "len" [.u "rows"])] [],
  .ite (.cmp .Eq (.u "word") (.str "sum")) [.ret (.blt "sum" [.comp (.sub (.u "row") (.u "place")) "row" (.u "rows") [.not (.isi (.sub (.u "row") (.u "place")) "str")]])] [],
  .x0 "found" (.sub (.sub (.u "rows") (.int 0)) (.u "place")),
  .for_ "row" (.u "rows") [.ite (.bop .And [.cmp .Eq (.u "word") (.str "least"),.call "before" [.sub (.u "row") (.u "place"),.u "found"]]) [.x0 "found" (.sub (.u "row") (.u "place"))] [],.ite (.bop .And [.cmp .Eq (.u "word") (.str "most"),.call "before" [.u "found",.sub (.u "row") (.u "place")]]) [.x0 "found" (.sub (.u "row") (.u "place"))] []],
  .ret (.u "found")]⟩
noncomputable def ju:Fn:=⟨["rows","places","sums"],[
  .x0 "groups" (.dct [] []),
  .grp,
  .x0 "found" (.lst []),
  .for_ "own" (.u "groups") [.x0 "told" (.comp (.call "told_of" [.u "one",.sub (.u "groups") (.u "own")]) "one" (.u "sums") []),.append "found" (.bin .Add (.u "own") (.blt "tuple" [.u "told"]))],
  .ret (.u "found")]⟩
noncomputable def tz:Fn:=⟨["cell"],[
  .ret (.tup [.isi (.u "cell") "str",.u "cell"])]⟩
noncomputable def jt:Fn:=⟨["rows","keys"],[
  .x0 "found" (.lcp (.u "rows")),
  .forr "one" (.u "keys") [.x0 "place" (.sub (.u "one") (.int 0)),.ite (.sub (.u "one") (.int 1)) [.x0 "found" (.srt (.u "found") "rank" "row" "place" vT)] [.x0 "found" (.srt (.u "found") "rank" "row" "place" vP)]],
  .ret (.u "found")]⟩
noncomputable def pE:Fn:=⟨["rows"],[
  .x0 "known" (.dct [] []),
  .x0 "found" (.lst []),
  .for_ "row" (.u "rows") [.ite (.cmp .NotIn (.u "row") (.u "known")) [.setk "known" (.u "row") (.bool vT),.append "found" (.u "row")] []],
  .ret (.u "found")]⟩
noncomputable def js:Fn:=⟨["query","rows"],[
  .x0 "word" (.sub (.u "query") (.int 0)),
  .ite (.cmp .Eq (.u "word") (.str "sieve")) [.ret (.comp (.u "row") "row" (.u "rows") [.call "keeps" [.sub (.u "query") (.int 1),.u "row"]])] [],
  .ite (.cmp .Eq (.u "word") (.str "pick")) [.ret (.comp (.call "cells_at" [.u "row",.sub (.u "query") (.int 1)]) "row" (.u "rows") [])] [],
  .ite (.cmp .Eq (.u "word") (.str "group")) [.ret (.call "grouped" [.u "rows",.sub (.u "query") (.int 1),.sub (.u "query") (.int 2)])] [],
  .ite (.cmp .Eq (.u "word") (.str "order")) [.ret (.call "ordered" [.u "rows",.sub (.u "query") (.int 1)])] [],
  .ite (.cmp .Eq (.u "word") (.str "once")) [.ret (.call "once" [.u "rows"])] [],
  .ret (.sl (.u "rows") .none (.sub (.u "query") (.int 1)))]⟩
noncomputable def iU:Fn:=⟨["query","tables"],[
  .x0 "word" (.sub (.u "query") (.int 0)),
  .ite (.cmp .NotIn (.u "word") (.glob "STEPS")) [zNS] [],
  .ite (.cmp .Eq (.u "word") (.str "table")) [.ite (.cmp .NotIn (.sub (.u "query") (.int 1)) (.u "tables")) [zNT] [],.ret (.lcp (.sub (.u "tables") (.sub (.u "query") (.int 1))))] [],
  .ite (.cmp .Eq (.u "word") (.str "join")) [.x0 "first" (.call "answer" [.sub (.u "query") (.int 1),.u "tables"]),.ret (.call "met" [.u "first",.call "answer" [.sub (.u "query") (.int 2),.u "tables"],.sub (.u "query") (.int 3)])] [],
  .ite (.cmp .Eq (.u "word") (.str "both")) [.x0 "first" (.call "answer" [.sub (.u "query") (.int 1),.u "tables"]),.ret (.bin .Add (.u "first") (.call "answer" [.sub (.u "query") (.int 2),.u "tables"]))] [],
  .ret (.call "stepped" [.u "query",.call "answer" [.sub (.u "query") (.neg (.int 1)),.u "tables"]])]⟩
structure BA(P:vR (vV×Fn)):Prop where
 before:P.lookup "before"=ac kX
 alike:P.lookup "alike"=ac qR
 does:P.lookup "does"=ac pF
 holds:P.lookup "holds"=ac nb
 keeps:P.lookup "keeps"=ac m9
 cells_at:P.lookup "cells_at"=ac lB
 meets:P.lookup "meets"=ac m4
 met:P.lookup "met"=ac rY
 told_of:P.lookup "told_of"=ac jr
 grouped:P.lookup "grouped"=ac ju
 rank:P.lookup "rank"=ac tz
 ordered:P.lookup "ordered"=ac jt
 once:P.lookup "once"=ac pE
 stepped:P.lookup "stepped"=ac js
 answer:P.lookup "answer"=ac iU
noncomputable def pW(w:vV)(a b:D):v7:=
 if w="same" then iG a b else if w="unlike" then !iG a b else if w="before" then cr a b else if w="upto" then !cr b a
 else if w="behind" then cr b a else !cr a b
noncomputable def othV(row:vR D)(a:vV)(o:D):D:=if a="col" then (match o with | .int q=>row.getD q.toNat .none | _=>.none) else o
noncomputable def tV(row:vR D)(t:D):v7:=match t with
 | .tup [.str w,.int p,.str a,o]=>["same","unlike","before","upto","behind","from"].any λx=>vQ x == w&&pW x (row.getD p.toNat .none) (othV row (if a == vQ "col" then "col" else "is") o)
 | _=>vP
theorem ut(row:vR D){w:vV}(a:w∈iX)(p:Nat)(b:vV)(o:D):tV row (tst w p b o)=pW w (row.getD p .none) (othV row (if b == "col" then "col" else "is") o):=by
 unfold tV tst;simp only[ofS_beq,yz];simp only[iX,wf,wG,xx] at a
 rcases a with rfl | rfl | rfl | rfl | rfl | rfl <;> simp
section
variable {P:vR (vV×Fn)} {X:CF}
theorem words_or{w:vV}(a:w∈iX):w="same"\/w="unlike"\/w="before"\/w="upto"\/w="behind"\/w="from":=by
 simpa only [iX,wf,wG,xx] using a
theorem rq(B:BA P)(n:Nat)(a b:D)(c:a.isCell=vT)(f:b.isCell=vT):(ae P X (n+1)).call "alike" [a,b]=ac (.bool (iG a b),vP):=by
 refine az B.alike QQ ?_;cases a <;> first | (cases c;done) | (cases b <;> first | (cases f;done) | rfl)
theorem gF(B:BA P)(n:Nat)(a b:D)(c:a.isCell=vT)(f:b.isCell=vT):(ae P X (n+1)).call "before" [a,b]=ac (.bool (cr a b),vP):=by
 refine az B.before QQ ?_;cases a <;> first | (cases c;done) | (cases b <;> first | (cases f;done) | rfl)
theorem k6{row:vR D}(b:∀ d∈row,d.isCell=vT){p:Nat}(a:p<row.length):(row.getD p .none).isCell=vT:=by
 rw[wC,wj a];exact b _ (yF a)
variable {cf:CF} {σ:St} {t r:vR MS} {w w2:vV} {R:D} {fr:v7}
theorem skW(a:(vQ w == vQ w2)=vP)(h:Has σ "word" (sD w))(k:Run cf r σ R fr):Run cf (.ite (.cmp .Eq (.u "word") (.str w2)) t []::r) σ R fr:=
 bp (k:=vP) (x:=.bool vP) (al (vr h) vS (by show ac (D.bool (vQ w == vQ w2))=_;rw[a])) QQ nofun λZ=>k
theorem kP(h:Has σ "word" (sD w))(k:Run cf (t++r) σ R fr):Run cf (.ite (.cmp .Eq (.u "word") (.str w)) t []::r) σ R fr:=
 bp (k:=vT) (x:=.bool vT) (al (vr h) vS (by show ac (D.bool (vQ w == vQ w))=_;rw[wH])) QQ (λZ=>k) nofun
theorem oD(B:BA P)(n:Nat){w:vV}(y:w∈iX){a b:D}(f:a.isCell=vT)(h:b.isCell=vT){σ:St}(c:Has σ "word" (sD w))(m:Has σ "one" a)(o:Has σ "other" b):Run (ae P X (n+1)) (pF.body.drop 4) σ (.bool (pW w a b)) vP:=by
 have j:=rq (X:=X) B n a b f h;have q:=gF (X:=X) B n a b f h;have s:=gF (X:=X) B n b a h f;have z:=tri f h;have t:=tri h f;rw[alike_comm h f] at t;generalize ae P X (n+1)=cf at *;have i:bk cf (vis σ) [.u "one",.u "other"]=ac [a,b]:=vv m (vv o vN);have u:bk cf (vis σ) [.u "other",.u "one"]=ac [b,a]:=vv o (vv m vN)
 rcases words_or y with rfl | rfl | rfl | rfl | rfl | rfl
 ·exact kP c (aT (aI i j) QQ)
 ·exact skW (by decide +kernel) c (kP c (aT (ao (sy (au i j) QQ) QQ QQ) QQ))
 ·exact skW (by decide +kernel) c (skW (by decide +kernel) c (kP c (aT (aI i q) QQ)))
 ·show Run cf _ _ (.bool (!cr b a)) _
  rw[<- t];exact skW (by decide +kernel) c (skW (by decide +kernel) c (skW (by decide +kernel) c (kP c (aT (ao (gV (au i q) λZ=>bz (au i j)) QQ QQ) QQ))))
 ·exact skW (by decide +kernel) c (skW (by decide +kernel) c (skW (by decide +kernel) c (skW (by decide +kernel) c (kP c (aT (aI u s) QQ)))))
 ·show Run cf _ _ (.bool (!cr a b)) _
  rw[<- z];exact skW (by decide +kernel) c (skW (by decide +kernel) c (skW (by decide +kernel) c (skW (by decide +kernel) c (skW (by decide +kernel) c (aT (ao (gV (au u s) λZ=>bz (au i j)) QQ QQ) QQ)))))
theorem does_eq(B:BA P)(n:Nat){row:vR D}(h:∀ d∈row,d.isCell=vT){t:D}(m:Tst row.length t):(ae P X (n+2)).call "does" [t,.tup row]=ac (.bool (tV row t),vP):=by
 obtain⟨w,p,c,i,a⟩:=m;have f:=k6 h i;have h1:=pD i;refine az B.does QQ ?_
 rcases a with⟨q,j,rfl⟩ | ⟨o,s,rfl⟩
 ·rw[show tV row (tst w p "col" (.int q))=pW w (row.getD p .none) (row.getD q .none) from ut row c p "col" (.int q)]
  have b:=k6 h j;refine aA (bq (d:=row.getD p .none) (fr:=vP) (ao (ay (vr (af QQ ad)) (ay (x:=tst w p "col" (.int q)) (vr ad) vI QQ) h1) QQ QQ) f) (aA (bq (d:=.int q) (fr:=vP) (ao (ay (x:=tst w p "col" (.int q)) (vr (ai QQ ad)) vI QQ) QQ QQ) QQ) (bp (k:=vT) (x:=.bool vT) (al (ay (x:=tst w p "col" (.int q)) (vr (ai QQ (ai QQ ad))) vI QQ) vS QQ) QQ (λZ=>?_) nofun))
  refine aA (bq (d:=row.getD q .none) (fr:=vP) (ao (ay (vr (ai QQ (ai QQ (af QQ ad)))) (ay (x:=tst w p "col" (.int q)) (vr (ai QQ (ai QQ ad))) vI QQ) (pD j)) QQ QQ) b) (aA (bq (d:=sD w) (fr:=vP) (ao (ay (x:=tst w p "col" (.int q)) (vr (ai QQ (ai QQ (ai QQ ad)))) vI QQ) QQ QQ) QQ) ?_);exact oD B n c f b aq (ai QQ (ai QQ (ai QQ aq))) (ai QQ aq)
 ·rw[show tV row (tst w p "is" o)=pW w (row.getD p .none) o from ut row c p "is" o]
  have b:=s.cell;refine aA (bq (d:=row.getD p .none) (fr:=vP) (ao (ay (vr (af QQ ad)) (ay (x:=tst w p "is" o) (vr ad) vI QQ) h1) QQ QQ) f) (aA (bq (d:=o) (fr:=vP) (ao (ay (x:=tst w p "is" o) (vr (ai QQ ad)) vI QQ) QQ QQ) b) (bp (k:=vP) (x:=.bool vP) (al (ay (x:=tst w p "is" o) (vr (ai QQ (ai QQ ad))) vI QQ) vS QQ) QQ nofun λZ=>?_))
  exact aA (bq (d:=sD w) (fr:=vP) (ao (ay (x:=tst w p "is" o) (vr (ai QQ (ai QQ ad))) vI QQ) QQ QQ) QQ) (oD B n c f b aq (ai QQ (ai QQ aq)) (ai QQ aq))
theorem holds_eq(B:BA P)(n:Nat){row:vR D}(h:∀ d∈row,d.isCell=vT){a:vR D}(i:∀ t∈a,Tst row.length t):(ae P X (n+3)).call "holds" [.tup a,.tup row]=ac (.bool (a.any (tV row)),vP):=by
 refine az B.holds QQ ?_;show Run _ nb.body [("clause",(vP,.tup a)),("row",(vP,.tup row))] _ _;obtain⟨BJ,j,k2⟩:=oo (cf:=ae P X (n+2)) (body:=[.ite (.call "does" [.u "test",.u "row"]) [.ret (.bool vT)] []]) (z:="test") (tV row) (λσ=>Has σ "row" (.tup row)) vP (.bool vT) a (λt c σ b=>d6 (au (vv aq (vv (ai QQ b) vN)) (does_eq B n h (i t c))) QQ (λq=>o_ret (ao vB QQ QQ) QQ (leaf_t q QQ)) λq=>cu (leaf_f q ⟨QQ,ai QQ b⟩)) _ (cx (ns:=["clause"]) (σ:=[("clause",(vP,.tup a)),("row",(vP,.tup row))]) (af QQ ad))
 cases f:a.any (tV row) with
 | true=>exact rN (vr ad) QQ (j f)
 | false=>exact gK (vr ad) QQ (k2 f).2 (aT (ao vB QQ QQ) QQ)
end
section
variable {α:Type} {cf:CF} {body:vR MS} {z:vV} {g:α->D}
theorem lw(I:vR α->St->Prop):∀ (l a:vR α) (σ:St),I a σ->(∀ (b:vR α) (x:α) (σ:St),x∈l->b.length<a.length+l.length->I b σ->Out cf body (ax σ z (vP,g x)) λi BJ=>i=.next/\I (b++[x]) BJ)->∃ BJ,I (a++l) BJ/\cq (cP cf body z) (l.map g) σ=ac (.next,BJ)
 | [],a,σ,h,_=>⟨σ,(xY a).symm▸h,QQ⟩
 | x::l,a,σ,h,j=>by
  obtain⟨i,c,⟨rfl,n⟩,e⟩:=j a x σ (.head _) (yd (xH _)) h;obtain⟨f,o,q⟩:=lw I l (a++[x]) c n λb y s t m h=>j b y s (.tail _ t) (by rw[wn] at m;exact wJ m (wD (by rw[yb,xS [x].length];rfl))) h
  exact⟨f,by rw[Af];exact o,by rw[wx,bL,e];exact q⟩
theorem findT(p:α->v7)(I:St->Prop)(fr:v7)(d:D):∀ (l:vR α),(∀ x∈l,∀ σ,I σ->Out cf body (ax σ z (vP,g x)) λc BJ=>if p x=vT then c=.ret fr d else c=.next/\I BJ) ->
  ∀ σ,I σ->∃ BJ,(l.any p=vT->cq (cP cf body z) (l.map g) σ=ac (.ret fr d,BJ))/\(l.any p=vP->I BJ/\cq (cP cf body z) (l.map g) σ=ac (.next,BJ))
 | [],_,σ,b=>⟨σ,nofun,λZ=>⟨b,QQ⟩⟩
 | x::r,h,σ,b=>by
  obtain⟨c,a,q,e⟩:=h x (.head _) σ b;rw[xM,wx,bL,e];cases f:p x with
  | true=>
   rw[wh f] at q;subst q;exact⟨a,λZ=>QQ,nofun⟩
  | false=>
   rw[wo (by rw[f];exact wO)] at q
   obtain⟨rfl,j⟩:=q;exact findT p I fr d r (λi m=>h i (.tail _ m)) a j
theorem qf(p:α->v7)(l:vR α){s:vV}{c:ME}{b:v7}{σ:St}(f:Has σ s (.tup (l.map g)))(I:St->Prop)(n:I (freeze [s] σ))(i:∀ x∈l,∀ σ,I σ->I (ax σ z (vP,g x))/\evE cf (vis (ax σ z (vP,g x))) c=ac (.bool (p x))) :
  Run cf [.for_ z (.u s) [.ite c [.ret (.bool b)] []],.ret (.bool (!b))] σ (.bool (if l.any p=vT then b else !b)) vP:=by
 obtain⟨BJ,o,k2⟩:=findT (cf:=cf) (body:=[.ite c [.ret (.bool b)] []]) (z:=z) (g:=g) p I vP (.bool b) l (λx j σ a=>d6 (i x j σ a).2 QQ (λh=>o_ret (ao vB QQ QQ) QQ (by rw[wh h];rfl)) λh=>cu (by rw[h,wo wO];exact⟨QQ,(i x j σ a).1⟩)) _ n
 cases m:l.any p with
 | true=>exact rN (vr f) QQ (o m)
 | false=>exact gK (vr f) QQ (k2 m).2 (aT (ao vB QQ QQ) QQ)
theorem rI{ρ:vR (vV×D)}{elt BH:ME}{f:α->D}{l:vR α}{d:D}(a:evE cf ρ BH=ac d)(b:d.items=ac (l.map g))(c:l.length<=big)(h:∀ x∈l,evE cf ((z,g x)::ρ) elt=ac (f x)):evE cf ρ (.comp elt z BH [])=ac (.list (l.map f)):=
 gX a b (by rw[v9];exact c) (j6 _ _ _ _ λx i=>eS (h x i))
end
noncomputable abbrev Tab:=vR (vR D)
noncomputable def eC(m:Nat)(r:vR D):Prop:=r.length=m/\∀ d∈r,d.isCell=vT
noncomputable def bB(m:Nat)(t:Tab):Prop:=∀ r∈t,eC m r
noncomputable def aK(t:Tab):D:=.list (t.map .tup)
noncomputable def pk(cs:vR (vR D))(row:vR D):v7:=cs.all λc=>c.any (tV row)
noncomputable def fJ(ps:vR Nat)(row:vR D):vR D:=ps.map λp=>row.getD p .none
noncomputable def fE(prs:vR (Nat×Nat))(a b:vR D):v7:=prs.all λp=>iG (a.getD p.1 .none) (b.getD p.2 .none)
theorem sZ{α:Type}(q:α->v7)(l:vR α):(if (l.any λx=>!q x)=vT then vP else !vP)=l.all q:=by
 rw[<- List.not_all_eq_any_not];cases l.all q <;> rfl
section
variable {P:vR (vV×Fn)} {X:CF}
theorem rj{m p:Nat}{r:vR D}(a:eC m r)(b:p<m):aD (.tup r) (.int p)=ac (r.getD p .none):=pD (a.1.symm▸b)
theorem nT{m p:Nat}{r:vR D}(a:eC m r)(b:p<m):(r.getD p .none).isCell=vT:=k6 a.2 (a.1.symm▸b)
theorem keeps_eq(B:BA P)(n:Nat){m:Nat}{row:vR D}(h:eC m row){cs:vR (vR D)}(i:∀ c∈cs,kr m c):(ae P X (n+4)).call "keeps" [.tup (cs.map clD),.tup row]=ac (.bool (pk cs row),vP):=by
 refine az B.keeps QQ ?_;show Run _ m9.body [("clauses",(vP,.tup (cs.map clD))),("row",(vP,.tup row))] _ _;have q:=qf (cf:=ae P X (n+3)) (z:="clause") (g:=clD) (s:="clauses") (σ:=[("clauses",(vP,.tup (cs.map clD))),("row",(vP,.tup row))]) (c:=.not (.call "holds" [.u "clause",.u "row"])) (b:=vP) (λc=>!c.any (tV row)) cs ad (λσ=>Has σ "row" (.tup row)) (cx (af QQ ad)) λc f σ a=>⟨ai QQ a,sy (au (vv aq (vv (ai QQ a) vN)) (holds_eq B n h.2 λt j=>h.1.symm▸(i c f).1 t j)) QQ⟩
 rw[sZ] at q;exact q
theorem q9(B:BA P)(n:Nat){m:Nat}{row:vR D}(b:eC m row){ps:vR Nat}(c:∀ p∈ps,p<m)(h:ps.length<=big):(ae P X (n+1)).call "cells_at" [.tup row,.tup (ps.map bi)]=ac (.tup (fJ ps row),vP):=by
 refine az B.cells_at QQ (aT (ao (cg (aa (rI (g:=bi) (l:=ps) (f:=λp=>row.getD p .none) (vr (af QQ ad)) QQ h λp a=>ay (aH (bR QQ (aV ad))) (aH cw) (rj b (c p a))) vN) QQ) QQ QQ) QQ)
theorem meets_eq(B:BA P)(n:Nat){m k:Nat}{a b:vR D}(j:eC m a)(o:eC k b){prs:vR (Nat×Nat)}(i:∀ p∈prs,p.1<m/\p.2<k):(ae P X (n+2)).call "meets" [.tup a,.tup b,.tup (prs.map prT)]=ac (.bool (fE prs a b),vP):=by
 refine az B.meets QQ ?_;show Run _ m4.body [("one",(vP,.tup a)),("other",(vP,.tup b)),("pairs",(vP,.tup (prs.map prT)))] _ _;have q:=qf (cf:=ae P X (n+1)) (z:="pair") (g:=prT) (s:="pairs") (σ:=[("one",(vP,.tup a)),("other",(vP,.tup b)),("pairs",(vP,.tup (prs.map prT)))]) (c:=.not (.call "alike" [.sub (.u "one") (.sub (.u "pair") (.int 0)),.sub (.u "other") (.sub (.u "pair") (.int 1))])) (b:=vP) (λp=>!iG (a.getD p.1 .none) (b.getD p.2 .none)) prs (af QQ (af QQ ad)) (λσ=>Has σ "one" (.tup a)/\Has σ "other" (.tup b)) ⟨cx ad,cx (af QQ ad)⟩ λp f σ h=>⟨⟨ai QQ h.1,ai QQ h.2⟩,
  sy (au (aa (ay (vr (ai QQ h.1)) (ay (x:=prT p) (vr aq) vI QQ) (rj j (i p f).1)) (aa (ay (vr (ai QQ h.2)) (ay (x:=prT p) (vr aq) vI QQ) (rj o (i p f).2)) vN)) (rq B n _ _ (nT j (i p f).1) (nT o (i p f).2))) QQ⟩
 rw[sZ] at q;exact q
end
noncomputable def nR(prs:vR (Nat×Nat))(b c:Tab):Tab:=b.flatMap λa=>(c.filter (fE prs a)).map (a++·)
theorem qx(prs:vR (Nat×Nat))(b c:Tab):(nR prs b c).length<=b.length * c.length:=by
 induction b with
 | nil=>exact ww _
 | cons a b f=>
  show (_++nR prs b c).length<=_;rw[wn,v9,xC,Nat.succ_mul,xS];exact wP f (Aq _ _)
theorem metV_snoc(prs:vR (Nat×Nat))(c b:Tab)(a:vR D):nR prs (c++[a]) b=nR prs c b++(b.filter (fE prs a)).map (a++·):=by
 unfold nR;rw[AL,zW,Bx,xY]
theorem iL(t:Tab)(r:vR D):aK (t++[r])=.list (t.map .tup++[.tup r]):=by unfold aK;rw[wS];rfl
section
variable {P:vR (vV×Fn)} {X:CF}
noncomputable abbrev uO:vR MS:=[.ite (.call "meets" [.u "one",.u "other",.u "pairs"]) [.append "found" (.bin .Add (.u "one") (.u "other"))] []]
structure MetI(t2:Tab)(prs:vR (Nat×Nat))(acc:Tab)(σ:St):Prop where
 s:Has σ "second" (aK t2)
 p:Has σ "pairs" (.tup (prs.map prT))
 f:cV σ "found" (aK acc)
theorem met_in(B:BA P)(n:Nat){m k:Nat}{a:vR D}{f acc:Tab}(o:eC m a)(q:bB k f)(w:m+k<=big){prs:vR (Nat×Nat)}(y:∀ p∈prs,p.1<m/\p.2<k)(A:acc.length+f.length<=big){σ:St}(h1:Has σ "one" (.tup a))(I:MetI f prs acc σ) :
  ∃ BJ,MetI f prs (acc++(f.filter (fE prs a)).map (a++·)) BJ/\cq (cP (ae P X (n+2)) uO "other") (f.map .tup) σ=ac (.next,BJ):=by
 obtain⟨BJ,C,e⟩:=lw (cf:=ae P X (n+2)) (body:=uO) (z:="other") (g:=D.tup) (λc σ=>Has σ "one" (.tup a)/\MetI f prs (acc++(c.filter (fE prs a)).map (a++·)) σ) f [] σ ⟨h1,by rw[List.filter_nil,List.map_nil,xY];exact I⟩ (by
  rintro c b σ s E ⟨i,t,j,u⟩;refine d6 (au (vv (ai QQ i) (vv aq (vv (ai QQ j) vN))) (meets_eq B n o (q b s) y)) QQ (λh=>?_) λh=>?_
  ·refine aM (eu (d:=.tup (a++b)) (ds:=((acc++(c.filter (fE prs a)).map (a++·)).map .tup)) (aj (vr (ai QQ i)) (vr aq) (wh (by rw[o.1,(q b s).1];exact w))) (gR QQ (eW QQ u)) ?_) (cu ⟨QQ,ai QQ (av (ai QQ i)),ai QQ (av (ai QQ t)),ai QQ (av (ai QQ j)),?_⟩)
   ·rw[v9,wn,v9]
    exact wJ (Nat.add_lt_add_left (wg (Aq _ _) (x9 f.length▸E)) _) A
   ·rw[show acc++((c++[b]).filter (fE prs a)).map (a++·)=acc++(c.filter (fE prs a)).map (a++·)++[a++b] from by rw[List.filter_append,show[b].filter (fE prs a)=[b] from zP h,wS,Bc];rfl,iL]
    exact fw
  ·refine cu ⟨QQ,ai QQ i,ai QQ t,ai QQ j,?_⟩
   rw[List.filter_append,show[b].filter (fE prs a)=[] from zQ (by rw[h];nofun),xY]
   exact eW QQ u)
 exact⟨BJ,C.2,e⟩
theorem met_eq(B:BA P)(n:Nat){m k:Nat}{h c:Tab}(h1:bB m h)(o:bB k c)(q:h.length<=60)(i:c.length<=60)(s:m+k<=big){prs:vR (Nat×Nat)}(t:∀ p∈prs,p.1<m/\p.2<k) :
  (ae P X (n+3)).call "met" [aK h,aK c,.tup (prs.map prT)]=ac (aK (nR prs h c),vT):=by
 refine az B.met QQ ?_;show Run _ rY.body [("first",(vP,aK h)),("second",(vP,aK c)),("pairs",(vP,.tup (prs.map prT)))] _ _;refine aA (ak (d:=.list []) (fr:=vT) QQ) ?_;obtain⟨BJ,u,e⟩:=lw (cf:=ae P X (n+2)) (body:=[.for_ "other" (.u "second") uO]) (z:="one") (g:=D.tup) (λb σ=>MetI c prs (nR prs b c) σ) h [] (freeze ["first"] (ax [("first",(vP,aK h)),("second",(vP,aK c)),("pairs",(vP,.tup (prs.map prT)))] "found" (vT,.list []))) ⟨cx (ai QQ (af QQ ad)),cx (ai QQ (af QQ (af QQ ad))),nP QQ fw⟩ (by
  rintro b a σ w y ⟨j,A,C⟩;obtain⟨E,J,e⟩:=met_in (X:=X) (σ:=freeze ["second"] (ax σ "one" (vP,.tup a))) B n (h1 a w) o s t (acc:=nR prs b c) (v6 (wP (v6 (qx prs b c) (AO (v6 (xb (x9 h.length▸y)) q) i)) i) (by decide)) (cx aq) ⟨cx (ai QQ j),cx (ai QQ A),nP QQ (eW QQ C)⟩
  refine uK (vr (ai QQ j)) QQ e (cu ⟨QQ,?_⟩);rw[metV_snoc];exact J)
 exact gK (vr (ai QQ ad)) QQ e (eF u.f)
end
noncomputable def ja(acc:Tab)(r:vR D):Tab:=if (acc.any λx=>a7 x r)=vT then acc else acc++[r]
noncomputable def bU(t:Tab):Tab:=t.foldl ja []
theorem mD(t:Tab)(r:vR D):bU (t++[r])=ja (bU t) r:=by unfold bU;rw[Bg];rfl
theorem onceS_len(t:Tab)(r:vR D):(ja t r).length<=t.length+1:=by
 unfold ja;split
 ·exact xR _
 ·rw[wn];exact wF _
theorem oi{t:Tab}:(∀ r∈bU t,r∈t)/\(bU t).length<=t.length:=by
 have a:∀ (l acc:Tab),(∀ r∈l.foldl ja acc,r∈acc\/r∈l)/\(l.foldl ja acc).length<=acc.length+l.length:=by
  intro l
  induction l with
  | nil=>exact λacc=>⟨λr h=>.inl h,wF _⟩
  | cons x l b=>
   intro acc;have i:=b (ja acc x);refine⟨λr h=>(i.1 r h).elim (λh=>?_) λh=>.inr (.tail _ h),v6 i.2 (v6 (xc (onceS_len acc x) _) (wD (by rw[yb,xS 1];rfl)))⟩
   unfold ja at h;split at h
   ·exact .inl h
   ·exact (xa.mp h).elim .inl λh=>.inr (wl.mp h▸.head _)
 exact⟨λr h=>((a t []).1 r h).elim (λh=>nomatch h) id,v6 (a t []).2 (wD (x9 _))⟩
theorem pI{k d:D}:∀ {ks vs:vR D},ks.length=vs.length->(∀ x∈ks,aU x k=vP)->cL ks vs k d=(ks++[k],vs++[d])
 | [],[],_,_=>rfl
 | x::ks,v::vs,a,h=>by
  rw[l8,h x (.head _),wo wO,pI (yv a) λy b=>h y (.tail _ b)];rfl
theorem kC{m:Nat}{r:vR D}(h:eC m r):(D.tup r).isTK=vT:=wQ.mpr h.2
theorem ur{m:Nat}{t:Tab}(h:bB m t):(t.map D.tup).all D.isTK=vT:=wQ.mpr λd a=>(wz.mp a).elim λr q=>q.2▸kC (h r q.1)
section
variable {P:vR (vV×Fn)} {X:CF}
theorem lG(acc:Tab)(r:vR D):((acc.map D.tup).any λx=>aU x (.tup r))=acc.any λx=>a7 x r:=by rw[List.any_map];rfl
theorem once_eq(B:BA P)(n:Nat){m:Nat}{t:Tab}(h:bB m t)(y:t.length<big):(ae P X (n+1)).call "once" [aK t]=ac (aK (bU t),vT):=by
 refine az B.once QQ ?_;show Run _ pE.body [("rows",(vP,aK t))] _ _;refine aA (ak (d:=.dict [] []) (fr:=vT) QQ) (aA (ak (d:=.list []) (fr:=vT) QQ) ?_);obtain⟨BJ,A,e⟩:=lw (cf:=ae P X n) (body:=[.ite (.cmp .NotIn (.u "row") (.u "known")) [.setk "known" (.u "row") (.bool vT),.append "found" (.u "row")] []]) (z:="row") (g:=D.tup) (λb σ=>bB m (bU b)/\(bU b).length<=b.length/\cV σ "known" (.dict ((bU b).map .tup) ((bU b).map λZ=>.bool vT))/\cV σ "found" (aK (bU b))) t []
  (freeze ["rows"] (ax (ax [("rows",(vP,aK t))] "known" (vT,.dict [] [])) "found" (vT,.list []))) ⟨(λZ h=>nomatch h),wF _,nP QQ (eW QQ fw),nP QQ fw⟩ (by
  rintro b r σ i C ⟨f,j,o,w⟩;have E:kK (.tup r) (.dict ((bU b).map .tup) ((bU b).map λZ=>.bool vT))=ac ((bU b).any λx=>a7 x r):=by
   rw[<- lG];exact wh (by unfold cJ;rw[kC (h r i),ur f];exact Bw _)
  have G:evE (ae P X n) (vis (ax σ "row" (vP,.tup r))) (.cmp .NotIn (.u "row") (.u "known"))=ac (.bool (!(bU b).any λx=>a7 x r)):=al (vr aq) (vr (ai QQ (tw o))) (by show (kK _ _).map _=_;rw[E];rfl)
  have c:(bU b).length<big:=wg j (xm (x9 t.length▸C) y);refine d6 G QQ (λa=>?_) λa=>?_
  ·have a:((bU b).any λx=>a7 x r)=vP:=by cases e:(bU b).any λx=>a7 x r with | false=>rfl | true=>rw[e] at a;cases a
   have e1:bU (b++[r])=bU b++[r]:=by rw[mD];unfold ja;rw[a,wo wO]
   have s:∀ x∈(bU b).map D.tup,aU x (.tup r)=vP:=λx u=>zV.mpr λq=>by
    have:=List.any_eq_true (p:=λx=>aU x (.tup r)).mpr ⟨x,u,q⟩
    rw[lG,a] at this;cases this
   refine aM (rO (d:=.bool vT) (dk:=.tup r) (ks:=(bU b).map .tup) (vs:=(bU b).map λZ=>.bool vT) vB (vr aq) (gR QQ (gR QQ (eW QQ o))) ?_) ?_
   ·unfold cJ;rw[kC (h r i),ur f,v9,xF c];cases (D.tup r).isCell&&((bU b).map D.tup).all D.isCell <;> rfl
   refine aM (eu (d:=.tup r) (ds:=(bU b).map .tup) (vr (ai QQ (av (av aq)))) (gR QQ (eW QQ (gR QQ (gR QQ (eW QQ w))))) (by rw[v9];exact c)) (cu ⟨QQ,?_,?_,?_,?_⟩)
   ·rw[e1];exact λx u=>(xa.mp u).elim (f x) λq=>wl.mp q▸h r i
   ·rw[e1,wn,wn];exact wL j
   ·rw[e1,wS,wS,pI (by rw[v9,v9]) s]
    exact eW QQ (gR QQ fw)
   ·rw[e1,iL];exact fw
  ·have a:((bU b).any λx=>a7 x r)=vT:=by cases e:(bU b).any λx=>a7 x r with | true=>rfl | false=>rw[e] at a;cases a
   have e1:bU (b++[r])=bU b:=by rw[mD];unfold ja;rw[a,wh rfl]
   rw[e1];exact cu ⟨QQ,f,by rw[wn];exact ye j,eW QQ o,eW QQ w⟩)
 exact gK (vr (ai QQ (av (ai QQ (av ad))))) QQ e (eF A.2.2.2)
end
theorem nn{α:Type}{f:D->vY (vY D)}{h g:α->D}{p:α->v7}:∀ l:vR α,(∀ a∈l,f (h a)=ac (if p a=vT then ac (g a) else wa))->bD f (l.map h)=ac ((l.filter p).map g)
 | [],_=>rfl
 | a::l,H=>by
  rw[wx,bD,H a (.head _),nn l λb i=>H b (.tail _ i)]
  cases c:p a with
  | true=>rw[zP c];rfl
  | false=>rw[zQ (by rw[c];nofun)];rfl
noncomputable def col(p:Nat)(t:Tab):vR D:=t.map (·.getD p .none)
noncomputable def eqW(w x:vV):v7:=vQ w == vQ x
noncomputable def uu(cs:vR D):Int:=(mr (cs.filter λc=>!cX c)).getD 0
noncomputable def iY(w:vV)(f c:D):D:=
 if (eqW w "most"&&cr (if (eqW w "least"&&cr c f)=vT then c else f) c)=vT then c else if (eqW w "least"&&cr c f)=vT then c else f
noncomputable def n4(w:vV)(cs:vR D):D:=if eqW w "count"=vT then .int cs.length else if eqW w "sum"=vT then .int (uu cs) else cs.foldl (iY w) (cs.headD .none)
theorem n6:∀ {cs:vR D},(∀ c∈cs,c.isCell=vT)->mr (cs.filter λc=>!cX c)=ac (uu cs)
 | [],_=>rfl
 | c::cs,h=>by
  have a:=n6 λd b=>h d (.tail _ b)
  unfold uu;refine k7 (C:=λc=>mr ((c::cs).filter λc=>!cX c)=ac ((mr ((c::cs).filter λc=>!cX c)).getD 0)) (h c (.head _)) (λi=>?_) λx=>?_
  ·rw[zP rfl,mr,a];rfl
  ·rw[zQ (by nofun),a];rfl
theorem qB{b:v7}{x y:D}(a:x.isCell=vT)(c:y.isCell=vT):(if b=vT then x else y).isCell=vT:=by
 cases b with
 | true=>exact a
 | false=>exact c
theorem stepT_cell{w:vV}{f c:D}(b:f.isCell=vT)(a:c.isCell=vT):(iY w f c).isCell=vT:=qB a (qB a b)
theorem kW{w:vV}:∀ {cs:vR D} {f:D},f.isCell=vT->(∀ c∈cs,c.isCell=vT)->(cs.foldl (iY w) f).isCell=vT
 | [],_,a,_=>a
 | c::cs,_,a,h=>kW (cs:=cs) (stepT_cell a (h c (.head _))) λd b=>h d (.tail _ b)
theorem told_cell{w:vV}{c:D}{cs:vR D}(h:∀ d∈c::cs,d.isCell=vT):(n4 w (c::cs)).isCell=vT:=by
 unfold n4;split
 ·rfl
 ·split
  ·rfl
  ·exact kW (h c (.head _)) h
theorem qZ{m p:Nat}{t:Tab}(h:bB m t)(a:p<m):∀ c∈col p t,c.isCell=vT:=λc b=>(wz.mp b).elim λr q=>q.2▸nT (h r q.1) a
theorem s4{c:D}(h:c.isCell=vT):mS c "str"=ac (cX c):=k7 (C:=λc=>mS c "str"=ac (cX c)) h (λZ=>QQ) λZ=>QQ
section
variable {P:vR (vV×Fn)} {X:CF}
noncomputable abbrev un:vR MS:=[.ite (.bop .And [.cmp .Eq (.u "word") (.str "least"),.call "before" [.sub (.u "row") (.u "place"),.u "found"]]) [.x0 "found" (.sub (.u "row") (.u "place"))] [],.ite (.bop .And [.cmp .Eq (.u "word") (.str "most"),.call "before" [.u "found",.sub (.u "row") (.u "place")]]) [.x0 "found" (.sub (.u "row") (.u "place"))] []]
structure gf(w:vV)(p:Nat)(f:D)(σ:St):Prop where
 w:Has σ "word" (sD w)
 p:Has σ "place" (bi p)
 f:σ.lookup "found"=ac (vP,f)
theorem gf.set{w:vV}{p:Nat}{f a:D}{σ:St}(I:gf w p f σ):gf w p a (ax σ "found" (vP,a)):=⟨ai QQ I.w,ai QQ I.p,by rw[aE,wh rfl]⟩
theorem gf.row{w:vV}{p:Nat}{f d:D}{σ:St}(I:gf w p f σ):gf w p f (ax σ "row" (vP,d)):=⟨ai QQ I.w,ai QQ I.p,by rw[aE,wo (by decide)];exact I.f⟩
theorem told_turn(B:BA P)(n:Nat){w:vV}{p m:Nat}{f:D}{r:vR D}(b:f.isCell=vT)(j:eC m r)(o:p<m){σ:St}(I:gf w p f σ)(h1:Has σ "row" (.tup r)):Out (ae P X (n+1)) un σ λi BJ=>i=.next/\gf w p (iY w f (r.getD p .none)) BJ:=by
 have a:=nT j o;have c:∀ {σ f},gf w p f σ->Has σ "row" (.tup r)->evE (ae P X (n+1)) (vis σ) (.sub (.u "row") (.u "place"))=ac (r.getD p .none):=λI h=>ay (vr h) (vr I.p) (rj j o)
 have two:∀ {σ f},f.isCell=vT->gf w p f σ->Has σ "row" (.tup r)->(∀ G,gf w p (if (eqW w "most"&&cr f (r.getD p .none))=vT then r.getD p .none else f) G->True)->Out (ae P X (n+1)) (un.drop 1) σ λi BJ=>i=.next/\gf w p (if (eqW w "most"&&cr f (r.getD p .none))=vT then r.getD p .none else f) BJ:=λ{σ f} b I h _=>
  d6 (dX (k:=eqW w "most") (l:=cr f (r.getD p .none)) (al (vr I.w) vS QQ) λZ=>bz (au (vv ⟨_,I.f⟩ (aa (c I h) vN)) (gF B n _ _ b a))) QQ
   (λq=>aM (bq (ao (c I h) QQ QQ) a) (cu ⟨QQ,by rw[wh q];exact I.set⟩)) λq=>cu ⟨QQ,by rw[q,wo wO];exact I⟩
 unfold iY;refine d6 (dX (k:=eqW w "least") (l:=cr (r.getD p .none) f) (al (vr I.w) vS QQ) λZ=>bz (au (aa (c I h1) (vv ⟨_,I.f⟩ vN)) (gF B n _ _ a b))) QQ (λq=>?_) λq=>?_
 ·rw[wh q]
  exact aM (bq (ao (c I h1) QQ QQ) a) (two a I.set (ai QQ h1) λZ Z=>trivial)
 ·rw[q,wo wO]
  exact two b I h1 λZ Z=>trivial
theorem told_eq(B:BA P)(n:Nat){m:Nat}{a:vR D}{o:Tab}(h:bB m (a::o))(N:(a::o).length<=big)(w:vV){p:Nat}(s:p<m):(ae P X (n+2)).call "told_of" [dY (w,p),aK (a::o)]=ac (n4 w (col p (a::o)),vP):=by
 refine az B.told_of QQ ?_;show Run _ jr.body [("one",(vP,dY (w,p))),("rows",(vP,aK (a::o)))] _ _;have A:=qZ h s;refine aA (bq (d:=sD w) (fr:=vP) (ao (ay (x:=dY (w,p)) (vr ad) vI QQ) QQ QQ) QQ) (aA (bq (d:=bi p) (fr:=vP) (ao (ay (x:=dY (w,p)) (vr (ai QQ ad)) vI QQ) QQ QQ) QQ) ?_);unfold n4;have C:fZ "len" [aK (a::o)]=ac (.int (col p (a::o)).length):=by
  show ac (D.int (((a::o).map D.tup).length:Nat))=_;unfold col;rw[v9,v9]
 have L:∀ {σ:St} {x:vV},Has σ "word" (sD w)->evE (ae P X (n+1)) (vis σ) (.cmp .Eq (.u "word") (.str x))=ac (.bool (eqW w x)):=λi=>al (vr i) vS QQ
 have H:Has (ax (ax [("one",(vP,dY (w,p))),("rows",(vP,aK (a::o)))] "word" (vP,sD w)) "place" (vP,bi p)) "word" (sD w):=ai QQ aq;have E:Has (ax (ax [("one",(vP,dY (w,p))),("rows",(vP,aK (a::o)))] "word" (vP,sD w)) "place" (vP,bi p)) "rows" (aK (a::o)):=ai QQ (ai QQ (af QQ ad));have G:Has (ax (ax [("one",(vP,dY (w,p))),("rows",(vP,aK (a::o)))] "word" (vP,sD w)) "place" (vP,bi p)) "place" (bi p):=aq;generalize ax (ax [("one",(vP,dY (w,p))),("rows",(vP,aK (a::o)))] "word" (vP,sD w)) "place" (vP,bi p)=σ at *;refine bp (L H) QQ (λq=>?_) λq=>?_
 ·rw[wh q]
  exact aT (ao (cg (vv E vN) C) QQ QQ) QQ
 rw[q,wo wO];refine bp (L H) QQ (λq=>?_) λq=>?_
 ·rw[wh q]
  have I:=n6 A;unfold col at I;rw[List.filter_map] at I;refine aT (ao (cg (aa (gX (z:="row") (BK:=(a::o).map .tup) (vr E) QQ (by rw[v9];exact N) (nn (g:=λr:vR D=>r.getD p .none) (p:=λr=>!cX (r.getD p .none)) (a::o) λr u=>oG (sy (v_isi (ay (aH cw) (aH (bR QQ (aV G))) (rj (h r u) s)) (s4 (nT (h r u) s))) QQ) QQ λBF=>ay (aH cw) (aH (bR QQ (aV G))) (rj (h r u) s))) vN) (d:=.int (uu (col p (a::o)))) ?_) QQ QQ) QQ
  show (mr _).map D.int=_;rw[show mr (((a::o).filter λr=>!cX (r.getD p .none)).map λr=>r.getD p .none)=ac (uu (col p (a::o))) from I];rfl
 rw[q,wo wO];have t:=h a (.head _);refine aA (bq (d:=a.getD p .none) (fr:=vP) (ao (ay (ay (x:=aK (a::o)) (y:=.int 0) (d:=.tup a) (vr E) vI (n7 (k:=0) (xH _) QQ)) (vr G) (rj t s)) QQ QQ) (nT t s)) ?_;obtain⟨BJ,O,e⟩:=lw (cf:=ae P X (n+1)) (body:=un) (z:="row") (g:=D.tup) (λb σ=>(b.all λr=>(r.getD p .none).isCell)=vT/\gf w p ((col p b).foldl (iY w) (a.getD p .none)) σ) (a::o) [] (freeze ["rows"] (ax σ "found" (vP,a.getD p .none))) ⟨QQ,cx (ai QQ H),cx (ai QQ G),by rw[aZ,aE,wh rfl];rfl⟩ (by
  rintro b r σ u Z ⟨M,j⟩;have e1:(col p (b++[r])).foldl (iY w) (a.getD p .none)=iY w ((col p b).foldl (iY w) (a.getD p .none)) (r.getD p .none):=by unfold col;rw[wS,Bg];rfl
  have T:((col p b).foldl (iY w) (a.getD p .none)).isCell=vT:=kW (nT t s) λc U=>(wz.mp U).elim λr q=>q.2▸wQ.mp M r q.1
  obtain⟨V,J,⟨Y,q2⟩,e⟩:=told_turn (X:=X) B n T (h r u) s (j.row (d:=.tup r)) aq;exact⟨V,J,⟨Y,by rw[List.all_append,M];show ((r.getD p .none).isCell&&vT)=vT;rw[nT (h r u) s];rfl,e1▸q2⟩,e⟩)
 exact gK (vr (ai QQ E)) QQ e (eF O.2.f)
end
noncomputable abbrev Grp:=vR (vR D×Tab)
noncomputable def ik(k r:vR D):Grp->Grp
 | []=>[(k,[r])]
 | q::G=>if a7 q.1 k=vT then (q.1,q.2++[r])::G else q::ik k r G
noncomputable def grV(q:vR D×Tab):D×vR D:=(.tup q.1,q.2.map .tup)
noncomputable def fk(ps:vR Nat)(t:Tab):Grp:=t.foldl (λG r=>ik (fJ ps r) r G) []
theorem u7(k r:vR D):∀ G:Grp,t7 (.tup k) (.tup r) (G.map grV)=(ik k r G).map grV
 | []=>rfl
 | q::G=>by
  show (if a7 q.1 k=vT then _ else _)=(if a7 q.1 k=vT then _ else _:Grp).map grV
  cases a7 q.1 k with
  | true=>
   show _::_=_::_;unfold grV;rw[wS];rfl
  | false=>exact wv (grV q::·) (u7 k r G)
structure uc(m k n:Nat)(G:Grp):Prop where
 ke:∀ q∈G,eC k q.1
 ro:∀ q∈G,q.2≠[]/\bB m q.2/\q.2.length<=n
 le:G.length<=n
 pw:(G.map (·.1)).Pairwise λa b=>a7 a b=vP
theorem kU{k r:vR D}{x:vR D×Tab}:∀ {G:Grp},x∈ik k r G->x∈G\/x=(k,[r])\/∃ q∈G,x=(q.1,q.2++[r])
 | [],h=>.inr (.inl (wl.mp h))
 | q::G,h=>by
  unfold ik at h;split at h
  ·exact (wf.mp h).elim (λe=>.inr (.inr ⟨q,.head _,e⟩)) λh=>.inl (.tail _ h)
  ·exact (wf.mp h).elim (λe=>.inl (e▸.head _)) λh=>(kU h).imp (.tail _) λh=>h.imp id λ⟨p,a,e⟩=>⟨p,.tail _ a,e⟩
theorem jq(k r:vR D):∀ G:Grp,(ik k r G).map (·.1)=G.map (·.1)\/(ik k r G).map (·.1)=G.map (·.1)++[k]/\∀ q∈G,a7 q.1 k=vP
 | []=>.inr ⟨QQ,λZ h=>nomatch h⟩
 | q::G=>by
  unfold ik;cases h:a7 q.1 k with
  | true=>exact .inl QQ
  | false=>exact (jq k r G).imp (λe=>wv (q.1::·) e) λe=>⟨wv (q.1::·) e.1,λx a=>(wf.mp a).elim (λz=>z▸h) (e.2 x)⟩
theorem uc.put{m k n:Nat}{G:Grp}{c r:vR D}(g:uc m k n G)(s:eC k c)(o:eC m r):uc m k (n+1) (ik c r G) where
 ke:=λq i=>(kU i).elim (g.ke q) λh=>h.elim (λe=>e▸s) λ⟨p,f,e⟩=>e▸g.ke p f
 ro:=λq i=>(kU i).elim (λh=>⟨(g.ro q h).1,(g.ro q h).2.1,ye (g.ro q h).2.2⟩) λh=>h.elim (λe=>e▸⟨(λh=>nomatch h),λx j=>wl.mp j▸o,wL (ww _)⟩)
  λ⟨p,f,e⟩=>e▸⟨List.append_ne_nil_of_right_ne_nil _ (λh=>nomatch h),λx j=>(xa.mp j).elim ((g.ro p f).2.1 x) λh=>wl.mp h▸o,by rw[wn];exact wL (g.ro p f).2.2⟩
 le:=(jq c r G).elim (λe=>ye (by have q:=wv BB e;rw[v9,v9] at q;exact q▸g.le)) λe=>by
  have q:=wv BB e.1;rw[v9,wn,v9] at q;exact q▸wL g.le
 pw:=(jq c r G).elim (λe=>e▸g.pw) λe=>by
  rw[e.1,AD];exact⟨g.pw,List.pairwise_singleton _ _,λa t b u=>wl.mp u▸(wz.mp t).elim λq z=>z.2▸e.2 q z.1⟩
noncomputable def mo(a:vR (vV×Nat))(t:Tab):vR D:=a.map λs=>n4 s.1 (col s.2 t)
noncomputable def uF(a:vR (vV×Nat))(q:vR D×Tab):vR D:=q.1++mo a q.2
noncomputable def kT(ps:vR Nat)(a:vR (vV×Nat))(t:Tab):Tab:=(fk ps t).map (uF a)
theorem nv{m:Nat}{row:vR D}(a:eC m row){ps:vR Nat}(b:∀ p∈ps,p<m):eC ps.length (fJ ps row):=⟨v9 ..,λd c=>(wz.mp c).elim λp q=>q.2▸nT a (b p q.1)⟩
theorem oy{m:Nat}{ps:vR Nat}(c:∀ p∈ps,p<m){t:Tab}(h:bB m t):uc m ps.length t.length (fk ps t):=by
 have a:∀ (l:Tab) (G:Grp) (n:Nat),bB m l->uc m ps.length n G->uc m ps.length (n+l.length) (l.foldl (λG r=>ik (fJ ps r) r G) G):=by
  intro l
  induction l with
  | nil=>exact λG n Z g=>g
  | cons r l f=>exact λG n b g=>(by rw[xC,xS l.length,<- yb];exact f _ (n+1) (λx i=>b x (.tail _ i)) (g.put (nv (b r (.head _)) c) (b r (.head _))))
 exact x9 t.length▸a t [] 0 h ⟨(λZ h=>nomatch h),(λZ h=>nomatch h),wF _,.nil⟩
section
variable {P:vR (vV×Fn)} {X:CF} {cf:CF}
theorem ty{m:Nat}{ps:vR Nat}{pl:D}(a:∀ p∈ps,p<m)(b:∀ r,eC m r->cf.call "cells_at" [.tup r,pl]=ac (.tup (fJ ps r),vP)):∀ (t:Tab) (G:Grp),bB m t->lJ cf pl (t.map .tup) (G.map grV)=ac ((t.foldl (λG r=>ik (fJ ps r) r G) G).map grV)
 | [],_,_=>rfl
 | r::t,G,h=>by
  have c:=h r (.head _);rw[wx,lJ,b r c];show (if ((D.tup (fJ ps r)).isTK&&!vP)=vT then _ else _)=_
  rw[kC (nv c a),wh (show (vT&&!vP)=vT from rfl),u7];exact ty a b t _ λx f=>h x (.tail _ f)
theorem cellsEq_self{r:vR D}(h:∀ d∈r,d.isCell=vT):a7 r r=vT:=by
 induction r with
 | nil=>rfl
 | cons d r a=>
  show (cB d d&&a7 r r)=vT;rw[a λx b=>h x (.tail _ b)]
  exact k7 (C:=λd=>(cB d d&&vT)=vT) (h d (.head _)) (λi=>by show ((i == i)&&vT)=vT;rw[wH];rfl) λx=>by show ((x == x)&&vT)=vT;rw[wH];rfl
theorem tJ{k:Nat}:∀ {G:Grp} {q:vR D×Tab},(∀ q∈G,eC k q.1)->(G.map (·.1)).Pairwise (λa b=>a7 a b=vP)->q∈G->lM (G.map λq=>.tup q.1) (G.map λq=>aK q.2) (.tup q.1)=ac (aK q.2)
 | p::G,q,f,c,hq=>by
  have c:=yo.mp c;rw[wx,wx,l9];show (if a7 p.1 q.1=vT then _ else _)=_
  rcases wf.mp hq with e | hq
  ·subst e
   rw[cellsEq_self (f q (.head _)).2,wh rfl]
  ·rw[c.1 q.1 (wz.mpr ⟨q,hq,rfl⟩),wo wO]
   exact tJ (λx h=>f x (.tail _ h)) c.2 hq
noncomputable abbrev grBody:vR MS:=[.x0 "told" (.comp (.call "told_of" [.u "one",.sub (.u "groups") (.u "own")]) "one" (.u "sums") []),.append "found" (.bin .Add (.u "own") (.blt "tuple" [.u "told"]))]
theorem grouped_eq(B:BA P)(n:Nat){m:Nat}{t:Tab}(h:bB m t)(A:t.length<=60){ps:vR Nat}(u:∀ p∈ps,p<m)(i:ps.length<=1000){a:vR (vV×Nat)}(I:∀ s∈a,s.2<m)(j:a.length<=1000) :
  (ae P X (n+3)).call "grouped" [aK t,.tup (ps.map bi),.tup (a.map dY)]=ac (aK (kT ps a t),vT):=by
 have g:=oy u h;have C:∀ {k:Nat},k<=1000->k<=big:=λh=>v6 h (by decide)
 have J:lJ (ae P X (n+2)) (.tup (ps.map bi)) (t.map .tup) []=ac ((fk ps t).map grV):=ty u (λr L=>q9 B (n+1) L u (C i)) t [] h
 have e1:((fk ps t).map grV).map (·.1)=(fk ps t).map λq=>D.tup q.1:=by rw[wX];rfl
 have M:((fk ps t).map grV).map (λq=>D.list q.2)=(fk ps t).map λq=>aK q.2:=by rw[wX];rfl
 unfold kT;generalize fk ps t=G at *;refine az B.grouped QQ ?_;show Run _ ju.body [("rows",(vP,aK t)),("places",(vP,.tup (ps.map bi))),("sums",(vP,.tup (a.map dY)))] _ _;refine aA (ak (d:=.dict [] []) (fr:=vT) QQ) (aA (p_grp (BJ:=[("rows",(vP,aK t)),("places",(vP,.tup (ps.map bi))),("sums",(vP,.tup (a.map dY))),("groups",(vP,.dict (G.map λq=>.tup q.1) (G.map λq=>aK q.2)))]) ?_) (aA (ak (d:=.list []) (fr:=vT) QQ) ?_))
 ·show (lJ (ae P X (n+2)) (.tup (ps.map bi)) (t.map .tup) []).map _=_
  rw[J,AH];unfold u6;rw[e1,M];rfl
 obtain⟨BJ,N,e⟩:=lw (cf:=ae P X (n+2)) (body:=grBody) (z:="own") (g:=λq:vR D×Tab=>D.tup q.1) (λb σ=>Has σ "groups" (.dict (G.map λq=>.tup q.1) (G.map λq=>aK q.2))/\Has σ "sums" (.tup (a.map dY))/\cV σ "found" (aK (b.map (uF a)))) G []
  (freeze ["groups"] (ax [("rows",(vP,aK t)),("places",(vP,.tup (ps.map bi))),("sums",(vP,.tup (a.map dY))),("groups",(vP,.dict (G.map λq=>.tup q.1) (G.map λq=>aK q.2)))] "found" (vT,.list []))) ⟨cx (ai QQ (af QQ (af QQ (af QQ ad)))),cx (ai QQ (af QQ (af QQ ad))),nP QQ fw⟩ (by
  rintro b q σ o O ⟨E,H,T⟩;have w:aD (.dict (G.map λq=>.tup q.1) (G.map λq=>aK q.2)) (.tup q.1)=ac (aK q.2):=(wh (by
   unfold cJ;rw[kC (g.ke q o),show (G.map λq=>D.tup q.1).all D.isTK=vT from wQ.mpr λd w=>(wz.mp w).elim λp z=>z.2▸kC (g.ke p z.1)]
   exact Bw _)).trans (tJ g.ke g.pw o)
  have c:=g.ro q o;have U:∀ s∈a,(ae P X (n+2)).call "told_of" [dY s,aK q.2]=ac (n4 s.1 (col s.2 q.2),vP):=λs f=>by
   obtain⟨Y,V⟩:=q;cases V with
   | nil=>exact wI QQ c.1
   | cons Z Ca=>exact told_eq B n c.2.1 (v6 c.2.2 (v6 A (by decide))) s.1 (I s f)
  refine aM (ak (d:=.list (mo a q.2)) (fr:=vT) (ao (rI (g:=dY) (l:=a) (vr (ai QQ H)) QQ (C j) λs f=>au (aa (aH cw) (aa (ay (aH (bR QQ (aV (ai QQ E)))) (aH (bR QQ (aV aq))) w) vN)) (U s f)) QQ QQ)) ?_
  refine aM (eu (d:=.tup (uF a q)) (ds:=(b.map (uF a)).map .tup) (aj (x:=.tup q.1) (y:=.tup (mo a q.2)) (vr (ai QQ (av aq))) (cg (vv aq vN) QQ) (wh (by unfold mo;rw[(g.ke q o).1,v9];exact v6 (wP i j) (by decide)))) (gR QQ (eW QQ (gR QQ (eW QQ T)))) ?_) (cu ⟨QQ,ai QQ (av (ai QQ (av (ai QQ E)))),ai QQ (av (ai QQ (av (ai QQ H)))),?_⟩)
  ·rw[v9,v9]
   exact wJ (wJ (x9 (BB G)▸O) g.le) (v6 A (by decide))
  ·rw[wS]
   show cV _ _ (aK (_++[_]));rw[iL];exact fw)
 exact gK (vr (ai QQ (af QQ (af QQ (af QQ ad))))) QQ (show cq _ ((G.map λq=>D.tup q.1)) _=_ from e) (eF N.2.2)
end
open PySem PySem.W
noncomputable def iW(k:Nat×v7)(l:Tab):Tab:=fO [] k.2 (col k.1 l) l
noncomputable def uI(ks:vR (Nat×v7))(t:Tab):Tab:=ks.reverse.foldl (λl k=>iW k l) t
theorem sV{α a:Type}(f:α->a)(b:v7)(l:vR α):xI b (l.map f)=(xI b l).map f:=by
 cases b with
 | false=>rfl
 | true=>exact List.map_reverse.symm
theorem sU{α:Type}{b:v7}{l:vR α}{x:α}:x∈xI b l↔x∈l:=by
 cases b with
 | false=>exact Iff.rfl
 | true=>exact Bu
theorem uT{ks:vR D}{i:Nat}(h:i∈kix ks):i<ks.length:=yV.mp ((mP ks).mem_iff.mp h)
theorem srtL_map{ks:vR D}{l:Tab}(c:ks.length=l.length)(b:v7):fO D.none b ks (l.map .tup)=(fO [] b ks l).map .tup:=by
 unfold fO;rw[<- sV D.tup b ((kix (xI b ks)).map _),wX,sV D.tup b l];refine wv (xI b) (yD λi f=>?_)
 have a:i<(xI b l).length:=by have:=uT f;rw[yA] at this ⊢;rw[<- c];exact this
 show ((xI b l).map D.tup).getD i .none=.tup ((xI b l).getD i []);rw[wC,wC,xL,wj a];rfl
theorem pc(k:Nat×v7)(l:Tab):(iW k l).length=l.length/\∀ r∈iW k l,r∈l:=by
 have b:(col k.1 l).length=l.length:=v9 ..;refine⟨mw.trans b,λr c=>?_⟩
 unfold iW fO at c;obtain⟨i,f,e⟩:=wz.mp (sU.mp c);have a:i<(xI k.2 l).length:=by have:=uT f;rw[yA] at this ⊢;rw[<- b];exact this
 rw[wC,wj a] at e;exact sU.mp (show r∈xI k.2 l from e▸yF a)
section
variable {P:vR (vV×Fn)} {X:CF} {cf:CF}
theorem rank_eq(B:BA P)(n:Nat){c:D}(a:c.isCell=vT):(ae P X (n+1)).call "rank" [c]=ac (.tup [.bool (cX c),c],vP):=
 az B.rank QQ (aT (ao (aw (aa (v_isi (vr ad) (s4 a)) (vv ad vN)) (vW QQ)) QQ QQ) QQ)
theorem ot(B:BA P)(n:Nat){m p:Nat}(a:p<m):∀ {l:Tab},bB m l->gM (fA (ae P X (n+1)) "rank" (.int p)) (l.map .tup)=ac (col p l)
 | [],_=>rfl
 | r::l,h=>by
  have b:=h r (.head _);have f:=nT b a;have e:fA (ae P X (n+1)) "rank" (.int p) (.tup r)=ac (.tup [.bool (cX (r.getD p .none)),r.getD p .none]):=by
   unfold fA;rw[rj b a];show ((ae P X (n+1)).call "rank" [_]).map _=_;rw[rank_eq B n f];rfl
  rw[wx,gM,e];show (match rU _ with | some c=>_ | none=>_)=_
  rw[show rU (.tup [.bool (cX (r.getD p .none)),r.getD p .none])=ac (r.getD p .none) from wh (by rw[f,wH];rfl),ot B n a λx i=>h x (.tail _ i)]
  rfl
theorem v_srt{ρ:vR (vV×D)}{a:ME}{f x p:vV}{rev:v7}{ds ks:vR D}{i:D}(b:evE cf ρ a=ac (.list ds))(c:pT ρ p i)(hz:ds.length<64)(h:gM (fA cf f i) ds=ac ks):evE cf ρ (.srt a f x p rev)=ac (.list (fO .none rev ks ds)):=by
 rw[ev_srt,b];dsimp only;rw[show ρ.lookup p=ac i from c];show (if ds.length<64 then (gM _ ds).map _ else _)=_
 rw[wh hz,h];rfl
noncomputable abbrev ordB:vR MS:=[.x0 "place" (.sub (.u "one") (.int 0)),.ite (.sub (.u "one") (.int 1)) [.x0 "found" (.srt (.u "found") "rank" "row" "place" vT)] [.x0 "found" (.srt (.u "found") "rank" "row" "place" vP)]]
theorem ordered_eq(B:BA P)(n:Nat){m:Nat}{t:Tab}(h:bB m t)(s:t.length<64){ks:vR (Nat×v7)}(u:∀ k∈ks,k.1<m) :
  (ae P X (n+2)).call "ordered" [aK t,.tup (ks.map kM)]=ac (aK (uI ks t),vT):=by
 refine az B.ordered QQ ?_;show Run _ jt.body [("rows",(vP,aK t)),("keys",(vP,.tup (ks.map kM)))] _ _;refine aA (ak (d:=aK t) (fr:=vT) QQ) ?_;obtain⟨BJ,w,e⟩:=lw (cf:=ae P X (n+1)) (body:=ordB) (z:="one") (g:=kM) (λb σ=>bB m (b.foldl (λl k=>iW k l) t)/\(b.foldl (λl k=>iW k l) t).length=t.length/\cV σ "found" (aK (b.foldl (λl k=>iW k l) t))) ks.reverse [] (freeze ["keys"] (ax (settle (aK t) ["rows"] [("rows",(vP,aK t)),("keys",(vP,.tup (ks.map kM)))]) "found" (vT,aK t))) ⟨h,QQ,nP QQ fw⟩ (by
  rintro b k σ A _ ⟨a,c,j⟩;rw[Bg];show Out _ _ _ λC BJ=>C=.next/\bB m (iW k _)/\(iW k _).length=t.length/\cV BJ "found" (aK (iW k _))
  generalize b.foldl (λl k=>iW k l) t=l at *
  have E:=u k (Bu.mp A);have ok:=pc k l;have o:∀ {σ:St} {rev:v7},rev=k.2->Has σ "found" (aK l)->Has σ "place" (bi k.1)->evF (ae P X (n+1)) (vis σ) (.srt (.u "found") "rank" "row" "place" rev)=ac (aK (iW k l),vT):=λ{σ rev} e G H=>by
   subst e;have q:=v_srt (cf:=ae P X (n+1)) (x:="row") (f:="rank") (rev:=k.2) (vr G) (aV H) (by rw[v9,c];exact s) (ot B n E a)
   rw[srtL_map (ks:=col k.1 l) (l:=l) (v9 ..)] at q;exact ao q QQ QQ
  refine aM (bq (d:=bi k.1) (fr:=vP) (ao (ay (x:=kM k) (vr aq) vI QQ) QQ QQ) QQ) (d6 (k:=k.2) (ay (x:=kM k) (y:=.int 1) (d:=.bool k.2) (vr (ai QQ aq)) vI QQ) QQ (λq=>?_) λq=>?_)
  ·exact aM (ak (o q.symm (ai QQ (ai QQ (tw j))) aq)) (cu ⟨QQ,λr i=>a r (ok.2 r i),ok.1.trans c,fw⟩)
  ·exact aM (ak (o q.symm (ai QQ (ai QQ (tw j))) aq)) (cu ⟨QQ,λr i=>a r (ok.2 r i),ok.1.trans c,fw⟩))
 exact r_forr (vr (ai QQ (av (af QQ ad)))) (by rw[<- List.map_reverse];exact e) (eF w.2.2)
end
set_option maxHeartbeats 400000
noncomputable def iz:Fn:=⟨["_law_cell"],[
  .ite (.cmp .Eq (.bin .Mod (.bin .FloorDiv (.u "_law_cell") (.int 4)) (.int 9)) (.int 1)) [.ret (.bin .Mod (.bin .FloorDiv (.u "_law_cell") (.int 36)) (.int 13))] [],
  .ret (.bin .Mod (.u "_law_cell") (.int 4))]⟩
noncomputable def fT:Fn:=⟨["_law_cell","_law_wide"],[
  .ite (.cmp .Eq (.u "_law_wide") (.int 0)) [.ret (.tup [])] [],
  .ret (.blt "tuple" [.comp (.bin .Mod (.call "_law_mixed" [.u "_law_cell",.bin .Add (.int 60) (.u "_law_k")]) (.u "_law_wide")) "_law_k" (.blt "range" [.call "_law_many" [.u "_law_cell"]]) []])]⟩
noncomputable def ip:Fn:=⟨["_law_cell","_law_wide"],[
  .x0 "_law_words" (.lst [.str "count",.str "sum",.str "least",.str "most"]),
  .x0 "_law_places" (.call "_law_places_by" [.bin .FloorDiv (.u "_law_cell") (.int 5),.u "_law_wide"]),
  .ret (.blt "tuple" [.comp (.tup [.sub (.u "_law_words") (.bin .Mod (.call "_law_mixed" [.u "_law_cell",.bin .Add (.int 80) (.u "_law_k")]) (.int 4)),.sub (.u "_law_places") (.u "_law_k")]) "_law_k" (.blt "range" [.blt "len" [.u "_law_places"]]) []])]⟩
noncomputable def iB:Fn:=⟨["_law_cell","_law_wide"],[
  .x0 "_law_places" (.call "_law_places_by" [.u "_law_cell",.u "_law_wide"]),
  .ret (.blt "tuple" [.comp (.tup [.sub (.u "_law_places") (.u "_law_k"),.cmp .Eq (.bin .Mod (.call "_law_mixed" [.u "_law_cell",.bin .Add (.int 90) (.u "_law_k")]) (.int 2)) (.int 1)]) "_law_k" (.blt "range" [.blt "len" [.u "_law_places"]]) []])]⟩
noncomputable def cK:Fn:=⟨["_law_cell","_law_many_here"],[
  .x0 "_law_count" (.sub (.lst [.int 0,.int 1,.int 1,.int 2]) (.bin .Mod (.u "_law_cell") (.int 4))),
  .ite (.cmp .Eq (.bin .Mod (.bin .FloorDiv (.u "_law_cell") (.int 4)) (.int 9)) (.int 1)) [.x0 "_law_count" (.bin .Mod (.bin .FloorDiv (.u "_law_cell") (.int 36)) (.int 13))] [],
  .ret (.blt "tuple" [.comp (.call "_law_clause_by" [.call "_law_mixed" [.u "_law_cell",.bin .Add (.int 20) (.u "_law_k")],.u "_law_many_here"]) "_law_k" (.blt "range" [.u "_law_count"]) []])]⟩
noncomputable def gO:Fn:=⟨["_law_cell","_law_one","_law_other"],[
  .ite (.bop .Or [.cmp .Eq (.u "_law_one") (.int 0),.cmp .Eq (.u "_law_other") (.int 0)]) [.ret (.tup [])] [],
  .x0 "_law_many_here" (.sub (.lst [.int 0,.int 0,.int 0,.int 0,.int 1,.bin .Mod (.bin .FloorDiv (.u "_law_cell") (.int 6)) (.int 13)]) (.bin .Mod (.u "_law_cell") (.int 6))),
  .ret (.blt "tuple" [.comp (.tup [.bin .Mod (.call "_law_mixed" [.u "_law_cell",.bin .Add (.int 70) (.u "_law_k")]) (.u "_law_one"),.bin .Mod (.call "_law_mixed" [.u "_law_cell",.bin .Add (.int 75) (.u "_law_k")]) (.u "_law_other")]) "_law_k" (.blt "range" [.u "_law_many_here"]) []])]⟩
noncomputable def ei:Fn:=⟨["_law_word","_law_cell","_law_top"],[
  .ite (.cmp .Lt (.u "_law_word") (.int 3)) [.ret (.tup [.tup [.str "sieve",.call "_law_clauses_by" [.u "_law_cell",.sub (.u "_law_top") (.int 1)],.sub (.u "_law_top") (.int 0)],.sub (.u "_law_top") (.int 1),.sub (.u "_law_top") (.int 2),.sub (.u "_law_top") (.int 3)])] [],
  .ite (.cmp .Eq (.u "_law_word") (.int 4)) [.x0 "_law_places" (.call "_law_places_by" [.u "_law_cell",.sub (.u "_law_top") (.int 1)]),.ret (.tup [.tup [.str "pick",.u "_law_places",.sub (.u "_law_top") (.int 0)],.blt "len" [.u "_law_places"],.sub (.u "_law_top") (.int 2),.sub (.u "_law_top") (.int 3)])] [],
  .ite (.bop .Or [.cmp .Eq (.u "_law_word") (.int 3),.cmp .Eq (.u "_law_word") (.int 5)]) [.x0 "_law_places" (.call "_law_places_by" [.u "_law_cell",.sub (.u "_law_top") (.int 1)]),.x0 "_law_sums" (.call "_law_sums_by" [.u "_law_cell",.sub (.u "_law_top") (.int 1)]),.ret (.tup [.tup [.str "group",.u "_law_places",.u "_law_sums",.sub (.u "_law_top") (.int 0)],.bin .Add (.blt "len" [.u "_law_places"]) (.blt "len" [.u "_law_sums"]),.sub (.u "_law_top") (.int 2),.sub (.u "_law_top") (.int 3)])] [],
  .ite (.cmp .Eq (.u "_law_word") (.int 6)) [.ret (.tup [.tup [.str "order",.call "_law_keys_by" [.u "_law_cell",.sub (.u "_law_top") (.int 1)],.sub (.u "_law_top") (.int 0)],.sub (.u "_law_top") (.int 1),.sub (.u "_law_top") (.int 2),.sub (.u "_law_top") (.int 3)])] [],
  .ite (.cmp .Eq (.u "_law_word") (.int 7)) [.ret (.tup [.tup [.str "once",.sub (.u "_law_top") (.int 0)],.sub (.u "_law_top") (.int 1),.sub (.u "_law_top") (.int 2),.sub (.u "_law_top") (.int 3)])] [],
  .x0 "_law_count" (.bin .Add (.int 1) (.bin .Mod (.u "_law_cell") (.int 6))),
  .ite (.cmp .Eq (.bin .Mod (.bin .FloorDiv (.u "_law_cell") (.int 6)) (.int 4)) (.int 1)) [.x0 "_law_count" (.bin .Mod (.bin .FloorDiv (.u "_law_cell") (.int 24)) (.int 70))] [],
  .ite (.cmp .Eq (.bin .Mod (.bin .FloorDiv (.u "_law_cell") (.int 6)) (.int 9)) (.int 2)) [.x0 "_law_count" (.bin .Mod (.bin .FloorDiv (.u "_law_cell") (.int 54)) (.bin .Pow (.int 10) (.int 40)))] [],
  .ret (.tup [.tup [.str "first",.u "_law_count",.sub (.u "_law_top") (.int 0)],.sub (.u "_law_top") (.int 1),.blt "min" [.sub (.u "_law_top") (.int 2),.u "_law_count"],.sub (.u "_law_top") (.int 3)])]⟩
noncomputable def ef:Fn:=⟨["_law_word","_law_cell","_law_one","_law_two"],[
  .ite (.cmp .Gt (.bin .Add (.sub (.u "_law_one") (.int 3)) (.sub (.u "_law_two") (.int 3))) (.int 24)) [.ret (.lst [])] [],
  .ite (.cmp .Eq (.u "_law_word") (.str "join")) [.ite (.cmp .Gt (.bin .Mult (.sub (.u "_law_one") (.int 2)) (.sub (.u "_law_two") (.int 2))) (.int 60)) [.x0 "_law_one" (.call "_law_around" [.int 8,.int 5,.u "_law_one"]),.x0 "_law_two" (.call "_law_around" [.int 8,.int 5,.u "_law_two"])] [],.x0 "_law_query" (.tup [.str "join",.sub (.u "_law_one") (.int 0),.sub (.u "_law_two") (.int 0),.call "_law_pairs_by" [.u "_law_cell",.sub (.u "_law_one") (.int 1),.sub (.u "_law_two") (.int 1)]]),.ret (.lst [.tup [.u "_law_query",.bin .Add (.sub (.u "_law_one") (.int 1)) (.sub (.u "_law_two") (.int 1)),.bin .Mult (.sub (.u "_law_one") (.int 2)) (.sub (.u "_law_two") (.int 2)),.bin .Add (.sub (.u "_law_one") (.int 3)) (.sub (.u "_law_two") (.int 3))]])] [],
  .ite (.bop .And [.cmp .Eq (.u "_law_word") (.str "both"),.cmp .Eq (.sub (.u "_law_one") (.int 1)) (.sub (.u "_law_two") (.int 1)),.cmp .LtE (.bin .Add (.sub (.u "_law_one") (.int 2)) (.sub (.u "_law_two") (.int 2))) (.int 60)]) [.ret (.lst [.tup [.tup [.str "both",.sub (.u "_law_one") (.int 0),.sub (.u "_law_two") (.int 0)],.sub (.u "_law_one") (.int 1),.bin .Add (.sub (.u "_law_one") (.int 2)) (.sub (.u "_law_two") (.int 2)),.bin .Add (.sub (.u "_law_one") (.int 3)) (.sub (.u "_law_two") (.int 3))]])] [],
  .ret (.lst [])]⟩
noncomputable def eK:Fn:=⟨["_law_top","_law_cell"],[
  .ite (.bop .And [.cmp .Eq (.bin .Mod (.bin .FloorDiv (.u "_law_cell") (.int 4)) (.int 3)) (.int 1),.cmp .Gt (.sub (.u "_law_top") (.int 1)) (.int 0)]) [.x0 "_law_word" (.sub (.lst [.str "from",.str "upto",.str "unlike"]) (.bin .Mod (.bin .FloorDiv (.u "_law_cell") (.int 12)) (.int 3))),.x0 "_law_test" (.tup [.u "_law_word",.bin .Mod (.call "_law_mixed" [.u "_law_cell",.int 8]) (.sub (.u "_law_top") (.int 1)),.str "is",.bin .Mod (.bin .FloorDiv (.u "_law_cell") (.int 36)) (.int 3)]),.ret (.tup [.tup [.str "sieve",.tup [.tup [.u "_law_test"]],.sub (.u "_law_top") (.int 0)],.sub (.u "_law_top") (.int 1),.sub (.u "_law_top") (.int 2),.sub (.u "_law_top") (.int 3)])] [],
  .ret (.call "_law_around" [.int 0,.bin .Add (.bin .Mult (.bin .FloorDiv (.call "_law_mixed" [.u "_law_cell",.int 6]) (.int 4)) (.int 4)) (.int 1),.u "_law_top"])]⟩
structure BN(P:vR (vV×Fn)):Prop extends BD P where
 mn:P.lookup "_law_many"=ac iz
 pb:P.lookup "_law_places_by"=ac fT
 sb:P.lookup "_law_sums_by"=ac ip
 kb:P.lookup "_law_keys_by"=ac iB
 cb:P.lookup "_law_clauses_by"=ac cK
 rb:P.lookup "_law_pairs_by"=ac gO
 ar:P.lookup "_law_around"=ac ei
 o2:P.lookup "_law_of_two"=ac ef
 so:P.lookup "_law_sieve_on"=ac eK
theorem jn{α:Type}{g:α->D}{R:α->Prop}:∀ {ds:vR D},(∀ d∈ds,∃ x,R x/\d=g x)->∃ xs:vR α,ds=xs.map g/\∀ x∈xs,R x
 | [],_=>⟨[],QQ,λZ h=>nomatch h⟩
 | d::ds,h=>by
  obtain⟨x,h1,rfl⟩:=h d (.head _);obtain⟨xs,rfl,a⟩:=jn λd b=>h d (.tail _ b)
  exact⟨x::xs,QQ,λy c=>(wf.mp c).elim (λe=>e▸h1) (a y)⟩
section
variable {P:vR (vV×Fn)} {X:CF}
theorem many_eq(B:BN P)(n:Nat)(c:Int):∃ m:Nat,m<=12/\(ae P X (n+1)).call "_law_many" [.int c]=ac (.int m,vP):=by
 obtain⟨f,e1,h1⟩:=a9 (c / 36) (k:=13) (by decide)
 obtain⟨h,a,o⟩:=a9 c (k:=4) (by decide)
 have e1:c / 36 % 13=(f:Int):=e1;have a:c % 4=(h:Int):=a;have b:Rex (ae P X n) iz.body [("_law_cell",(vP,.int c))] λd fr=>(∃ m:Nat,m<=12/\d=.int m)/\fr=vP:=by
  refine bT (k:=c / 4 % 9 == 1) (al (aj (aj (vr ad) vI (aQ (by decide))) vI (aB (by decide))) vI QQ) QQ (λZ=>?_) λZ=>?_
  ·exact aW (ao (aj (aj (vr ad) vI (aQ (by decide))) vI (aB (by decide))) QQ QQ) QQ ⟨⟨f,by omega,by rw[<- e1]⟩,QQ⟩
  ·exact aW (ao (aj (vr ad) vI (aB (by decide))) QQ QQ) QQ ⟨⟨h,by omega,by rw[<- a]⟩,QQ⟩
 obtain⟨d,fr,⟨⟨m,i,rfl⟩,rfl⟩,j⟩:=bW (X:=X) (args:=[.int c]) B.mn QQ b;exact⟨m,i,j⟩
theorem kF(B:BN P)(n:Nat)(c:Int)(w:Nat):∃ ps:vR Nat,(∀ p∈ps,p<w)/\ps.length<=12/\(ae P X (n+2)).call "_law_places_by" [.int c,.int w]=ac (.tup (ps.map bi),vP):=by
 by_cases b:w=0
 ·subst b
  exact⟨[],(λZ h=>nomatch h),ww _,az B.pb QQ (bp (k:=vT) (x:=.bool vT) QQ QQ (λZ=>aT QQ QQ) nofun)⟩
 ·obtain⟨m,j,q⟩:=many_eq (X:=X) B n c
  have s:0<w:=by exact om38 b
  have a:(0:Int)<(w:Int):=by exact om135 b
  obtain⟨ds,o,q2,t⟩:=ji (cf:=ae P X (n+1)) (ρ:=vis [("_law_cell",(vP,.int c)),("_law_wide",(vP,.int w))]) (elt:=.bin .Mod (.call "_law_mixed" [.u "_law_cell",.bin .Add (.int 60) (.u "_law_k")]) (.u "_law_wide")) (z:="_law_k") (BH:=.call "_law_many" [.u "_law_cell"]) (k:=m) (jb j) (λd=>∃ p:Nat,p<w/\d=bi p) (au (vv ad vN) q) (by
   intro i _;obtain⟨r,_,u⟩:=mixed (X:=X) B.toBG n c (60+i);obtain⟨p,ep,A⟩:=a9 r s;exact⟨bi p,⟨p,A,QQ⟩,by show _=ac (D.int p);rw[<- ep];exact aj (au (aa (aH (bR QQ (aV ad))) (aa (aj vI (aH cw) cm) vN)) u) (aH (bR QQ (aV (af QQ ad)))) (aB a)⟩)
  obtain⟨ps,rfl,f⟩:=jn q2;have e:b9 .Eq (.int w) (.int 0)=ac (.bool vP):=by
   show ac (D.bool ((w:Int) == 0))=_;rw[show ((w:Int) == 0)=vP from by rw[wK];exact om137 b]
  refine⟨ps,f,by rw[v9] at o;exact qp j o,az B.pb QQ ?_⟩
  exact bp (k:=vP) (al (x:=.int w) (y:=.int 0) QQ QQ e) QQ nofun λZ=>aT (ao t QQ QQ) QQ
theorem sums_by(B:BN P)(n:Nat)(c:Int)(w:Nat):∃ b:vR (vV×Nat),(∀ x∈b,x.2<w/\x.1∈sz)/\b.length<=12/\(ae P X (n+3)).call "_law_sums_by" [.int c,.int w]=ac (.tup (b.map dY),vP):=by
 obtain⟨ps,j,f,u⟩:=kF (X:=X) B n (c / 5) w;have q:2000<big:=by decide
 have h:fZ "len" [.tup (ps.map bi)]=ac (.int ps.length):=by show ac (D.int ((ps.map bi).length:Nat))=_;rw[v9]
 obtain⟨ds,t,q2,y⟩:=ji (cf:=ae P X (n+2)) (ρ:=vis [("_law_cell",(vP,.int c)),("_law_wide",(vP,.int w)),("_law_words",(vT,.list [sD "count",sD "sum",sD "least",sD "most"])),("_law_places",(vP,.tup (ps.map bi)))])
  (elt:=.tup [.sub (.u "_law_words") (.bin .Mod (.call "_law_mixed" [.u "_law_cell",.bin .Add (.int 80) (.u "_law_k")]) (.int 4)),.sub (.u "_law_places") (.u "_law_k")]) (z:="_law_k") (BH:=.blt "len" [.u "_law_places"]) (k:=ps.length) (jb f) (λd=>∃ x:vV×Nat,(x.2<w/\x.1∈sz)/\d=dY x) (cg (vv (af QQ (af QQ (af QQ ad))) vN) h) (by
   intro i m;obtain⟨r,_,A⟩:=mixed (X:=X) B.toBG (n+1) c (80+i);obtain⟨d,⟨s,rfl,C⟩,a⟩:=bJ (l:=[sD "count",sD "sum",sD "least",sD "most"]) (by decide) r (R:=λd=>∃ s,d=sD s/\s∈sz) (by
    intro d a;simp only[wf,wG,xx] at a
    rcases a with rfl | rfl | rfl | rfl <;> exact⟨_,QQ,by decide⟩)
   have a:aD (.list [sD "count",sD "sum",sD "least",sD "most"]) (.int (r % 4))=ac (sD s):=a;have E:=ps_at m;exact⟨dY (s,ps.getD i 0),⟨(s,ps.getD i 0),⟨by show ps.getD i 0<w;rw[wC,wj m];exact j _ (yF m),C⟩,QQ⟩,aw (aa (ay (aH (bR QQ (aV (af QQ (af QQ ad))))) (aj (au (aa (aH (bR QQ (aV ad))) (aa (aj vI (aH cw) cm) vN)) A) vI (aB (dtt QQ))) a) (aa (ay (aH (bR QQ (aV (af QQ (af QQ (af QQ ad)))))) (aH cw) E) vN)) (vW QQ)⟩)
 obtain⟨b,rfl,o⟩:=jn q2;refine⟨b,o,by rw[v9] at t;exact qp f t,az B.sb QQ ?_⟩
 refine aA (ak (d:=.list [sD "count",sD "sum",sD "least",sD "most"]) (fr:=vT) QQ) ?_;refine aA (ak (aI (aa (d:=.int (c / 5)) QQ (aa (d:=.int w) QQ vN)) u)) ?_;exact aT (ao y QQ QQ) QQ
theorem keys_by(B:BN P)(n:Nat)(c:Int)(w:Nat):∃ ks:vR (Nat×v7),(∀ x∈ks,x.1<w)/\ks.length<=12/\(ae P X (n+3)).call "_law_keys_by" [.int c,.int w]=ac (.tup (ks.map kM),vP):=by
 obtain⟨ps,f,a,o⟩:=kF (X:=X) B n c w;have b:fZ "len" [.tup (ps.map bi)]=ac (.int ps.length):=by show ac (D.int ((ps.map bi).length:Nat))=_;rw[v9]
 obtain⟨ds,m,q2,q⟩:=ji (cf:=ae P X (n+2)) (ρ:=vis [("_law_cell",(vP,.int c)),("_law_wide",(vP,.int w)),("_law_places",(vP,.tup (ps.map bi)))])
  (elt:=.tup [.sub (.u "_law_places") (.u "_law_k"),.cmp .Eq (.bin .Mod (.call "_law_mixed" [.u "_law_cell",.bin .Add (.int 90) (.u "_law_k")]) (.int 2)) (.int 1)]) (z:="_law_k") (BH:=.blt "len" [.u "_law_places"]) (k:=ps.length) (jb a) (λd=>∃ x:Nat×v7,x.1<w/\d=kM x) (cg (vv (af QQ (af QQ ad)) vN) b) (by
   intro i h;obtain⟨r,_,s⟩:=mixed (X:=X) B.toBG (n+1) c (90+i);have t:=ps_at h;exact⟨kM (ps.getD i 0,r % 2 == 1),⟨(ps.getD i 0,r % 2 == 1),by show ps.getD i 0<w;rw[wC,wj h];exact f _ (yF h),QQ⟩,aw (aa (ay (aH (bR QQ (aV (af QQ (af QQ ad))))) (aH cw) t) (aa (al (aj (au (aa (aH (bR QQ (aV ad))) (aa (aj vI (aH cw) cm) vN)) s) vI (aB (dtt QQ))) vI QQ) vN)) (vW QQ)⟩)
 obtain⟨u,rfl,j⟩:=jn q2;refine⟨u,j,by rw[v9] at m;exact qp a m,az B.kb QQ ?_⟩
 refine aA (ak (aI (aa (d:=.int c) QQ (aa (d:=.int w) QQ vN)) o)) ?_;exact aT (ao q QQ QQ) QQ
theorem clauses_by(B:BN P)(n:Nat)(c:Int)(m:Nat)(y:m<=1000):∃ cs:vR (vR D),(∀ x∈cs,kr m x)/\cs.length<=12/\(ae P X (n+5)).call "_law_clauses_by" [.int c,.int m]=ac (.tup (cs.map clD),vP):=by
 have tail:∀ k:Nat,k<=12->Rex (ae P X (n+4)) (cK.body.drop 2) [("_law_cell",(vP,.int c)),("_law_many_here",(vP,.int m)),("_law_count",(vP,.int k))] λd fr=>(∃ cs:vR (vR D),(∀ x∈cs,kr m x)/\cs.length<=12/\d=.tup (cs.map clD))/\fr=vP:=by
  intro k s;obtain⟨ds,t,q2,A⟩:=ji (cf:=ae P X (n+4)) (ρ:=vis [("_law_cell",(vP,.int c)),("_law_many_here",(vP,.int m)),("_law_count",(vP,.int k))]) (elt:=.call "_law_clause_by" [.call "_law_mixed" [.u "_law_cell",.bin .Add (.int 20) (.u "_law_k")],.u "_law_many_here"]) (z:="_law_k") (BH:=.u "_law_count") (k:=k) (jb s) (λd=>∃ x:vR D,kr m x/\d=clD x) QQ (by
   intro i _;obtain⟨r,_,b⟩:=mixed (X:=X) B.toBG (n+3) c (20+i);obtain⟨d,⟨u,rfl,h1,w⟩,a⟩:=clause_by (X:=X) B.toBD n r m y;exact⟨.tup u,⟨u,⟨h1,w⟩,QQ⟩,(au (aa (au (aa (aH (bR QQ (aV ad))) (aa (aj vI (aH cw) cm) vN)) b) (aa (aH (bR QQ (aV (af QQ ad)))) vN)) a)⟩)
  obtain⟨cs,rfl,f⟩:=jn q2;exact aW (ao A QQ QQ) QQ ⟨⟨cs,f,by rw[v9] at t;exact qp s t,QQ⟩,QQ⟩
 obtain⟨E,⟨h,rfl,h1⟩,j⟩:=bJ (l:=[.int 0,.int 1,.int 1,.int 2]) (by decide) c (R:=λd=>∃ k:Nat,d=.int k/\k<=12) (by
  intro d a;simp only[wf,wG,xx] at a
  rcases a with rfl | rfl | rfl | rfl <;> first | exact⟨0,QQ,by decide⟩ | exact⟨1,QQ,by decide⟩ | exact⟨2,QQ,by decide⟩)
 have j:aD (.list [.int 0,.int 1,.int 1,.int 2]) (.int (c % 4))=ac (.int h):=j;obtain⟨k2,o,w⟩:=a9 (c / 36) (k:=13) (by decide)
 have o:c / 36 % 13=(k2:Int):=o;have q:Rex (ae P X (n+4)) cK.body [("_law_cell",(vP,.int c)),("_law_many_here",(vP,.int m))] λd fr=>(∃ cs:vR (vR D),(∀ x∈cs,kr m x)/\cs.length<=12/\d=.tup (cs.map clD))/\fr=vP:=by
  refine bG (ak (d:=.int h) (fr:=vP) (ao (ay (cE (aa vI (aa vI (aa vI (aa vI vN)))) (dtt QQ)) (aj (vr ad) vI (aB (dtt QQ))) j) QQ QQ)) ?_;refine bT (k:=c / 4 % 9 == 1) (al (aj (aj (vr (ai QQ (av ad))) vI (aQ (dtt QQ))) vI (aB (dtt QQ))) vI QQ) QQ (λZ=>?_) λZ=>tail h h1
  refine bG (ak (d:=.int k2) (fr:=vP) (by rw[<- o];exact ao (aj (aj (vr (ai QQ (av ad))) vI (aQ (dtt QQ))) vI (aB (dtt QQ))) QQ QQ)) (tail k2 (by omega))
 obtain⟨d,fr,⟨⟨cs,g1,C,rfl⟩,rfl⟩,b⟩:=bW (X:=X) (args:=[.int c,.int m]) B.cb QQ q;exact⟨cs,g1,C,b⟩
theorem pairs_by(B:BN P)(n:Nat)(c:Int)(a b:Nat):∃ f:vR (Nat×Nat),(∀ k∈f,k.1<a/\k.2<b)/\f.length<=12/\(ae P X (n+2)).call "_law_pairs_by" [.int c,.int a,.int b]=ac (.tup (f.map prT),vP):=by
 by_cases j:a=0\/b=0
 ·refine⟨[],(λZ h=>nomatch h),ww _,az B.rb QQ ?_⟩
  have s:evE (ae P X (n+1)) (vis [("_law_cell",(vP,.int c)),("_law_one",(vP,.int a)),("_law_other",(vP,.int b))]) (.bop .Or [.cmp .Eq (.u "_law_one") (.int 0),.cmp .Eq (.u "_law_other") (.int 0)])=ac (.bool ((a:Int) == 0||(b:Int) == 0)):=gV (k:=(a:Int) == 0) (l:=(b:Int) == 0) (al (x:=.int a) (y:=.int 0) QQ QQ QQ) λZ=>bz (al (x:=.int b) (y:=.int 0) QQ QQ QQ)
  have t:((a:Int) == 0||(b:Int) == 0)=vT:=by rcases j with rfl | rfl <;> simp
  exact bp (k:=vT) (s.trans (by rw[t])) QQ (λZ=>aT QQ QQ) nofun
 ·have I:0<a:=by exact om139 j
  have J:0<b:=by exact om140 j
  have u:(0:Int)<a:=by exact om141 j
  have w:(0:Int)<b:=by exact om142 j
  obtain⟨k2,A,L⟩:=a9 (c / 6) (k:=13) (by decide)
  have A:c / 6 % 13=(k2:Int):=A;obtain⟨Y,⟨o,rfl,h1⟩,C⟩:=bJ (l:=[.int 0,.int 0,.int 0,.int 0,.int 1,.int (c / 6 % 13)]) (by simp) c (R:=λd=>∃ k:Nat,d=.int k/\k<=12) (by
   intro d G;simp only[wf,wG,xx] at G
   rcases G with rfl | rfl | rfl | rfl | rfl | rfl <;> first | exact⟨0,QQ,by decide⟩ | exact⟨1,QQ,by decide⟩ | exact⟨k2,by rw[A],by omega⟩)
  have C:aD (.list [.int 0,.int 0,.int 0,.int 0,.int 1,.int (c / 6 % 13)]) (.int (c % 6))=ac (.int o):=C;obtain⟨ds,H,q2,M⟩:=ji (cf:=ae P X (n+1)) (ρ:=vis [("_law_cell",(vP,.int c)),("_law_one",(vP,.int a)),("_law_other",(vP,.int b)),("_law_many_here",(vP,.int o))])
   (elt:=.tup [.bin .Mod (.call "_law_mixed" [.u "_law_cell",.bin .Add (.int 70) (.u "_law_k")]) (.u "_law_one"),.bin .Mod (.call "_law_mixed" [.u "_law_cell",.bin .Add (.int 75) (.u "_law_k")]) (.u "_law_other")]) (z:="_law_k") (BH:=.u "_law_many_here") (k:=o) (jb h1) (λd=>∃ x:Nat×Nat,(x.1<a/\x.2<b)/\d=prT x) QQ (by
    intro i _;obtain⟨r,_,N⟩:=mixed (X:=X) B.toBG n c (70+i);obtain⟨O,_,E⟩:=mixed (X:=X) B.toBG n c (75+i);obtain⟨p,ep,T⟩:=a9 r I;obtain⟨q,U,V⟩:=a9 O J;refine⟨prT (p,q),⟨(p,q),⟨T,V⟩,QQ⟩,?_⟩;show _=ac (D.tup [.int p,.int q]);rw[<- ep,<- U];exact aw (aa (aj (au (aa (aH (bR QQ (aV ad))) (aa (aj vI (aH cw) cm) vN)) N) (aH (bR QQ (aV (af QQ ad)))) (aB u)) (aa (aj (au (aa (aH (bR QQ (aV ad))) (aa (aj vI (aH cw) cm) vN)) E) (aH (bR QQ (aV (af QQ (af QQ ad))))) (aB w)) vN)) (vW QQ))
  obtain⟨f,rfl,m⟩:=jn q2;refine⟨f,m,by rw[v9] at H;exact qp h1 H,az B.rb QQ ?_⟩
  have s:evE (ae P X (n+1)) (vis [("_law_cell",(vP,.int c)),("_law_one",(vP,.int a)),("_law_other",(vP,.int b))]) (.bop .Or [.cmp .Eq (.u "_law_one") (.int 0),.cmp .Eq (.u "_law_other") (.int 0)])=ac (.bool ((a:Int) == 0||(b:Int) == 0)):=gV (k:=(a:Int) == 0) (l:=(b:Int) == 0) (al (x:=.int a) (y:=.int 0) QQ QQ QQ) λZ=>bz (al (x:=.int b) (y:=.int 0) QQ QQ QQ)
  have t:((a:Int) == 0||(b:Int) == 0)=vP:=by rw[Bool.or_eq_false_iff,wK,wK];exact om143 j
  refine bp (k:=vP) (s.trans (by rw[t])) QQ nofun λZ=>?_
  refine aA (ak (d:=.int o) (fr:=vP) (ao (ay (cE (aa vI (aa vI (aa vI (aa vI (aa vI (aa (aj (aj (aH QQ) vI (aQ (dtt QQ))) vI (aB (dtt QQ))) vN)))))) (vW QQ)) (aj (aH QQ) vI (aB (dtt QQ))) C) QQ QQ)) ?_;exact aT (ao M QQ QQ) QQ
end
set_option maxHeartbeats 800000
noncomputable def Q.rb(R:Wd):Q->Nat->Prop
 | .table h,r=>∃ k,R.lookup h=ac k/\k<=r
 | .sieve _ q,r | .pick _ q,r | .group _ _ q,r | .order _ q,r | .once q,r=>q.rb R r
 | .first a q,r=>∃ f,q.rb R f/\f<=60/\min a f<=r
 | .join a b _,r=>∃ c r2,a.rb R c/\b.rb R r2/\c<=60/\r2<=60/\c * r2<=r
 | .both a b,r=>∃ c r2,a.rb R c/\b.rb R r2/\c<=60/\r2<=60/\c+r2<=r
structure TpA(W R:Wd)(c dp:Nat)(q:Q)(rr k:Nat):Prop where
 ok:q.ok W
 wd:q.wd W<=24 * k
 k1:1<=k
 k2:k<=24
 r:rr<=60
 cp:q.cp<=c
 pr:q.pr<=12
 nar:q.nar W 5000
 dp:q.dp<=dp
 rb:q.rb R rr
theorem TpA.up{W R:Wd}{c dp c' a:Nat}{q:Q}{r k:Nat}(h:TpA W R c dp q r k)(h1:c<=c')(b:dp<=a):TpA W R c' a q r k:=⟨h.ok,h.wd,h.k1,h.k2,h.r,v6 h.cp h1,h.pr,h.nar,v6 h.dp b,h.rb⟩
noncomputable def aF(W:Wd)(q:Q)(r k:Nat):D:=.tup [q.d,.int (q.wd W),.int r,.int k]
section
variable {P:vR (vV×Fn)} {X:CF} {W R:Wd} {c dp:Nat} {q:Q} {r k:Nat}
theorem lc(B:BN P)(n:Nat)(w z:Int)(h:TpA W R c dp q r k):∃ f i,TpA W R (c+12) (dp+1) f i k/\(ae P X (n+6)).call "_law_around" [.int w,.int z,aF W q r k]=ac (aF W f i k,vP):=by
 have Y:q.wd W<=1000:=by exact om144 h.wd h.k2
 obtain⟨C,c1,c2,c3⟩:=clauses_by (X:=X) B n z (q.wd W) Y;obtain⟨ps,J,E,L⟩:=kF (X:=X) B (n+3) z (q.wd W);obtain⟨b,M,N,Z⟩:=sums_by (X:=X) B (n+2) z (q.wd W);obtain⟨ks,Ca,k2,Cb⟩:=keys_by (X:=X) B (n+2) z (q.wd W);obtain⟨a0,Cd⟩:∃ a:Nat,1+z % 6=a:=⟨(1+z % 6).toNat,by exact om145⟩
 obtain⟨a1,e1⟩:∃ a:Nat,z / 24 % 70=a:=⟨(z / 24 % 70).toNat,by exact om146⟩
 have Ce:(0:Int)<10 ^ 40:=by decide
 obtain⟨a2,Cf⟩:∃ a:Nat,z / 54 % 10 ^ 40=a:=⟨(z / 54 % 10 ^ 40).toNat,(xW (w8 _ (by decide))).symm⟩
 have m:ce .Pow (.int 10) (.int 40)=ac (.int (10 ^ 40)):=oM ⟨by decide +kernel,by decide +kernel,by decide,by decide⟩
 have o:ce .Mod (.int (z / 54)) (.int (10 ^ 40))=ac (.int a2):=by rw[<- Cf];exact aB Ce
 have y:∀ a:Nat,fZ "min" [.int r,.int a]=ac (.int (min a r:Nat)):=λa=>by
  show ac (D.int (if (a:Int)<r then (a:Int) else r))=_
  congr 2
  split
  ·rw[y5 (om147 (by assumption))];try rfl
  ·rw[Ag (om148 (by assumption))]
 have O:fZ "len" [.tup (ps.map bi)]=ac (.int ps.length):=by show ac (D.int ((ps.map bi).length:Nat))=_;rw[v9]
 have Cg:fZ "len" [.tup (b.map dY)]=ac (.int b.length):=by show ac (D.int ((b.map dY).length:Nat))=_;rw[v9]
 have U:=h.k1;have Ch:TpA W R (c+12) (dp+1) (.sieve C q) r k:=⟨⟨h.ok,c1,by exact jb c2⟩,h.wd,h.k1,h.k2,h.r,by show C.length+q.cp<=_;have:=h.cp;exact om149 c2 this,h.pr,h.nar,wL h.dp,h.rb⟩
 have Ci:TpA W R (c+12) (dp+1) (.pick ps q) r k:=⟨⟨h.ok,J,by exact jb E⟩,by show ps.length<=_;exact om150 E U,h.k1,h.k2,h.r,v6 h.cp (qo),h.pr,h.nar,wL h.dp,h.rb⟩
 have Cj:TpA W R (c+12) (dp+1) (.group ps b q) r k:=⟨⟨h.ok,J,λx H=>(M x H).1,by exact jb E,by exact jb N⟩,by show ps.length+b.length<=_;exact om152 E N U,h.k1,h.k2,h.r,v6 h.cp (qo),h.pr,⟨h.nar,λx H=>(M x H).2⟩,wL h.dp,h.rb⟩
 have Ck:TpA W R (c+12) (dp+1) (.order ks q) r k:=⟨⟨h.ok,Ca,by exact jb k2⟩,h.wd,h.k1,h.k2,h.r,v6 h.cp (qo),h.pr,h.nar,wL h.dp,h.rb⟩
 have Cm:TpA W R (c+12) (dp+1) (.once q) r k:=⟨h.ok,h.wd,h.k1,h.k2,h.r,v6 h.cp (qo),h.pr,h.nar,wL h.dp,h.rb⟩;have Cn:∀ a:Nat,TpA W R (c+12) (dp+1) (.first a q) (min a r) k:=λa=>⟨h.ok,h.wd,h.k1,h.k2,v6 (Ah _ _) h.r,v6 h.cp (qo),h.pr,h.nar,wL h.dp,r,h.rb,h.r,wF _⟩
 have I:Rex (ae P X (n+5)) ei.body [("_law_word",(vP,.int w)),("_law_cell",(vP,.int z)),("_law_top",(vP,aF W q r k))] λd fr=>(∃ f i,TpA W R (c+12) (dp+1) f i k/\d=aF W f i k)/\fr=vP:=by
  generalize ae P X (n+5)=cf at *;have s:aD (aF W q r k) (.int 0)=ac q.d:=rfl;have j:aD (aF W q r k) (.int 1)=ac (.int (q.wd W)):=rfl;have t:aD (aF W q r k) (.int 2)=ac (.int r):=rfl;have u:aD (aF W q r k) (.int 3)=ac (.int k):=rfl;generalize aF W q r k=T at *;have fin:∀ (a:Nat) (σ:St),Has σ "_law_top" T->Has σ "_law_count" (.int a)->Rex cf [.ret (.tup [.tup [.str "first",.u "_law_count",.sub (.u "_law_top") (.int 0)],.sub (.u "_law_top") (.int 1),.blt "min" [.sub (.u "_law_top") (.int 2),.u "_law_count"],.sub (.u "_law_top") (.int 3)])] σ λd fr=>(∃ f i,TpA W R (c+12) (dp+1) f i k/\d=aF W f i k)/\fr=vP:=by
   intro a σ G V;have:=y a;refine aW (d:=aF W (.first a q) (min a r) k) (fr:=vP) (by unfold aF;show _=ac (D.tup [.tup [.str (vQ "first"),.int a,q.d],.int (q.wd W),.int (min a r:Nat),.int k],_);exact ao (aw (aa (aw (aa vS (vv V (aa (vsi G s) vN))) (vW QQ)) (aa (vsi G j) (aa (cg (aa (vsi G t) (vv V vN)) this) (aa (vsi G u) vN)))) (vW QQ)) QQ QQ) QQ ⟨⟨_,_,Cn a,QQ⟩,QQ⟩
  refine bT (k:=decide (w<3)) (al (vr ad) vI QQ) QQ (λBF=>?_) λBF=>?_
  ·exact aW (d:=aF W (.sieve C q) r k) (fr:=vP) (by unfold aF;show _=ac (D.tup [.tup [.str (vQ "sieve"),.tup (C.map clD),q.d],.int (q.wd W),.int r,.int k],_);exact ao (aw (aa (aw (aa vS (aa (au (vv (af QQ ad) (aa (vsi (af QQ (af QQ ad)) j) vN)) c3) (aa (vsi (af QQ (af QQ ad)) s) vN))) (vW QQ)) (aa (vsi (af QQ (af QQ ad)) j) (aa (vsi (af QQ (af QQ ad)) t) (aa (vsi (af QQ (af QQ ad)) u) vN)))) (vW QQ)) QQ QQ) QQ ⟨⟨_,_,Ch,QQ⟩,QQ⟩
  refine bT (k:=w == 4) (al (vr ad) vI QQ) QQ (λBF=>?_) λBF=>?_
  ·refine bG (ak (d:=.tup (ps.map bi)) (fr:=vP) (aI (vv (af QQ ad) (aa (vsi (af QQ (af QQ ad)) j) vN)) L)) ?_
   exact aW (d:=aF W (.pick ps q) r k) (fr:=vP) (by unfold aF;show _=ac (D.tup [.tup [.str (vQ "pick"),.tup (ps.map bi),q.d],.int ps.length,.int r,.int k],_);exact ao (aw (aa (aw (aa vS (vv aq (aa (vsi (ai QQ (av (af QQ (af QQ ad)))) s) vN))) (vW QQ)) (aa (cg (vv aq vN) O) (aa (vsi (ai QQ (av (af QQ (af QQ ad)))) t) (aa (vsi (ai QQ (av (af QQ (af QQ ad)))) u) vN)))) (vW QQ)) QQ QQ) QQ ⟨⟨_,_,Ci,QQ⟩,QQ⟩
  refine bT (k:=w == 3||w == 5) (gV (al (vr ad) vI QQ) λa=>bz (al (vr ad) vI QQ)) QQ (λBF=>?_) λBF=>?_
  ·refine bG (ak (d:=.tup (ps.map bi)) (fr:=vP) (aI (vv (af QQ ad) (aa (vsi (af QQ (af QQ ad)) j) vN)) L)) (bG (ak (d:=.tup (b.map dY)) (fr:=vP) (aI (vv (ai QQ (av (af QQ ad))) (aa (vsi (ai QQ (av (af QQ (af QQ ad)))) j) vN)) Z)) ?_)
   have A:((ps.length+b.length:Nat):Int)=(ps.length:Int)+b.length:=xA _ _;exact aW (d:=aF W (.group ps b q) r k) (fr:=vP) (by unfold aF;show _=ac (D.tup [.tup [.str (vQ "group"),.tup (ps.map bi),.tup (b.map dY),q.d],.int (ps.length+b.length:Nat),.int r,.int k],_);rw[A];exact ao (aw (aa (aw (aa vS (vv (ai QQ (av aq)) (vv aq (aa (vsi (ai QQ (av (ai QQ (av (af QQ (af QQ ad)))))) s) vN)))) (vW QQ)) (aa (aj (cg (vv (ai QQ (av aq)) vN) O) (cg (vv aq vN) Cg) cm) (aa (vsi (ai QQ (av (ai QQ (av (af QQ (af QQ ad)))))) t) (aa (vsi (ai QQ (av (ai QQ (av (af QQ (af QQ ad)))))) u) vN)))) (vW QQ)) QQ QQ) QQ ⟨⟨_,_,Cj,QQ⟩,QQ⟩
  refine bT (k:=w == 6) (al (vr ad) vI QQ) QQ (λBF=>?_) λBF=>?_
  ·exact aW (d:=aF W (.order ks q) r k) (fr:=vP) (by unfold aF;show _=ac (D.tup [.tup [.str (vQ "order"),.tup (ks.map kM),q.d],.int (q.wd W),.int r,.int k],_);exact ao (aw (aa (aw (aa vS (aa (au (vv (af QQ ad) (aa (vsi (af QQ (af QQ ad)) j) vN)) Cb) (aa (vsi (af QQ (af QQ ad)) s) vN))) (vW QQ)) (aa (vsi (af QQ (af QQ ad)) j) (aa (vsi (af QQ (af QQ ad)) t) (aa (vsi (af QQ (af QQ ad)) u) vN)))) (vW QQ)) QQ QQ) QQ ⟨⟨_,_,Ck,QQ⟩,QQ⟩
  refine bT (k:=w == 7) (al (vr ad) vI QQ) QQ (λBF=>?_) λBF=>?_
  ·exact aW (d:=aF W (.once q) r k) (fr:=vP) (by unfold aF;show _=ac (D.tup [.tup [.str (vQ "once"),q.d],.int (q.wd W),.int r,.int k],_);exact ao (aw (aa (aw (aa vS (aa (vsi (af QQ (af QQ ad)) s) vN)) (vW QQ)) (aa (vsi (af QQ (af QQ ad)) j) (aa (vsi (af QQ (af QQ ad)) t) (aa (vsi (af QQ (af QQ ad)) u) vN)))) (vW QQ)) QQ QQ) QQ ⟨⟨_,_,Cm,QQ⟩,QQ⟩
  refine bG (ak (d:=.int a0) (fr:=vP) (by rw[<- Cd];exact ao (aj vI (aj (vr (af QQ ad)) vI (aB (dtt QQ))) cm) QQ QQ)) ?_
  refine bT (k:=z / 6 % 4 == 1) (al (aj (aj (vr (ai QQ (av (af QQ ad)))) vI (aQ (dtt QQ))) vI (aB (dtt QQ))) vI QQ) QQ (λBF=>?_) λBF=>?_
  ·refine bG (ak (d:=.int a1) (fr:=vP) (by rw[<- e1];exact ao (aj (aj (vr (ai QQ (av (af QQ ad)))) vI (aQ (dtt QQ))) vI (aB (dtt QQ))) QQ QQ)) ?_
   refine bT (k:=z / 6 % 9 == 2) (al (aj (aj (vr (ai QQ (av (ai QQ (av (af QQ ad)))))) vI (aQ (dtt QQ))) vI (aB (dtt QQ))) vI QQ) QQ (λBF=>?_) λBF=>fin a1 _ (ai QQ (av (ai QQ (av (af QQ (af QQ ad)))))) aq
   exact bG (ak (d:=.int a2) (fr:=vP) (ao (aj (aj (vr (ai QQ (av (ai QQ (av (af QQ ad)))))) vI (aQ (dtt QQ))) (aj vI vI m) o) QQ QQ)) (fin a2 _ (ai QQ (av (ai QQ (av (ai QQ (av (af QQ (af QQ ad)))))))) aq)
  ·refine bT (k:=z / 6 % 9 == 2) (al (aj (aj (vr (ai QQ (av (af QQ ad)))) vI (aQ (dtt QQ))) vI (aB (dtt QQ))) vI QQ) QQ (λBF=>?_) λBF=>fin a0 _ (ai QQ (av (af QQ (af QQ ad)))) aq
   exact bG (ak (d:=.int a2) (fr:=vP) (ao (aj (aj (vr (ai QQ (av (af QQ ad)))) vI (aQ (dtt QQ))) (aj vI vI m) o) QQ QQ)) (fin a2 _ (ai QQ (av (ai QQ (av (af QQ (af QQ ad)))))) aq)
 obtain⟨d,fr,⟨⟨f,i,g1,rfl⟩,rfl⟩,Co⟩:=bW (X:=X) (args:=[.int w,.int z,aF W q r k]) B.ar QQ I;exact⟨f,i,g1,Co⟩
theorem nF(B:BN P)(n:Nat):(ae P X (n+1)).call "_law_around" [.int 8,.int 5,aF W q r k]=ac (aF W (.first 6 q) (min 6 r) k,vP):=by
 have a:fZ "min" [.int r,.int 6]=ac (.int (min 6 r:Nat)):=by
  show ac (D.int (if (6:Int)<r then (6:Int) else r))=_
  congr 2
  split
  ·rw[y5 (om153 (by assumption))];try rfl
  ·rw[Ag (om154 (by assumption))]
 refine az B.ar QQ ?_;show Run _ ei.body [("_law_word",(vP,.int 8)),("_law_cell",(vP,.int 5)),("_law_top",(vP,aF W q r k))] _ _;generalize ae P X n=cf at *;refine bp (k:=vP) (x:=.bool vP) QQ QQ nofun λZ=>bp (k:=vP) (x:=.bool vP) QQ QQ nofun λZ=>bp (k:=vP) (x:=.bool vP) QQ QQ nofun λZ=>bp (k:=vP) (x:=.bool vP) QQ QQ nofun λZ=>bp (k:=vP) (x:=.bool vP) QQ QQ nofun λZ=>?_
 refine aA (ak (d:=.int 6) (fr:=vP) QQ) ?_;refine bp (k:=vP) (x:=.bool vP) QQ QQ nofun λZ=>bp (k:=vP) (x:=.bool vP) QQ QQ nofun λZ=>?_
 exact aT (ao (aw (aa (d:=.tup [.str (vQ "first"),.int 6,q.d]) QQ (aa (d:=.int (q.wd W)) QQ (aa (cg (aa (d:=.int r) QQ (aa (d:=.int 6) QQ vN)) a) (aa (d:=.int k) QQ vN)))) (vW QQ)) QQ QQ) QQ
theorem qe(B:BN P)(n:Nat)(z:Int)(h:TpA W R c dp q r k):∃ a b,TpA W R (c+12) (dp+1) a b k/\(ae P X (n+7)).call "_law_sieve_on" [aF W q r k,.int z]=ac (aF W a b k,vP):=by
 obtain⟨J,_,L⟩:=mixed (X:=X) B.toBG (n+5) z 6;obtain⟨E,G,g1,M⟩:=lc (X:=X) B n 0 (J / 4 * 4+1) h;obtain⟨H,_,N⟩:=mixed (X:=X) B.toBG (n+5) z 8;have u:Rex (ae P X (n+6)) eK.body [("_law_top",(vP,aF W q r k)),("_law_cell",(vP,.int z))] λd fr=>(∃ a b,TpA W R (c+12) (dp+1) a b k/\d=aF W a b k)/\fr=vP:=by
  generalize ae P X (n+6)=cf at *;have O:aD (aF W q r k) (.int 0)=ac q.d:=rfl;have w:aD (aF W q r k) (.int 1)=ac (.int (q.wd W)):=rfl;have T:aD (aF W q r k) (.int 2)=ac (.int r):=rfl;have U:aD (aF W q r k) (.int 3)=ac (.int k):=rfl;have f:∀ σ:St,Has σ "_law_top" (aF W q r k)->Has σ "_law_cell" (.int z)->Rex cf [.ret (.call "_law_around" [.int 0,.bin .Add (.bin .Mult (.bin .FloorDiv (.call "_law_mixed" [.u "_law_cell",.int 6]) (.int 4)) (.int 4)) (.int 1),.u "_law_top"])] σ λd fr=>(∃ a b,TpA W R (c+12) (dp+1) a b k/\d=aF W a b k)/\fr=vP:=λσ V Y=>
   aW (d:=aF W E G k) (fr:=vP) (aI (aa vI (aa (aj (aj (aj (au (vv Y (aa vI vN)) L) vI (aQ (dtt QQ))) vI (vm (dtt QQ))) vI cm) (vv V vN))) M) QQ ⟨⟨E,G,g1,QQ⟩,QQ⟩
  refine bT (k:=z / 4 % 3 == 1&&decide ((q.wd W:Int) > 0)) (dX (k:=z / 4 % 3 == 1) (l:=decide ((q.wd W:Int) > 0)) (by clear f;exact al (aj (aj (vr (af QQ ad)) vI (aQ (dtt QQ))) vI (aB (dtt QQ))) vI QQ) λBF=>bz (al (ay (x:=aF W q r k) (y:=.int 1) QQ QQ w) vI QQ)) QQ (λI=>?_) λBF=>f _ ⟨_,QQ⟩ ⟨_,QQ⟩
  rw[yl,Bf] at I;have m:0<q.wd W:=by omega
  have i:(0:Int)<q.wd W:=I.2;obtain⟨dw,⟨s,Z,rfl⟩,j⟩:=bJ (l:=[sD "from",sD "upto",sD "unlike"]) (by decide) (z / 12) (R:=λd=>∃ s,s∈iX/\d=sD s) (by
   intro d j;simp only[wf,wG,xx] at j
   rcases j with rfl | rfl | rfl <;> exact⟨_,by decide,QQ⟩)
  have j:aD (.list [.str (vQ "from"),.str (vQ "upto"),.str (vQ "unlike")]) (.int (z / 12 % 3))=ac (.str (vQ s)):=j;obtain⟨p,ep,Ca⟩:=a9 H m;have Cb:r9 (.int (z / 36 % 3)):=.inl ⟨_,QQ,by exact om155,by exact om156⟩
  have A:TpA W R (c+12) (dp+1) (.sieve [[tst s p "is" (.int (z / 36 % 3))]] q) r k:=by
   refine⟨⟨h.ok,λx C=>?_,vW QQ⟩,h.wd,h.k1,h.k2,h.r,by show 1+q.cp<=_;have:=h.cp;exact om157 this,h.pr,h.nar,wL h.dp,h.rb⟩
   rw[wl.mp C];exact⟨λt Cd=>by rw[wl.mp Cd];exact⟨s,p,Z,Ca,.inr ⟨_,Cb,QQ⟩⟩,vW QQ⟩
  refine bG (ak (d:=.str (vQ s)) (fr:=vP) (ao (ay (cE (aa vS (aa vS (aa vS vN))) (dtt QQ)) (aj (aj (vr (af QQ ad)) vI (aQ (dtt QQ))) vI (aB (dtt QQ))) j) QQ QQ)) ?_;have C:ce .Mod (.int H) (.int (q.wd W))=ac (.int p):=by rw[<- ep];exact aB i
  refine bG (ak (d:=tst s p "is" (.int (z / 36 % 3))) (fr:=vP) (ao (aw (vv aq (aa (aj (au (vv (ai QQ (av (af QQ ad))) (aa vI vN)) N) (vsi (ai QQ (av ad)) w) C) (aa vS (aa (aj (aj (vr (ai QQ (av (af QQ ad)))) vI (aQ (dtt QQ))) vI (aB (dtt QQ))) vN)))) (vW QQ)) QQ QQ)) ?_;have o:Has (ax (settle (tst s p "is" (.int (z / 36 % 3))) (ME.names (.tup [.u "_law_word",.bin .Mod (.call "_law_mixed" [.u "_law_cell",.int 8]) (.sub (.u "_law_top") (.int 1)),.str "is",.bin .Mod (.bin .FloorDiv (.u "_law_cell") (.int 36)) (.int 3)])) (ax (settle (.str (vQ s)) (ME.names (.sub (.lst [.str "from",.str "upto",.str "unlike"]) (.bin .Mod (.bin .FloorDiv (.u "_law_cell") (.int 12)) (.int 3)))) [("_law_top",(vP,aF W q r k)),("_law_cell",(vP,.int z))]) "_law_word" (vP,.str (vQ s)))) "_law_test" (vP,tst s p "is" (.int (z / 36 % 3)))) "_law_top" (aF W q r k):=(ai QQ (av (ai QQ (av ad))));refine aW (d:=aF W (.sieve [[tst s p "is" (.int (z / 36 % 3))]] q) r k) (fr:=vP) (ao (aw (aa (aw (aa vS (aa (aw (aa (aw (vv aq vN) (vW QQ)) vN) (vW QQ)) (aa (vsi o O) vN))) (vW QQ)) (aa (vsi o w) (aa (vsi o T) (aa (vsi o U) vN)))) (vW QQ)) QQ QQ) QQ ⟨⟨_,_,A,QQ⟩,QQ⟩
 obtain⟨d,fr,⟨⟨a,b,h1,rfl⟩,rfl⟩,Ce⟩:=bW (X:=X) (args:=[aF W q r k,.int z]) B.so QQ u;exact⟨a,b,h1,Ce⟩
end
noncomputable abbrev Tbs:=vR (Str×Tab)
noncomputable def Tbs.d(T:Tbs):D:=.dict (T.map λp=>.str p.1) (T.map λp=>aK p.2)
noncomputable def Q.ans(T:Tbs):Q->Tab
 | .table h=>(T.lookup h).getD []
 | .sieve i q=>(q.ans T).filter (pk i)
 | .pick ps q=>(q.ans T).map (fJ ps)
 | .group ps j q=>kT ps j (q.ans T)
 | .order ks q=>uI ks (q.ans T)
 | .once q=>bU (q.ans T)
 | .first c q=>(q.ans T).take c
 | .join a b f=>nR f (a.ans T) (b.ans T)
 | .both a b=>a.ans T++b.ans T
noncomputable def vq(W R:Wd)(T:Tbs):Prop:=∀ nm k,W.lookup nm=ac k->∃ t,T.lookup nm=ac t/\bB k t/\∀ r,R.lookup nm=ac r->t.length<=r
theorem mA:∀ (ks:vR (Nat×v7)) (t:Tab),(ks.foldl (λl k=>iW k l) t).length=t.length/\∀ r∈ks.foldl (λl k=>iW k l) t,r∈t
 | [],_=>⟨QQ,λZ h=>h⟩
 | k::ks,t=>⟨(mA ks (iW k t)).1.trans (pc k t).1,λr h=>(pc k t).2 r ((mA ks (iW k t)).2 r h)⟩
theorem group_rows{m:Nat}{ps:vR Nat}{a:vR (vV×Nat)}{t:Tab}(h:bB m t)(j:∀ p∈ps,p<m)(n:∀ s∈a,s.2<m):bB (ps.length+a.length) (kT ps a t)/\(kT ps a t).length<=t.length:=by
 have g:=oy j h;refine⟨λr o=>?_,by unfold kT;rw[v9];exact g.le⟩
 obtain⟨q,c,e⟩:=wz.mp o;subst e;have f:=g.ke q c;have i:=g.ro q c;refine⟨by unfold uF mo;rw[wn,v9,f.1],λd b=>(xa.mp b).elim (f.2 d) λb=>(wz.mp b).elim λs z=>z.2▸?_⟩
 obtain⟨w,u⟩:=q;cases u with
 | nil=>exact wI QQ i.1
 | cons y A=>exact told_cell (qZ i.2.1 (n s z.1))
theorem met_rows{m k:Nat}{prs:vR (Nat×Nat)}{a b:Tab}(h:bB m a)(i:bB k b):bB (m+k) (nR prs a b):=λr c=>by
 obtain⟨x,j,c⟩:=zr.mp c;obtain⟨y,n,e⟩:=wz.mp c;have h1:=h x j;have f:=i y ((Bz.mp n).1);exact e▸⟨by rw[wn,h1.1,f.1],λd o=>(xa.mp o).elim (h1.2 d) (f.2 d)⟩
theorem gG{W R:Wd}{T:Tbs}(L:vq W R T):∀ (q:Q) (r:Nat),q.ok W->q.rb R r->bB (q.wd W) (q.ans T)/\(q.ans T).length<=r:=by
 intro q
 induction q with
 | table B=>
  rintro r ⟨k,J⟩ ⟨V,h1,s⟩;obtain⟨t,e,A,M⟩:=L B k J;show bB ((W.lookup B).getD 0) ((T.lookup B).getD [])/\((T.lookup B).getD []).length<=r;rw[J,e];exact⟨A,v6 (M _ h1) s⟩
 | sieve X q m=>rintro r ⟨h,_⟩ n;exact have i:=m r h n;⟨λx f=>i.1 x ((Bz.mp f).1),v6 (Aq _ _) i.2⟩
 | pick ps q m=>rintro r ⟨h,C,_⟩ n;exact have i:=m r h n;⟨λx f=>(wz.mp f).elim λy z=>z.2▸nv (i.1 y z.1) C,v6 (wD (v9 ..)) i.2⟩
 | group ps Y q m=>rintro r ⟨h,C,N,_⟩ n;exact have i:=m r h n;have g:=group_rows i.1 C N;⟨g.1,v6 g.2 i.2⟩
 | order ks q m=>rintro r ⟨h,_⟩ n;exact have i:=m r h n;have o:=mA ks.reverse (q.ans T);⟨λx f=>i.1 x (o.2 x f),v6 (wD o.1) i.2⟩
 | once q m=>rintro r h n;exact have i:=m r h n;⟨λx f=>i.1 x (oi.1 x f),v6 oi.2 i.2⟩
 | first c q m=>rintro r h ⟨O,n,_,s⟩;exact have i:=m O h n;⟨λx f=>i.1 x (List.mem_of_mem_take f),v6 (wD xK) (v6 (Nat.le_min.mpr ⟨Aw _ _,v6 (Ah _ _) i.2⟩) s)⟩
 | join a b E u w=>rintro r ⟨G,H,_⟩ ⟨I,r2,h1,s,_,_,A⟩;exact have i:=u I G h1;have j:=w r2 H s;⟨met_rows i.1 j.1,v6 (qx E _ _) (v6 (AO i.2 j.2) A)⟩
 | both a b u w=>rintro r ⟨G,H,U⟩ ⟨I,r2,h1,s,_,_,A⟩;exact have i:=u I G h1;have j:=w r2 H s;⟨λx f=>(xa.mp f).elim (i.1 x) λf=>U▸j.1 x f,v6 (wD wn) (v6 (wP i.2 j.2) A)⟩
section
variable {P:vR (vV×Fn)} {X:CF} {cf:CF} {σ:St} {t r:vR MS} {w w2:vV} {R:D} {fr:v7}
noncomputable def pX:vR vV:=["sieve","pick","group","order","once","first"]
theorem upon_ne:∀ w∈pX,(vQ w == vQ "table")=vP/\(vQ w == vQ "join")=vP/\(vQ w == vQ "both")=vP:=by decide +kernel
theorem steps_in:∀ w∈"table"::"join"::"both"::pX,b9 .NotIn (sD w) (.tup aJ)=ac (.bool vP):=by
 intro w a;simp only[pX,wf,wG,xx] at a
 rcases a with rfl | rfl | rfl | rfl | rfl | rfl | rfl | rfl | rfl <;> rfl
theorem mf(B:BA P)(hX:X.glob "STEPS"=ac (.tup aJ))(n:Nat){q T:D}(a:w∈"table"::"join"::"both"::pX)(b:aD q (.int 0)=ac (sD w))(k:Run (ae P X n) (iU.body.drop 2) [("query",(vP,q)),("tables",(vP,T)),("word",(vP,sD w))] R fr):(ae P X (n+1)).call "answer" [q,T]=ac (R,fr):=by
 refine az B.answer QQ ?_;show Run _ iU.body [("query",(vP,q)),("tables",(vP,T))] _ _;refine aA (bq (d:=sD w) (fr:=vP) (ao (vsi ad b) QQ QQ) QQ) (bp (k:=vP) (x:=.bool vP) (al (vr aq) (Eq.trans (dy _ _ _) ((dM P X n "STEPS").trans hX)) (steps_in w a)) QQ nofun λZ=>k)
theorem ge(B:BA P)(hX:X.glob "STEPS"=ac (.tup aJ))(n:Nat){q I T A:D}{b:v7}(f:w∈pX)(h:aD q (.int 0)=ac (sD w))(i:aD q (.int (-1))=ac I)
  (k1:(ae P X n).call "answer" [I,T]=ac (A,b)) (k2:(ae P X n).call "stepped" [q,A]=ac (R,fr)):(ae P X (n+1)).call "answer" [q,T]=ac (R,fr):=by
 have a:=upon_ne w f;have c:Has [("query",(vP,q)),("tables",(vP,T)),("word",(vP,sD w))] "word" (sD w):=af QQ (af QQ ad);exact mf B hX n (.tail _ (.tail _ (.tail _ f))) h (skW a.1 c (skW a.2.1 c (skW a.2.2 c (aT (aI (vv ad (aa (au (aa (ay (vr ad) gW i) (vv (af QQ ad) vN)) k1) vN)) k2) QQ))))
theorem ans_join(B:BA P)(hX:X.glob "STEPS"=ac (.tup aJ))(n:Nat){I J S T A C:D}{b c:v7}(k1:(ae P X n).call "answer" [I,T]=ac (A,b))(k2:(ae P X n).call "answer" [J,T]=ac (C,c))(k3:(ae P X n).call "met" [A,C,S]=ac (R,fr)) :
  (ae P X (n+1)).call "answer" [.tup [sD "join",I,J,S],T]=ac (R,fr):=by
 have a:Has [("query",(vP,.tup [sD "join",I,J,S])),("tables",(vP,T)),("word",(vP,sD "join"))] "word" (sD "join"):=af QQ (af QQ ad);exact mf B hX n (by decide) QQ (skW (by decide +kernel) a (kP a (aA (ak (aI (aa (ay (x:=.tup [sD "join",I,J,S]) (y:=.int 1) (vr ad) vI QQ) (vv (af QQ ad) vN)) k1)) (aT (aI (vv aq (aa (au (aa (ay (x:=.tup [sD "join",I,J,S]) (y:=.int 2) (vr (ai QQ (av ad))) vI QQ) (vv (ai QQ (av (af QQ ad))) vN)) k2) (aa (ay (x:=.tup [sD "join",I,J,S]) (y:=.int 3) (vr (ai QQ (av ad))) vI QQ) vN))) k3) QQ))))
theorem ans_both(B:BA P)(hX:X.glob "STEPS"=ac (.tup aJ))(n:Nat){I J T:D}{a b:Tab}{f h:v7}(i:a.length+b.length<=big)(k1:(ae P X n).call "answer" [I,T]=ac (aK a,f))(k2:(ae P X n).call "answer" [J,T]=ac (aK b,h)) :
  (ae P X (n+1)).call "answer" [.tup [sD "both",I,J],T]=ac (aK (a++b),vT):=by
 have c:Has [("query",(vP,.tup [sD "both",I,J])),("tables",(vP,T)),("word",(vP,sD "both"))] "word" (sD "both"):=af QQ (af QQ ad);refine mf B hX n (by decide) QQ (skW (by decide +kernel) c (skW (by decide +kernel) c (kP c (aA (ak (aI (aa (ay (x:=.tup [sD "both",I,J]) (y:=.int 1) (vr ad) vI QQ) (vv (af QQ ad) vN)) k1)) (aT (ao (aj (x:=aK a) (y:=aK b) (vr aq) (au (aa (ay (x:=.tup [sD "both",I,J]) (y:=.int 2) (vr (ai QQ (av ad))) vI QQ) (vv (ai QQ (av (af QQ ad))) vN)) k2) ?_) QQ QQ) QQ)))))
 unfold aK;rw[wS];exact wh (by rw[v9,v9];exact i)
end
section
variable {P:vR (vV×Fn)} {X:CF}
section
variable {A I R q:D}{t:Tab}
theorem kB(B:BA P)(n:Nat){fr:v7}{w:vV}(a:aD q (.int 0)=ac (sD w))(k:Run (ae P X n) (js.body.drop 1) [("query",(vP,q)),("rows",(vP,A)),("word",(vP,sD w))] R fr):(ae P X (n+1)).call "stepped" [q,A]=ac (R,fr):=
 az B.stepped QQ (aA (bq (d:=sD w) (fr:=vP) (ao (vsi ad a) QQ QQ) QQ) k)
theorem fS{w:vV}:Has [("query",(vP,q)),("rows",(vP,A)),("word",(vP,sD w))] "word" (sD w):=af QQ (af QQ ad)
theorem t6{w:vV}:Has [("query",(vP,q)),("rows",(vP,A)),("word",(vP,sD w))] "rows" A:=af QQ ad
theorem st_sieve(B:BA P)(n:Nat){m:Nat}(h:bB m t)(a:t.length<=big){cs:vR (vR D)}(b:∀ c∈cs,kr m c):(ae P X (n+5)).call "stepped" [.tup [sD "sieve",.tup (cs.map clD),I],aK t]=ac (aK (t.filter (pk cs)),vT):=by
 refine kB B (n+4) QQ (kP fS (aT (ao (gX (z:="row") (BK:=t.map .tup) (vr t6) QQ (by rw[v9];exact a) (nn (g:=D.tup) (p:=pk cs) t λr f=>oG (au (aa (ay (x:=.tup [sD "sieve",.tup (cs.map clD),I]) (y:=.int 1) (aH (bR QQ (aV ad))) vI QQ) (aa (aH cw) vN)) (keeps_eq B n (h r f) b)) QQ λZ=>aH cw)) QQ QQ) QQ))
theorem st_pick(B:BA P)(n:Nat){m:Nat}(h:bB m t)(b:t.length<=big){ps:vR Nat}(c:∀ p∈ps,p<m)(a:ps.length<=big):(ae P X (n+2)).call "stepped" [.tup [sD "pick",.tup (ps.map bi),I],aK t]=ac (aK (t.map (fJ ps)),vT):=by
 unfold aK;rw[wX];exact kB B (n+1) QQ (skW (by decide +kernel) fS (kP fS (aT (ao (rI (g:=D.tup) (l:=t) (f:=D.tup ∘ fJ ps) (vr t6) QQ b λr i=>au (aa (aH cw) (aa (ay (x:=.tup [sD "pick",.tup (ps.map bi),I]) (y:=.int 1) (aH (bR QQ (aV ad))) vI QQ) vN)) (q9 B n (h r i) c a)) QQ QQ) QQ)))
theorem st_group(B:BA P)(n:Nat){S U:D}{fr:v7}(k:(ae P X n).call "grouped" [A,S,U]=ac (R,fr)):(ae P X (n+1)).call "stepped" [.tup [sD "group",S,U,I],A]=ac (R,fr):=
 kB B n QQ (skW (by decide +kernel) fS (skW (by decide +kernel) fS (kP fS (aT (aI (vv t6 (aa (ay (x:=.tup [sD "group",S,U,I]) (y:=.int 1) (vr ad) vI QQ) (aa (ay (x:=.tup [sD "group",S,U,I]) (y:=.int 2) (vr ad) vI QQ) vN))) k) QQ))))
theorem st_order(B:BA P)(n:Nat){S:D}{fr:v7}(k:(ae P X n).call "ordered" [A,S]=ac (R,fr)):(ae P X (n+1)).call "stepped" [.tup [sD "order",S,I],A]=ac (R,fr):=
 kB B n QQ (skW (by decide +kernel) fS (skW (by decide +kernel) fS (skW (by decide +kernel) fS (kP fS (aT (aI (vv t6 (aa (ay (x:=.tup [sD "order",S,I]) (y:=.int 1) (vr ad) vI QQ) vN)) k) QQ)))))
theorem st_once(B:BA P)(n:Nat){fr:v7}(k:(ae P X n).call "once" [A]=ac (R,fr)):(ae P X (n+1)).call "stepped" [.tup [sD "once",I],A]=ac (R,fr):=
 kB B n QQ (skW (by decide +kernel) fS (skW (by decide +kernel) fS (skW (by decide +kernel) fS (skW (by decide +kernel) fS (kP fS (aT (aI (vv t6 vN) k) QQ))))))
theorem st_first(B:BA P)(n:Nat){c:Nat}:(ae P X (n+1)).call "stepped" [.tup [sD "first",bi c,I],aK t]=ac (aK (t.take c),vT):=by
 refine kB B n QQ (skW (by decide +kernel) fS (skW (by decide +kernel) fS (skW (by decide +kernel) fS (skW (by decide +kernel) fS (skW (by decide +kernel) fS (aT (ao (nQ (x:=aK t) (u:=.none) (v:=bi c) (vr t6) (gC _ _) (ay (x:=.tup [sD "first",bi c,I]) (y:=.int 1) (vr ad) vI QQ) ?_) QQ QQ) QQ))))))
 have e:bnd (bi c) (t.map D.tup).length=ac c:=by
  show (if (0:Int)<=(c:Int) then ac (c:Int).toNat else wa)=_
  rw[wh (xk c)];rfl
 show ((bnd D.none 0).bind λa=>(bnd (bi c) (t.map D.tup).length).map λb=>D.list (((t.map D.tup).take b).drop a))=_
 rw[e];show ac (D.list (((t.map D.tup).take c).drop 0))=_;rw[AQ,<- A8];rfl
theorem uq:∀ {T:Tbs} {nm:Str} {t:Tab},T.lookup nm=ac t->lM (T.map λp=>D.str p.1) (T.map λp=>aK p.2) (.str nm)=ac (aK t)/\((T.map λp=>D.str p.1).any λx=>aU x (.str nm))=vT
 | [],_,_,h=>nomatch h
 | p::T,nm,t,h=>by
  rw[wk] at h;rw[wx,wx,l9,xM];show (if (p.1 == nm)=vT then _ else _)=_/\((p.1 == nm)||_)=vT
  cases e:nm == p.1 with
  | true=>
   rw[e] at h;have a:=eq_of_beq e;rw[a,wH,wh rfl];exact⟨wv ac (wv aK (v5 h)),QQ⟩
  | false=>
   rw[e] at h;have a:(p.1 == nm)=vP:=beq_false_of_ne λq=>by rw[q,wH] at e;cases e
   rw[a,wo wO];exact uq h
theorem uo(T:Tbs)(nm:Str):cJ (.str nm) (T.map λp=>D.str p.1)=vT:=by
 unfold cJ;rw[show (T.map λp=>D.str p.1).all D.isCell=vT from wQ.mpr λd a=>(wz.mp a).elim λp z=>z.2▸rfl];rfl
theorem ans_table(B:BA P)(hX:X.glob "STEPS"=ac (.tup aJ))(n:Nat){T:Tbs}{nm:Str}(h:T.lookup nm=ac t):(ae P X (n+1)).call "answer" [.tup [sD "table",.str nm],T.d]=ac (aK t,vT):=by
 have g:=uq h;have a:aD T.d (.str nm)=ac (aK t):=(wh (uo T nm)).trans g.1;have b:b9 .NotIn (.str nm) T.d=ac (.bool vP):=by
  show (kK (.str nm) T.d).map _=_;rw[show kK (.str nm) T.d=ac vT from (wh (uo T nm)).trans (wv ac g.2)];rfl
 have c:Has [("query",(vP,.tup [sD "table",.str nm])),("tables",(vP,T.d)),("word",(vP,sD "table"))] "word" (sD "table"):=af QQ (af QQ ad);exact mf B hX n (by decide) QQ (kP c (bp (k:=vP) (x:=.bool vP) (al (x:=.str nm) (ay (x:=.tup [sD "table",.str nm]) (y:=.int 1) (vr ad) vI QQ) (vr (af QQ ad)) b) QQ nofun λZ=>aT (ao (v_lcp (ay (vr (af QQ ad)) (ay (x:=.tup [sD "table",.str nm]) (y:=.int 1) (vr ad) vI QQ) a) QQ) QQ QQ) QQ))
theorem answer_eq(B:BA P)(hX:X.glob "STEPS"=ac (.tup aJ)){W R:Wd}{T:Tbs}(z:vq W R T):∀ (q:Q) (r n:Nat),q.ok W->q.rb R r->r<=60->q.nar W 5000->q.dp<=n->(ae P X (n+5)).call "answer" [q.d,T.d]=ac (aK (q.ans T),vT):=by
 intro q
 induction q with
 | table L=>
  rintro r n ⟨k,M⟩ _ _ _ _;obtain⟨t,e,_⟩:=z L k M;have:=ans_table B hX (n+4) (P:=P) (X:=X) e;show _=ac (aK ((T.lookup L).getD []),vT);rw[e];exact this
 | sieve U q y=>rintro r n h s m f u;obtain⟨n,rfl,o⟩:=dpS u;exact have a:=gG z q r h.1 s;ge B hX _ (w:="sieve") (by decide) QQ QQ (y r n h.1 s m f o) (st_sieve B n a.1 (v6 a.2 (v6 m (by decide))) h.2.1)
 | pick ps q y=>rintro r n h s m f u;obtain⟨n,rfl,o⟩:=dpS u;exact have a:=gG z q r h.1 s;ge B hX _ (w:="pick") (by decide) QQ QQ (y r n h.1 s m f o) (st_pick B (n+3) a.1 (v6 a.2 (v6 m (by decide))) h.2.1 (v6 h.2.2 (by decide)))
 | group ps V q y=>rintro r n h s m f u;obtain⟨n,rfl,o⟩:=dpS u;exact have a:=gG z q r h.1 s;ge B hX _ (w:="group") (by decide) QQ QQ (y r n h.1 s m f.1 o) (st_group B (n+4) (grouped_eq B (n+1) a.1 (v6 a.2 m) h.2.1 h.2.2.2.1 h.2.2.1 h.2.2.2.2))
 | order ks q y=>rintro r n h s m f u;obtain⟨n,rfl,o⟩:=dpS u;exact have a:=gG z q r h.1 s;ge B hX _ (w:="order") (by decide) QQ QQ (y r n h.1 s m f o) (st_order B (n+4) (ordered_eq B (n+2) a.1 (wg a.2 (wg m (by decide))) h.2.1))
 | once q y=>rintro r n h s m f u;obtain⟨n,rfl,o⟩:=dpS u;exact have a:=gG z q r h s;ge B hX _ (w:="once") (by decide) QQ QQ (y r n h s m f o) (st_once B (n+4) (once_eq B (n+3) a.1 (wg a.2 (wg m (by decide)))))
 | first c q y=>rintro r n h ⟨N,s,J,_⟩ m f u;obtain⟨n,rfl,o⟩:=dpS u;exact ge B hX _ (w:="first") (by decide) QQ QQ (y N n h s J f o) (st_first B (n+4))
 | join a b O A C=>rintro r n h ⟨E,r2,h1,G,H,I,_⟩ m f u;obtain⟨n,rfl,o⟩:=dpS u;exact have i:=gG z a E h.1 h1;have j:=gG z b r2 h.2.1 G;ans_join B hX _ (A E n h.1 h1 H f.1 (v6 (y9 _ _) o)) (C r2 n h.2.1 G I f.2.1 (v6 (yZ _ _) o)) (met_eq B (n+2) i.1 j.1 (v6 i.2 H) (v6 j.2 I) (v6 f.2.2 (by decide)) h.2.2.1)
 | both a b A C=>rintro r n h ⟨E,r2,h1,G,H,I,_⟩ m f u;obtain⟨n,rfl,o⟩:=dpS u;exact have i:=gG z a E h.1 h1;have j:=gG z b r2 h.2.1 G;ans_both B hX _ (v6 (wP (v6 i.2 H) (v6 j.2 I)) (by decide)) (A E n h.1 h1 H f.1 (v6 (y9 _ _) o)) (C r2 n h.2.1 G I f.2 (v6 (yZ _ _) o))
end
end
structure Bd(cf:CF)(f:vV)(ds:vR D)(c:vV):Prop where
 no:cf.call f ds=wa
 rz:cf.raz f ds=ac c
structure Ez(cf:CF)(ρ:vR (vV×D))(e:ME)(c:vV):Prop where
 no:evE cf ρ e=wa
 nf:evF cf ρ e=wa
 rz:rzE cf ρ e=ac c
structure Ezs(cf:CF)(ρ:vR (vV×D))(es:vR ME)(c:vV):Prop where
 no:bk cf ρ es=wa
 rz:jK cf ρ es=ac c
structure Sz(cf:CF)(s:MS)(σ:St)(c:vV):Prop where
 no:exS cf s σ=wa
 rz:rzS cf s σ=ac c
structure Rz(cf:CF)(ss:vR MS)(σ:St)(c:vV):Prop where
 no:aY cf ss σ=wa
 rz:et cf ss σ=ac c
structure Fz(cf:CF)(body:vR MS)(z:vV)(BK:vR D)(σ:St)(c:vV):Prop where
 no:cq (cP cf body z) BK σ=wa
 rz:eE (λit σ=>aY cf body (ax σ z (vP,it))) (λit σ=>et cf body (ax σ z (vP,it))) BK σ=ac c
section
variable {cf:CF} {ρ:vR (vV×D)} {σ BJ:St} {a b e:ME} {es:vR ME} {d x:D} {ds:vR D} {c g z:vV} {s:MS} {r t f body:vR MS}
theorem bO(h:bk cf ρ es=ac ds)(k:Bd cf g ds c):Ez cf ρ (.call g es) c:=
 ⟨by rw[r4,h];show (cf.call g ds).map _=_;rw[k.no];rfl,by rw[fU,h];exact k.no,by show (match bk cf ρ es with | some ds=>cf.raz g ds | none=>if cf.fn g=vT then jK cf ρ es else wa)=_;rw[h];exact k.rz⟩
theorem lT(a:cf.fn g=vT)(k:Ezs cf ρ es c):Ez cf ρ (.call g es) c:=
 ⟨by rw[r4,k.no];rfl,by rw[fU,k.no],by show (match bk cf ρ es with | some ds=>cf.raz g ds | none=>if cf.fn g=vT then jK cf ρ es else wa)=_;rw[k.no];exact (wh a).trans k.rz⟩
theorem z_hd(k:Ez cf ρ e c):Ezs cf ρ (e::es) c:=⟨by rw[pG,k.no];rfl,by show (match evE cf ρ e with | some _=>jK cf ρ es | none=>rzE cf ρ e)=_;rw[k.no];exact k.rz⟩
theorem z_tl(h:evE cf ρ e=ac d)(k:Ezs cf ρ es c):Ezs cf ρ (e::es) c:=⟨by rw[pG,h,k.no];rfl,by show (match evE cf ρ e with | some _=>jK cf ρ es | none=>rzE cf ρ e)=_;rw[h];exact k.rz⟩
theorem z_bin{op:xw}(h:evE cf ρ a=ac x)(k:Ez cf ρ b c):Ez cf ρ (.bin op a b) c:=
 have f:evE cf ρ (.bin op a b)=wa:=by rw[e_bin,h,k.no];rfl
 ⟨f,by show (evE cf ρ (.bin op a b)).map _=_;rw[f];rfl,by show (match evE cf ρ a with | some _=>rzE cf ρ b | none=>rzE cf ρ a)=_;rw[h];exact k.rz⟩
theorem d5(k:Ez cf (vis σ) e c):Sz cf (.expr e) σ c:=⟨by rw[sk,k.no],k.rz⟩
theorem sF(k:Ez cf (vis σ) e c):Sz cf (.x0 z e) σ c:=⟨by rw[kt,k.nf],k.rz⟩
theorem mx(k:Ez cf (vis σ) e c)(a:e.varOf=wa):Sz cf (.ret e) σ c:=⟨by rw[oQ,a];dsimp only;rw[k.nf],k.rz⟩
theorem gm{m:vV}(h:bx.contains c=vT):Sz cf (.raise c m) σ c:=⟨QQ,wh h⟩
theorem cW(k:Sz cf s σ c):Rz cf (s::r) σ c:=⟨by rw[gk,k.no];rfl,by show (match exS cf s σ with | some (.next,BJ)=>et cf r BJ | some _=>wa | none=>rzS cf s σ)=_;rw[k.no];exact k.rz⟩
theorem z_go(h:exS cf s σ=ac (.next,BJ))(k:Rz cf r BJ c):Rz cf (s::r) σ c:=⟨(t4 h).trans k.no,by show (match exS cf s σ with | some (.next,BJ)=>et cf r BJ | some _=>wa | none=>rzS cf s σ)=_;rw[h];exact k.rz⟩
theorem stp_ex(h:Stp cf s σ BJ):exS cf s σ=ac (.next,BJ):=by
 have q:=h.go [];rw[gk,su] at q;cases e:exS cf s σ with
 | none=>rw[e] at q;cases q
 | some p=>
  obtain⟨b,a⟩:=p;rw[e] at q;cases b with
  | next=>rw[mq,su] at q;exact q
  | ret=>cases q
theorem bN(h:Stp cf s σ BJ)(k:Rz cf r BJ c):Rz cf (s::r) σ c:=z_go (stp_ex h) k
theorem dH{k:v7}{a:ME}(h:evE cf (vis σ) a=ac x)(b:bg x=ac k)(q:Rz cf (if k then t else f) σ c):Rz cf (.ite a t f::r) σ c:=
 cW ⟨by rw[rE,h];dsimp only;rw[b];cases k <;> exact q.no,by
  show (match evE cf (vis σ) a with | some d=>(match bg d with | some vT=>et cf t σ | some vP=>et cf f σ | none=>wa) | none=>wa)=_
  rw[h];dsimp only;rw[b];cases k <;> exact q.rz⟩
theorem cQ{k:v7}{a:ME}(h:evE cf (vis σ) a=ac x)(b:bg x=ac k)(f:k=vP)(q:Rz cf r σ c):Rz cf (.ite a t []::r) σ c:=by
 subst f;exact z_go (by rw[rE,h];dsimp only;rw[b];rfl) q
theorem z_for{BH:ME}{BK:vR D}(b:evE cf (vis σ) BH=ac x)(f:x.items=ac BK)(k:Fz cf body z BK (freeze BH.names σ) c):Rz cf (.for_ z BH body::r) σ c:=
 cW ⟨by rw[sj,b];dsimp only;rw[f];exact k.no,by
  show (match evE cf (vis σ) BH with | some d=>(match d.items with | some BK=>eE (λa σ=>aY cf body (ax σ z (vP,a))) (λa σ=>et cf body (ax σ z (vP,a))) BK (freeze BH.names σ) | none=>wa) | none=>wa)=_
  rw[b];dsimp only;rw[f];exact k.rz⟩
theorem fz_hd{a:D}{BK:vR D}(k:Rz cf body (ax σ z (vP,a)) c):Fz cf body z (a::BK) σ c:=
 ⟨by rw[bL,k.no];rfl,by show (match aY cf body (ax σ z (vP,a)) with | some (.next,BJ)=>eE _ _ BK BJ | some _=>wa | none=>et cf body (ax σ z (vP,a)))=_;rw[k.no];exact k.rz⟩
theorem fz_tl{a:D}{BK:vR D}(h:aY cf body (ax σ z (vP,a))=ac (.next,BJ))(k:Fz cf body z BK BJ c):Fz cf body z (a::BK) σ c:=
 ⟨by rw[bL,h];exact k.no,by show (match aY cf body (ax σ z (vP,a)) with | some (.next,BJ)=>eE _ _ BK BJ | some _=>wa | none=>et cf body (ax σ z (vP,a)))=_;rw[h];exact k.rz⟩
theorem pj(I:St->Prop)(B:D->Prop):∀ (BK:vR D) (σ:St),I σ->(∃ it∈BK,B it)->(∀ it∈BK,∀ σ,I σ->(B it->Rz cf body (ax σ z (vP,it)) c)/\(¬ B it->∃ BJ,aY cf body (ax σ z (vP,it))=ac (.next,BJ)/\I BJ))->Fz cf body z BK σ c
 | [],_,_,⟨_,h,_⟩,_=>nomatch h
 | it::BK,σ,j,⟨b,n,m⟩,a=>by
  by_cases q:B it
  ·exact fz_hd ((a it (.head _) σ j).1 q)
  ·obtain⟨BJ,e,f⟩:=(a it (.head _) σ j).2 q
   exact fz_tl e (pj I B BK BJ f ⟨b,(wf.mp n).resolve_left λe=>q (e▸m),m⟩ λi o=>a i (.tail _ o))
theorem bl{P:vR (vV×Fn)}{X:CF}{ps:vR vV}{a:vR MS}{n:Nat}{args:vR D}(h:P.lookup g=ac ⟨ps,a⟩)(b:args.length=ps.length)(f:bx.contains c=vT)(k:Rz (ae P X n) a ((ps.zip args).map λp=>(p.1,(vP,p.2))) c):Bd (ae P X (n+1)) g args c:=
 ⟨by rw[pM n args h b];show fin (aY _ a _)=_;rw[k.no];rfl,by
  show (P.lookup g).bind _=_;rw[h];refine (wh b).trans ?_;show (et (ae P X n) a _).bind _=_;rw[k.rz];exact wh f⟩
theorem tB{P:vR (vV×Fn)}{X:CF}{n:Nat}{a:Fn}(h:P.lookup g=ac a):(ae P X (n+1)).fn g=vT:=by show (P.lookup g).isSome=vT;rw[h];rfl
end
set_option maxHeartbeats 400000
noncomputable def dG(w:Nat)(i:Int):Prop:=i<0\/(w:Int)<=i
noncomputable def sumI(x:vV×Int):D:=.tup [sD x.1,.int x.2]
noncomputable def keyI(k:Int×v7):D:=.tup [.int k.1,.bool k.2]
noncomputable def prI(k:Int×Int):D:=.tup [.int k.1,.int k.2]
theorem uP{α:Type}(l:vR α)(f:α->Int):(D.list (l.map λx=>.int (f x))).items=ac ((l.map f).map .int):=by rw[wX];rfl
theorem exI{α:Type}{l:vR α}{f:α->Int}{w:Nat}(h:∃ x∈l,dG w (f x)):∃ i∈l.map f,dG w i:=let ⟨x,hx,hb⟩:=h;⟨f x,xn hx,hb⟩
theorem allI{α:Type}{l:vR α}{f:α->Int}{w:Nat}(h:∀ x∈l,¬ dG w (f x)):∀ i∈l.map f,¬ dG w i:=λi a=>let ⟨x,hx,e⟩:=wz.mp a;e▸h x hx
section
variable {P:vR (vV×Fn)} {X:CF}
section
variable {I T q J:D}{a b:Nat}
theorem e5(B:BW P)(n:Nat){ls:D}{is:vR Int}{w:Nat}(c:ls.items=ac (is.map .int))(h:∃ i∈is,dG w i):Bd (ae P X (n+1)) "need_columns" [ls,.int w] "NoColumn":=by
 refine bl B.nc QQ (by decide) (z_for (x:=ls) QQ c (pj (λσ=>Has σ "many" (.int w)) (λd=>∃ i,d=.int i/\dG w i) (is.map .int) _ (cx (af QQ ad)) ?_ λt f σ o=>?_))
 ·obtain⟨i,c,a⟩:=h
  exact⟨.int i,xn c,i,QQ,a⟩
 ·obtain⟨i,_,rfl⟩:=wz.mp f
  have b:evE (ae P X n) (vis (ax σ "place" (vP,.int i))) (.bop .Or [.cmp .Lt (.u "place") (.int 0),.cmp .GtE (.u "place") (.u "many")])=ac (.bool (decide (i<0)||decide (i ≥ w))):=gV (al (vr aq) vI QQ) λZ=>bz (al (vr aq) (vr (ai QQ o)) QQ)
  refine⟨λa=>?_,λa=>?_⟩
  ·obtain⟨j,e,a⟩:=a
   cases e;have m:(decide (i<0)||decide (i ≥ w))=vT:=by unfold dG at a;simpa using a
   rw[m] at b;exact dH (k:=vT) b QQ (cW (gm (by decide)))
  ·have m:(decide (i<0)||decide (i ≥ w))=vP:=by
    have a:¬ dG w i:=λq=>a ⟨i,QQ,q⟩
    unfold dG at a;simpa using a
   rw[m] at b;obtain⟨s,BJ,⟨rfl,q⟩,e⟩:Out (ae P X n) [.ite (.bop .Or [.cmp .Lt (.u "place") (.int 0),.cmp .GtE (.u "place") (.u "many")]) [zNC] []] (ax σ "place" (vP,.int i)) λs BJ=>s=.next/\Has BJ "many" (.int w):=d6 (k:=vP) b QQ nofun λZ=>cu ⟨QQ,ai QQ o⟩
   exact⟨BJ,e,q⟩
theorem kJ(B:BW P)(n:Nat){ls:D}{is:vR Int}{w:Nat}(a:ls.items=ac (is.map .int))(h:∀ i∈is,¬ dG w i):(ae P X (n+1)).call "need_columns" [ls,.int w]=ac (.none,vP):=
 bX B n a λd b=>by
  obtain⟨i,a,rfl⟩:=wz.mp b;have:=h i a;unfold dG at this;exact⟨i.toNat,by omega,by rw[xW (by omega)]⟩
theorem mm(B:BW P)(n:Nat){cs:vR (vR D)}(f:∀ c∈cs,(∀ t∈c,GT t)/\c.length<=31)(h:∃ c∈cs,∃ z∈c.flatMap fB,dG a z):Bd (ae P X (n+2)) "width_upon" [.tup [sD "sieve",.tup (cs.map clD),I],.int a] "NoColumn":=by
 refine bl B.wu QQ (by decide) (bN (ak (d:=sD "sieve") (fr:=vP) QQ) (dH (k:=vT) (al (vr aq) vS QQ) QQ (z_for (x:=.tup (cs.map clD)) QQ QQ (pj (λσ=>Has σ "within" (.int a)) (λd=>∃ c∈cs,d=clD c/\∃ z∈c.flatMap fB,dG a z) (cs.map clD) _ (cx (ai QQ (av (af QQ ad)))) ?_ λy i σ j=>?_))))
 ·obtain⟨c,f,z⟩:=h
  exact⟨clD c,xn f,c,f,QQ,z⟩
 ·obtain⟨c,b,rfl⟩:=wz.mp i
  have s:=my (X:=X) B n (f c b).1 (f c b).2;refine⟨λh=>?_,λh=>?_⟩
  ·obtain⟨A,_,e,z,m,o⟩:=h
   cases D.tup.inj e;exact cW (d5 (bO (aa (au (vv aq vN) s) (vv (ai QQ j) vN)) (e5 B n (ls:=.list ((fg (c.flatMap fB)).map .int)) QQ ⟨z,(fM z _).mpr m,o⟩)))
  ·have k2:=kJ (X:=X) B n (ls:=.list ((fg (c.flatMap fB)).map .int)) (w:=a) QQ λz m q=>h ⟨c,b,QQ,z,(fM z _).mp m,q⟩
   obtain⟨u,BJ,⟨rfl,q⟩,e⟩:Out (ae P X (n+1)) [.expr (.call "need_columns" [.call "places_of" [.u "clause"],.u "within"])] (ax σ "clause" (vP,clD c)) λu BJ=>u=.next/\Has BJ "within" (.int a):=aM (fC (d:=.none) (au (aa (au (vv aq vN) s) (vv (ai QQ j) vN)) k2) QQ) (cu ⟨QQ,ai QQ j⟩)
   exact⟨BJ,e,q⟩
theorem ub_pick(B:BW P)(n:Nat){is:vR Int}(h:∃ i∈is,dG a i):Bd (ae P X (n+2)) "width_upon" [.tup [sD "pick",.tup (is.map .int),I],.int a] "NoColumn":=by
 have k:=e5 (X:=X) B n (ls:=.tup (is.map .int)) QQ h;refine bl B.wu QQ (by decide) (bN (ak (d:=sD "pick") (fr:=vP) QQ) ?_)
 generalize ae P X (n+1)=cf at *;exact cQ (k:=vP) (al (vr aq) vS QQ) QQ QQ (dH (k:=vT) (al (vr aq) vS QQ) QQ (cW (d5 (bO (aa (d:=.tup (is.map .int)) QQ (aa (d:=.int a) QQ vN)) k))))
theorem ub_group1(B:BW P)(n:Nat){is:vR Int}{S:D}(h:∃ i∈is,dG a i):Bd (ae P X (n+2)) "width_upon" [.tup [sD "group",.tup (is.map .int),S,I],.int a] "NoColumn":=by
 have k:=e5 (X:=X) B n (ls:=.tup (is.map .int)) QQ h;refine bl B.wu QQ (by decide) (bN (ak (d:=sD "group") (fr:=vP) QQ) ?_)
 generalize ae P X (n+1)=cf at *;exact cQ (k:=vP) (al (vr aq) vS QQ) QQ QQ (cQ (k:=vP) (al (vr aq) vS QQ) QQ QQ (dH (k:=vT) (al (vr aq) vS QQ) QQ (cW (d5 (bO (aa (d:=.tup (is.map .int)) QQ (aa (d:=.int a) QQ vN)) k)))))
theorem ub_group2(B:BW P)(n:Nat){b:vR (vV×Int)}(c:b.length<=big)(h:∃ x∈b,dG a x.2):Bd (ae P X (n+2)) "width_upon" [.tup [sD "group",.tup [],.tup (b.map sumI),I],.int a] "NoColumn":=by
 have i:=kJ (X:=X) B n (ls:=.tup []) (is:=[]) (w:=a) QQ (λZ h=>nomatch h)
 have k:=e5 (X:=X) B n (uP b (·.2)) (exI h);refine bl B.wu QQ (by decide) (bN (ak (d:=sD "group") (fr:=vP) QQ) ?_)
 generalize ae P X (n+1)=cf at *;exact cQ (k:=vP) (al (vr aq) vS QQ) QQ QQ (cQ (k:=vP) (al (vr aq) vS QQ) QQ QQ (dH (k:=vT) (al (vr aq) vS QQ) QQ (bN (fC (d:=.none) (au (aa (d:=.tup []) QQ (aa (d:=.int a) QQ vN)) i) QQ)
  (cW (d5 (bO (aa (eO (l:=b) (g:=sumI) (f:=λx=>.int x.2) QQ c λx Z=>QQ) (aa (d:=.int a) QQ vN)) k))))))
theorem ub_order(B:BW P)(n:Nat){ks:vR (Int×v7)}(b:ks.length<=big)(h:∃ x∈ks,dG a x.1):Bd (ae P X (n+2)) "width_upon" [.tup [sD "order",.tup (ks.map keyI),I],.int a] "NoColumn":=by
 have k:=e5 (X:=X) B n (uP ks (·.1)) (exI h);refine bl B.wu QQ (by decide) (bN (ak (d:=sD "order") (fr:=vP) QQ) ?_)
 generalize ae P X (n+1)=cf at *;exact cQ (k:=vP) (al (vr aq) vS QQ) QQ QQ (cQ (k:=vP) (al (vr aq) vS QQ) QQ QQ (cQ (k:=vP) (al (vr aq) vS QQ) QQ QQ (dH (k:=vT) (al (vr aq) vS QQ) QQ
  (cW (d5 (bO (aa (eO (l:=ks) (g:=keyI) (f:=λx=>.int x.1) QQ b λx Z=>QQ) (aa (d:=.int a) QQ vN)) k))))))
theorem ub_first(B:BW P)(n:Nat){c:Int}(h:c<0):Bd (ae P X (n+1)) "width_upon" [.tup [sD "first",.int c,I],.int a] "NoCount":=by
 have b:b9 .Lt (.int c) (.int 0)=ac (.bool vT):=by show ac (D.bool (decide (c<0)))=_;rw[xF h]
 refine bl B.wu QQ (by decide) (bN (ak (d:=sD "first") (fr:=vP) QQ) ?_)
 generalize ae P X n=cf at *;exact cQ (k:=vP) (al (vr aq) vS QQ) QQ QQ (cQ (k:=vP) (al (vr aq) vS QQ) QQ QQ (cQ (k:=vP) (al (vr aq) vS QQ) QQ QQ (cQ (k:=vP) (al (vr aq) vS QQ) QQ QQ
  (dH (k:=vT) (x:=.bool (vT&&vT)) (dX (k:=vT) (l:=vT) (al (vr aq) vS QQ) λZ=>bz (al (ay (x:=.tup [sD "first",.int c,I]) (y:=.int 1) QQ QQ QQ) vI b)) QQ (cW (gm (by decide)))))))
theorem tb_join1(B:BW P)(n:Nat){prs:vR (Int×Int)}(c:prs.length<=big)(h:∃ x∈prs,dG a x.1):Bd (ae P X (n+2)) "width_of_two" [.tup [sD "join",I,J,.tup (prs.map prI)],.int a,.int b] "NoColumn":=by
 have k:=e5 (X:=X) B n (uP prs (·.1)) (exI h);refine bl B.w2 QQ (by decide) ?_
 generalize ae P X (n+1)=cf at *;exact dH (k:=vT) (al (ay (x:=.tup [sD "join",I,J,.tup (prs.map prI)]) (y:=.int 0) QQ QQ QQ) vS QQ) QQ (cW (d5 (bO (aa (eO (l:=prs) (g:=prI) (f:=λx=>.int x.1) QQ c λx Z=>QQ) (aa (d:=.int a) QQ vN)) k)))
theorem tb_join2(B:BW P)(n:Nat){prs:vR (Int×Int)}(c:prs.length<=big)(h1:∀ x∈prs,¬ dG a x.1)(h:∃ x∈prs,dG b x.2):Bd (ae P X (n+2)) "width_of_two" [.tup [sD "join",I,J,.tup (prs.map prI)],.int a,.int b] "NoColumn":=by
 have i:=kJ (X:=X) B n (uP prs (·.1)) (allI h1);have k:=e5 (X:=X) B n (uP prs (·.2)) (exI h);refine bl B.w2 QQ (by decide) ?_
 generalize ae P X (n+1)=cf at *;exact dH (k:=vT) (al (ay (x:=.tup [sD "join",I,J,.tup (prs.map prI)]) (y:=.int 0) QQ QQ QQ) vS QQ) QQ (bN (fC (d:=.none) (au (aa (eO (l:=prs) (g:=prI) (f:=λx=>.int x.1) QQ c λx Z=>QQ) (aa (d:=.int a) QQ vN)) i) QQ)
  (cW (d5 (bO (aa (eO (l:=prs) (g:=prI) (f:=λx=>.int x.2) QQ c λx Z=>QQ) (aa (d:=.int b) QQ vN)) k))))
theorem sA(B:BW P)(n:Nat)(h:a≠b):Bd (ae P X (n+1)) "width_of_two" [.tup [sD "both",I,J],.int a,.int b] "UnlikeSides":=by
 have e:b9 .NotEq (.int a) (.int b)=ac (.bool vT):=by show ac (D.bool (!((a:Int) == b)))=_;rw[wK.mpr λq=>h (Int.ofNat_inj.mp q)];rfl
 refine bl B.w2 QQ (by decide) ?_
 generalize ae P X n=cf at *;exact cQ (k:=vP) (al (ay (x:=.tup [sD "both",I,J]) (y:=.int 0) QQ QQ QQ) vS QQ) QQ QQ (dH (k:=vT) (al (x:=.int a) (y:=.int b) QQ QQ e) QQ (cW (gm (by decide))))
theorem wb_nostep(B:BW P)(hX:X.glob "STEPS"=ac (.tup aJ))(n:Nat){w:Str}(a:aD q (.int 0)=ac (.str w))(b:b9 .NotIn (.str w) (.tup aJ)=ac (.bool vT)):Bd (ae P X (n+1)) "width" [q,T] "NoStep":=by
 have c:(ae P X n).glob "STEPS"=ac (.tup aJ):=(dM P X n "STEPS").trans hX;exact bl B.wd QQ (by decide) (bN (ak (ao (vsi ad a) QQ QQ)) (dH (k:=vT) (al (vr aq) (Eq.trans (dy _ _ _) c) b) QQ (cW (gm (by decide)))))
theorem wb_table(B:BW P)(hX:X.glob "STEPS"=ac (.tup aJ))(n:Nat){nm:Str}(a:b9 .NotIn (.str nm) T=ac (.bool vT)):Bd (ae P X (n+1)) "width" [.tup [sD "table",.str nm],T] "NoTable":=by
 have b:(ae P X n).glob "STEPS"=ac (.tup aJ):=(dM P X n "STEPS").trans hX;refine bl B.wd QQ (by decide) ?_
 show Rz _ _ [("query",(vP,.tup [sD "table",.str nm])),("widths",(vP,T))] _;generalize ae P X n=cf at *;unfold sD;exact bN (ak (ao (vsi ad QQ) QQ QQ)) (cQ (k:=vP) (al (vr aq) (Eq.trans (dy _ _ _) b) QQ) QQ QQ (dH (k:=vT) (al (vr aq) vS QQ) QQ (dH (k:=vT) (al (vsi (ai QQ (av ad)) QQ) (vr (ai QQ (av (af QQ ad)))) a) QQ (cW (gm (by decide))))))
theorem wb_up(B:BW P)(hX:X.glob "STEPS"=ac (.tup aJ))(n:Nat){wd c:vV}(b:wd∈lI)(h:bx.contains c=vT)(f:aD q (.int 0)=ac (sD wd))(i:aD q (.int (-1))=ac I)(k:Bd (ae P X (n+1)) "width" [I,T] c):Bd (ae P X (n+2)) "width" [q,T] c:=by
 have j:(ae P X (n+1)).glob "STEPS"=ac (.tup aJ):=(dM P X (n+1) "STEPS").trans hX;have m:(ae P X (n+1)).fn "width_upon"=vT:=tB B.wu;refine bl B.wd QQ h ?_;show Rz _ _ [("query",(vP,q)),("widths",(vP,T))] _;generalize ae P X (n+1)=cf at *;unfold sD at f;simp only[lI,wf,wG,xx] at b
 rcases b with rfl | rfl | rfl | rfl | rfl | rfl
 all_goals exact bN (ak (ao (vsi ad f) QQ QQ)) (cQ (k:=vP) (al (vr aq) (Eq.trans (dy _ _ _) j) QQ) QQ QQ (cQ (k:=vP) (al (vr aq) vS QQ) QQ QQ (cQ (k:=vP) (x:=.bool (vP||false)) (gV (k:=vP) (l:=vP) (al (vr aq) vS QQ) λa=>bz (al (vr aq) vS QQ)) QQ QQ
  (cW (mx (lT m (z_tl (vr (ai QQ (av ad))) (z_hd (bO (aa (ay (vr (ai QQ (av ad))) gW i) (vv (ai QQ (av (af QQ ad))) vN)) k)))) QQ)))))
theorem wb_upon(B:BW P)(hX:X.glob "STEPS"=ac (.tup aJ))(n:Nat){wd c:vV}(b:wd∈lI)(h:bx.contains c=vT)(f:aD q (.int 0)=ac (sD wd))(i:aD q (.int (-1))=ac I)(h1:(ae P X n).call "width" [I,T]=ac (.int a,vP))(k:Bd (ae P X n) "width_upon" [q,.int a] c):Bd (ae P X (n+1)) "width" [q,T] c:=by
 have j:(ae P X n).glob "STEPS"=ac (.tup aJ):=(dM P X n "STEPS").trans hX;refine bl B.wd QQ h ?_;show Rz _ _ [("query",(vP,q)),("widths",(vP,T))] _;generalize ae P X n=cf at *;unfold sD at f;simp only[lI,wf,wG,xx] at b
 rcases b with rfl | rfl | rfl | rfl | rfl | rfl
 all_goals exact bN (ak (ao (vsi ad f) QQ QQ)) (cQ (k:=vP) (al (vr aq) (Eq.trans (dy _ _ _) j) QQ) QQ QQ (cQ (k:=vP) (al (vr aq) vS QQ) QQ QQ (cQ (k:=vP) (x:=.bool (vP||false)) (gV (k:=vP) (l:=vP) (al (vr aq) vS QQ) λa=>bz (al (vr aq) vS QQ)) QQ QQ
  (cW (mx (bO (vv (ai QQ (av ad)) (aa (au (aa (ay (vr (ai QQ (av ad))) gW i) (vv (ai QQ (av (af QQ ad))) vN)) h1) vN)) k) QQ)))))
theorem rH(B:BW P)(hX:X.glob "STEPS"=ac (.tup aJ))(n:Nat){wd c:vV}(h:wd="join"\/wd="both")(i:bx.contains c=vT)(b:aD q (.int 0)=ac (sD wd))(k:∀ σ,Has σ "query" q->Has σ "widths" T->Rz (ae P X n) [.x0 "first" (.call "width" [.sub (.u "query") (.int 1),.u "widths"]),.x0 "second" (.call "width" [.sub (.u "query") (.int 2),.u "widths"]),.ret (.call "width_of_two" [.u "query",.u "first",.u "second"])] σ c):Bd (ae P X (n+1)) "width" [q,T] c:=by
 have f:(ae P X n).glob "STEPS"=ac (.tup aJ):=(dM P X n "STEPS").trans hX;refine bl B.wd QQ i ?_;show Rz _ _ [("query",(vP,q)),("widths",(vP,T))] _;generalize ae P X n=cf at *;unfold sD at b
 rcases h with rfl | rfl
 ·exact bN (ak (ao (vsi ad b) QQ QQ)) (cQ (k:=vP) (al (vr aq) (Eq.trans (dy _ _ _) f) QQ) QQ QQ (cQ (k:=vP) (al (vr aq) vS QQ) QQ QQ (dH (k:=vT) (x:=.bool (vT||true)) (gV (k:=vT) (l:=vT) (al (vr aq) vS QQ) nofun) QQ (k _ (ai QQ (av ad)) (ai QQ (av (af QQ ad)))))))
 ·exact bN (ak (ao (vsi ad b) QQ QQ)) (cQ (k:=vP) (al (vr aq) (Eq.trans (dy _ _ _) f) QQ) QQ QQ (cQ (k:=vP) (al (vr aq) vS QQ) QQ QQ (dH (k:=vT) (x:=.bool (vP||true)) (gV (k:=vP) (l:=vT) (al (vr aq) vS QQ) λa=>bz (al (vr aq) vS QQ)) QQ (k _ (ai QQ (av ad)) (ai QQ (av (af QQ ad)))))))
theorem wb_two1(B:BW P)(hX:X.glob "STEPS"=ac (.tup aJ))(n:Nat){wd c:vV}(a:wd="join"\/wd="both")(b:bx.contains c=vT)(f:aD q (.int 0)=ac (sD wd))(h1:aD q (.int 1)=ac I)(k:Bd (ae P X n) "width" [I,T] c):Bd (ae P X (n+1)) "width" [q,T] c:=
 rH B hX n a b f λσ h i=>cW (sF (bO (aa (vsi h h1) (vv i vN)) k))
theorem wb_two2(B:BW P)(hX:X.glob "STEPS"=ac (.tup aJ))(n:Nat){wd c:vV}(h:wd="join"\/wd="both")(i:bx.contains c=vT)(j:aD q (.int 0)=ac (sD wd))(h1:aD q (.int 1)=ac I)(m:aD q (.int 2)=ac J)(k1:(ae P X n).call "width" [I,T]=ac (.int a,vP))(k:Bd (ae P X n) "width" [J,T] c):Bd (ae P X (n+1)) "width" [q,T] c:=
 rH B hX n h i j λσ b f=>bN (ak (aI (aa (vsi b h1) (vv f vN)) k1)) (cW (sF (bO (aa (vsi (ai QQ (av b)) m) (vv (ai QQ (av f)) vN)) k)))
theorem lU(B:BW P)(hX:X.glob "STEPS"=ac (.tup aJ))(n:Nat){wd c:vV}(i:wd="join"\/wd="both")(j:bx.contains c=vT)(m:aD q (.int 0)=ac (sD wd))(h1:aD q (.int 1)=ac I)(o:aD q (.int 2)=ac J)(k1:(ae P X n).call "width" [I,T]=ac (.int a,vP))(k2:(ae P X n).call "width" [J,T]=ac (.int b,vP))(k:Bd (ae P X n) "width_of_two" [q,.int a,.int b] c):Bd (ae P X (n+1)) "width" [q,T] c:=
 rH B hX n i j m λσ f h=>bN (ak (aI (aa (vsi f h1) (vv h vN)) k1)) (bN (ak (aI (aa (vsi (ai QQ (av f)) o) (vv (ai QQ (av h)) vN)) k2)) (cW (mx (bO (vv (ai QQ (av (ai QQ (av f)))) (vv (ai QQ (av aq)) (vv aq vN))) k) QQ)))
end
end
set_option maxHeartbeats 400000
section
variable {P:vR (vV×Fn)} {X:CF}
theorem ab_nostep(B:BA P)(hX:X.glob "STEPS"=ac (.tup aJ))(n:Nat){q T:D}{w:Str}(a:aD q (.int 0)=ac (.str w))(b:b9 .NotIn (.str w) (.tup aJ)=ac (.bool vT)):Bd (ae P X (n+1)) "answer" [q,T] "NoStep":=by
 have c:(ae P X n).glob "STEPS"=ac (.tup aJ):=(dM P X n "STEPS").trans hX;exact bl B.answer QQ (by decide) (bN (ak (ao (vsi ad a) QQ QQ)) (dH (k:=vT) (al (vr aq) (Eq.trans (dy _ _ _) c) b) QQ (cW (gm (by decide)))))
theorem ab_table(B:BA P)(hX:X.glob "STEPS"=ac (.tup aJ))(n:Nat){nm:Str}{T:D}(a:b9 .NotIn (.str nm) T=ac (.bool vT)):Bd (ae P X (n+1)) "answer" [.tup [sD "table",.str nm],T] "NoTable":=by
 have b:(ae P X n).glob "STEPS"=ac (.tup aJ):=(dM P X n "STEPS").trans hX;refine bl B.answer QQ (by decide) ?_
 show Rz _ _ [("query",(vP,.tup [sD "table",.str nm])),("tables",(vP,T))] _;generalize ae P X n=cf at *;unfold sD;exact bN (ak (ao (vsi ad QQ) QQ QQ)) (cQ (k:=vP) (al (vr aq) (Eq.trans (dy _ _ _) b) QQ) QQ QQ (dH (k:=vT) (al (vr aq) vS QQ) QQ (dH (k:=vT) (al (vsi (ai QQ (av ad)) QQ) (vr (ai QQ (av (af QQ ad)))) a) QQ (cW (gm (by decide))))))
theorem ab_up(B:BA P)(hX:X.glob "STEPS"=ac (.tup aJ))(n:Nat){wd c:vV}(a:wd∈lI)(f:bx.contains c=vT){q I T:D}(b:aD q (.int 0)=ac (sD wd))(h:aD q (.int (-1))=ac I)(k:Bd (ae P X (n+1)) "answer" [I,T] c):Bd (ae P X (n+2)) "answer" [q,T] c:=by
 have i:(ae P X (n+1)).glob "STEPS"=ac (.tup aJ):=(dM P X (n+1) "STEPS").trans hX;have j:(ae P X (n+1)).fn "stepped"=vT:=tB B.stepped;refine bl B.answer QQ f ?_;show Rz _ _ [("query",(vP,q)),("tables",(vP,T))] _;generalize ae P X (n+1)=cf at *;unfold sD at b;simp only[lI,wf,wG,xx] at a
 rcases a with rfl | rfl | rfl | rfl | rfl | rfl
 all_goals exact bN (ak (ao (vsi ad b) QQ QQ)) (cQ (k:=vP) (al (vr aq) (Eq.trans (dy _ _ _) i) QQ) QQ QQ (cQ (k:=vP) (al (vr aq) vS QQ) QQ QQ (cQ (k:=vP) (al (vr aq) vS QQ) QQ QQ (cQ (k:=vP) (al (vr aq) vS QQ) QQ QQ
  (cW (mx (lT j (z_tl (vr (ai QQ (av ad))) (z_hd (bO (aa (ay (vr (ai QQ (av ad))) gW h) (vv (ai QQ (av (af QQ ad))) vN)) k)))) QQ))))))
theorem tT(B:BA P)(hX:X.glob "STEPS"=ac (.tup aJ))(n:Nat){c:vV}(b:bx.contains c=vT){q T:D}(a:aD q (.int 0)=ac (sD "join"))(k:∀ σ,Has σ "query" q->Has σ "tables" T->Rz (ae P X n) [.x0 "first" (.call "answer" [.sub (.u "query") (.int 1),.u "tables"]),.ret (.call "met" [.u "first",.call "answer" [.sub (.u "query") (.int 2),.u "tables"],.sub (.u "query") (.int 3)])] σ c):Bd (ae P X (n+1)) "answer" [q,T] c:=by
 have f:(ae P X n).glob "STEPS"=ac (.tup aJ):=(dM P X n "STEPS").trans hX;refine bl B.answer QQ b ?_;show Rz _ _ [("query",(vP,q)),("tables",(vP,T))] _;generalize ae P X n=cf at *;unfold sD at a;exact bN (ak (ao (vsi ad a) QQ QQ)) (cQ (k:=vP) (al (vr aq) (Eq.trans (dy _ _ _) f) QQ) QQ QQ (cQ (k:=vP) (al (vr aq) vS QQ) QQ QQ (dH (k:=vT) (al (vr aq) vS QQ) QQ (k _ (ai QQ (av ad)) (ai QQ (av (af QQ ad)))))))
theorem tU(B:BA P)(hX:X.glob "STEPS"=ac (.tup aJ))(n:Nat){c:vV}(b:bx.contains c=vT){q T:D}(a:aD q (.int 0)=ac (sD "both"))(k:∀ σ,Has σ "query" q->Has σ "tables" T->Rz (ae P X n) [.x0 "first" (.call "answer" [.sub (.u "query") (.int 1),.u "tables"]),.ret (.bin .Add (.u "first") (.call "answer" [.sub (.u "query") (.int 2),.u "tables"]))] σ c):Bd (ae P X (n+1)) "answer" [q,T] c:=by
 have f:(ae P X n).glob "STEPS"=ac (.tup aJ):=(dM P X n "STEPS").trans hX;refine bl B.answer QQ b ?_;show Rz _ _ [("query",(vP,q)),("tables",(vP,T))] _;generalize ae P X n=cf at *;unfold sD at a;exact bN (ak (ao (vsi ad a) QQ QQ)) (cQ (k:=vP) (al (vr aq) (Eq.trans (dy _ _ _) f) QQ) QQ QQ (cQ (k:=vP) (al (vr aq) vS QQ) QQ QQ (cQ (k:=vP) (al (vr aq) vS QQ) QQ QQ (dH (k:=vT) (al (vr aq) vS QQ) QQ (k _ (ai QQ (av ad)) (ai QQ (av (af QQ ad))))))))
theorem ab_two1(B:BA P)(hX:X.glob "STEPS"=ac (.tup aJ))(n:Nat){wd c:vV}(i:wd="join"\/wd="both")(f:bx.contains c=vT){q I T:D}(h:aD q (.int 0)=ac (sD wd))(h1:aD q (.int 1)=ac I)(k:Bd (ae P X n) "answer" [I,T] c):Bd (ae P X (n+1)) "answer" [q,T] c:=by
 rcases i with rfl | rfl
 ·exact tT B hX n f h λσ a b=>cW (sF (bO (aa (vsi a h1) (vv b vN)) k))
 ·exact tU B hX n f h λσ a b=>cW (sF (bO (aa (vsi a h1) (vv b vN)) k))
theorem ab_two2(B:BA P)(hX:X.glob "STEPS"=ac (.tup aJ))(n:Nat){wd c:vV}(j:wd="join"\/wd="both")(f:bx.contains c=vT){q I J T A:D}{fr:v7}(h:aD q (.int 0)=ac (sD wd))(h1:aD q (.int 1)=ac I)(i:aD q (.int 2)=ac J)(k1:(ae P X (n+1)).call "answer" [I,T]=ac (A,fr))(k:Bd (ae P X (n+1)) "answer" [J,T] c):Bd (ae P X (n+2)) "answer" [q,T] c:=by
 have m:(ae P X (n+1)).fn "met"=vT:=tB B.met
 rcases j with rfl | rfl
 ·exact tT B hX (n+1) f h λσ a b=>bN (ak (aI (aa (vsi a h1) (vv b vN)) k1)) (cW (mx (lT m (z_tl (vr aq) (z_hd (bO (aa (vsi (ai QQ (av a)) i) (vv (ai QQ (av b)) vN)) k)))) QQ))
 ·exact tU B hX (n+1) f h λσ a b=>bN (ak (aI (aa (vsi a h1) (vv b vN)) k1)) (cW (mx (z_bin (vr aq) (bO (aa (vsi (ai QQ (av a)) i) (vv (ai QQ (av b)) vN)) k)) QQ))
end
set_option maxHeartbeats 800000
noncomputable def lO(W R:Wd)(c dp:Nat)(d:D):Prop:=d=.list []\/∃ q r k,TpA W R c dp q r k/\d=.list [aF W q r k]
section
variable {P:vR (vV×Fn)} {X:CF} {W R:Wd} {c dp:Nat} {q q2:Q} {r k r2 k2:Nat}
theorem lj(B:BN P)(n:Nat)(z:Int)(h:TpA W R c dp q r k)(f:TpA W R c dp q2 r2 k2):∃ d fr,lO W R (c+12) (dp+2) d/\(ae P X (n+3)).call "_law_of_two" [sD "join",.int z,aF W q r k,aF W q2 r2 k2]=ac (d,fr):=by
 have E:=h.r;have Z:=f.r;have T:∀ (a b:Q) (i rb:Nat),TpA W R c (dp+1) a i k->TpA W R c (dp+1) b rb k2->a.wd W=q.wd W->b.wd W=q2.wd W->i * rb<=60->k+k2<=24->∀ σ:St,Has σ "_law_cell" (.int z)->Has σ "_law_one" (aF W a i k)->Has σ "_law_two" (aF W b rb k2) ->
   ∀ B5:vR MS,Rex (ae P X (n+2)) (.x0 "_law_query" (.tup [.str "join",.sub (.u "_law_one") (.int 0),.sub (.u "_law_two") (.int 0),.call "_law_pairs_by" [.u "_law_cell",.sub (.u "_law_one") (.int 1),.sub (.u "_law_two") (.int 1)]])::.ret (.lst [.tup [.u "_law_query",.bin .Add (.sub (.u "_law_one") (.int 1)) (.sub (.u "_law_two") (.int 1)),.bin .Mult (.sub (.u "_law_one") (.int 2)) (.sub (.u "_law_two") (.int 2)),.bin .Add (.sub (.u "_law_one") (.int 3)) (.sub (.u "_law_two") (.int 3))]])::B5) σ λd BF=>lO W R (c+12) (dp+2) d:=by
  intro a b i rb o s Ct Cu G t σ Ca H I B5;obtain⟨j,g1,U,Cb⟩:=pairs_by (X:=X) B n z (a.wd W) (b.wd W);have A:TpA W R (c+12) (dp+2) (.join a b j) (i * rb) (k+k2):=by
   have h1:=o.wd;have f:=s.wd;have Cd:=o.k1;have Ce:=o.cp;have Cf:=s.cp;have Cg:=o.pr;have Ch:=s.pr;have Ci:=o.dp;have Cj:=s.dp;exact⟨⟨o.ok,s.ok,g1,by exact om158 U⟩,by show a.wd W+b.wd W<=_;exact om159 h1 f,by exact om160 Cd,t,G,by show max _ _<=_;exact om161 Ce Cf,by show max _ (max _ _)<=_;exact om162 U Cg Ch,⟨o.nar,s.nar,by exact om163 t h1 f⟩,by show max _ _+1<=_;exact om164 Ci Cj,i,rb,o.rb,s.rb,o.r,s.r,wF _⟩
  have Ck:aD (aF W a i k) (.int 0)=ac a.d:=rfl;have V:aD (aF W a i k) (.int 1)=ac (.int (a.wd W)):=rfl;have Cm:aD (aF W a i k) (.int 2)=ac (.int i):=rfl;have Cn:aD (aF W a i k) (.int 3)=ac (.int k):=rfl;have Co:aD (aF W b rb k2) (.int 0)=ac b.d:=rfl;have Y:aD (aF W b rb k2) (.int 1)=ac (.int (b.wd W)):=rfl;have Cp:aD (aF W b rb k2) (.int 2)=ac (.int rb):=rfl;have Cq:aD (aF W b rb k2) (.int 3)=ac (.int k2):=rfl;have J:=o.r;have m:ce .Mult (.int i) (.int rb)=ac (.int (i * rb:Nat)):=by
   rw[Int.natCast_mul];exact k9 (by unfold lim;exact om165 J)
  have w:ce .Add (.int (a.wd W)) (.int (b.wd W))=ac (.int (a.wd W+b.wd W:Nat)):=by rw[xA];rfl
  have u:ce .Add (.int k) (.int k2)=ac (.int (k+k2:Nat)):=by rw[xA];rfl
  refine bG (ak (d:=.tup [sD "join",a.d,b.d,.tup (j.map prT)]) (fr:=vP) (ao (aw (aa vS (aa (vsi H Ck) (aa (vsi I Co) (aa (au (vv Ca (aa (vsi H V) (aa (vsi I Y) vN))) Cb) vN)))) (vW QQ)) QQ QQ)) ?_;have L:∀ v,Has (ax (settle (.tup [sD "join",a.d,b.d,.tup (j.map prT)]) (ME.names (.tup [.str "join",.sub (.u "_law_one") (.int 0),.sub (.u "_law_two") (.int 0),.call "_law_pairs_by" [.u "_law_cell",.sub (.u "_law_one") (.int 1),.sub (.u "_law_two") (.int 1)]])) σ) "_law_query" v) "_law_one" (aF W a i k):=λBF=>ai QQ (av H)
  have M:∀ v,Has (ax (settle (.tup [sD "join",a.d,b.d,.tup (j.map prT)]) (ME.names (.tup [.str "join",.sub (.u "_law_one") (.int 0),.sub (.u "_law_two") (.int 0),.call "_law_pairs_by" [.u "_law_cell",.sub (.u "_law_one") (.int 1),.sub (.u "_law_two") (.int 1)]])) σ) "_law_query" v) "_law_two" (aF W b rb k2):=λBF=>ai QQ (av I)
  exact aW (d:=.list [aF W (.join a b j) (i * rb) (k+k2)]) (fr:=vT) (ao (cE (aa (aw (vv aq (aa (aj (vsi (L _) V) (vsi (M _) Y) w) (aa (aj (vsi (L _) Cm) (vsi (M _) Cp) m) (aa (aj (vsi (L _) Cn) (vsi (M _) Cq) u) vN)))) (vW QQ)) vN) (vW QQ)) QQ QQ) QQ (.inr ⟨_,_,_,A,QQ⟩)
 have c1:=nF (X:=X) (W:=W) (q:=q) (r:=r) (k:=k) B (n+1);have c2:=nF (X:=X) (W:=W) (q:=q2) (r:=r2) (k:=k2) B (n+1);have Cr:TpA W R c (dp+1) (.first 6 q) (min 6 r) k:=⟨h.ok,h.wd,h.k1,h.k2,by exact om166,h.cp,h.pr,h.nar,wL h.dp,r,h.rb,h.r,wF _⟩
 have Cs:TpA W R c (dp+1) (.first 6 q2) (min 6 r2) k2:=⟨f.ok,f.wd,f.k1,f.k2,by exact om166,f.cp,f.pr,f.nar,wL f.dp,r2,f.rb,f.r,wF _⟩
 have N:Rex (ae P X (n+2)) ef.body [("_law_word",(vP,sD "join")),("_law_cell",(vP,.int z)),("_law_one",(vP,aF W q r k)),("_law_two",(vP,aF W q2 r2 k2))] λd BF=>lO W R (c+12) (dp+2) d:=by
  refine bT (k:=decide ((k:Int)+k2 > 24)) (x:=.bool (decide ((k:Int)+k2 > 24))) QQ QQ (λBF=>aW (d:=.list []) (fr:=vT) QQ QQ (.inl QQ)) λt=>?_
  have t:=yK t;refine bT (k:=vT) (x:=.bool vT) QQ QQ (λBF=>?_) nofun
  have m:ce .Mult (.int r) (.int r2)=ac (.int (r * r2:Nat)):=by
   rw[Int.natCast_mul];exact k9 (by unfold lim;exact om165 E)
  refine bT (k:=decide (((r * r2:Nat):Int) > 60)) (al (aj (x:=.int r) (y:=.int r2) QQ QQ m) vI QQ) QQ (λBF=>?_) λC=>?_
  ·refine bG (ak (aI (aa (d:=.int 8) QQ (aa (d:=.int 5) QQ (aa (d:=aF W q r k) QQ vN))) c1)) ?_
   refine bG (ak (aI (aa (d:=.int 8) QQ (aa (d:=.int 5) QQ (aa (d:=aF W q2 r2 k2) QQ vN))) c2)) ?_;have O:min 6 r * min 6 r2<=60:=v6 (AO (Aw 6 r) (Aw 6 r2)) (by decide)
   refine T (.first 6 q) (.first 6 q2) (min 6 r) (min 6 r2) Cr Cs QQ QQ O (uJ t) _ ?_ ?_ ?_ _
   ·exact ai QQ (av (ai QQ (av ⟨_,QQ⟩)))
   ·exact ai QQ (av aq)
   ·exact aq
  ·have C:=yK C
   refine T q q2 r r2 (h.up (wF _) (xR _)) (f.up (wF _) (xR _)) QQ QQ (om168 C) (uJ t) _ ?_ ?_ ?_ _
   all_goals exact⟨_,QQ⟩
 obtain⟨d,fr,C,E⟩:=bW (X:=X) (args:=[sD "join",.int z,aF W q r k,aF W q2 r2 k2]) B.o2 QQ N;exact⟨d,fr,C,E⟩
theorem ll(B:BN P)(n:Nat)(z:Int)(h:TpA W R c dp q r k)(a:TpA W R c dp q2 r2 k2):∃ d fr,lO W R (c+12) (dp+2) d/\(ae P X (n+3)).call "_law_of_two" [sD "both",.int z,aF W q r k,aF W q2 r2 k2]=ac (d,fr):=by
 have m:=h.r;have s:=a.r;have b:Rex (ae P X (n+2)) ef.body [("_law_word",(vP,sD "both")),("_law_cell",(vP,.int z)),("_law_one",(vP,aF W q r k)),("_law_two",(vP,aF W q2 r2 k2))] λd Z=>lO W R (c+12) (dp+2) d:=by
  refine bT (k:=decide ((k:Int)+k2 > 24)) (x:=.bool (decide ((k:Int)+k2 > 24))) QQ QQ (λZ=>aW (d:=.list []) (fr:=vT) QQ QQ (.inl QQ)) λf=>?_
  have f:=yK f;refine bT (k:=vP) (x:=.bool vP) QQ QQ nofun λZ=>?_
  refine bT (k:=vT&&((q.wd W:Int) == (q2.wd W:Int)&&decide ((r:Int)+r2<=60))) (dX (k:=vT) QQ λZ=>dX (k:=(q.wd W:Int) == (q2.wd W:Int)) (l:=decide ((r:Int)+r2<=60)) (al (x:=.int (q.wd W)) (y:=.int (q2.wd W)) QQ QQ QQ) λZ=>bz (al (x:=.int ((r:Int)+r2)) (y:=.int 60) QQ QQ QQ)) QQ (λo=>?_) λZ=>aW (d:=.list []) (fr:=vT) QQ QQ (.inl QQ)
  rw[Bool.true_and,yl,yx,Bf] at o;obtain⟨i,j⟩:=o;have i:q.wd W=q2.wd W:=by exact om97 i
  have A:TpA W R (c+12) (dp+2) (.both q q2) (r+r2) (k+k2):=by
   have h1:=h.wd;have t:=h.k1;have u:=h.cp;have w:=a.cp;have C:=h.pr;have E:=a.pr;have G:=h.dp;have H:=a.dp;exact⟨⟨h.ok,a.ok,i⟩,by show q.wd W<=_;exact om169 h1,by exact om160 t,by exact uJ f,by exact om170 j,by show max _ _<=_;exact om161 u w,by show max _ _<=_;exact om171 C E,⟨h.nar,a.nar⟩,by show max _ _+1<=_;exact om172 G H,r,r2,h.rb,a.rb,h.r,a.r,wF _⟩
  refine aW (d:=.list [aF W (.both q q2) (r+r2) (k+k2)]) (fr:=vT) ?_ QQ (.inr ⟨_,_,_,A,QQ⟩);unfold aF;rw[xA,xA]
  rfl
 obtain⟨d,fr,I,m⟩:=bW (X:=X) (args:=[sD "both",.int z,aF W q r k,aF W q2 r2 k2]) B.o2 QQ b;exact⟨d,fr,I,m⟩
end
set_option maxHeartbeats 800000
noncomputable def io:Fn:=⟨["_law_cell"],[
  .ite (.cmp .Eq (.bin .Mod (.bin .FloorDiv (.u "_law_cell") (.int 35)) (.int 6)) (.int 2)) [.ret (.bin .Mod (.bin .FloorDiv (.u "_law_cell") (.int 210)) (.int 13))] [],
  .ret (.sub (.lst [.int 2,.int 1,.int 3,.int 2,.int 0]) (.bin .Mod (.u "_law_cell") (.int 5)))]⟩
noncomputable def iv:Fn:=⟨["_law_cell"],[
  .ret (.sub (.lst [.int 5,.int 7,.int 4,.int 8,.int 6,.int 2,.int 0]) (.bin .Mod (.bin .FloorDiv (.u "_law_cell") (.int 5)) (.int 7)))]⟩
noncomputable def jU:Fn:=⟨["_law_script"],[
  .x0 "_law_cell" (.call "_law_cell_at" [.u "_law_script",.int 0]),
  .x0 "_law_words" (.lst [.str "one",.str "join",.str "table",.str "first",.str "sieve",.str "pick",.str "group",.str "order",.str "both",.str "once"]),
  .x0 "_law_word" (.sub (.u "_law_words") (.bin .Mod (.bin .FloorDiv (.u "_law_cell") (.int 35)) (.int 10))),
  .x0 "_law_rest" (.bin .FloorDiv (.u "_law_cell") (.int 350)),
  .ite (.cmp .Eq (.bin .Mod (.u "_law_rest") (.int 2)) (.int 0)) [.ret (.lst [.u "_law_word",.bin .Add (.str "Two ") (.call "_law_sign_by" [.bin .FloorDiv (.u "_law_rest") (.int 2)]),.str ""])] [],
  .x0 "_law_at" (.bin .Mod (.bin .FloorDiv (.u "_law_rest") (.int 2)) (.bin .Add (.blt "len" [.u "_law_word"]) (.int 1))),
  .ret (.comp (.bin .Add (.bin .Add (.sl (.u "_law_word") .none (.u "_law_at")) (.call "_law_sign_by" [.bin .Add (.bin .FloorDiv (.u "_law_rest") (.int 18)) (.u "_law_k")])) (.sl (.u "_law_word") (.u "_law_at") .none)) "_law_k" (.blt "range" [.int 3]) [])]⟩
noncomputable def iA:Fn:=⟨["_law_script","_law_k"],[
  .x0 "_law_shape" (.call "_law_cell_at" [.u "_law_script",.u "_law_k"]),
  .ret (.tup [.tup [.str "table",.sub (.call "_law_names" [.u "_law_script"]) (.u "_law_k")],.call "_law_wide_by" [.u "_law_shape"],.call "_law_rows_of" [.u "_law_shape"],.int 1])]⟩
noncomputable def jd:Fn:=⟨["_law_script"],[
  .x0 "_law_names_here" (.call "_law_names" [.u "_law_script"]),
  .x0 "_law_widths_here" (.dct [] []),
  .for_ "_law_k" (.blt "range" [.int 3]) [.setk "_law_widths_here" (.sub (.u "_law_names_here") (.u "_law_k")) (.call "_law_wide_by" [.call "_law_cell_at" [.u "_law_script",.u "_law_k"]])],
  .ret (.u "_law_widths_here")]⟩
noncomputable def ir:Fn:=⟨["_law_script"],[
  .x0 "_law_top" (.call "_law_leaf" [.u "_law_script",.int 0]),
  .x0 "_law_spare" (.call "_law_leaf" [.u "_law_script",.int 1]),
  .for_ "_law_k" (.blt "range" [.sub (.lst [.int 3,.int 5,.int 2,.int 9]) (.bin .Mod (.call "_law_cell_at" [.u "_law_script",.int 2]) (.int 4))]) [.ite (.cmp .GtE (.bin .Add (.int 6) (.bin .Mult (.int 2) (.u "_law_k"))) (.blt "len" [.u "_law_script"])) [.ret (.u "_law_top")] [],.x0 "_law_word" (.sub (.lst [.int 0,.int 1,.int 8,.int 5,.int 4,.int 5,.int 6,.int 7,.int 8,.int 9,.int 9,.int 9,.int 12]) (.bin .Mod (.sub (.u "_law_script") (.bin .Add (.int 6) (.bin .Mult (.int 2) (.u "_law_k")))) (.int 13))),.x0 "_law_cell" (.call "_law_cell_at" [.u "_law_script",.bin .Add (.int 7) (.bin .Mult (.int 2) (.u "_law_k"))]),.x0 "_law_made" (.lst []),.ite (.cmp .Lt (.u "_law_word") (.int 9)) [.x0 "_law_made" (.lst [.call "_law_around" [.u "_law_word",.u "_law_cell",.u "_law_top"]]),.ite (.bop .And [.bop .Or [.cmp .Eq (.u "_law_word") (.int 8),.cmp .Eq (.u "_law_word") (.int 5)],.cmp .Gt (.bin .Mod (.u "_law_cell") (.int 4)) (.int 0)]) [.x0 "_law_made" (.lst [.call "_law_sieve_on" [.sub (.u "_law_made") (.int 0),.u "_law_cell"]])] []] [.ite (.cmp .Lt (.u "_law_word") (.int 12)) [.x0 "_law_made" (.call "_law_of_two" [.str "join",.u "_law_cell",.sub (.lst [.u "_law_top",.u "_law_spare"]) (.bin .Mod (.bin .FloorDiv (.u "_law_cell") (.int 2)) (.int 2)),.sub (.lst [.u "_law_spare",.u "_law_top"]) (.bin .Mod (.bin .FloorDiv (.u "_law_cell") (.int 2)) (.int 2))]),.ite (.bop .And [.cmp .NotEq (.u "_law_made") (.lst []),.cmp .Gt (.bin .Mod (.u "_law_cell") (.int 4)) (.int 0)]) [.x0 "_law_made" (.lst [.call "_law_sieve_on" [.sub (.u "_law_made") (.int 0),.u "_law_cell"]])] []] [.ite (.cmp .Eq (.bin .Mod (.u "_law_cell") (.int 3)) (.int 1)) [.x0 "_law_made" (.call "_law_of_two" [.str "both",.u "_law_cell",.u "_law_top",.call "_law_around" [.sub (.lst [.int 0,.int 6,.int 7]) (.bin .Mod (.bin .FloorDiv (.u "_law_cell") (.int 3)) (.int 3)),.call "_law_mixed" [.u "_law_cell",.int 5],.u "_law_top"]])] []]],.ite (.cmp .Eq (.u "_law_made") (.lst [])) [.x0 "_law_made" (.call "_law_of_two" [.str "both",.u "_law_cell",.u "_law_top",.u "_law_spare"])] [],.ite (.cmp .Eq (.u "_law_made") (.lst [])) [.x0 "_law_made" (.lst [.u "_law_spare"]),.x0 "_law_spare" (.u "_law_top")] [.ite (.cmp .GtE (.u "_law_word") (.int 9)) [.x0 "_law_spare" (.call "_law_leaf" [.u "_law_script",.bin .Mod (.bin .FloorDiv (.u "_law_cell") (.int 36)) (.int 3)])] []],.x0 "_law_top" (.sub (.u "_law_made") (.int 0))],
  .ret (.u "_law_top")]⟩
structure BE(P:vR (vV×Fn)):Prop extends BN P where
 wb:P.lookup "_law_wide_by"=ac io
 ro:P.lookup "_law_rows_of"=ac iv
 nm:P.lookup "_law_names"=ac jU
 lf:P.lookup "_law_leaf"=ac iA
 ws:P.lookup "_law_widths"=ac jd
 st:P.lookup "_law_stepped"=ac ir
noncomputable def iJ:vR vV:=["one","join","table","first","sieve","pick","group","order","both","once"]
theorem rK:∀ m<94,bH cj m≠bH cj ((m+1) % 94)/\bH cj m≠bH cj ((m+2) % 94):=by decide +kernel
theorem rm(x y:Str):(x++y).cps.toList=x.cps.toList++y.cps.toList:=AJ
theorem str_ext{x y:Str}(h:x.cps.toList=y.cps.toList):x=y:=by
 obtain⟨⟨x⟩⟩:=x;obtain⟨⟨y⟩⟩:=y;have h:x=y:=h;rw[h]
theorem app_mid{U V x y:Str}(h:U++x++V=U++y++V):x=y:=by
 have h:=wv (λs:Str=>s.cps.toList) h
 simp only[rm] at h;exact str_ext (List.append_cancel_left (List.append_cancel_right h))
theorem two_head:∀ s∈iJ,(vQ s).cps.toList.head?≠ac 84:=by decide +kernel
theorem two_list:(vQ "Two ").cps.toList=[84,119,111,32]:=by decide +kernel
theorem oA:(vQ "").length=0:=by decide +kernel
theorem w10_ne:∀ s∈iJ,s≠"":=by decide
theorem w10_len:∀ s∈iJ,(vQ s).length<=8:=by decide +kernel
theorem md94{y:Int}{m:Nat}(k:Nat)(h:y % 94=m):((y+(k:Int)) % 94).toNat=(m+k) % 94:=by
 rw[<- Int.emod_add_emod,h,<- xA];rfl
section
variable {P:vR (vV×Fn)} {X:CF}
theorem w10_3:∀ s∈iJ,(vQ s).length≠2/\True:=by decide +kernel
theorem two_len:(vQ "Two ").length=4:=by decide +kernel
theorem cut_len:∀ s∈iJ,∀ j,j<=8->j<=(vQ s).length->(Txt.slice (vQ s) wa (ac (j:Int))).length+(Txt.slice (vQ s) (ac (j:Int)) wa).length ≥ 3:=by decide +kernel
theorem names_gen(B:BE P)(z:Int):∃ a b c:Str,(a≠b/\a≠c/\b≠c)/\(a.length≠2/\b.length≠2/\c.length≠2)/\∀ S,(∀ n,(ae P X (n+1)).call "_law_cell_at" [S,.int 0]=ac (.int z,vP))->∀ n,(ae P X (n+2)).call "_law_names" [S]=ac (.list [.str a,.str b,.str c],vT):=by
 obtain⟨d,⟨s,A,rfl⟩,q⟩:=bJ (l:=[.str (vQ "one"),.str (vQ "join"),.str (vQ "table"),.str (vQ "first"),.str (vQ "sieve"),.str (vQ "pick"),.str (vQ "group"),.str (vQ "order"),.str (vQ "both"),.str (vQ "once")]) (by decide) (z / 35) (R:=λd=>∃ s,s∈iJ/\d=.str (vQ s)) (by
  intro d q;simp only[wf,wG,xx] at q
  rcases q with rfl | rfl | rfl | rfl | rfl | rfl | rfl | rfl | rfl | rfl <;> exact⟨_,by decide,QQ⟩)
 have q:aD (.list [.str (vQ "one"),.str (vQ "join"),.str (vQ "table"),.str (vQ "first"),.str (vQ "sieve"),.str (vQ "pick"),.str (vQ "group"),.str (vQ "order"),.str (vQ "both"),.str (vQ "once")]) (.int (z / 35 % 10))=ac (.str (vQ s)):=q;have f:100<=big:=by decide
 have G:=w10_len s A;cases L:(z / 350 % 2 == 0) with
 | true=>
  have g:=λn=>oY (X:=X) B.toBG n (z / 350 / 2)
  have Cb:=jy (u:=vQ "Two ") (v:=bH cj (z / 350 / 2 % 94).toNat) (by have h1:(bH cj (z / 350 / 2 % 94).toNat).length=1:=rfl;have Cd:(vQ "Two ").length=4:=(by decide +kernel);exact om173 f h1 Cd)
  refine⟨vQ s,vQ "Two "++bH cj (z / 350 / 2 % 94).toNat,vQ "",⟨λe=>?_,λe=>w10_ne s A (cR e),λe=>?_⟩,⟨(w10_3 s A).1,(by rw[cy,two_len];omega),(by rw[oA];omega)⟩,λS H n=>az B.nm QQ ?_⟩
  ·refine two_head s A ?_
   rw[e,rm,two_list];rfl
  ·have:=wv Str.length e
   rw[cy,oA] at this;have h1:(bH cj (z / 350 / 2 % 94).toNat).length=1:=rfl;exact om174 this h1
  ·have c1:=H n;have g1:=g n
   exact aA (ak (aI (aa (aH QQ) (aa vI vN)) c1)) (aA (ak (ao (cE (aa vS (aa vS (aa vS (aa vS (aa vS (aa vS (aa vS (aa vS (aa vS (aa vS vN)))))))))) (dtt QQ)) QQ QQ)) (aA (ak (ao (ay (vr aq) (aj (aj (vr (ai QQ (av aq))) vI (aQ (dtt QQ))) vI (aB (dtt QQ))) q) QQ QQ)) (aA (ak (ao (aj (vr (ai QQ (av (ai QQ (av aq))))) vI (aQ (dtt QQ))) QQ QQ)) (bp (al (aj (vr aq) vI (aB (dtt QQ))) vI QQ) QQ (λM=>aT (ao (cE (vv (ai QQ (av aq)) (aa (aj vS (au (aa (aj (vr aq) vI (aQ (dtt QQ))) vN) g1) Cb) (aa vS vN))) (vW QQ)) QQ QQ) QQ) λM=>mH L M))))
 | false=>
  have I:(vQ s).length<=big:=by exact om175 f G
  have Ce:=len_s I;have Cf:(0:Int)<((vQ s).length:Int)+1:=by exact om27
  obtain⟨j,C,Cq⟩:=a9 (z / 350 / 2) (k:=(vQ s).length+1) (xH _);rw[xA] at C;have C:z / 350 / 2 % (((vQ s).length:Int)+1)=(j:Int):=C;have J:=cut_len s A j (by omega) (by omega)
  obtain⟨U,Cg,N,Ch⟩:∃ U:Str,U=Txt.slice (vQ s) wa (ac (j:Int))/\U.length<=(vQ s).length/\slD (.str (vQ s)) .none (.int (z / 350 / 2 % (((vQ s).length:Int)+1)))=ac (.str U):=⟨_,QQ,Txt.slice_le _ _ _,by rw[C];exact wh I⟩
  obtain⟨V,Ci,Cj,Ck⟩:∃ V:Str,V=Txt.slice (vQ s) (ac (j:Int)) wa/\V.length<=(vQ s).length/\slD (.str (vQ s)) (.int (z / 350 / 2 % (((vQ s).length:Int)+1))) .none=ac (.str V):=⟨_,QQ,Txt.slice_le _ _ _,by rw[C];exact wh I⟩
  rw[<- Cg,<- Ci] at J;have t:∀ k:Nat,(U++bH cj k++V).length≠2:=λk h=>by
   rw[cy,cy] at h;have h1:(bH cj k).length=1:=rfl
   omega
  have w:∀ i j:Nat,bH cj i≠bH cj j->U++bH cj i++V≠U++bH cj j++V:=λi j h e=>h (app_mid e)
  obtain⟨m,E,o⟩:=a9 (z / 350 / 18) (k:=94) (by decide)
  have E:z / 350 / 18 % 94=(m:Int):=E;have O:((z / 350 / 18+(0:Nat)) % 94).toNat=m:=(md94 0 E).trans (Nat.mod_eq_of_lt o);have e1:((z / 350 / 18+(1:Nat)) % 94).toNat=(m+1) % 94:=md94 1 E;have T:((z / 350 / 18+(2:Nat)) % 94).toNat=(m+2) % 94:=md94 2 E;have Cm:(m+2) % 94=((m+1) % 94+1) % 94:=(Nat.mod_add_mod (m+1) 94 1).symm;refine⟨U++bH cj ((z / 350 / 18+(0:Nat)) % 94).toNat++V,U++bH cj ((z / 350 / 18+(1:Nat)) % 94).toNat++V,U++bH cj ((z / 350 / 18+(2:Nat)) % 94).toNat++V,⟨w _ _ ?_,w _ _ ?_,w _ _ ?_⟩,⟨t _,t _,t _⟩,λS H n=>az B.nm QQ ?_⟩
  ·rw[O,e1];exact (rK m o).1
  ·rw[O,T];exact (rK m o).2
  ·rw[e1,T,Cm];exact (rK _ (Nat.mod_lt _ (by decide))).1
  ·have c1:=H n
   have y:∀ σ:St,Has σ "_law_word" (.str (vQ s))->Has σ "_law_at" (.int (z / 350 / 2 % (((vQ s).length:Int)+1)))->Has σ "_law_rest" (.int (z / 350))->evE (ae P X (n+1)) (vis σ) (.comp (.bin .Add (.bin .Add (.sl (.u "_law_word") .none (.u "_law_at")) (.call "_law_sign_by" [.bin .Add (.bin .FloorDiv (.u "_law_rest") (.int 18)) (.u "_law_k")])) (.sl (.u "_law_word") (.u "_law_at") .none)) "_law_k" (.blt "range" [.int 3]) [])=ac (.list ((wR 3).map λ(i:Nat)=>D.str (U++bH cj ((z / 350 / 18+(i:Int)) % 94).toNat++V))):=by
    intro σ Y Z Cn;refine gX (x:=.rng 0 3) QQ (d8 3) (by decide) (j6 _ _ _ _ λi BF=>eS ?_)
    have g1:=oY (X:=X) B.toBG n (z / 350 / 18+(i:Int));have Ca:(bH cj ((z / 350 / 18+(i:Int)) % 94).toNat).length=1:=rfl;have Co:=jy (u:=U) (v:=bH cj ((z / 350 / 18+(i:Int)) % 94).toNat) (om176 f G N Ca);have Cp:=jy (u:=U++bH cj ((z / 350 / 18+(i:Int)) % 94).toNat) (v:=V) (by rw[cy];exact om177 f G N Cj Ca)
    exact aj (aj (nQ (aH (bR QQ (aV Y))) (gC _ _) (aH (bR QQ (aV Z))) Ch) (au (aa (aj (aj (aH (bR QQ (aV Cn))) vI (aQ (dtt QQ))) (aH cw) cm) vN) g1) Co) (nQ (aH (bR QQ (aV Y))) (aH (bR QQ (aV Z))) (gC _ _) Ck) Cp
   refine aA (ak (aI (aa (d:=S) QQ (aa (d:=.int 0) QQ vN)) c1)) ?_;refine aA (ak (d:=.list [.str (vQ "one"),.str (vQ "join"),.str (vQ "table"),.str (vQ "first"),.str (vQ "sieve"),.str (vQ "pick"),.str (vQ "group"),.str (vQ "order"),.str (vQ "both"),.str (vQ "once")]) (fr:=vT) QQ) ?_;refine aA (ak (d:=.str (vQ s)) (fr:=vP) (ao (ay (vr aq) (aj (aj (vr (ai QQ (av aq))) vI (aQ (dtt QQ))) vI (aB (dtt QQ))) q) QQ QQ)) ?_;refine aA (ak (d:=.int (z / 350)) (fr:=vP) (ao (aj (vr (ai QQ (av (ai QQ (av aq))))) vI (aQ (dtt QQ))) QQ QQ)) ?_;refine bp (k:=vP) (x:=.bool vP) (by rw[<- L];exact al (aj (vr aq) vI (aB (dtt QQ))) vI QQ) QQ nofun λBF=>?_
   refine aA (ak (d:=.int (z / 350 / 2 % (((vQ s).length:Int)+1))) (fr:=vP) (ao (aj (aj (vr aq) vI (aQ (dtt QQ))) (aj (cg (vv (ai QQ (av aq)) vN) Ce) vI cm) (aB Cf)) QQ QQ)) ?_;exact aT (ao (y _ (ai QQ (av (ai QQ (av aq)))) (aq) (ai QQ (av aq))) QQ QQ) QQ
end
set_option maxHeartbeats 800000
noncomputable def aG(c:Int):Nat:=if (c / 35 % 6 == 2)=vT then (c / 210 % 13).toNat else [2,1,3,2,0].getD (c % 5).toNat 0
theorem sw(c:Int):aG c<=12:=by
 unfold aG
 split
 ·exact om178
 ·obtain⟨m,e,a⟩:=a9 c (k:=5) (by decide)
  have e:c % 5=m:=e;rw[e,yz];exact (by decide:∀ m<5,[2,1,3,2,0].getD m 0<=12) m a
section
variable {P:vR (vV×Fn)} {X:CF}
theorem ltS{P:Nat->Prop}{k:Nat}(h:P k)(r:∀ m,m<k->P m):∀ m,m<k+1->P m:=λm a=>(zF (zU a)).elim (r m) λe=>e▸h
theorem jE(B:BE P)(n:Nat)(c:Int):(ae P X (n+1)).call "_law_wide_by" [.int c]=ac (.int (aG c),vP):=by
 refine az B.wb QQ ?_;unfold aG;cases h:(c / 35 % 6 == 2) with
 | true=>
  rw[wh rfl];have e:((c / 210 % 13).toNat:Int)=c / 210 % 13:=by exact om179
  rw[e];exact bp (al (aj (aj (aH QQ) vI (aQ (dtt QQ))) vI (aB (dtt QQ))) vI QQ) QQ (λa=>aT (ao (aj (aj (aH QQ) vI (aQ (dtt QQ))) vI (aB (dtt QQ))) QQ QQ) QQ) λa=>mH h a
 | false=>
  rw[wo wO];obtain⟨m,e,b⟩:=a9 c (k:=5) (by decide)
  have e:c % 5=m:=e;have q:aD (.list [.int 2,.int 1,.int 3,.int 2,.int 0]) (.int (c % 5))=ac (.int ([2,1,3,2,0].getD (c % 5).toNat 0:Nat)):=by
   rw[e,yz];refine n7 (by simpa using b) ?_
   have g:∀ m,m<5->[D.int 2,D.int 1,D.int 3,D.int 2,D.int 0][m]?=ac (D.int ([2,1,3,2,0].getD m 0:Nat)):=ltS QQ (ltS QQ (ltS QQ (ltS QQ (ltS QQ λZ h=>wI h (yL _)))))
   exact g m b
  exact bp (al (aj (aj (aH QQ) vI (aQ (dtt QQ))) vI (aB (dtt QQ))) vI QQ) QQ (λa=>mH a h) λa=>aT (ao (ay (cE (aa vI (aa vI (aa vI (aa vI (aa vI vN))))) (dtt QQ)) (aj (aH QQ) vI (aB (dtt QQ))) q) QQ QQ) QQ
noncomputable def cN(c:Int):Nat:=match aD (.list [.int 5,.int 7,.int 4,.int 8,.int 6,.int 2,.int 0]) (.int (c / 5 % 7)) with
 | some (.int m)=>m.toNat
 | _=>0
theorem lX(B:BE P)(n:Nat)(c:Int):cN c<=8/\(ae P X (n+1)).call "_law_rows_of" [.int c]=ac (.int (cN c),vP):=by
 obtain⟨d,⟨m,rfl,b⟩,q⟩:=bJ (l:=[.int 5,.int 7,.int 4,.int 8,.int 6,.int 2,.int 0]) (by decide) (c / 5) (R:=λd=>∃ m:Nat,d=.int m/\m<=8) (by
  intro d a;simp only[wf,wG,xx] at a
  rcases a with rfl | rfl | rfl | rfl | rfl | rfl | rfl <;> first | exact⟨5,QQ,by decide⟩ | exact⟨7,QQ,by decide⟩ | exact⟨4,QQ,by decide⟩ | exact⟨8,QQ,by decide⟩ | exact⟨6,QQ,by decide⟩ | exact⟨2,QQ,by decide⟩ | exact⟨0,QQ,by decide⟩)
 have q:aD (.list [.int 5,.int 7,.int 4,.int 8,.int 6,.int 2,.int 0]) (.int (c / 5 % 7))=ac (.int m):=q;have e:cN c=m:=by unfold cN;rw[q];exact yz m
 rw[e];refine⟨b,az B.ro QQ ?_⟩;exact aT (ao (ay (cE (aa vI (aa vI (aa vI (aa vI (aa vI (aa vI (aa vI vN))))))) (dtt QQ)) (aj (aj (aH QQ) vI (aQ (dtt QQ))) vI (aB (dtt QQ))) q) QQ QQ) QQ
noncomputable def W3(a b c:Str)(x y z:Nat):Wd:=[(a,x),(b,y),(c,z)]
theorem gY{a b:Str}(h:a≠b):aU (.str a) (.str b)=vP:=by
 show (a == b)=vP;rw[wK];exact h
theorem widths_eq(B:BE P)(n:Nat)(ns:vR Int){a b c:Str}(y:a≠b)(A:a≠c)(C:b≠c)(L:(ae P X (n+2)).call "_law_names" [.list (ns.map .int)]=ac (.list [.str a,.str b,.str c],vT)) :
  (ae P X (n+3)).call "_law_widths" [.list (ns.map .int)]=ac ((W3 a b c (aG (ns.getD 0 0)) (aG (ns.getD 1 0)) (aG (ns.getD 2 0))).d,vT):=by
 have M:(ae P X (n+2)).call "_law_cell_at" [.list (ns.map .int),.int 0]=ac (.int (ns.getD 0 0),vP):=cU (X:=X) B.toBG (n+1) ns 0;have c1:(ae P X (n+2)).call "_law_cell_at" [.list (ns.map .int),.int 1]=ac (.int (ns.getD 1 0),vP):=cU (X:=X) B.toBG (n+1) ns 1;have c2:(ae P X (n+2)).call "_law_cell_at" [.list (ns.map .int),.int 2]=ac (.int (ns.getD 2 0),vP):=cU (X:=X) B.toBG (n+1) ns 2;have N:=jE (X:=X) B (n+1) (ns.getD 0 0);have O:=jE (X:=X) B (n+1) (ns.getD 1 0);have w2:=jE (X:=X) B (n+1) (ns.getD 2 0);generalize ns.getD 0 0=f at *;generalize ns.getD 1 0=j at *;generalize ns.getD 2 0=E at *;generalize D.list (ns.map .int)=S at *;have nx:∀ (σ:St) (i:Int) (w z:Int) (nm:Str) (ks vs:vR D),Has σ "_law_script" S->Has σ "_law_names_here" (.list [.str a,.str b,.str c])->cV σ "_law_widths_here" (.dict ks vs)->cJ (.str nm) ks=vT->ks.length<4 ->
   aD (.list [.str a,.str b,.str c]) (.int i)=ac (.str nm)->(ae P X (n+2)).call "_law_cell_at" [S,.int i]=ac (.int z,vP)->(ae P X (n+2)).call "_law_wide_by" [.int z]=ac (.int w,vP) ->
   ∃ BJ,(Has BJ "_law_script" S/\Has BJ "_law_names_here" (.list [.str a,.str b,.str c])/\cV BJ "_law_widths_here" (.dict (cL ks vs (.str nm) (.int w)).1 (cL ks vs (.str nm) (.int w)).2))/\aY (ae P X (n+2)) [.setk "_law_widths_here" (.sub (.u "_law_names_here") (.u "_law_k")) (.call "_law_wide_by" [.call "_law_cell_at" [.u "_law_script",.u "_law_k"]])] (ax σ "_law_k" (vP,.int i))=ac (.next,BJ):=by
  intro σ i w z nm ks vs t u G T U V Y Z;have Ca:4<=big:=by decide
  obtain⟨H,BJ,⟨rfl,q⟩,e⟩:Out (ae P X (n+2)) [.setk "_law_widths_here" (.sub (.u "_law_names_here") (.u "_law_k")) (.call "_law_wide_by" [.call "_law_cell_at" [.u "_law_script",.u "_law_k"]])] (ax σ "_law_k" (vP,.int i)) λH BJ=>H=.next/\(Has BJ "_law_script" S/\Has BJ "_law_names_here" (.list [.str a,.str b,.str c])/\cV BJ "_law_widths_here" (.dict (cL ks vs (.str nm) (.int w)).1 (cL ks vs (.str nm) (.int w)).2)):=by
   refine aM (rO (d:=.int w) (dk:=.str nm) (ks:=ks) (vs:=vs) (au (aa (au (vv (ai QQ t) (vv aq vN)) Y) vN) Z) (ay (vr (ai QQ u)) (vr aq) V) (?_:cV _ _ _) (by rw[T,xF (om180 U Ca)];rfl)) (cu ⟨QQ,?_,?_,?_⟩)
   ·exact gR QQ (gR QQ (eW QQ G))
   ·exact ai QQ (av (av (ai QQ t)))
   ·exact ai QQ (av (av (ai QQ u)))
   ·exact fw
  exact⟨BJ,q,e⟩
 refine az B.ws QQ ?_;refine aA (ak (aI (aa (d:=S) QQ vN) L)) ?_;refine aA (ak (d:=.dict [] []) (fr:=vT) QQ) ?_;generalize h:ax (settle (.dict [] []) (ME.names (.dct [] [])) (ax (settle (.list [.str a,.str b,.str c]) (ME.names (.call "_law_names" [.u "_law_script"])) _) "_law_names_here" (vT,.list [.str a,.str b,.str c]))) "_law_widths_here" (vT,D.dict [] [])=σ;have t:Has σ "_law_script" S:=by rw[<- h];exact⟨_,QQ⟩
 have u:Has σ "_law_names_here" (.list [.str a,.str b,.str c]):=by rw[<- h];exact⟨_,QQ⟩
 have G:cV σ "_law_widths_here" (.dict [] []):=by rw[<- h];exact fw
 obtain⟨m,⟨Cb,Cd,Ce⟩,e1⟩:=nx (freeze (ME.names (.blt "range" [.int 3])) σ) 0 (aG f) f a [] [] (cx t) (cx u) (nP QQ G) QQ (vW QQ) QQ M N;have Cf:cV m "_law_widths_here" (.dict [.str a] [.int (aG f)]):=Ce;obtain⟨o,⟨Cg,Ch,I⟩,Ci⟩:=nx m 1 (aG j) j b [.str a] [.int (aG f)] Cb Cd Cf QQ (vW QQ) QQ c1 O;have k2:cV o "_law_widths_here" (.dict [.str a,.str b] [.int (aG f),.int (aG j)]):=by
  simp only[cL,gY y,yI,zb] at I;exact I
 obtain⟨s,⟨Cm,Cn,J⟩,Cj⟩:=nx o 2 (aG E) E c [.str a,.str b] [.int (aG f),.int (aG j)] Cg Ch k2 QQ (vW QQ) QQ c2 w2;have Ck:cV s "_law_widths_here" (.dict [.str a,.str b,.str c] [.int (aG f),.int (aG j),.int (aG E)]):=by
  simp only[cL,gY A,gY C,yI,zb] at J;exact J
 refine gK (x:=.rng 0 3) (BK:=[.int 0,.int 1,.int 2]) (BJ:=s) QQ QQ ?_ (eF Ck);rw[bL,e1];show cq _ _ _=_;rw[bL,Ci];show cq _ _ _=_;rw[bL,Cj];rfl
theorem leaf_eq(B:BE P)(n:Nat)(ns:vR Int){a b c:Str}(j:a≠b)(m:a≠c)(o:b≠c)(A:(ae P X (n+2)).call "_law_names" [.list (ns.map .int)]=ac (.list [.str a,.str b,.str c],vT))(k:Nat)(C:k<3) :
  ∃ q r,TpA (W3 a b c (aG (ns.getD 0 0)) (aG (ns.getD 1 0)) (aG (ns.getD 2 0))) (W3 a b c (cN (ns.getD 0 0)) (cN (ns.getD 1 0)) (cN (ns.getD 2 0))) 0 0 q r 1/\(ae P X (n+3)).call "_law_leaf" [.list (ns.map .int),.int k]=ac (aF (W3 a b c (aG (ns.getD 0 0)) (aG (ns.getD 1 0)) (aG (ns.getD 2 0))) q r 1,vP):=by
 obtain⟨f,h1,s,E⟩:∃ f,aD (.list [.str a,.str b,.str c]) (.int k)=ac (.str f)/\(W3 a b c (aG (ns.getD 0 0)) (aG (ns.getD 1 0)) (aG (ns.getD 2 0))).lookup f=ac (aG (ns.getD k 0))/\(W3 a b c (cN (ns.getD 0 0)) (cN (ns.getD 1 0)) (cN (ns.getD 2 0))).lookup f=ac (cN (ns.getD k 0)):=by
  have e1:∀ x:Str,(x == x)=vT:=λx=>wH x
  have G:(b == a)=vP:=by rw[wK];exact j.symm
  have H:(c == a)=vP:=by rw[wK];exact m.symm
  have I:(c == b)=vP:=by rw[wK];exact o.symm
  have t:∀ x y z,(W3 a b c x y z).lookup a=ac x:=λx y z=>by unfold W3;rw[wk,e1]
  have u:∀ x y z,(W3 a b c x y z).lookup b=ac y:=λx y z=>by unfold W3;rw[wk,G];show AR _ _=_;rw[wk,e1]
  have w:∀ x y z,(W3 a b c x y z).lookup c=ac z:=λx y z=>by unfold W3;rw[wk,H];show AR _ _=_;rw[wk,I];show AR _ _=_;rw[wk,e1]
  revert C k;exact ltS ⟨c,QQ,w _ _ _,w _ _ _⟩ (ltS ⟨b,QQ,u _ _ _,u _ _ _⟩ (ltS ⟨a,QQ,t _ _ _,t _ _ _⟩ λZ h=>wI h (yL _)))
 generalize W3 a b c (aG (ns.getD 0 0)) (aG (ns.getD 1 0)) (aG (ns.getD 2 0))=W at *;generalize W3 a b c (cN (ns.getD 0 0)) (cN (ns.getD 1 0)) (cN (ns.getD 2 0))=R at *;have J:=cU (X:=X) B.toBG (n+1) ns k;have L:=jE (X:=X) B (n+1) (ns.getD k 0);have M:=sw (ns.getD k 0);have N:=(lX (X:=X) B (n+1) (ns.getD k 0)).1;have O:=(lX (X:=X) B (n+1) (ns.getD k 0)).2;generalize cN (ns.getD k 0)=r at *;generalize ns.getD k 0=z at *;have i:(Q.table f).wd W=aG z:=by show (W.lookup f).getD 0=_;rw[s];rfl
 refine⟨.table f,r,⟨⟨_,s⟩,by rw[i];exact om181 M,by decide,by decide,by exact om182 N,wF _,ww _,trivial,wF _,r,E,wF _⟩,?_⟩
 unfold aF;rw[i];show _=ac (D.tup [.tup [.str (vQ "table"),.str f],.int (aG z),.int r,.int 1],vP);generalize D.list (ns.map .int)=S at *;refine az B.lf QQ ?_;show Run _ iA.body [("_law_script",(vP,S)),("_law_k",(vP,.int k))] _ _;exact aA (ak (aI (vv ad (vv (af QQ ad) vN)) J)) (aT (ao (aw (aa (aw (aa vS (aa (ay (au (vv (ai QQ (av ad)) vN) A) (vr (ai QQ (av (af QQ ad)))) h1) vN)) (vW QQ)) (aa (au (vv aq vN) L) (aa (au (vv aq vN) O) (aa vI vN)))) (vW QQ)) QQ QQ) QQ)
end
set_option maxHeartbeats 800000
theorem o_retv{cf:CF}{σ:St}{z:vV}{d:D}{fr:v7}{r:vR MS}{R:Fl->St->Prop}(h:σ.lookup z=ac (fr,d))(q:R (.ret fr d) σ):Out cf (.ret (.u z)::r) σ R:=⟨_,_,q,sv (x_rx h)⟩
theorem mI{cf:CF}{body:vR MS}{z:vV}(I:Nat->St->Prop)(R:D->v7->Prop)(N:Nat):∀ (BK:vR D) (k:Nat) (σ:St),k+BK.length<=N->I k σ->(∀ k it σ,k<N->it∈BK->I k σ->Out cf body (ax σ z (vP,it)) λf BJ=>(f=.next/\I (k+1) BJ)\/∃ d fr,f=.ret fr d/\R d fr) ->
  ∃ BJ,(I (k+BK.length) BJ/\cq (cP cf body z) BK σ=ac (.next,BJ))\/∃ d fr,R d fr/\cq (cP cf body z) BK σ=ac (.ret fr d,BJ)
 | [],k,σ,_,h,_=>⟨σ,.inl ⟨h,QQ⟩⟩
 | it::r,k,σ,m,h,j=>by
  rw[xC] at m;obtain⟨f,a,q,e⟩:=j k it σ (by omega) (.head _) h
  rcases q with⟨rfl,n⟩ | ⟨d,fr,rfl,q⟩
  ·obtain⟨b,c⟩:=mI I R N r (k+1) a (by omega) n λk i s o t=>j k i s o (.tail _ t)
   refine⟨b,?_⟩;rw[bL,e,xC,xS r.length 1,<- yb];exact c
  ·exact⟨a,.inr ⟨d,fr,q,by rw[bL,e];rfl⟩⟩
noncomputable def sB:vR MS:=[.ite (.cmp .Eq (.u "_law_made") (.lst [])) [.x0 "_law_made" (.lst [.u "_law_spare"]),.x0 "_law_spare" (.u "_law_top")] [.ite (.cmp .GtE (.u "_law_word") (.int 9)) [.x0 "_law_spare" (.call "_law_leaf" [.u "_law_script",.bin .Mod (.bin .FloorDiv (.u "_law_cell") (.int 36)) (.int 3)])] []],.x0 "_law_top" (.sub (.u "_law_made") (.int 0))]
noncomputable def oW:vR MS:=.ite (.cmp .Eq (.u "_law_made") (.lst [])) [.x0 "_law_made" (.call "_law_of_two" [.str "both",.u "_law_cell",.u "_law_top",.u "_law_spare"])] []::sB
noncomputable def p7:vR MS:=[.ite (.cmp .GtE (.bin .Add (.int 6) (.bin .Mult (.int 2) (.u "_law_k"))) (.blt "len" [.u "_law_script"])) [.ret (.u "_law_top")] [],.x0 "_law_word" (.sub (.lst [.int 0,.int 1,.int 8,.int 5,.int 4,.int 5,.int 6,.int 7,.int 8,.int 9,.int 9,.int 9,.int 12]) (.bin .Mod (.sub (.u "_law_script") (.bin .Add (.int 6) (.bin .Mult (.int 2) (.u "_law_k")))) (.int 13))),.x0 "_law_cell" (.call "_law_cell_at" [.u "_law_script",.bin .Add (.int 7) (.bin .Mult (.int 2) (.u "_law_k"))]),.x0 "_law_made" (.lst []),.ite (.cmp .Lt (.u "_law_word") (.int 9)) [.x0 "_law_made" (.lst [.call "_law_around" [.u "_law_word",.u "_law_cell",.u "_law_top"]]),.ite (.bop .And [.bop .Or [.cmp .Eq (.u "_law_word") (.int 8),.cmp .Eq (.u "_law_word") (.int 5)],.cmp .Gt (.bin .Mod (.u "_law_cell") (.int 4)) (.int 0)]) [.x0 "_law_made" (.lst [.call "_law_sieve_on" [.sub (.u "_law_made") (.int 0),.u "_law_cell"]])] []] [.ite (.cmp .Lt (.u "_law_word") (.int 12)) [.x0 "_law_made" (.call "_law_of_two" [.str "join",.u "_law_cell",.sub (.lst [.u "_law_top",.u "_law_spare"]) (.bin .Mod (.bin .FloorDiv (.u "_law_cell") (.int 2)) (.int 2)),.sub (.lst [.u "_law_spare",.u "_law_top"]) (.bin .Mod (.bin .FloorDiv (.u "_law_cell") (.int 2)) (.int 2))]),.ite (.bop .And [.cmp .NotEq (.u "_law_made") (.lst []),.cmp .Gt (.bin .Mod (.u "_law_cell") (.int 4)) (.int 0)]) [.x0 "_law_made" (.lst [.call "_law_sieve_on" [.sub (.u "_law_made") (.int 0),.u "_law_cell"]])] []] [.ite (.cmp .Eq (.bin .Mod (.u "_law_cell") (.int 3)) (.int 1)) [.x0 "_law_made" (.call "_law_of_two" [.str "both",.u "_law_cell",.u "_law_top",.call "_law_around" [.sub (.lst [.int 0,.int 6,.int 7]) (.bin .Mod (.bin .FloorDiv (.u "_law_cell") (.int 3)) (.int 3)),.call "_law_mixed" [.u "_law_cell",.int 5],.u "_law_top"]])] []]]]++oW
theorem lO.up{W R:Wd}{c dp c' b:Nat}{d:D}(h:lO W R c dp d)(h1:c<=c')(f:dp<=b):lO W R c' b d:=h.elim .inl λ⟨q,r,k,a,e⟩=>.inr ⟨q,r,k,a.up h1 f,e⟩
theorem uQ:b9 .Eq (.list []) (.list [])=ac (.bool vT):=rfl
theorem uR(t:D):b9 .Eq (.list [t]) (.list [])=ac (.bool vP):=rfl
theorem made_nf:b9 .NotEq (.list []) (.list [])=ac (.bool vP):=rfl
theorem made_nt(t:D):b9 .NotEq (.list [t]) (.list [])=ac (.bool vT):=rfl
section
variable {P:vR (vV×Fn)} {X:CF} {W R:Wd}
structure gH(W R:Wd)(S:D)(c dp:Nat)(σ:St):Prop where
 sc:Has σ "_law_script" S
 tp:∃ q r k,TpA W R c dp q r k/\Has σ "_law_top" (aF W q r k)
 sp:∃ q r k,TpA W R c dp q r k/\Has σ "_law_spare" (aF W q r k)
section
variable {S:D}{c dp:Nat}{σ:St}
theorem p6{cf:CF}(a:∀ k:Nat,k<3->∃ q r,TpA W R 0 0 q r 1/\cf.call "_law_leaf" [S,.int k]=ac (aF W q r 1,vP)){w z:Int}{d:D}(I:gH W R S c dp σ)(h1:Has σ "_law_word" (.int w))(U:Has σ "_law_cell" (.int z))(b:Has σ "_law_made" d)(V:lO W R c dp d) :
  Out cf sB σ λX BJ=>X=.next/\gH W R S c dp BJ:=by
 obtain⟨f,⟨A,B,C,Y,Z⟩,⟨q2,r2,k2,E,G⟩⟩:=I;have H:1<=big:=by decide
 rcases V with rfl | ⟨q,r,k,t,rfl⟩
 ·have h:aD (.list [aF W q2 r2 k2]) (.int 0)=ac (aF W q2 r2 k2):=rfl
  generalize j:aF W q2 r2 k2=i at *;generalize n:aF W A B C=J at *;refine d6 (k:=vT) (x:=.bool vT) (al (vr b) (cE vN (ww _)) uQ) QQ (λBF=>?_) nofun
  refine aM (ak (d:=.list [i]) (fr:=vT) (ao (cE (vv G vN) (vW QQ)) QQ QQ)) (aM (ak (d:=J) (fr:=frF (.u "_law_top") J) (ao (vr (ai QQ (av Z))) QQ QQ)) (aM (ak (d:=i) (fr:=frF (.sub (.u "_law_made") (.int 0)) i) (ao (ay (x:=.list [i]) (y:=.int 0) (vr (ai QQ (av aq))) vI h) QQ QQ)) (cu ⟨QQ,(ai QQ (av (ai QQ (av (ai QQ (av f)))))),⟨q2,r2,k2,E,?_⟩,⟨A,B,C,Y,?_⟩⟩)))
  ·rw[j];exact aq
  ·rw[n];exact ai QQ (av aq)
 ·have h:aD (.list [aF W q r k]) (.int 0)=ac (aF W q r k):=rfl
  generalize L:aF W q r k=T at *;refine d6 (k:=vP) (x:=.bool vP) (al (vr b) (cE vN (ww _)) (uR _)) QQ nofun λBF=>?_
  refine d6 (k:=decide (w ≥ 9)) (al (vr h1) vI QQ) QQ (λBF=>?_) λBF=>?_
  ·obtain⟨m,o,s⟩:=a9 (z / 36) (k:=3) (by decide)
   have o:z / 36 % 3=(m:Int):=o;obtain⟨M,N,Ca,O⟩:=a m s;rw[<- o] at O;generalize u:aF W M N 1=Cb at *;refine aM (ak (d:=Cb) (fr:=vP) (aI (vv f (aa (aj (aj (vr U) vI (aQ (dtt QQ))) vI (aB (dtt QQ))) vN)) O)) (aM (ak (d:=T) (fr:=frF (.sub (.u "_law_made") (.int 0)) T) (ao (ay (x:=.list [T]) (y:=.int 0) (vr (ai QQ (av b))) vI h) QQ QQ)) (cu ⟨QQ,(ai QQ (av (ai QQ (av f)))),⟨q,r,k,t,?_⟩,⟨M,N,1,Ca.up (ww _) (ww _),?_⟩⟩))
   ·rw[L];exact aq
   ·rw[u];exact ai QQ (av aq)
  ·refine aM (ak (d:=T) (fr:=frF (.sub (.u "_law_made") (.int 0)) T) (ao (ay (x:=.list [T]) (y:=.int 0) (vr b) vI h) QQ QQ)) (cu ⟨QQ,(ai QQ (av f)),⟨q,r,k,t,?_⟩,⟨q2,r2,k2,E,?_⟩⟩)
   ·rw[L];exact aq
   ·exact ai QQ (av G)
theorem gH.up{c' a:Nat}(I:gH W R S c dp σ)(h1:c<=c')(b:dp<=a):gH W R S c' a σ:=
 ⟨I.sc,let ⟨q,r,k,t,h⟩:=I.tp;⟨q,r,k,t.up h1 b,h⟩,let ⟨q,r,k,t,h⟩:=I.sp;⟨q,r,k,t.up h1 b,h⟩⟩
theorem gH.set{x:vV}{v:v7×D}{e:D}{ns:vR vV}(I:gH W R S c dp σ)(h1:("_law_script" == x)=vP)(a:("_law_top" == x)=vP)(b:("_law_spare" == x)=vP):gH W R S c dp (ax (settle e ns σ) x v):=
 ⟨ai h1 (av I.sc),let ⟨q,r,k,t,h⟩:=I.tp;⟨q,r,k,t,ai a (av h)⟩,let ⟨q,r,k,t,h⟩:=I.sp;⟨q,r,k,t,ai b (av h)⟩⟩
theorem step_mid(B:BN P)(n:Nat)(a:∀ k:Nat,k<3->∃ q r,TpA W R 0 0 q r 1/\(ae P X (n+7)).call "_law_leaf" [S,.int k]=ac (aF W q r 1,vP)){w z:Int}{d:D}(I:gH W R S c dp σ)(h1:Has σ "_law_word" (.int w))(b:Has σ "_law_cell" (.int z))(f:Has σ "_law_made" d)(h:lO W R (c+24) (dp+3) d) :
  Out (ae P X (n+7)) oW σ λi BJ=>i=.next/\gH W R S (c+24) (dp+3) BJ:=by
 obtain⟨y,⟨A,C,E,j,m⟩,⟨q2,r2,k2,o,s⟩⟩:=id I
 rcases h with rfl | ⟨q,r,k,t,rfl⟩
 ·obtain⟨G,fr,m',u⟩:=ll (X:=X) B (n+4) z j o
  refine d6 (k:=vT) (x:=.bool vT) (al (vr f) (cE vN (ww _)) uQ) QQ (λZ=>?_) nofun
  refine aM (ak (aI (aa vS (vv b (vv m (vv s vN)))) u)) ?_;exact p6 a ((I.set QQ QQ QQ).up (wB _ _) (wB _ _)) (ai QQ (av h1)) (ai QQ (av b)) aq (m'.up (by omega) (by omega))
 ·refine d6 (k:=vP) (x:=.bool vP) (al (vr f) (cE vN (ww _)) (uR _)) QQ nofun λZ=>?_
  exact p6 a (I.up (wB _ _) (wB _ _)) h1 b f (.inr ⟨q,r,k,t,QQ⟩)
end
end
set_option maxHeartbeats 800000
section
variable {P:vR (vV×Fn)} {X:CF} {W R:Wd}
theorem gH.u{S:D}{c dp:Nat}{σ:St}{x:vV}{v:v7×D}(I:gH W R S c dp σ)(h1:("_law_script" == x)=vP)(a:("_law_top" == x)=vP)(b:("_law_spare" == x)=vP):gH W R S c dp (ax σ x v):=
 ⟨ai h1 I.sc,let ⟨q,r,k,t,h⟩:=I.tp;⟨q,r,k,t,ai a h⟩,let ⟨q,r,k,t,h⟩:=I.sp;⟨q,r,k,t,ai b h⟩⟩
theorem script_at(ns:vR Int){k:Nat}(h:k<ns.length):aD (.list (ns.map .int)) (.int k)=ac (.int (ns.getD k 0)):=
 n7 (by rw[v9];exact h) (by rw[xL,wj h,wC,wj h];rfl)
theorem mz(l:vR Int)(a:0<l.length)(z:Int):∃ w:Int,aD (.list (l.map .int)) (.int (z % (l.length:Int)))=ac (.int w):=by
 obtain⟨d,⟨w,rfl⟩,h⟩:=bJ (l:=l.map .int) (by rw[v9];exact a) z (R:=λd=>∃ w:Int,d=.int w) λd b=>let ⟨w,_,e⟩:=wz.mp b;⟨w,e.symm⟩
 rw[v9] at h;exact⟨w,h⟩
theorem step_turn(B:BN P)(n:Nat){ns:vR Int}{c dp:Nat}(E:∀ k:Nat,k<3->∃ q r,TpA W R 0 0 q r 1/\(ae P X (n+7)).call "_law_leaf" [.list (ns.map .int),.int k]=ac (aF W q r 1,vP))(i:Nat){σ:St}(I:gH W R (.list (ns.map .int)) c dp σ) :
  Out (ae P X (n+7)) p7 (ax σ "_law_k" (vP,.int i)) λG BJ=>(G=.next/\gH W R (.list (ns.map .int)) (c+24) (dp+3) BJ)\/∃ d fr,G=.ret fr d/\∃ q r k,TpA W R c dp q r k/\d=aF W q r k:=by
 have s:fZ "len" [.list (ns.map .int)]=ac (.int ns.length):=by show ac (D.int ((ns.map D.int).length:Nat))=_;rw[v9]
 have Cg:=cU (X:=X) B.toBG (n+6) ns (7+2 * i);have Cz:((7+2 * i:Nat):Int)=7+2 * (i:Int):=by omega
 rw[Cz] at Cg;generalize ns.getD (7+2 * i) 0=z at *;have Ch:=I.u (x:="_law_k") (v:=(vP,.int i)) QQ QQ QQ;have H:Has (ax σ "_law_k" (vP,.int i)) "_law_k" (.int i):=aq;generalize ax σ "_law_k" (vP,.int i)=o at *;clear I;obtain⟨Y,⟨Z,Ca,f,u,j⟩,⟨q2,r2,k2,Cb,Cd⟩⟩:=id Ch;have fin:∀ {σ:St} {d:D} {w:Int},gH W R (.list (ns.map .int)) c dp σ->Has σ "_law_word" (.int w)->Has σ "_law_cell" (.int z)->Has σ "_law_made" d->lO W R (c+24) (dp+3) d ->
   Out (ae P X (n+7)) oW σ λG BJ=>(G=.next/\gH W R (.list (ns.map .int)) (c+24) (dp+3) BJ)\/∃ d fr,G=.ret fr d/\∃ q r k,TpA W R c dp q r k/\d=aF W q r k:=λI h1 O CA CB=>
  let ⟨G,BJ,q,e⟩:=step_mid B n E I h1 O CA CB;⟨G,BJ,.inl q,e⟩
 have A:ce .Mult (.int 2) (.int i)=ac (.int (2 * i)):=k9 (by decide)
 have h:evE (ae P X (n+7)) (vis o) (.bin .Add (.int 6) (.bin .Mult (.int 2) (.u "_law_k")))=ac (.int (6+2 * (i:Int))):=aj vI (aj vI (vr H) A) cm;refine d6 (k:=decide (6+2 * (i:Int) ≥ ns.length)) (al h (cg (vv Y vN) s) QQ) QQ (λBF=>?_) λCi=>?_
 ·obtain⟨fr,j⟩:=j
  exact o_retv j (.inr ⟨_,fr,QQ,Z,Ca,f,u,QQ⟩)
 have Ci:=yK Ci;have Cj:=script_at ns (k:=6+2 * i) (by omega)
 have CC:((6+2 * i:Nat):Int)=6+2 * (i:Int):=by omega
 rw[CC] at Cj;generalize ns.getD (6+2 * i) 0=y at *;obtain⟨w,Ce⟩:=mz [0,1,8,5,4,5,6,7,8,9,9,9,12] (by decide) y
 have Ce:aD (.list [.int 0,.int 1,.int 8,.int 5,.int 4,.int 5,.int 6,.int 7,.int 8,.int 9,.int 9,.int 9,.int 12]) (.int (y % 13))=ac (.int w):=Ce;have Cv:13<=big:=by decide
 clear Ci;have Ck:=Ch.set (x:="_law_word") (v:=(vP,.int w)) (e:=.int w) (ns:=ME.names (.sub (.lst [.int 0,.int 1,.int 8,.int 5,.int 4,.int 5,.int 6,.int 7,.int 8,.int 9,.int 9,.int 9,.int 12]) (.bin .Mod (.sub (.u "_law_script") (.bin .Add (.int 6) (.bin .Mult (.int 2) (.u "_law_k")))) (.int 13)))) QQ QQ QQ;refine aM (ak (d:=.int w) (fr:=vP) (ao (ay (x:=.list [.int 0,.int 1,.int 8,.int 5,.int 4,.int 5,.int 6,.int 7,.int 8,.int 9,.int 9,.int 9,.int 12]) QQ (aj (ay (vr Y) h Cj) vI (aB (by decide))) Ce) QQ QQ)) ?_
 have T:Has (ax (settle (.int w) (ME.names (.sub (.lst [.int 0,.int 1,.int 8,.int 5,.int 4,.int 5,.int 6,.int 7,.int 8,.int 9,.int 9,.int 9,.int 12]) (.bin .Mod (.sub (.u "_law_script") (.bin .Add (.int 6) (.bin .Mult (.int 2) (.u "_law_k")))) (.int 13)))) o) "_law_word" (vP,.int w)) "_law_k" (.int i):=ai QQ (av H);have U:Has (ax (settle (.int w) (ME.names (.sub (.lst [.int 0,.int 1,.int 8,.int 5,.int 4,.int 5,.int 6,.int 7,.int 8,.int 9,.int 9,.int 9,.int 12]) (.bin .Mod (.sub (.u "_law_script") (.bin .Add (.int 6) (.bin .Mult (.int 2) (.u "_law_k")))) (.int 13)))) o) "_law_word" (vP,.int w)) "_law_word" (.int w):=aq;generalize ax (settle (.int w) (ME.names (.sub (.lst [.int 0,.int 1,.int 8,.int 5,.int 4,.int 5,.int 6,.int 7,.int 8,.int 9,.int 9,.int 9,.int 12]) (.bin .Mod (.sub (.u "_law_script") (.bin .Add (.int 6) (.bin .Mult (.int 2) (.u "_law_k")))) (.int 13)))) o) "_law_word" (vP,.int w)=J at *;clear Y u j Cb Cd H h Ch;have Cw:=Ck.set (x:="_law_cell") (v:=(vP,.int z)) (e:=.int z) (ns:=ME.names (.call "_law_cell_at" [.u "_law_script",.bin .Add (.int 7) (.bin .Mult (.int 2) (.u "_law_k"))])) QQ QQ QQ;refine aM (ak (d:=.int z) (fr:=vP) (aI (vv Ck.sc (aa (aj vI (aj vI (vr T) A) cm) vN)) Cg)) ?_;have L:=Cw.set (x:="_law_made") (v:=(vT,.list [])) (e:=.list []) (ns:=ME.names (.lst [])) QQ QQ QQ;refine aM (ak (d:=.list []) (fr:=vT) QQ) ?_;have b:=ai (x:="_law_word") (y:="_law_made") (v:=(vT,.list [])) QQ (av (e:=.list []) (ns:=ME.names (.lst [])) (ai (x:="_law_word") (y:="_law_cell") (v:=(vP,.int z)) QQ (av (e:=.int z) (ns:=ME.names (.call "_law_cell_at" [.u "_law_script",.bin .Add (.int 7) (.bin .Mult (.int 2) (.u "_law_k"))])) U)));have a:=ai (x:="_law_cell") (y:="_law_made") (v:=(vT,.list [])) QQ (av (e:=.list []) (ns:=ME.names (.lst [])) (aq (σ:=settle (.int z) (ME.names (.call "_law_cell_at" [.u "_law_script",.bin .Add (.int 7) (.bin .Mult (.int 2) (.u "_law_k"))])) J) (x:="_law_cell") (fr:=vP) (d:=.int z)));have Cm:=aq (σ:=settle (.list []) (ME.names (.lst [])) (ax (settle (.int z) (ME.names (.call "_law_cell_at" [.u "_law_script",.bin .Add (.int 7) (.bin .Mult (.int 2) (.u "_law_k"))])) J) "_law_cell" (vP,.int z))) (x:="_law_made") (fr:=vT) (d:=.list [])
 generalize ax (settle (.list []) (ME.names (.lst [])) (ax (settle (.int z) (ME.names (.call "_law_cell_at" [.u "_law_script",.bin .Add (.int 7) (.bin .Mult (.int 2) (.u "_law_k"))])) J) "_law_cell" (vP,.int z))) "_law_made" (vT,.list [])=Cn at *;clear Ck Cw T U s Cj Cg Ce;obtain⟨Y,⟨Z,Ca,f,u,j⟩,⟨q2,r2,k2,Cb,Cd⟩⟩:=id L;refine d6 (k:=decide (w<9)) (al (vr b) vI QQ) QQ (λBF=>?_) λBF=>?_
 ·obtain⟨M,N,Cf,Co⟩:=lc (X:=X) B (n+1) w z u
  refine aM (ak (d:=.list [aF W M N f]) (fr:=vT) (ao (cE (aa (au (vv b (vv a (vv j vN))) Co) vN) (vW QQ)) QQ QQ)) ?_;have Cy:=L.set (x:="_law_made") (v:=(vT,.list [aF W M N f])) (e:=.list [aF W M N f]) (ns:=ME.names (.lst [.call "_law_around" [.u "_law_word",.u "_law_cell",.u "_law_top"]])) QQ QQ QQ;refine d6 (k:=(w == 8||w == 5)&&decide (z % 4 > 0)) (dX (k:=w == 8||w == 5) (l:=decide (z % 4 > 0)) (gV (k:=w == 8) (l:=w == 5) (al (vr (ai QQ (av b))) vI QQ) λBF=>bz (al (vr (ai QQ (av b))) vI QQ)) λBF=>bz (al (aj (vr (ai QQ (av a))) vI (aB (by decide))) vI QQ)) QQ (λBF=>?_) λBF=>?_
  ·obtain⟨V,rb,tb,Cp⟩:=qe (X:=X) B n z Cf
   refine aM (ak (d:=.list [aF W V rb f]) (fr:=vT) (ao (cE (aa (au (aa (ay (x:=.list [aF W M N f]) (y:=.int 0) (vr aq) vI QQ) (vv (ai QQ (av a)) vN)) Cp) vN) (vW QQ)) QQ QQ)) ?_;exact fin (Cy.set QQ QQ QQ) (ai QQ (av (ai QQ (av b)))) (ai QQ (av (ai QQ (av a)))) aq (.inr ⟨V,rb,f,tb.up (by omega) (by omega),QQ⟩)
  ·exact fin Cy (ai QQ (av b)) (ai QQ (av a)) aq (.inr ⟨M,N,f,Cf.up (by omega) (by omega),QQ⟩)
 ·refine d6 (k:=decide (w<12)) (al (vr b) vI QQ) QQ (λBF=>?_) λBF=>?_
  ·obtain⟨d,fr,m,u1,u2,Cq,Cr,Cs,Ct⟩:∃ d fr,∃ m:Nat,∃ u1 u2:D,lO W R (c+12) (dp+2) d/\aD (.list [aF W Z Ca f,aF W q2 r2 k2]) (.int (z / 2 % 2))=ac u1/\aD (.list [aF W q2 r2 k2,aF W Z Ca f]) (.int (z / 2 % 2))=ac u2/\(ae P X (n+7)).call "_law_of_two" [sD "join",.int z,u1,u2]=ac (d,fr):=by
    rcases (show z / 2 % 2=0\/z / 2 % 2=1 by omega) with e | e
    ·rw[e]
     obtain⟨d,fr,h1,O⟩:=lj (X:=X) B (n+4) z u Cb;exact⟨d,fr,0,_,_,h1,QQ,QQ,O⟩
    ·rw[e]
     obtain⟨d,fr,h1,O⟩:=lj (X:=X) B (n+4) z Cb u;exact⟨d,fr,0,_,_,h1,QQ,QQ,O⟩
   have C:evE (ae P X (n+7)) (vis Cn) (.bin .Mod (.bin .FloorDiv (.u "_law_cell") (.int 2)) (.int 2))=ac (.int (z / 2 % 2)):=aj (aj (vr a) vI (aQ (by decide))) vI (aB (by decide))
   refine aM (ak (aI (aa vS (vv a (aa (ay (cE (vv j (vv Cd vN)) (vW QQ)) C Cr) (aa (ay (cE (vv Cd (vv j vN)) (vW QQ)) C Cs) vN)))) Ct)) ?_
   rcases Cq with rfl | ⟨q,r,k,t,rfl⟩
   ·refine d6 (k:=vP) (x:=.bool (vP&&vP)) (dX (k:=vP) (l:=vP) (al (vr aq) (cE vN (ww _)) made_nf) nofun) QQ nofun λBF=>?_
    exact fin (L.set QQ QQ QQ) (ai QQ (av b)) (ai QQ (av a)) aq (.inl QQ)
   ·refine d6 (k:=vT&&decide (z % 4 > 0)) (dX (k:=vT) (l:=decide (z % 4 > 0)) (al (vr aq) (cE vN (ww _)) (made_nt _)) λBF=>bz (al (aj (vr (ai QQ (av a))) vI (aB (by decide))) vI QQ)) QQ (λBF=>?_) λBF=>?_
    ·obtain⟨V,rb,tb,Cp⟩:=qe (X:=X) B n z t
     refine aM (ak (d:=.list [aF W V rb k]) (fr:=vT) (ao (cE (aa (au (aa (ay (x:=.list [aF W q r k]) (y:=.int 0) (vr aq) vI QQ) (vv (ai QQ (av a)) vN)) Cp) vN) (vW QQ)) QQ QQ)) ?_;exact fin ((L.set QQ QQ QQ).set QQ QQ QQ) (ai QQ (av (ai QQ (av b)))) (ai QQ (av (ai QQ (av a)))) aq (.inr ⟨V,rb,k,tb.up (by omega) (by omega),QQ⟩)
    ·exact fin (L.set QQ QQ QQ) (ai QQ (av b)) (ai QQ (av a)) aq (.inr ⟨q,r,k,t.up (by omega) (by omega),QQ⟩)
  ·refine d6 (k:=z % 3 == 1) (al (aj (vr a) vI (aB (by decide))) vI QQ) QQ (λBF=>?_) λBF=>fin L b a Cm (.inl QQ)
   obtain⟨v,Cu⟩:=mz [0,6,7] (by decide) (z / 3)
   have Cu:aD (.list [.int 0,.int 6,.int 7]) (.int (z / 3 % 3))=ac (.int v):=Cu;obtain⟨CD,_,CE⟩:=mixed (X:=X) B.toBG (n+6) z 5;obtain⟨M,N,Cf,Co⟩:=lc (X:=X) B (n+1) v CD u;obtain⟨d,fr,Cq,Ct⟩:=ll (X:=X) B (n+4) z (u.up (wB _ 12) (xR _)) Cf;refine aM (ak (aI (aa vS (vv a (vv j (aa (au (aa (ay (x:=.list [.int 0,.int 6,.int 7]) (y:=.int (z / 3 % 3)) QQ (aj (aj (vr a) vI (aQ (by decide))) vI (aB (by decide))) Cu) (aa (au (vv a (aa vI vN)) CE) (vv j vN))) Co) vN)))) Ct)) ?_
   exact fin (L.set QQ QQ QQ) (ai QQ (av b)) (ai QQ (av a)) aq (Cq.up (by omega) (by omega))
end
set_option maxHeartbeats 800000
section
variable {P:vR (vV×Fn)} {X:CF} {W R:Wd}
noncomputable def IsTop(W R:Wd)(c dp:Nat)(d:D):Prop:=∃ q r k,TpA W R c dp q r k/\d=aF W q r k
theorem stepped_eq(B:BE P)(n:Nat){ns:vR Int}(a:∀ k:Nat,k<3->∃ q r,TpA W R 0 0 q r 1/\(ae P X (n+7)).call "_law_leaf" [.list (ns.map .int),.int k]=ac (aF W q r 1,vP)) :
  ∃ d fr,IsTop W R 216 27 d/\(ae P X (n+8)).call "_law_stepped" [.list (ns.map .int)]=ac (d,fr):=by
 have c2:(ae P X (n+7)).call "_law_cell_at" [.list (ns.map .int),.int 2]=ac (.int (ns.getD 2 0),vP):=cU (X:=X) B.toBG (n+6) ns 2;obtain⟨o,s,C,E⟩:=a 0 (by decide)
 obtain⟨u,w,G,H⟩:=a 1 (by decide)
 have turn:=λk i σ (I:gH W R (.list (ns.map .int)) (24 * k) (3 * k) σ)=>step_turn B.toBN n a (c:=24 * k) (dp:=3 * k) i I
 generalize ns.getD 2 0=z at *;generalize D.list (ns.map .int)=S at *;obtain⟨d,⟨m,rfl,J⟩,j⟩:=bJ (l:=[.int 3,.int 5,.int 2,.int 9]) (by decide) z (R:=λd=>∃ m:Nat,d=.int m/\m<=9) (by
  intro d j;simp only[wf,wG,xx] at j
  rcases j with rfl | rfl | rfl | rfl <;> first | exact⟨3,QQ,by decide⟩ | exact⟨5,QQ,by decide⟩ | exact⟨2,QQ,by decide⟩ | exact⟨9,QQ,by decide⟩)
 have j:aD (.list [.int 3,.int 5,.int 2,.int 9]) (.int (z % 4))=ac (.int m):=j;have L:9<=big:=by decide
 refine bW (X:=X) (args:=[S]) B.st QQ ?_;refine bG (ak (aI (aa (d:=S) QQ (aa (d:=.int 0) QQ vN)) E)) ?_;refine bG (ak (aI (aa (d:=S) QQ (aa (d:=.int 1) QQ vN)) H)) ?_;generalize f:ax (settle (aF W u w 1) (ME.names (.call "_law_leaf" [.u "_law_script",.int 1])) (ax (settle (aF W o s 1) (ME.names (.call "_law_leaf" [.u "_law_script",.int 0])) _) "_law_top" (vP,aF W o s 1))) "_law_spare" (vP,aF W u w 1)=σ;have A:Has σ "_law_script" S:=by rw[<- f];exact⟨_,QQ⟩
 have M:Has σ "_law_top" (aF W o s 1):=by rw[<- f];exact⟨_,QQ⟩
 have N:Has σ "_law_spare" (aF W u w 1):=by rw[<- f];exact⟨_,QQ⟩
 obtain⟨BJ,c⟩:=mI (cf:=ae P X (n+7)) (body:=p7) (z:="_law_k") (λk σ=>gH W R S (24 * k) (3 * k) σ) (λd Z=>IsTop W R 216 27 d) m ((wR m).map λ(i:Nat)=>D.int (i:Int)) 0 (freeze (ME.names (.blt "range" [.sub (.lst [.int 3,.int 5,.int 2,.int 9]) (.bin .Mod (.call "_law_cell_at" [.u "_law_script",.int 2]) (.int 4))])) σ) (by rw[v9,xo];omega) ⟨cx A,⟨o,s,1,C,cx M⟩,⟨u,w,1,G,cx N⟩⟩ (by
  intro k T σ U y I;obtain⟨i,_,rfl⟩:=wz.mp y;obtain⟨O,BJ,q,e⟩:=turn k i σ I;refine⟨O,BJ,?_,e⟩
  rcases q with q | ⟨d,fr,h1,q,r,k',t,h2⟩
  ·exact .inl q
  ·exact .inr ⟨d,fr,h1,q,r,k',t.up (by omega) (by omega),h2⟩)
 have b:evE (ae P X (n+7)) (vis σ) (.blt "range" [.sub (.lst [.int 3,.int 5,.int 2,.int 9]) (.bin .Mod (.call "_law_cell_at" [.u "_law_script",.int 2]) (.int 4))])=ac (.rng 0 m):=
  cg (aa (ay (x:=.list [.int 3,.int 5,.int 2,.int 9]) QQ (aj (au (vv A (aa vI vN)) c2) vI (aB (by decide))) j) vN) (kg (v6 J L))
 rcases c with⟨I,e⟩ | ⟨d,fr,h,e⟩
 ·refine q_for b (d8 m) e ?_
  obtain⟨q,r,k,t,fr,h⟩:=I.tp;rw[v9,xo,x9] at t;exact q_retv h ⟨q,r,k,t.up (by omega) (by omega),QQ⟩
 ·exact q_forR b (d8 m) e h
end
noncomputable def ix:Fn:=⟨["_law_cell","_law_wide","_law_many_here"],[
  .x0 "_law_rows" (.lst []),
  .for_ "_law_at" (.blt "range" [.u "_law_many_here"]) [.x0 "_law_like" (.bin .Sub (.u "_law_at") (.bin .FloorDiv (.bin .Mod (.u "_law_at") (.int 3)) (.int 2))),.ite (.cmp .Eq (.bin .Mod (.u "_law_at") (.int 5)) (.int 4)) [.x0 "_law_like" (.int 0)] [],.append "_law_rows" (.blt "tuple" [.comp (.call "_law_thing_by" [.call "_law_mixed" [.u "_law_cell",.bin .Add (.bin .Mult (.int 13) (.u "_law_like")) (.u "_law_k")]]) "_law_k" (.blt "range" [.u "_law_wide"]) []])],
  .ret (.u "_law_rows")]⟩
noncomputable def je:Fn:=⟨["_law_script","_law_more"],[
  .x0 "_law_names_here" (.call "_law_names" [.u "_law_script"]),
  .x0 "_law_tables_here" (.dct [] []),
  .for_ "_law_k" (.blt "range" [.int 3]) [.x0 "_law_shape" (.call "_law_cell_at" [.u "_law_script",.u "_law_k"]),.x0 "_law_cell" (.call "_law_mixed" [.call "_law_cell_at" [.u "_law_script",.bin .Add (.int 3) (.u "_law_k")],.bin .Add (.int 80) (.u "_law_more")]),.setk "_law_tables_here" (.sub (.u "_law_names_here") (.u "_law_k")) (.call "_law_rows_by" [.u "_law_cell",.call "_law_wide_by" [.u "_law_shape"],.call "_law_rows_of" [.u "_law_shape"]])],
  .ret (.u "_law_tables_here")]⟩
structure BT(P:vR (vV×Fn)):Prop extends BE P,BA P where
 rowsBy:P.lookup "_law_rows_by"=ac ix
 tables:P.lookup "_law_tables"=ac je
noncomputable abbrev rowsB:vR MS:=[.x0 "_law_like" (.bin .Sub (.u "_law_at") (.bin .FloorDiv (.bin .Mod (.u "_law_at") (.int 3)) (.int 2))),.ite (.cmp .Eq (.bin .Mod (.u "_law_at") (.int 5)) (.int 4)) [.x0 "_law_like" (.int 0)] [],.append "_law_rows" (.blt "tuple" [.comp (.call "_law_thing_by" [.call "_law_mixed" [.u "_law_cell",.bin .Add (.bin .Mult (.int 13) (.u "_law_like")) (.u "_law_k")]]) "_law_k" (.blt "range" [.u "_law_wide"]) []])]
section
variable {P:vR (vV×Fn)} {X:CF}
theorem rows_by(B:BT P)(n:Nat)(c:Int){m k:Nat}(E:m<=1000)(s:k<=60):∃ t:Tab,bB m t/\t.length=k/\(ae P X (n+3)).call "_law_rows_by" [.int c,.int m,.int k]=ac (aK t,vT):=by
 obtain⟨BJ,⟨t,h1,f,o,_⟩,e⟩:=lw (cf:=ae P X (n+2)) (body:=rowsB) (z:="_law_at") (g:=λi:Nat=>D.int (i:Int)) (λb σ=>∃ t:Tab,bB m t/\t.length=b.length/\cV σ "_law_rows" (aK t)/\Has σ "_law_cell" (.int c)/\Has σ "_law_wide" (.int m)) (wR k) [] (freeze ["_law_many_here"] (ax [("_law_cell",(vP,.int c)),("_law_wide",(vP,.int m)),("_law_many_here",(vP,.int k))] "_law_rows" (vT,.list [])))
  ⟨[],(λZ h=>nomatch h),QQ,nP QQ fw,cx (ai QQ ad),cx (ai QQ (af QQ ad))⟩ (by
  rintro b i σ _ u ⟨t,h1,f,o,w,y⟩;have fin:∀ (L:Int) (σ:St),cV σ "_law_rows" (aK t)->Has σ "_law_cell" (.int c)->Has σ "_law_wide" (.int m)->Has σ "_law_like" (.int L)->Out (ae P X (n+2)) (rowsB.drop 2) σ λG BJ=>G=.next/\∃ t:Tab,bB m t/\t.length=(b++[i]).length/\cV BJ "_law_rows" (aK t)/\Has BJ "_law_cell" (.int c)/\Has BJ "_law_wide" (.int m):=λL σ H A C I=>by
   obtain⟨J,M,q2,N⟩:=ji (cf:=ae P X (n+2)) (ρ:=vis σ) (z:="_law_k") (elt:=.call "_law_thing_by" [.call "_law_mixed" [.u "_law_cell",.bin .Add (.bin .Mult (.int 13) (.u "_law_like")) (.u "_law_k")]]) (BH:=.u "_law_wide") E r9 (vr C) λj Z=>by
    obtain⟨r,_,a⟩:=mixed (X:=X) B.toBG (n+1) c (13 * L+j);obtain⟨d,O,q⟩:=pZ (X:=X) B.toBG n r;exact⟨d,O,au (aa (au (aa (aH (bR QQ (aV A))) (aa (aj (aj vI (aH (bR QQ (aV I))) (k9 (by decide))) (aH cw) cm) vN)) a) vN) q⟩
   refine aM (eu (ds:=t.map .tup) N (gR QQ H) ?_) (cu ⟨QQ,t++[J],λr a=>(xa.mp a).elim (h1 r) λa=>wl.mp a▸⟨M,λd q=>(q2 d q).cell⟩,?_,?_,ai QQ (av A),ai QQ (av C)⟩)
   ·rw[v9,f]
    exact wJ (by rw[xo,za,x9] at u;exact u) (v6 s (by decide))
   ·rw[wn,wn,f];rfl
   ·rw[iL];exact fw
  refine aM (bq (d:=.int (i - i % 3 / 2)) (fr:=vP) (ao (aj (vr aq) (aj (aj (vr aq) vI (aB (by decide))) vI (aQ (by unfold lim;decide))) nS) QQ QQ) QQ) (d6 (k:=(i:Int) % 5 == 4) (al (aj (vr (ai QQ aq)) vI (aB (by decide))) vI QQ) QQ (λZ=>?_) λZ=>?_)
  ·exact aM (bq (d:=.int 0) (fr:=vP) (ao vI QQ QQ) QQ) (fin 0 _ (eW QQ (eW QQ (eW QQ o))) (ai QQ (ai QQ (ai QQ w))) (ai QQ (ai QQ (ai QQ y))) aq)
  ·exact fin _ _ (eW QQ (eW QQ o)) (ai QQ (ai QQ w)) (ai QQ (ai QQ y)) aq)
 refine⟨t,h1,f.trans (by rw[zy,xo]),az B.rowsBy QQ ?_⟩
 exact aA (ak (d:=.list []) (fr:=vT) QQ) (gK (x:=.rng 0 k) (cg (aa (d:=.int k) (vr (ai QQ (af QQ (af QQ ad)))) vN) (kg (v6 s (by decide)))) (d8 k) e (eF o))
noncomputable abbrev tabsB:vR MS:=[.x0 "_law_shape" (.call "_law_cell_at" [.u "_law_script",.u "_law_k"]),.x0 "_law_cell" (.call "_law_mixed" [.call "_law_cell_at" [.u "_law_script",.bin .Add (.int 3) (.u "_law_k")],.bin .Add (.int 80) (.u "_law_more")]),.setk "_law_tables_here" (.sub (.u "_law_names_here") (.u "_law_k")) (.call "_law_rows_by" [.u "_law_cell",.call "_law_wide_by" [.u "_law_shape"],.call "_law_rows_of" [.u "_law_shape"]])]
structure TabI(S:D)(a b c:Str)(more:Int)(ks vs:vR D)(σ:St):Prop where
 s:Has σ "_law_script" S
 m:Has σ "_law_more" (.int more)
 n:Has σ "_law_names_here" (.list [.str a,.str b,.str c])
 t:cV σ "_law_tables_here" (.dict ks vs)
theorem kA(B:BT P)(n:Nat)(ns:vR Int){a b c:Str}{f:Int}{i:Nat}{nm:Str}{ks vs:vR D}(u:aD (.list [.str a,.str b,.str c]) (.int i)=ac (.str nm))(w:cJ (.str nm) ks=vT)(y:ks.length<4)(j:∀ x∈ks,aU x (.str nm)=vP)(h:ks.length=vs.length){σ:St}(I:TabI (.list (ns.map .int)) a b c f ks vs σ) :
  ∃ t BJ,(bB (aG (ns.getD i 0)) t/\t.length=cN (ns.getD i 0))/\TabI (.list (ns.map .int)) a b c f (ks++[.str nm]) (vs++[aK t]) BJ/\aY (ae P X (n+4)) tabsB (ax σ "_law_k" (vP,.int i))=ac (.next,BJ):=by
 have c1:=cU (X:=X) B.toBG (n+3) ns i;have c2:=cU (X:=X) B.toBG (n+3) ns (3+i);obtain⟨x,_,z⟩:=mixed (X:=X) B.toBG (n+3) (ns.getD (3+i) 0) (80+f);obtain⟨t,A,C,E⟩:=rows_by (X:=X) B (n+1) x (m:=aG (ns.getD i 0)) (k:=cN (ns.getD i 0)) (v6 (sw _) (by decide)) (v6 (lX (X:=X) B.toBE 0 _).1 (by decide))
 have G:=jE (X:=X) B.toBE (n+3) (ns.getD i 0);have w2:=(lX (X:=X) B.toBE (n+3) (ns.getD i 0)).2;have H:((3+i:Nat):Int)=3+(i:Int):=xA 3 i;rw[H] at c2;obtain⟨o,BJ,⟨rfl,q⟩,e⟩:Out (ae P X (n+4)) tabsB (ax σ "_law_k" (vP,.int i)) λo BJ=>o=.next/\TabI (.list (ns.map .int)) a b c f (ks++[.str nm]) (vs++[aK t]) BJ:=by
  refine aM (bq (d:=.int (ns.getD i 0)) (fr:=vP) (aI (vv (ai QQ I.s) (vv aq vN)) c1) QQ) ?_;refine aM (bq (d:=.int x) (fr:=vP) (aI (aa (au (vv (ai QQ (ai QQ I.s)) (aa (aj vI (vr (ai QQ aq)) cm) vN)) c2) (aa (aj vI (vr (ai QQ (ai QQ I.m))) cm) vN)) z) QQ) ?_;refine aM (rO (d:=aK t) (dk:=.str nm) (ks:=ks) (vs:=vs) (au (vv aq (aa (au (vv (ai QQ aq) vN) G) (aa (au (vv (ai QQ aq) vN) w2) vN))) E) (ay (vr (ai QQ (ai QQ (ai QQ I.n)))) (vr (ai QQ (ai QQ aq))) u) (gR QQ (gR QQ (eW QQ (eW QQ (eW QQ I.t))))) (by rw[w,xF (xm y (by decide))];rfl)) (cu ⟨QQ,?_,?_,?_,?_⟩)
  ·exact ai QQ (av (av (ai QQ (ai QQ (ai QQ I.s)))))
  ·exact ai QQ (av (av (ai QQ (ai QQ (ai QQ I.m)))))
  ·exact ai QQ (av (av (ai QQ (ai QQ (ai QQ I.n)))))
  ·rw[pI h j];exact fw
 exact⟨t,BJ,⟨A,C⟩,q,e⟩
theorem for3{cf:CF}{body:vR MS}{z:vV}{σ a b c:St}{f h i:D}(j:aY cf body (ax σ z (vP,f))=ac (.next,a))(e1:aY cf body (ax a z (vP,h))=ac (.next,b))(m:aY cf body (ax b z (vP,i))=ac (.next,c)):cq (cP cf body z) [f,h,i] σ=ac (.next,c):=by
 rw[bL,j];show cq _ _ _=_;rw[bL,e1];show cq _ _ _=_;rw[bL,m];rfl
theorem tables_eq(B:BT P)(n:Nat)(ns:vR Int)(f:Int){a b c:Str}(s:a≠b)(u:a≠c)(w:b≠c)(E:(ae P X (n+4)).call "_law_names" [.list (ns.map .int)]=ac (.list [.str a,.str b,.str c],vT)) :
  ∃ j m o,((bB (aG (ns.getD 0 0)) j/\j.length=cN (ns.getD 0 0))/\(bB (aG (ns.getD 1 0)) m/\m.length=cN (ns.getD 1 0))/\(bB (aG (ns.getD 2 0)) o/\o.length=cN (ns.getD 2 0)))/\(ae P X (n+5)).call "_law_tables" [.list (ns.map .int),.int f]=ac (Tbs.d [(a,j),(b,m),(c,o)],vT):=by
 have G:TabI (.list (ns.map .int)) a b c f [] [] (freeze [] (ax (ax (freeze ["_law_script"] [("_law_script",(vP,.list (ns.map .int))),("_law_more",(vP,.int f))]) "_law_names_here" (vT,.list [.str a,.str b,.str c])) "_law_tables_here" (vT,.dict [] []))):=⟨cx (ai QQ (ai QQ (cx ad))),cx (ai QQ (ai QQ (cx (af QQ ad)))),cx (ai QQ aq),nP QQ fw⟩;have q:∀ {x y:Str},x≠y->∀ z∈[D.str x],aU z (.str y)=vP:=λh z A=>wl.mp A▸gY h
 obtain⟨j,H,I,J,L⟩:=kA (X:=X) B n ns (i:=0) (nm:=a) (ks:=[]) (vs:=[]) QQ QQ (vW QQ) (λx (h:x∈[])=>nomatch h) QQ G
 obtain⟨m,M,N,O,e1⟩:=kA (X:=X) B n ns (i:=1) (nm:=b) (ks:=[.str a]) (vs:=[aK j]) QQ QQ (vW QQ) (q s) QQ J;obtain⟨o,C,T,U,V⟩:=kA (X:=X) B n ns (i:=2) (nm:=c) (ks:=[.str a,.str b]) (vs:=[aK j,aK m]) QQ QQ (vW QQ) (λz A=>(wf.mp A).elim (λe=>e▸gY u) (q w z)) QQ O
 refine⟨j,m,o,⟨I,N,T⟩,az B.tables QQ ?_⟩;refine aA (ak (aI (vv ad vN) E)) (aA (ak (d:=.dict [] []) (fr:=vT) QQ) ?_);refine gK (x:=.rng 0 3) (BK:=[.int 0,.int 1,.int 2]) (BJ:=C) QQ QQ ?_ (eF U.t);exact for3 L e1 V
end
set_option maxHeartbeats 800000
noncomputable def tA:Fn:=⟨["query","widths"],[
  .expr (.call "width" [.u "query",.u "widths"]),
  .bad]⟩
noncomputable def m0:Fn:=⟨["query","widths","tables"],[
  .ret (.call "answer" [.call "plan" [.u "query",.u "widths"],.u "tables"])]⟩
noncomputable def jY:Fn:=⟨["_law_cell","_law_wide","_law_bad"],[
  .ite (.cmp .Eq (.u "_law_wide") (.int 0)) [.ret (.lst [.u "_law_bad"])] [],
  .x0 "_law_right" (.comp (.bin .Mod (.call "_law_mixed" [.u "_law_cell",.u "_law_k"]) (.u "_law_wide")) "_law_k" (.blt "range" [.bin .Mod (.u "_law_cell") (.int 11)]) []),
  .x0 "_law_at" (.bin .Mod (.bin .FloorDiv (.u "_law_cell") (.int 11)) (.bin .Add (.blt "len" [.u "_law_right"]) (.int 1))),
  .ret (.bin .Add (.bin .Add (.sl (.u "_law_right") .none (.u "_law_at")) (.lst [.u "_law_bad"])) (.sl (.u "_law_right") (.u "_law_at") .none))]⟩
noncomputable def cT:Fn:=⟨["_law_cell","_law_wide"],[
  .x0 "_law_far" (.bin .Mod (.bin .FloorDiv (.u "_law_cell") (.int 2)) (.int 3)),
  .ite (.cmp .Eq (.bin .Mod (.bin .FloorDiv (.u "_law_cell") (.int 6)) (.int 4)) (.int 1)) [.x0 "_law_far" (.bin .Mod (.bin .FloorDiv (.u "_law_cell") (.int 24)) (.bin .Pow (.int 10) (.int 30)))] [],
  .ite (.cmp .Eq (.bin .Mod (.u "_law_cell") (.int 2)) (.int 0)) [.ret (.bin .Add (.u "_law_wide") (.u "_law_far"))] [],
  .ret (.bin .Sub (.neg (.int 1)) (.u "_law_far"))]⟩
noncomputable def dN:Fn:=⟨["_law_way","_law_cell","_law_bad","_law_wide","_law_query"],[
  .x0 "_law_places" (.call "_law_among" [.u "_law_cell",.u "_law_wide",.u "_law_bad"]),
  .x0 "_law_other" (.u "_law_query"),
  .ite (.cmp .Gt (.u "_law_wide") (.int 0)) [.x0 "_law_other" (.tup [.str "pick",.bin .Mult (.tup [.int 0]) (.bin .Add (.int 1) (.bin .Mod (.bin .FloorDiv (.u "_law_cell") (.int 7)) (.bin .Add (.bin .Mult (.int 2) (.u "_law_wide")) (.int 2)))),.u "_law_query"])] [],
  .ite (.cmp .Eq (.u "_law_way") (.int 3)) [.ret (.tup [.str "pick",.blt "tuple" [.u "_law_places"],.u "_law_query"])] [],
  .ite (.cmp .Eq (.u "_law_way") (.int 4)) [.ret (.tup [.str "sieve",.blt "tuple" [.comp (.tup [.tup [.str "same",.u "_law_place",.str "is",.int 1]]) "_law_place" (.u "_law_places") []],.u "_law_query"])] [],
  .ite (.cmp .Eq (.u "_law_way") (.int 5)) [.ret (.tup [.str "sieve",.tup [.tup [],.blt "tuple" [.comp (.tup [.str "upto",.u "_law_place",.str "is",.str ""]) "_law_place" (.u "_law_places") []]],.u "_law_query"])] [],
  .ite (.cmp .Eq (.u "_law_way") (.int 6)) [.ret (.tup [.str "group",.blt "tuple" [.u "_law_places"],.tup [],.u "_law_query"])] [],
  .ite (.cmp .Eq (.u "_law_way") (.int 7)) [.x0 "_law_word" (.sub (.lst [.str "least",.str "count",.str "sum",.str "most"]) (.bin .Mod (.u "_law_cell") (.int 4))),.ret (.tup [.str "group",.tup [],.blt "tuple" [.comp (.tup [.u "_law_word",.u "_law_place"]) "_law_place" (.u "_law_places") []],.u "_law_query"])] [],
  .ite (.cmp .Eq (.u "_law_way") (.int 8)) [.ret (.tup [.str "order",.blt "tuple" [.comp (.tup [.u "_law_place",.cmp .Eq (.bin .Mod (.u "_law_cell") (.int 2)) (.int 0)]) "_law_place" (.u "_law_places") []],.u "_law_query"])] [],
  .ite (.bop .And [.cmp .Eq (.u "_law_way") (.int 9),.cmp .Gt (.u "_law_wide") (.int 0)]) [.ret (.tup [.str "join",.u "_law_other",.u "_law_query",.blt "tuple" [.comp (.tup [.int 0,.u "_law_place"]) "_law_place" (.u "_law_places") []]])] [],
  .ite (.cmp .Eq (.u "_law_way") (.int 9)) [.ret (.tup [.str "sieve",.tup [.tup [.tup [.str "from",.u "_law_bad",.str "col",.u "_law_bad"]]],.u "_law_query"])] [],
  .ite (.bop .And [.cmp .Eq (.u "_law_way") (.int 10),.cmp .Gt (.u "_law_wide") (.int 0),.cmp .Eq (.bin .Mod (.u "_law_cell") (.int 4)) (.int 0)]) [.ret (.tup [.str "sieve",.tup [.blt "tuple" [.comp (.tup [.str "from",.int 0,.str "col",.u "_law_place"]) "_law_place" (.u "_law_places") []]],.u "_law_query"])] [],
  .ite (.bop .And [.cmp .Eq (.u "_law_way") (.int 10),.cmp .Gt (.u "_law_wide") (.int 0),.cmp .Eq (.bin .Mod (.u "_law_cell") (.int 4)) (.int 1)]) [.ret (.tup [.str "sieve",.tup [.blt "tuple" [.comp (.tup [.str "same",.u "_law_place",.str "col",.int 0]) "_law_place" (.u "_law_places") []]],.u "_law_query"])] [],
  .ret (.tup [.str "join",.u "_law_query",.u "_law_other",.blt "tuple" [.comp (.tup [.u "_law_place",.blt "min" [.int 0,.bin .Sub (.u "_law_wide") (.int 1)]]) "_law_place" (.u "_law_places") []]])]⟩
noncomputable def iy:Fn:=⟨["_law_cell","_law_query"],[
  .x0 "_law_word" (.sub (.lst [.str "drop",.str "",.str "Sieve",.str "tables",.str "joins"]) (.bin .Mod (.u "_law_cell") (.int 5))),
  .x0 "_law_wrong_here" (.tup [.str "table",.bin .Add (.str "x") (.call "_law_sign_by" [.u "_law_cell"])]),
  .x0 "_law_tails" (.lst [.tup [],.tup [.int 5],.tup [.u "_law_wrong_here"],.tup [.u "_law_query",.u "_law_query"],.tup [.u "_law_wrong_here",.tup [.str "first",.neg (.int 1),.u "_law_query"]],.tup [.tup [],.u "_law_query"],.tup [.str "table",.u "_law_query"]]),
  .ret (.bin .Add (.tup [.u "_law_word"]) (.sub (.u "_law_tails") (.bin .Mod (.bin .FloorDiv (.u "_law_cell") (.int 5)) (.int 7))))]⟩
noncomputable def gB:Fn:=⟨["_law_way","_law_cell","_law_query","_law_wide"],[
  .ite (.cmp .Eq (.u "_law_way") (.int 0)) [.ret (.tup [.call "_law_no_step" [.u "_law_cell",.u "_law_query"],.int 1])] [],
  .ite (.cmp .Eq (.u "_law_way") (.int 1)) [.x0 "_law_lost" (.tup [.str "table",.bin .Add (.str "x") (.call "_law_sign_by" [.bin .FloorDiv (.u "_law_cell") (.int 4)])]),.x0 "_law_some" (.lst [.tup [.str "join",.u "_law_query",.u "_law_lost",.tup []],.tup [.str "both",.u "_law_query",.u "_law_lost"],.tup [.str "both",.u "_law_lost",.u "_law_query"],.tup [.str "join",.u "_law_lost",.u "_law_query",.tup []]]),.ret (.tup [.sub (.u "_law_some") (.bin .Mod (.u "_law_cell") (.int 4)),.int 2])] [],
  .ite (.bop .Or [.cmp .Eq (.u "_law_way") (.int 2),.bop .And [.cmp .Eq (.u "_law_way") (.int 11),.cmp .Eq (.u "_law_wide") (.int 0)]]) [.ret (.tup [.tup [.str "first",.bin .Sub (.neg (.int 1)) (.bin .Mod (.u "_law_cell") (.bin .Pow (.int 10) (.int 20))),.u "_law_query"],.int 3])] [],
  .ite (.cmp .Eq (.u "_law_way") (.int 11)) [.x0 "_law_many_here" (.bin .Mod (.bin .FloorDiv (.u "_law_cell") (.int 2)) (.int 9)),.ite (.cmp .Eq (.u "_law_many_here") (.u "_law_wide")) [.x0 "_law_many_here" (.bin .Add (.u "_law_wide") (.int 1))] [],.x0 "_law_other" (.tup [.str "pick",.bin .Mult (.tup [.int 0]) (.u "_law_many_here"),.u "_law_query"]),.ret (.tup [.sub (.lst [.tup [.str "both",.u "_law_query",.u "_law_other"],.tup [.str "both",.u "_law_other",.u "_law_query"]]) (.bin .Mod (.u "_law_cell") (.int 2)),.int 5])] [],
  .ret (.tup [.call "_law_bad_column" [.u "_law_way",.call "_law_mixed" [.u "_law_cell",.int 3],.call "_law_bad_place" [.u "_law_cell",.u "_law_wide"],.u "_law_wide",.u "_law_query"],.int 4])]⟩
structure BZ(P:vR (vV×Fn)):Prop extends BT P,BW P where
 among:P.lookup "_law_among"=ac jY
 badp:P.lookup "_law_bad_place"=ac cT
 badc:P.lookup "_law_bad_column"=ac dN
 nost:P.lookup "_law_no_step"=ac iy
 wrong:P.lookup "_law_wrong"=ac gB
section
variable {P:vR (vV×Fn)} {X:CF} {T:D}
noncomputable def ZW(P:vR (vV×Fn))(X:CF)(f:vV)(T:D)(k:Nat)(q:D)(c:vV):Prop:=∀ n,k<=n->Bd (ae P X n) f [q,T] c
noncomputable def OW(P:vR (vV×Fn))(X:CF)(T:D)(k:Nat)(q:D)(w:Nat):Prop:=∀ n,k<=n->(ae P X n).call "width" [q,T]=ac (.int w,vP)
theorem ZW.up{f:vV}{k a:Nat}{q:D}{c:vV}(h:ZW P X f T k q c)(b:k<=a):ZW P X f T a q c:=λn i=>h n (v6 b i)
theorem lvl{k n:Nat}(h:k+1<=n):∃ m,n=m+1/\k<=m:=by cases n with | zero=>cases h | succ m=>exact⟨m,QQ,Nat.le_of_succ_le_succ h⟩
theorem Bd.pos{n:Nat}{f:vV}{ds:vR D}{c:vV}(h:Bd (ae P X n) f ds c):∃ m,n=m+1:=by
 cases n with
 | zero=>exact nomatch h.rz
 | succ m=>exact⟨m,QQ⟩
structure ry(P:vR (vV×Fn))(X:CF)(T:D)(w:Nat)(q d:D)(c:vV):Prop where
 z:∀ k c',bx.contains c'=vT->ZW P X "width" T k q c'->ZW P X "width" T (k+2) d c'
 o:∀ k,3<=k->OW P X T k q w->ZW P X "width" T (k+2) d c
variable (B:BW P) (hX:X.glob "STEPS"=ac (.tup aJ))
include B hX
theorem ud{wd c:vV}(a:wd∈lI)(b:bx.contains c=vT){q d:D}(f:aD d (.int 0)=ac (sD wd))(i:aD d (.int (-1))=ac q){k:Nat}(h:ZW P X "width" T k q c):ZW P X "width" T (k+1) d c:=λn j=>by
 obtain⟨m,rfl,o⟩:=lvl j;have:=h m o;obtain⟨m,rfl⟩:=this.pos;exact wb_up B hX m a b f i this
theorem jh{wd c:vV}(a:wd="join"\/wd="both")(b:bx.contains c=vT){q d:D}(f:aD d (.int 0)=ac (sD wd))(h1:aD d (.int 1)=ac q){k:Nat}(h:ZW P X "width" T k q c):ZW P X "width" T (k+1) d c:=λn i=>by
 obtain⟨m,rfl,j⟩:=lvl i;exact wb_two1 B hX m a b f h1 (h m j)
theorem lu{wd c:vV}(b:wd∈lI)(o:bx.contains c=vT){q d:D}{w:Nat}(f:aD d (.int 0)=ac (sD wd))(i:aD d (.int (-1))=ac q)(s:∀ n,Bd (ae P X (n+2)) "width_upon" [d,.int w] c):ry P X T w q d c:=
 ⟨λk y a h=>(ud B hX b a f i h).up (xR _),λk z h n t=>by
  obtain⟨m,rfl,u⟩:=lvl (Nat.le_of_succ_le t);obtain⟨j,rfl⟩:∃ j,m=j+2:=⟨m - 2,by omega⟩
  exact wb_upon B hX (j+2) b o f i (h _ u) (s j)⟩
noncomputable def eZ(k:Nat)(q:D):D:=.tup [sD "pick",.tup (wV k (.int 0)),q]
section
variable {q:D}{j w:Nat}
theorem jM{k:Nat}(b:0<w)(s:2<=k)(h:OW P X T k q w):OW P X T (k+1) (eZ j q) j:=λn c=>by
 obtain⟨m,rfl,f⟩:=lvl c;obtain⟨i,rfl⟩:∃ i,m=i+2:=⟨m - 2,by omega⟩
 have e:(wV j (D.int 0))=(wV j (0:Nat)).map bi:=by rw[List.map_replicate];rfl
 have u:=n3 (X:=X) B i (ps:=wV j 0) (I:=q) (a:=w) λp o=>by rw[(List.mem_replicate.mp o).2];exact b
 rw[<- e,Am] at u;exact di B hX (i+2) (wd:="pick") (by decide) QQ QQ (h _ f) u
theorem pU{c:vV}(a:bx.contains c=vT){k:Nat}(h:ZW P X "width" T k q c):ZW P X "width" T (k+1) (eZ j q) c:=ud B hX (wd:="pick") (by decide) a QQ QQ h
theorem o2_joinR{prs:vR (Int×Int)}(c:0<w)(u:0<j)(f:prs.length<=big)(h1:∀ x∈prs,x.1=0)(h:∃ x∈prs,dG w x.2):ry P X T w q (.tup [sD "join",eZ j q,q,.tup (prs.map prI)]) "NoColumn":=
 ⟨λk y a h=>jh B hX (.inl QQ) a QQ QQ (pU B hX a h),λk z b n o=>by
  obtain⟨m,rfl,s⟩:=lvl o;obtain⟨i,rfl⟩:∃ i,m=i+2:=⟨m - 2,by omega⟩
  exact lU B hX (i+2) (.inl QQ) (by decide) QQ QQ QQ (jM B hX c (by omega) b _ s) (b _ (by omega)) (tb_join2 B i f (λx t q=>by rw[h1 x t] at q;unfold dG at q;omega) h)⟩
theorem o2_joinL{d:D}{prs:vR (Int×Int)}(f:d=q\/(0<w/\d=eZ j q))(o:prs.length<=big)(h:∃ x∈prs,dG w x.1):ry P X T w q (.tup [sD "join",q,d,.tup (prs.map prI)]) "NoColumn":=
 ⟨λk u a h=>(jh B hX (.inl QQ) a QQ QQ h).up (xR _),λk y c n s=>by
  obtain⟨m,rfl,t⟩:=lvl s;obtain⟨i,rfl⟩:∃ i,m=i+2:=⟨m - 2,by omega⟩
  have k2:∃ b:Nat,(ae P X (i+2)).call "width" [d,T]=ac (.int b,vP):=by
   rcases f with rfl | ⟨hw,rfl⟩
   ·exact⟨w,c _ (by omega)⟩
   ·exact⟨j,jM B hX hw (by omega) c _ t⟩
  obtain⟨b,k2⟩:=k2;exact lU B hX (i+2) (.inl QQ) (by decide) QQ QQ QQ (c _ (by omega)) k2 (tb_join1 B i o h)⟩
theorem o2_both(s:0<w)(t:j≠w)(b:v7):ry P X T w q (if b then .tup [sD "both",q,eZ j q] else .tup [sD "both",eZ j q,q]) "UnlikeSides":=by
 cases b with
 | true=>exact⟨λk u a h=>(jh B hX (.inr QQ) a QQ QQ h).up (xR _),λk y c n f=>by
   obtain⟨m,rfl,o⟩:=lvl f;obtain⟨i,rfl⟩:∃ i,m=i+1:=⟨m - 1,by omega⟩
   exact lU B hX (i+1) (.inr QQ) (by decide) QQ QQ QQ (c _ (by omega)) (jM B hX s (by omega) c _ o) (sA B i λe=>t e.symm)⟩
 | false=>exact⟨λk u a h=>jh B hX (.inr QQ) a QQ QQ (pU B hX a h),λk y c n f=>by
   obtain⟨m,rfl,o⟩:=lvl f;obtain⟨i,rfl⟩:∃ i,m=i+1:=⟨m - 1,by omega⟩
   exact lU B hX (i+1) (.inr QQ) (by decide) QQ QQ QQ (jM B hX s (by omega) c _ o) (c _ (by omega)) (sA B i t)⟩
end
end
set_option maxHeartbeats 800000
theorem fi{cf:CF}{z:vV}{e:ME}{r:vR MS}{σ:St}{d:D}{fr:v7}{Q:D->v7->Prop}(h:evF cf (vis σ) e=ac (d,fr))(k:∀ BJ:St,(∀ x u,(x == z)=vP->Has σ x u->Has BJ x u)->Has BJ z d->Rex cf r BJ Q):Rex cf (.x0 z e::r) σ Q:=
 bG (ak h) (k _ (λx u a i=>ai a (av i)) aq)
theorem tP(j k:Nat):bnd (.int j) k=ac j:=by
 show (if (0:Int)<=(j:Int) then ac (j:Int).toNat else wa)=_
 rw[wh (xk j)];rfl
theorem r_asg{cf:CF}{z:vV}{e:ME}{r:vR MS}{σ:St}{d R:D}{fr f:v7}(h:evF cf (vis σ) e=ac (d,fr))(k:∀ BJ:St,(∀ x u,(x == z)=vP->Has σ x u->Has BJ x u)->Has BJ z d->Run cf r BJ R f):Run cf (.x0 z e::r) σ R f:=
 aA (ak h) (k _ (λx u a i=>ai a (av i)) aq)
theorem v_lrows{cf:CF}{ρ:vR (vV×D)}{z:vV}{elt BH:ME}{k:Nat}(f:k<=1000)(R:D->Prop)(j:evE cf ρ BH=ac (.int k))(h:∀ i:Nat,i<k->∃ d,R d/\evE cf ((z,.int i)::ρ) elt=ac d) :
  ∃ ds:vR D,ds.length=k/\(∀ d∈ds,R d)/\evE cf ρ (.comp elt z (.blt "range" [BH]) [])=ac (.list ds):=by
 obtain⟨ds,e,m,n⟩:=nk (j7 cf ρ elt z []) (λZ d=>R d) ((wR k).map λ(i:Nat)=>D.int (i:Int)) (by
  intro t b;obtain⟨i,o,rfl⟩:=wz.mp b;obtain⟨d,q,e⟩:=h i (yV.mp o);exact⟨d,q,eS e⟩)
 have c:k<=big:=v6 f (by decide)
 have a:((wR k).map λ(i:Nat)=>D.int (i:Int)).length=k:=by simp
 exact⟨ds,m.trans a,λd s=>let ⟨_,_,q⟩:=n d s;q,gX (cg (aa j vN) (kg c)) (d8 k) (v6 (wD a) c) e⟩
theorem v_over{cf:CF}{ρ:vR (vV×D)}{z:vV}{elt BH:ME}{is:vR Int}{g:Int->D}(a:evE cf ρ BH=ac (.list (is.map .int)))(b:is.length<=big)(h:∀ i,evE cf ((z,.int i)::ρ) elt=ac (g i)):evE cf ρ (.blt "tuple" [.comp elt z BH []])=ac (.tup (is.map g)):=
 cg (aa (gX a QQ (by rw[v9];exact b) (j6 _ D.int g is λi Z=>eS (h i))) vN) QQ
section
variable {P:vR (vV×Fn)} {X:CF} {T:D}
theorem bad_place(B:BZ P)(n:Nat)(c:Int)(w:Nat):∃ b:Int,dG w b/\(ae P X (n+1)).call "_law_bad_place" [.int c,.int w]=ac (.int b,vP):=by
 have a:ce .Pow (.int 10) (.int 30)=ac (.int (10 ^ 30)):=oM ⟨by decide +kernel,by decide +kernel,by decide,by decide⟩
 have h1:0<=c / 2 % 3:=w8 _ (by decide)
 have q:0<=c / 24 % 10 ^ 30:=w8 _ (by decide)
 have fin:∀ (f:Int) (σ:St),0<=f->Has σ "_law_cell" (.int c)->Has σ "_law_wide" (.int w)->Has σ "_law_far" (.int f)->Rex (ae P X n) (cT.body.drop 2) σ λd fr=>(∃ b,dG w b/\d=.int b)/\fr=vP:=λf σ G s t i=>by
  refine bT (k:=c % 2 == 0) (al (aj (vr s) vI (aB (by decide))) vI QQ) QQ (λZ=>?_) λZ=>?_
  ·exact aW (ao (aj (vr t) (vr i) cm) QQ QQ) QQ ⟨⟨_,.inr (by omega),QQ⟩,QQ⟩
  ·exact aW (ao (aj gW (vr i) nS) QQ QQ) QQ ⟨⟨_,.inl (by omega),QQ⟩,QQ⟩
 have h:Rex (ae P X n) cT.body [("_law_cell",(vP,.int c)),("_law_wide",(vP,.int w))] λd fr=>(∃ b,dG w b/\d=.int b)/\fr=vP:=by
  refine fi (d:=.int (c / 2 % 3)) (fr:=vP) (ao (aj (aj (vr ad) vI (aQ (by decide))) vI (aB (by decide))) QQ QQ) λu j y=>?_
  have c1:=j _ _ QQ ad;have m:=j _ _ QQ (af QQ ad);refine bT (k:=c / 6 % 4 == 1) (al (aj (aj (vr c1) vI (aQ (by decide))) vI (aB (by decide))) vI QQ) QQ (λZ=>?_) λZ=>fin _ _ h1 c1 m y
  refine fi (d:=.int (c / 24 % 10 ^ 30)) (fr:=vP) (ao (aj (aj (vr c1) vI (aQ (by decide))) (aj vI vI a) (aB (by decide))) QQ QQ) λz o A=>?_
  exact fin _ _ q (o _ _ QQ c1) (o _ _ QQ m) A
 obtain⟨d,fr,⟨⟨b,C,rfl⟩,rfl⟩,E⟩:=bW (X:=X) (args:=[.int c,.int w]) B.badp QQ h;exact⟨b,C,E⟩
theorem among_eq(B:BZ P)(n:Nat)(c b:Int)(w:Nat):∃ is:vR Int,b∈is/\is.length<=11/\(ae P X (n+2)).call "_law_among" [.int c,.int w,.int b]=ac (.list (is.map .int),vT):=by
 by_cases C:w=0
 ·subst C
  exact⟨[b],.head _,vW QQ,az B.among QQ (bp (k:=vT) (x:=.bool vT) QQ QQ (λZ=>aT QQ QQ) nofun)⟩
 ·obtain⟨m,q,T⟩:=a9 c (k:=11) (by decide)
  have q:c % 11=(m:Int):=q;have f:(0:Int)<(w:Int):=by omega
  have E:b9 .Eq (.int w) (.int 0)=ac (.bool vP):=by
   show ac (D.bool ((w:Int) == 0))=_;rw[show ((w:Int) == 0)=vP from by rw[wK];omega]
  obtain⟨ds,G,q2,H⟩:=v_lrows (cf:=ae P X (n+1)) (ρ:=vis [("_law_cell",(vP,.int c)),("_law_wide",(vP,.int w)),("_law_bad",(vP,.int b))]) (elt:=.bin .Mod (.call "_law_mixed" [.u "_law_cell",.u "_law_k"]) (.u "_law_wide")) (z:="_law_k") (BH:=.bin .Mod (.u "_law_cell") (.int 11)) (k:=m) (by omega) (λd=>∃ i:Int,True/\d=.int i) (by rw[<- q];exact aj (vr ad) vI (aB (by decide))) (by
   intro i _;obtain⟨r,_,I⟩:=mixed (X:=X) B.toBG n c i;exact⟨.int (r % w),⟨_,trivial,QQ⟩,aj (au (aa (aH (bR QQ (aV ad))) (aa (aH cw) vN)) I) (aH (bR QQ (aV (af QQ ad)))) (aB f)⟩)
  obtain⟨is,rfl,_⟩:=jn q2;rw[v9] at G;obtain⟨j,J,U⟩:=a9 (c / 11) (k:=is.length+1) (by omega)
  have s:100<=big:=by decide
  have h:fZ "len" [.list (is.map .int)]=ac (.int is.length):=by show ac (D.int ((is.map D.int).length:Nat))=_;rw[v9]
  have o:ce .Mod (.int (c / 11)) (.int ((is.length:Int)+1))=ac (.int j):=by
   rw[show ((is.length:Int)+1)=((is.length+1:Nat):Int) from (xA _ _).symm,<- J];exact aB (by omega)
  have L:slD (.list (is.map .int)) .none (.int j)=ac (.list ((is.take j).map .int)):=by
   show ((bnd D.none 0).bind λa=>(bnd (.int j) (is.map D.int).length).map λb=>D.list (((is.map D.int).take b).drop a))=_
   rw[tP];show ac (D.list (((is.map D.int).take j).drop 0))=_;rw[AQ,A8]
  have M:slD (.list (is.map .int)) (.int j) .none=ac (.list ((is.drop j).map .int)):=by
   show ((bnd (.int j) 0).bind λa=>(bnd D.none (is.map D.int).length).map λb=>D.list (((is.map D.int).take b).drop a))=_
   rw[tP];show ac (D.list (((is.map D.int).take (is.map D.int).length).drop j))=_;rw[Aj,List.map_drop]
  have a1:ce .Add (.list ((is.take j).map .int)) (.list [.int b])=ac (.list ((is.take j++[b]).map .int)):=by
   rw[wS];exact r7 (by rw[v9,xK];simp only[xC,za];omega)
  have a2:ce .Add (.list ((is.take j++[b]).map .int)) (.list ((is.drop j).map .int))=ac (.list ((is.take j++[b]++is.drop j).map .int)):=by
   rw[wS (l₁:=is.take j++[b])];exact r7 (by rw[v9,v9,wn,xK,ym];simp only[xC,za];omega)
  refine⟨is.take j++[b]++is.drop j,by simp,by rw[wn,wn,xK,ym];simp only[xC,za];omega,az B.among QQ ?_⟩
  refine bp (k:=vP) (al (vr (af QQ ad)) vI E) QQ nofun λZ=>?_
  refine r_asg (ao H QQ QQ) λN t u=>?_
  refine r_asg (d:=.int j) (fr:=vP) (ao (aj (aj (vr (t _ _ QQ ad)) vI (aQ (by decide))) (aj (cg (vv u vN) h) vI cm) o) QQ QQ) λO y A=>?_
  have r2:=y _ _ QQ u;exact aT (ao (aj (aj (nQ (vr r2) (gC _ _) (vr A) L) (cE (vv (y _ _ QQ (t _ _ QQ (af QQ (af QQ ad)))) vN) (vW QQ)) a1) (nQ (vr r2) (vr A) (gC _ _) M) a2) QQ QQ) QQ
end
set_option maxHeartbeats 1600000
structure CI(way c b:Int)(w:Nat)(q:D)(is:vR Int)(oth:D)(σ:St):Prop where
 way:Has σ "_law_way" (.int way)
 cell:Has σ "_law_cell" (.int c)
 bad:Has σ "_law_bad" (.int b)
 wide:Has σ "_law_wide" (.int w)
 q:Has σ "_law_query" q
 pl:Has σ "_law_places" (.list (is.map .int))
 oth:Has σ "_law_other" oth
section
variable {P:vR (vV×Fn)} {X:CF} {T:D}
theorem gt_is(w:D)(i:Int)(o:D):GT (.tup [w,.int i,sD "is",o]):=⟨w,i,.inr ⟨o,QQ⟩⟩
theorem rX(w:D)(i j:Int):GT (.tup [w,.int i,sD "col",.int j]):=⟨w,i,.inl ⟨j,QQ⟩⟩
theorem rR(B:BW P)(hX:X.glob "STEPS"=ac (.tup aJ)){w:Nat}{q:D}{is:vR Int}{b:Int}(a:b∈is)(u:is.length<=11){g:Int->D}(f:∀ i,GT (g i))(h:∃ z∈fB (g b),dG w z):ry P X T w q (.tup [sD "sieve",.tup [.tup (is.map g)],q]) "NoColumn":=
 lu B hX (wd:="sieve") (by decide) (by decide) QQ QQ λn=>mm B n (cs:=[is.map g]) (λc j=>wl.mp j▸⟨λt m=>by obtain⟨i,_,rfl⟩:=wz.mp m;exact f i,by rw[v9];omega⟩) ⟨_,.head _,let ⟨z,o,s⟩:=h;⟨z,zr.mpr ⟨g b,xn a,o⟩,s⟩⟩
theorem ri(B:BZ P)(hX:X.glob "STEPS"=ac (.tup aJ)){cf:CF}{way c b:Int}{w j:Nat}{q o:D}{is:vR Int}(m:b∈is)(C:is.length<=11)(y:dG w b)(M:0<j)(G:w=0/\o=q\/0<w/\o=eZ j q){σ:St}(I:CI way c b w q is o σ):Rex cf (dN.body.drop 3) σ λd Z=>ry P X T w q d "NoColumn":=by
 have H:100<=big:=by decide
 have u:is.length<=big:=by omega
 have z:∀ {elt:ME} {g:Int->D} {σ:St},Has σ "_law_places" (.list (is.map .int))->(∀ i,evE cf (("_law_place",.int i)::vis σ) elt=ac (g i))->evE cf (vis σ) (.blt "tuple" [.comp elt "_law_place" (.u "_law_places") []])=ac (.tup (is.map g)):=λi h=>v_over (vr i) u h
 have J:evE cf (vis σ) (.blt "tuple" [.u "_law_places"])=ac (.tup (is.map .int)):=cg (vv I.pl vN) QQ;have ex:∀ {α:Type} {f:Int->α} {g:α->Int},(∀ i,g (f i)=i)->∃ x∈is.map f,dG w (g x):=λ{α f g} h=>⟨f b,xn m,(h b).symm▸y⟩
 refine bT (k:=way == 3) (al (vr I.way) vI QQ) QQ (λZ=>?_) λZ=>?_
 ·exact aW (d:=.tup [sD "pick",.tup (is.map .int),q]) (fr:=vP) (ao (aw (aa vS (aa J (vv I.q vN))) (vW QQ)) QQ QQ) QQ (lu B.toBW hX (wd:="pick") (by decide) (by decide) QQ QQ λn=>ub_pick B.toBW n ⟨b,m,y⟩)
 refine bT (k:=way == 4) (al (vr I.way) vI QQ) QQ (λZ=>?_) λZ=>?_
 ·refine aW (d:=.tup [sD "sieve",.tup (is.map λi=>.tup [.tup [sD "same",.int i,sD "is",.int 1]]),q]) (fr:=vP) (ao (aw (aa vS (aa (z I.pl λi=>aw (aa (aw (aa vS (aa (aH cw) (aa vS (aa vI vN)))) (vW QQ)) vN) (vW QQ)) (vv I.q vN))) (vW QQ)) QQ QQ) QQ ?_
  have:=lu (T:=T) B.toBW hX (wd:="sieve") (by decide) (by decide) (q:=q) (d:=.tup [sD "sieve",.tup ((is.map λi=>[D.tup [sD "same",.int i,sD "is",.int 1]]).map clD),q]) QQ QQ λn=>mm B.toBW n (a:=w) (λc hc=>by
   obtain⟨i,_,rfl⟩:=wz.mp hc;exact⟨λt E=>wl.mp E▸gt_is _ i _,vW QQ⟩) ⟨_,xn m,b,zr.mpr ⟨_,.head _,.head _⟩,y⟩
  rw[wX] at this;exact this
 refine bT (k:=way == 5) (al (vr I.way) vI QQ) QQ (λZ=>?_) λZ=>?_
 ·refine aW (d:=.tup [sD "sieve",.tup [.tup [],.tup (is.map λi=>.tup [sD "upto",.int i,sD "is",sD ""])],q]) (fr:=vP) (ao (aw (aa vS (aa (aw (aa (aw vN (ww _)) (aa (z I.pl λi=>aw (aa vS (aa (aH cw) (aa vS (aa vS vN)))) (vW QQ)) vN)) (vW QQ)) (vv I.q vN))) (vW QQ)) QQ QQ) QQ ?_
  refine lu B.toBW hX (wd:="sieve") (by decide) (by decide) QQ QQ λn=>mm B.toBW n (cs:=[[],is.map λi=>.tup [sD "upto",.int i,sD "is",sD ""]]) (λc hc=>?_) ⟨_,.tail _ (.head _),b,zr.mpr ⟨_,xn m,.head _⟩,y⟩
  rcases wf.mp hc with rfl | hc
  ·exact⟨(λt E=>nomatch E),ww _⟩
  ·rw[wl.mp hc]
   exact⟨λt E=>by obtain⟨i,_,rfl⟩:=wz.mp E;exact gt_is _ i _,by rw[v9];omega⟩
 refine bT (k:=way == 6) (al (vr I.way) vI QQ) QQ (λZ=>?_) λZ=>?_
 ·exact aW (d:=.tup [sD "group",.tup (is.map .int),.tup [],q]) (fr:=vP) (ao (aw (aa vS (aa J (aa (aw vN (ww _)) (vv I.q vN)))) (vW QQ)) QQ QQ) QQ (lu B.toBW hX (wd:="group") (by decide) (by decide) QQ QQ λn=>ub_group1 B.toBW n ⟨b,m,y⟩)
 refine bT (k:=way == 7) (al (vr I.way) vI QQ) QQ (λZ=>?_) λZ=>?_
 ·obtain⟨d,⟨s,rfl⟩,A⟩:=bJ (l:=[sD "least",sD "count",sD "sum",sD "most"]) (by decide) c (R:=λd=>∃ s,d=sD s) (by
   intro d A;simp only[wf,wG,xx] at A
   rcases A with rfl | rfl | rfl | rfl <;> exact⟨_,QQ⟩)
  have A:aD (.list [sD "least",sD "count",sD "sum",sD "most"]) (.int (c % 4))=ac (sD s):=A;refine fi (d:=sD s) (fr:=vP) (ao (ay (x:=.list [sD "least",sD "count",sD "sum",sD "most"]) QQ (aj (vr I.cell) vI (aB (by decide))) A) QQ QQ) λN L O=>?_
  refine aW (d:=.tup [sD "group",.tup [],.tup (is.map λi=>.tup [sD s,.int i]),q]) (fr:=vP) (ao (aw (aa vS (aa (aw vN (ww _)) (aa (z (L _ _ QQ I.pl) λi=>aw (aa (aH (bR QQ (aV O))) (aa (aH cw) vN)) (vW QQ)) (vv (L _ _ QQ I.q) vN)))) (vW QQ)) QQ QQ) QQ ?_
  have:=lu (T:=T) B.toBW hX (wd:="group") (by decide) (by decide) (q:=q) (d:=.tup [sD "group",.tup [],.tup ((is.map λi=>(s,i)).map sumI),q]) QQ QQ λn=>ub_group2 B.toBW n (a:=w) (by rw[v9];exact u) (ex λZ=>QQ)
  rw[wX] at this;exact this
 refine bT (k:=way == 8) (al (vr I.way) vI QQ) QQ (λZ=>?_) λZ=>?_
 ·refine aW (d:=.tup [sD "order",.tup (is.map λi=>.tup [.int i,.bool (c % 2 == 0)]),q]) (fr:=vP) (ao (aw (aa vS (aa (z I.pl λi=>aw (aa (aH cw) (aa (al (aj (aH (bR QQ (aV I.cell))) vI (aB (by decide))) vI QQ) vN)) (vW QQ)) (vv I.q vN))) (vW QQ)) QQ QQ) QQ ?_
  have:=lu (T:=T) B.toBW hX (wd:="order") (by decide) (by decide) (q:=q) (d:=.tup [sD "order",.tup ((is.map λi=>(i,c % 2 == 0)).map keyI),q]) QQ QQ λn=>ub_order B.toBW n (a:=w) (by rw[v9];exact u) (ex λZ=>QQ)
  rw[wX] at this;exact this
 refine bT (k:=way == 9&&decide ((w:Int) > 0)) (dX (al (vr I.way) vI QQ) λZ=>bz (al (vr I.wide) vI QQ)) QQ (λh=>?_) λZ=>?_
 ·have U:0<w:=by
   have:=xu (wm.mp h).2
   omega
  have V:o=eZ j q:=G.elim (λh=>wI h.1 (by omega)) λh=>h.2
  subst V;refine aW (d:=.tup [sD "join",eZ j q,q,.tup (is.map λi=>.tup [.int 0,.int i])]) (fr:=vP) (ao (aw (aa vS (aa (vr I.oth) (aa (vr I.q) (aa (z I.pl λi=>aw (aa vI (aa (aH cw) vN)) (vW QQ)) vN)))) (vW QQ)) QQ QQ) QQ ?_
  have:=o2_joinR (T:=T) B.toBW hX (q:=q) (prs:=is.map λi=>(0,i)) U M (by rw[v9];exact u) (λx Y=>by obtain⟨i,_,rfl⟩:=wz.mp Y;rfl) (ex λZ=>QQ)
  rw[wX] at this;exact this
 refine bT (k:=way == 9) (al (vr I.way) vI QQ) QQ (λZ=>?_) λZ=>?_
 ·refine aW (d:=.tup [sD "sieve",.tup [.tup [.tup [sD "from",.int b,sD "col",.int b]]],q]) (fr:=vP) (ao (aw (aa vS (aa (aw (aa (aw (aa (aw (aa vS (aa (vr I.bad) (aa vS (aa (vr I.bad) vN)))) (vW QQ)) vN) (vW QQ)) vN) (vW QQ)) (vv I.q vN))) (vW QQ)) QQ QQ) QQ ?_
  exact rR B.toBW hX (is:=[b]) (.head _) (vW QQ) (g:=λi=>.tup [sD "from",.int i,sD "col",.int i]) (λi=>rX _ i i) ⟨b,.head _,y⟩
 refine bT (k:=way == 10&&(decide ((w:Int) > 0)&&c % 4 == 0)) (dX (al (vr I.way) vI QQ) λZ=>dX (al (vr I.wide) vI QQ) λZ=>bz (al (aj (vr I.cell) vI (aB (by decide))) vI QQ)) QQ (λZ=>?_) λZ=>?_
 ·refine aW (d:=.tup [sD "sieve",.tup [.tup (is.map λi=>.tup [sD "from",.int 0,sD "col",.int i])],q]) (fr:=vP) (ao (aw (aa vS (aa (aw (aa (z I.pl λi=>aw (aa vS (aa vI (aa vS (aa (aH cw) vN)))) (vW QQ)) vN) (vW QQ)) (vv I.q vN))) (vW QQ)) QQ QQ) QQ ?_
  exact rR B.toBW hX m C (λi=>rX _ 0 i) ⟨b,.tail _ (.head _),y⟩
 refine bT (k:=way == 10&&(decide ((w:Int) > 0)&&c % 4 == 1)) (dX (al (vr I.way) vI QQ) λZ=>dX (al (vr I.wide) vI QQ) λZ=>bz (al (aj (vr I.cell) vI (aB (by decide))) vI QQ)) QQ (λZ=>?_) λZ=>?_
 ·refine aW (d:=.tup [sD "sieve",.tup [.tup (is.map λi=>.tup [sD "same",.int i,sD "col",.int 0])],q]) (fr:=vP) (ao (aw (aa vS (aa (aw (aa (z I.pl λi=>aw (aa vS (aa (aH cw) (aa vS (aa vI vN)))) (vW QQ)) vN) (vW QQ)) (vv I.q vN))) (vW QQ)) QQ QQ) QQ ?_
  exact rR B.toBW hX m C (λi=>rX _ i 0) ⟨b,.head _,y⟩
 refine aW (d:=.tup [sD "join",q,o,.tup (is.map λi=>.tup [.int i,.int (if (w:Int) - 1<0 then (w:Int) - 1 else 0)])]) (fr:=vP) (ao (aw (aa vS (aa (vr I.q) (aa (vr I.oth) (aa (z I.pl λi=>aw (aa (aH cw) (aa (cg (aa vI (aa (aj (aH (bR QQ (aV I.wide))) vI nS) vN)) QQ) vN)) (vW QQ)) vN)))) (vW QQ)) QQ QQ) QQ ?_
 have:=o2_joinL (T:=T) (j:=j) B.toBW hX (q:=q) (d:=o) (w:=w) (prs:=is.map λi=>(i,if (w:Int) - 1<0 then (w:Int) - 1 else 0)) (G.imp (λh=>h.2) id) (by rw[v9];exact u) (ex λZ=>QQ)
 rw[wX] at this;exact this
theorem bad_col(B:BZ P)(hX:X.glob "STEPS"=ac (.tup aJ))(n:Nat)(way c:Int){b:Int}{w:Nat}(V:w<=1000)(C:dG w b)(q:D):∃ d fr,ry P X T w q d "NoColumn"/\(ae P X (n+3)).call "_law_bad_column" [.int way,.int c,.int b,.int w,q]=ac (d,fr):=by
 obtain⟨is,m,o,H⟩:=among_eq (X:=X) B n c b w;refine bW (X:=X) B.badc QQ ?_;refine fi (aI (vv (af QQ ad) (vv (af QQ (af QQ (af QQ ad))) (vv (af QQ (af QQ ad)) vN))) H) λz s J=>?_
 have E:Has z "_law_query" q:=s _ _ QQ (af QQ (af QQ (af QQ (af QQ ad))));refine fi (d:=q) (fr:=vP) (ao (vr E) QQ QQ) λA f L=>?_
 have I:CI way c b w q is q A:=⟨f _ _ QQ (s _ _ QQ ad),f _ _ QQ (s _ _ QQ (af QQ ad)),f _ _ QQ (s _ _ QQ (af QQ (af QQ ad))),f _ _ QQ (s _ _ QQ (af QQ (af QQ (af QQ ad)))),f _ _ QQ E,f _ _ QQ J,L⟩;refine bT (k:=decide ((w:Int) > 0)) (al (vr I.wide) vI QQ) QQ (λh=>?_) λh=>?_
 ·have a:0<w:=by have:=xu h;omega
  obtain⟨j,G,Y⟩:=a9 (c / 7) (k:=2 * w+2) (by omega)
  have M:((2 * w+2:Nat):Int)=2 * (w:Int)+2:=by omega
  rw[M] at G;have N:ce .Mult (.tup [.int 0]) (.int (1+(j:Int)))=ac (.tup (wV (j+1) (.int 0))):=by
   have:=vk (u:=.int 0) (k:=1+(j:Int)) ⟨by omega,by omega⟩
   rw[show (1+(j:Int)).toNat=j+1 from by omega] at this
   exact this
  have t:ce .Mult (.int 2) (.int w)=ac (.int (2 * w)):=k9 (by decide)
  have y:ce .Mod (.int (c / 7)) (.int (2 * (w:Int)+2))=ac (.int j):=by rw[<- G];exact aB (by omega)
  refine fi (d:=eZ (j+1) q) (fr:=vP) (ao (aw (aa vS (aa (aj (aw (aa vI vN) (vW QQ)) (aj vI (aj (aj (vr I.cell) vI (aQ (by decide))) (aj (aj vI (vr I.wide) t) vI cm) y) cm) N) (vv I.q vN))) (vW QQ)) QQ QQ) λO i U=>?_
  exact ri B hX m o C (j:=j+1) (by omega) (.inr ⟨a,QQ⟩) ⟨i _ _ QQ I.way,i _ _ QQ I.cell,i _ _ QQ I.bad,i _ _ QQ I.wide,i _ _ QQ I.q,i _ _ QQ I.pl,U⟩
 ·have a:w=0:=by have:=yK h;omega
  exact ri B hX m o C (j:=1) (by omega) (.inl ⟨a,QQ⟩) I
end
set_option maxHeartbeats 1600000
noncomputable def NoSt(d:D):Prop:=∃ s:Str,aD d (.int 0)=ac (.str s)/\b9 .NotIn (.str s) (.tup aJ)=ac (.bool vT)
noncomputable def dD(x:Str):D:=.tup [sD "table",.str (vQ "x"++x)]
noncomputable def LostA(d:D):Prop:=∃ wd x,(wd="join"\/wd="both")/\x.length=1/\aD d (.int 0)=ac (sD wd)/\aD d (.int 1)=ac (dD x)
noncomputable def LostB(q d:D):Prop:=∃ wd x,(wd="join"\/wd="both")/\x.length=1/\aD d (.int 0)=ac (sD wd)/\aD d (.int 1)=ac q/\aD d (.int 2)=ac (dD x)
noncomputable def vo(P:vR (vV×Fn))(X:CF)(T:D)(way c:Int)(w:Nat)(q d:D)(B0:Int):Prop:=
 (way=0/\B0=1/\NoSt d)\/(way=1/\B0=2/\((c % 4 > 1/\LostA d)\/(¬ c % 4 > 1/\LostB q d)))\/(way≠0/\way≠1/\∃ a,(B0=3/\a="NoCount"\/B0=4/\a="NoColumn"\/B0=5/\a="UnlikeSides")/\ry P X T w q d a)
section
variable {P:vR (vV×Fn)} {X:CF} {T:D}
theorem x_len:(vQ "x").length=1:=by decide +kernel
theorem x_add(x:Str)(a:x.length=1):ce .Add (.str (vQ "x")) (.str x)=ac (.str (vQ "x"++x)):=jy (by rw[x_len,a];decide)
theorem no_step(B:BZ P)(n:Nat)(c:Int)(q:D):∃ d fr,NoSt d/\(ae P X (n+2)).call "_law_no_step" [.int c,q]=ac (d,fr):=by
 obtain⟨x,o,w⟩:=lW (X:=X) B.toBG n c;have I:100<=big:=by decide
 obtain⟨d,⟨s,rfl,y⟩,a⟩:=bJ (l:=[sD "drop",sD "",sD "Sieve",sD "tables",sD "joins"]) (by decide) c (R:=λd=>∃ s:Str,d=.str s/\b9 .NotIn (.str s) (.tup aJ)=ac (.bool vT)) (by
  intro d a;simp only[wf,wG,xx] at a
  rcases a with rfl | rfl | rfl | rfl | rfl <;> exact⟨_,QQ,QQ⟩)
 have a:aD (.list [sD "drop",sD "",sD "Sieve",sD "tables",sD "joins"]) (.int (c % 5))=ac (.str s):=a;obtain⟨t,⟨l,rfl,J⟩,b⟩:=bJ (l:=[.tup [],.tup [.int 5],.tup [dD x],.tup [q,q],.tup [dD x,.tup [sD "first",.int (-1),q]],.tup [.tup [],q],.tup [sD "table",q]]) (by exact xH _) (c / 5) (R:=λd=>∃ l,d=.tup l/\l.length<=2) (by
  intro d a;simp only[wf,wG,xx] at a
  rcases a with rfl | rfl | rfl | rfl | rfl | rfl | rfl <;> exact⟨_,QQ,vW QQ⟩)
 have b:aD (.list [.tup [],.tup [.int 5],.tup [dD x],.tup [q,q],.tup [dD x,.tup [sD "first",.int (-1),q]],.tup [.tup [],q],.tup [sD "table",q]]) (.int (c / 5 % 7))=ac (.tup l):=b;refine bW (X:=X) B.nost QQ ?_;refine fi (d:=.str s) (fr:=vP) (ao (ay (x:=.list [sD "drop",sD "",sD "Sieve",sD "tables",sD "joins"]) QQ (aj (vr ad) vI (aB (by decide))) a) QQ QQ) λf i z=>?_
 have c1:=i _ _ QQ ad;have A:Has f "_law_query" q:=i _ _ QQ (af QQ ad);refine fi (d:=dD x) (fr:=vP) (ao (aw (aa vS (aa (aj vS (au (vv c1 vN) w) (x_add x o)) vN)) (vW QQ)) QQ QQ) λC h j=>?_
 have c2:=h _ _ QQ c1;have q2:=h _ _ QQ A;have E:=h _ _ QQ z;refine fi (d:=.list [.tup [],.tup [.int 5],.tup [dD x],.tup [q,q],.tup [dD x,.tup [sD "first",.int (-1),q]],.tup [.tup [],q],.tup [sD "table",q]]) (fr:=vT) (ao (cE (aa (aw vN (ww _)) (aa (aw (aa vI vN) (vW QQ)) (aa (aw (vv j vN) (vW QQ)) (aa (aw (vv q2 (vv q2 vN)) (vW QQ))
  (aa (aw (vv j (aa (aw (aa vS (aa gW (vv q2 vN))) (vW QQ)) vN)) (vW QQ)) (aa (aw (aa (aw vN (ww _)) (vv q2 vN)) (vW QQ)) (aa (aw (aa vS (vv q2 vN)) (vW QQ)) vN))))))) (vW QQ)) QQ QQ) λG m H=>?_
 refine aW (d:=.tup (.str s::l)) (fr:=vP) (ao (aj (aw (vv (m _ _ QQ E) vN) (vW QQ)) (ay (vr H) (aj (aj (vr (m _ _ QQ c2)) vI (aQ (by decide))) vI (aB (by decide))) b) (bin_tt (u:=[.str s]) (v:=l) (by simp only[xC,za];omega))) QQ QQ) QQ ⟨s,?_,y⟩
 exact uv (k:=0) (xH _) QQ
theorem pV(B:BZ P)(hX:X.glob "STEPS"=ac (.tup aJ))(n:Nat)(way c:Int){w:Nat}(Cf:w<=1000)(q:D):∃ d B0,vo P X T way c w q d B0/\(ae P X (n+4)).call "_law_wrong" [.int way,.int c,q,.int w]=ac (.tup [d,.int B0],vP):=by
 have H:Rex (ae P X (n+3)) gB.body [("_law_way",(vP,.int way)),("_law_cell",(vP,.int c)),("_law_query",(vP,q)),("_law_wide",(vP,.int w))] λd fr=>(∃ e B0,vo P X T way c w q e B0/\d=.tup [e,.int B0])/\fr=vP:=by
  have t:Has [("_law_way",(vP,.int way)),("_law_cell",(vP,.int c)),("_law_query",(vP,q)),("_law_wide",(vP,.int w))] "_law_way" (.int way):=ad;have i:Has [("_law_way",(vP,.int way)),("_law_cell",(vP,.int c)),("_law_query",(vP,q)),("_law_wide",(vP,.int w))] "_law_cell" (.int c):=af QQ ad;have u:Has [("_law_way",(vP,.int way)),("_law_cell",(vP,.int c)),("_law_query",(vP,q)),("_law_wide",(vP,.int w))] "_law_query" q:=af QQ (af QQ ad);have id:Has [("_law_way",(vP,.int way)),("_law_cell",(vP,.int c)),("_law_query",(vP,q)),("_law_wide",(vP,.int w))] "_law_wide" (.int w):=af QQ (af QQ (af QQ ad));generalize [("_law_way",(vP,.int way)),("_law_cell",(vP,.int c)),("_law_query",(vP,q)),("_law_wide",(vP,.int w))]=σ at *;refine bT (k:=way == 0) (al (vr t) vI QQ) QQ (λh=>?_) λCg=>?_
  ·obtain⟨d,fr,I,e⟩:=no_step (X:=X) B (n+1) c q
   exact aW (d:=.tup [d,.int 1]) (fr:=vP) (ao (aw (aa (au (vv i (vv u vN)) e) (aa vI vN)) (vW QQ)) QQ QQ) QQ ⟨⟨d,1,.inl ⟨eq_of_beq h,QQ,I⟩,QQ⟩,QQ⟩
  have J:way≠0:=wK.mp Cg;refine bT (k:=way == 1) (al (vr t) vI QQ) QQ (λh=>?_) λh1=>?_
  ·obtain⟨x,o,L⟩:=lW (X:=X) B.toBG (n+2) (c / 4)
   refine fi (d:=dD x) (fr:=vP) (ao (aw (aa vS (aa (aj vS (au (aa (aj (vr i) vI (aQ (by decide))) vN) L) (x_add x o)) vN)) (vW QQ)) QQ QQ) λy a f=>?_
   have s:=a _ _ QQ u;refine fi (d:=.list [.tup [sD "join",q,dD x,.tup []],.tup [sD "both",q,dD x],.tup [sD "both",dD x,q],.tup [sD "join",dD x,q,.tup []]]) (fr:=vT) (ao (cE (aa (aw (aa vS (vv s (vv f (aa (aw vN (ww _)) vN)))) (vW QQ)) (aa (aw (aa vS (vv s (vv f vN))) (vW QQ)) (aa (aw (aa vS (vv f (vv s vN))) (vW QQ)) (aa (aw (aa vS (vv f (vv s (aa (aw vN (ww _)) vN)))) (vW QQ)) vN)))) (vW QQ)) QQ QQ) λM G N=>?_
   have c2:=G _ _ QQ (a _ _ QQ i);have O:∃ e,((c % 4 > 1/\LostA e)\/(¬ c % 4 > 1/\LostB q e))/\aD (.list [.tup [sD "join",q,dD x,.tup []],.tup [sD "both",q,dD x],.tup [sD "both",dD x,q],.tup [sD "join",dD x,q,.tup []]]) (.int (c % 4))=ac e:=by
    have z:c % 4=0\/c % 4=1\/c % 4=2\/c % 4=3:=by omega
    rcases z with e | e | e | e <;> rw[e]
    ·exact⟨_,.inr ⟨by decide,"join",x,.inl QQ,o,QQ,QQ,QQ⟩,QQ⟩
    ·exact⟨_,.inr ⟨by decide,"both",x,.inr QQ,o,QQ,QQ,QQ⟩,QQ⟩
    ·exact⟨_,.inl ⟨by decide,"both",x,.inr QQ,o,QQ,QQ⟩,QQ⟩
    ·exact⟨_,.inl ⟨by decide,"join",x,.inl QQ,o,QQ,QQ⟩,QQ⟩
   obtain⟨e,U,L⟩:=O;exact aW (d:=.tup [e,.int 2]) (fr:=vP) (ao (aw (aa (ay (vr N) (aj (vr c2) vI (aB (by decide))) L) (aa vI vN)) (vW QQ)) QQ QQ) QQ ⟨⟨e,2,.inr (.inl ⟨eq_of_beq h,QQ,U⟩),QQ⟩,QQ⟩
  have n1:way≠1:=wK.mp h1;have A:ce .Pow (.int 10) (.int 20)=ac (.int (10 ^ 20)):=oM ⟨by decide +kernel,by decide +kernel,by decide,by decide⟩
  refine bT (k:=way == 2||(way == 11&&(w:Int) == 0)) (gV (al (vr t) vI QQ) λBF=>bz (dX (al (vr t) vI QQ) λBF=>bz (al (vr id) vI QQ))) QQ (λBF=>?_) λCd=>?_
  ·have C:-1 - c % 10 ^ 20<0:=by have:0<=c % 10 ^ 20:=w8 _ (by decide);omega
   exact aW (d:=.tup [.tup [sD "first",.int (-1 - c % 10 ^ 20),q],.int 3]) (fr:=vP) (ao (aw (aa (aw (aa vS (aa (aj gW (aj (vr i) (aj vI vI A) (aB (by decide))) nS) (vv u vN))) (vW QQ)) (aa vI vN)) (vW QQ)) QQ QQ) QQ ⟨⟨_,3,.inr (.inr ⟨J,n1,"NoCount",.inl ⟨QQ,QQ⟩,lu B.toBW hX (wd:="first") (by decide) (by decide) QQ QQ λn=>ub_first B.toBW (n+1) C⟩),QQ⟩,QQ⟩
  refine bT (k:=way == 11) (al (vr t) vI QQ) QQ (λh=>?_) λBF=>?_
  ·have V:0<w:=by
    rw[eq_of_beq h] at Cd;have:=wK.mp (show ((w:Int) == 0)=vP from Cd)
    omega
   obtain⟨m,Y,Cm⟩:=a9 (c / 2) (k:=9) (by decide)
   have Y:c / 2 % 9=(m:Int):=Y;have fin:∀ (r:vR MS) (j:Nat) (σ:St),j≠w->j<=2000->Has σ "_law_cell" (.int c)->Has σ "_law_query" q->Has σ "_law_many_here" (.int j)->Rex (ae P X (n+3)) (.x0 "_law_other" (.tup [.str "pick",.bin .Mult (.tup [.int 0]) (.u "_law_many_here"),.u "_law_query"])::.ret (.tup [.sub (.lst [.tup [.str "both",.u "_law_query",.u "_law_other"],.tup [.str "both",.u "_law_other",.u "_law_query"]]) (.bin .Mod (.u "_law_cell") (.int 2)),.int 5])::r) σ λd fr=>(∃ e B0,vo P X T way c w q e B0/\d=.tup [e,.int B0])/\fr=vP:=λr j σ Ch Ci Cj Ce Ck=>by
    have E:ce .Mult (.tup [.int 0]) (.int j)=ac (.tup (wV j (.int 0))):=vk ⟨by omega,by omega⟩
    refine fi (d:=eZ j q) (fr:=vP) (ao (aw (aa vS (aa (aj (aw (aa vI vN) (vW QQ)) (vr Ck) E) (vv Ce vN))) (vW QQ)) QQ QQ) λy a f=>?_
    have s:=a _ _ QQ Ce;have O:∃ b:v7,aD (.list [.tup [sD "both",q,eZ j q],.tup [sD "both",eZ j q,q]]) (.int (c % 2))=ac (if b then .tup [sD "both",q,eZ j q] else .tup [sD "both",eZ j q,q]):=by
     have z:c % 2=0\/c % 2=1:=by omega
     rcases z with e | e <;> rw[e]
     ·exact⟨vT,QQ⟩
     ·exact⟨vP,QQ⟩
    obtain⟨b,Z⟩:=O;exact aW (ao (aw (aa (ay (cE (aa (aw (aa vS (vv s (vv f vN))) (vW QQ)) (aa (aw (aa vS (vv f (vv s vN))) (vW QQ)) vN)) (vW QQ)) (aj (vr (a _ _ QQ Cj)) vI (aB (by decide))) Z) (aa vI vN)) (vW QQ)) QQ QQ) QQ ⟨⟨_,5,.inr (.inr ⟨J,n1,"UnlikeSides",.inr (.inr ⟨QQ,QQ⟩),o2_both B.toBW hX V Ch b⟩),QQ⟩,QQ⟩
   refine fi (d:=.int m) (fr:=vP) (by rw[<- Y];exact ao (aj (aj (vr i) vI (aQ (by decide))) vI (aB (by decide))) QQ QQ) λy a f=>?_
   refine bT (k:=(m:Int) == w) (al (vr f) (vr (a _ _ QQ id)) QQ) QQ (λBF=>?_) λCa=>?_
   ·refine fi (d:=.int ((w+1:Nat):Int)) (fr:=vP) (by rw[xA];exact ao (aj (vr (a _ _ QQ id)) vI cm) QQ QQ) λM G N=>?_
    exact fin _ (w+1) _ (by omega) (by omega) (G _ _ QQ (a _ _ QQ i)) (G _ _ QQ (a _ _ QQ u)) N
   ·exact fin _ m _ (λe=>wK.mp Ca (by rw[e])) (by omega) (a _ _ QQ i) (a _ _ QQ u) f
  obtain⟨x,_,o⟩:=mixed (X:=X) B.toBG (n+2) c 3;obtain⟨b,Z,Cb⟩:=bad_place (X:=X) B (n+2) c w;obtain⟨d,fr,I,U⟩:=bad_col (X:=X) (T:=T) B hX n way x Cf Z q;exact aW (d:=.tup [d,.int 4]) (fr:=vP) (ao (aw (aa (au (vv t (aa (au (vv i (aa vI vN)) o) (aa (au (vv i (vv id vN)) Cb) (vv id (vv u vN))))) U) (aa vI vN)) (vW QQ)) QQ QQ) QQ ⟨⟨d,4,.inr (.inr ⟨J,n1,"NoColumn",.inr (.inl ⟨QQ,QQ⟩),I⟩),QQ⟩,QQ⟩
 obtain⟨d,fr,⟨⟨e,B0,h,rfl⟩,rfl⟩,z⟩:=bW (X:=X) (args:=[.int way,.int c,q,.int w]) B.wrong QQ H;exact⟨e,B0,h,z⟩
end
end Mine
namespace Mine
open PySem PySem.SeqAt
section
variable {B9:wq} {w:wy} {A:wt} {B3:Heap} {mg mb:Str->vY vU} {cf:CF} {BS h:Heap} {BM:Env} {B1:v8->Prop} {B7:Own} {m:Str->vY vU} {σ:St} {s BU B2:vZ} {e:wi} {E:vU->vZ->Prop}
structure Kpt(w:wy)(B3 BS:Heap)(BM:Env)(B1:v8->Prop)(B7:Own)(m:Str->vY vU)(σ:St)(s s':vZ):Prop where
 ok:∃ h tk dw,s'={ s with heap:=h,toks:=tk,drawn:=dw }/\aP w B3 BS h BM B1 B7 m σ/\Tr s.heap BM B7 h B7
theorem Kpt.st(x:Kpt w B3 BS BM B1 B7 m σ s BU):aP w B3 BS BU.heap BM B1 B7 m σ:=let ⟨_,_,_,e,S,_⟩:=x.ok;e▸S
theorem Kpt.trans(x:Kpt w B3 BS BM B1 B7 m σ s BU)(y:Kpt w B3 BS BM B1 B7 m σ BU B2):Kpt w B3 BS BM B1 B7 m σ s B2:=by
 obtain⟨h1,j,n,rfl,o,a⟩:=x.ok;obtain⟨b,c,f,rfl,h,i⟩:=y.ok;exact⟨b,c,f,QQ,h,a.trans i⟩
theorem Kpt.kp(S:aP w B3 BS s.heap BM B1 B7 m σ)(k:bj s BU):Kpt w B3 BS BM B1 B7 m σ s BU:=bj.rec (motive:=λBU Z=>Kpt w B3 BS BM B1 B7 m σ s BU) (λh tk dw a=>⟨h,tk,dw,QQ,S.keeps a,.keeps a⟩) k
theorem slot_ok{tk:Nat}{dw:zK}(S:aP w B3 BS s.heap BM B1 B7 m σ)(n:BM.frame=ac BM.locals)(x:Lk s.heap [BM] h):Kpt w B3 BS BM B1 B7 m σ s { s with heap:=h,toks:=tk,drawn:=dw }:=
 have t:frs [BM]=[BM.locals]:=dg n
 have c:∀ b o,gat s.heap b=ac o->b≠BM.locals->gat h b=ac o:=λb o e A=>x.k b o e (by rw[t];exact λq=>A (wl.mp q))
 have ex:∀ b o,gat s.heap b=ac o->∃ i,gat h b=ac i:=λb o e=>(Classical.em (b=BM.locals)).elim (λq=>(x.f b o (by rw[t,q];exact .head _) e).elim λC z=>⟨_,z⟩) λq=>⟨o,c b o e q⟩
 ⟨h,tk,dw,QQ,S.to (S.rep.lk x n λZ Z Z q=>nomatch q) (λb o j e=>c b o e λq=>j (q▸.inr (.inl (.inl QQ)))) (λy a o B e=>c a o e λq=>(S.own1 y a B).2.2 (q▸.inl QQ)) (λZ Z Z q=>q) (λb o e=>c b o (S.keep b o e) λq=>bv e (q▸S.frE _ (.inl QQ)))
  (λb q=>(S.hot.ex b (.inl q)).elim λu z=>z.elim λo z=>(ex u o z.2).elim λi y=>⟨u,i,z.1,y⟩) (λy a e=>(S.own1 y a e).2.1),λb o e j Z=>c b o e λq=>j (.inl q),ex,λy a e=>.inl e⟩
noncomputable def kj(B9:wq)(w:wy)(A:wt)(B3:Heap)(mg:Str->vY vU)(BM:Env)(f:vV)(ds:vR D)(R:vU->Prop):Prop:=∃ a o fd,mg (vQ f)=ac (.ref a)/\gat B3 a=ac o/\o.data=.func fd /\
  ∀ (s:vZ) (H:v8->Prop) (vs:vR vU) (Q:vU->vZ->Prop) (E:vU->vZ->Prop),HOk B3 s.heap H->am w.params s.heap H vs ds->gj s.heap [BM]->(∀ b o,gat B3 b=ac o->b ∉ frs [BM])->(∀ v h tk dw,R v->Lk s.heap [BM] h->Q v { s with heap:=h,toks:=tk,drawn:=dw }) ->
   wpAny (wc B9 w) A (PySem.call (.ref a) vs) Q E s
theorem all_Es(Z:Cx B9 w A B3 mg mb cf)(b:vR ME):SEs B9 w A B3 cf b:=List.rec jJ (λa Y h=>gZ (gP Z.G Z.C Z.hh Z.hu a).e h) b
theorem sr(Z:Cx B9 w A B3 mg mb cf)(n:BM.frame=ac BM.locals){f:vV}{c:vR ME}{ds:vR D}{R:vU->Prop}{Q:vU->vZ->Prop}(T:kj B9 w A B3 mg BM f ds R)(S:aP w B3 BS s.heap BM B1 B7 m σ)(C:aC BM.kindOf e (.call f c)=vT)(t:bk cf (vis σ) c=ac ds)
  (k:∀ v s',R v->Kpt w B3 BS BM B1 B7 m σ s s'->Q v s'):wpAny (wc B9 w) A (wM e BM) Q E s:=
 lH.rec (motive:=λe Y=>wpAny (wc B9 w) A (wM e BM) Q E s) (λ{J H pos} u y=>T.elim λa q=>q.elim λo q=>q.elim λfd q=>
  PyProof.Rows.Call_Name QQ (Calls.Name_function_global S.rep.kind (be u).1 (Calls.loadGlobal_global (mg:=mg) (S.rep.glob▸Ns.keepAt Z.G.g (S.hot.keep _)) q.1 (Calls.callWith_function (o:=o) (fd:=fd) (cA y (
   aR (all_Es Z c s BM H _ (vis σ) m ds E y (S.cc QQ (eH c)) t) λvs BU i=>i.rec λkp r=>
    have B:=Kpt.kp S kp
    have j:=B.st
    have cc:=(S.cc (s:=s) QQ (eH c)).k kp
    ⟨⟨Heap.of_gt (j.hot.keep _ _ q.2.1) (aO (by rw[q.2.2.1];nofun)),q.2.2.1⟩,
     q.2.2.2 BU _ vs Q E cc.hw r (j.rep.loc.elim λL z=>let ⟨o,es,ep,ho,hd,_⟩:=id z.1;gj.cons (l:=[]) (λY q=>nomatch q) (by rw[j.rep.kind];nofun) n (Heap.gt_of ho (aO (by rw[hd];nofun))) (by rw[hd];nofun))
      (λb o e q=>j.hot.off b o e (by rw[dg n] at q;rw[wl.mp q];exact .inr (.inl (.inl QQ)))) λv h tk dw I lk=>k v _ I (B.trans (slot_ok j n lk))⟩)))) (by simpa using (be u).2))) (fQ C)
noncomputable def XT(B9:wq)(w:wy)(A:wt)(B3 BS:Heap)(BM:Env)(B1:v8->Prop)(B7:Own)(m:Str->vY vU)(σ:St)(a:ME)(b:v7):Prop:=
 ∀ (s:vZ) (e:wi) (E:vU->vZ->Prop),aC BM.kindOf e a=vT->aP w B3 BS s.heap BM B1 B7 m σ->wpAny (wc B9 w) A (yi e BM (wM e BM)) (λc s'=>c=b/\Kpt w B3 BS BM B1 B7 m σ s s') E s
noncomputable def XB(B9:wq)(w:wy)(A:wt)(B3 BS:Heap)(BM:Env)(B1:v8->Prop)(B7:Own)(m:Str->vY vU)(σ:St)(op:y2)(c:vR ME)(b:v7):Prop:=
 ∀ (s:vZ) (es:vR wi) (pos:Pos) (a:Sem vU) (E:vU->vZ->Prop),bM BM.kindOf es c=vT->aP w B3 BS s.heap BM B1 B7 m σ->wpAny (wc B9 w) A (yi (.BoolOp op es pos) BM a) (λf s'=>f=b/\Kpt w B3 BS BM B1 B7 m σ s s') E s
theorem jC(Z:Cx B9 w A B3 mg mb cf){a:ME}{d:D}{b:v7}(f:evE cf (vis σ) a=ac d)(i:bg d=ac b):XT B9 w A B3 BS BM B1 B7 m σ a b:=λs e E j S=>
 sG Z S j f i λh tk dw c=>⟨QQ,h,tk,dw,QQ,S.keeps c,.keeps c⟩
theorem uf(Z:Cx B9 w A B3 mg mb cf)(I:BM.frame=ac BM.locals){f y:vV}{t:vR ME}{ds:vR D}{i j:Int}(T:kj B9 w A B3 mg BM f ds (ld i))(o:bk cf (vis σ) t=ac ds)(J:evE cf (vis σ) (.u y)=ac (.int j)){b:v7}(L:(!(i == j))=b):XT B9 w A B3 BS BM B1 B7 m σ (.cmp .NotEq (.call f t) (.u y)) b:=λs e E M S=>
 vH.rec (motive:=λe Y=>wpAny (wc B9 w) A (yi e BM (wM e BM)) _ E s) (λN h1 O=>wpAny_isTrue_Compare1 (sr Z I T S h1 o λv BU U q=>aR ((gP Z.G Z.C Z.hh Z.hu (.u y)).e BU BM _ _ (vis σ) m (.int j) E O (q.st.cc QQ _) J) λu B2 c=>
  aR (pJ (op:=.NotEq) (a:=.int i) (d:=.bool (!(i == j))) (show Rep w.params B2.heap _ v (.int i) from U) c.r Z.hu.u2 QQ) λz B h=>aR (eR h.r QQ) λb H n=>⟨n.e.trans L,q.trans (Kpt.kp q.st (Kp.trans (Kp.trans c.k h.k) n.k))⟩) (gx N)) (l4 M)
theorem xb_or0:XB B9 w A B3 BS BM B1 B7 m σ .Or [] vP:=λs es pos a E b S=>j9 (C:=λes=>wpAny (wc B9 w) A (yi (.BoolOp .Or es pos) BM a) _ E s) b (PyProof.Rows.isTrue_or_nil ⟨QQ,.kp S (Kp.refl _)⟩)
theorem xb_or{a:ME}{r:vR ME}{b:v7}(h:XT B9 w A B3 BS BM B1 B7 m σ a vP)(i:XB B9 w A B3 BS BM B1 B7 m σ .Or r b):XB B9 w A B3 BS BM B1 B7 m σ .Or (a::r) b:=λs es pos f E j S=>
 dh (C:=λes=>wpAny (wc B9 w) A (yi (.BoolOp .Or es pos) BM f) _ E s) j λe es h1 n=>PyProof.Rows.isTrue_or (aR (h s e E h1 S) λc BU q=>by
  obtain⟨rfl,K⟩:=q;exact aR (i BU es pos f E n K.st) λb B2 q=>⟨q.1,K.trans q.2⟩)
theorem oR{a:ME}{r:vR ME}(f:XT B9 w A B3 BS BM B1 B7 m σ a vP):XB B9 w A B3 BS BM B1 B7 m σ .And (a::r) vP:=λs es pos b E h S=>
 dh (C:=λes=>wpAny (wc B9 w) A (yi (.BoolOp .And es pos) BM b) _ E s) h λe es h1 i=>PyProof.Rows.isTrue_and (aR (f s e E h1 S) λc BU q=>by
  obtain⟨rfl,K⟩:=q;exact⟨QQ,K⟩)
theorem rF{a:ME}{r:vR ME}{b:v7}(h:XT B9 w A B3 BS BM B1 B7 m σ a vT)(i:XB B9 w A B3 BS BM B1 B7 m σ .And r b):XB B9 w A B3 BS BM B1 B7 m σ .And (a::r) b:=λs es pos f E j S=>
 dh (C:=λes=>wpAny (wc B9 w) A (yi (.BoolOp .And es pos) BM f) _ E s) j λe es h1 n=>PyProof.Rows.isTrue_and (aR (h s e E h1 S) λc BU q=>by
  obtain⟨rfl,K⟩:=q;exact aR (i BU es pos f E n K.st) λb B2 q=>⟨q.1,K.trans q.2⟩)
theorem ug{op:y2}{c:vR ME}{b:v7}(h:XB B9 w A B3 BS BM B1 B7 m σ op c b):XT B9 w A B3 BS BM B1 B7 m σ (.bop op c) b:=λs e E a S=>
 vJ.rec (motive:=λe Z=>wpAny (wc B9 w) A (yi e BM (wM e BM)) _ E s) (λa=>h s _ _ _ E a S) (l5 a)
theorem xs_if{c:ME}{t:vR MS}{st:wZ}{Q:yY->vZ->Prop}(h:XT B9 w A B3 BS BM B1 B7 m σ c vP)(S:aP w B3 BS s.heap BM B1 B7 m σ)(a:gD BM.kindOf st (.ite c t [])=vT)(k:∀ s',Kpt w B3 BS BM B1 B7 m σ s s'->Q .next s'):wpAny (wc B9 w) A (yj st BM) Q E s:=
 vD.rec (motive:=λst Z=>wpAny (wc B9 w) A (yj st BM) Q E s) (λ{v b o p} a h1 f=>wpAny_If (aR (h s v E a S) λb BU q=>by
  obtain⟨rfl,K⟩:=q;exact gT (C:=λo=>wpAny (wc B9 w) A (zA o BM) Q E BU) f (yN (k BU K)))) (pt a)
noncomputable def kz:vR MS:=[
  .for_ "_law_way" (.blt "range" [.int 3]) [.ite (.bop .Or [.cmp .NotEq (.call "_law_class" [.u "_law_way",.u "_law_query",.u "_law_widths_here",.u "_law_tables_here"]) (.u "_law_due"),.cmp .NotEq (.call "_law_class_back" [.u "_law_way",.u "_law_query",.u "_law_widths_here",.u "_law_tables_here"]) (.u "_law_due")]) [.ret (.bool vP)] []],
  .ite (.bop .And [.cmp .Lt (.u "_law_due") (.int 3),.cmp .NotEq (.bin .Mod (.u "_law_cell") (.int 3)) (.int 1),.cmp .NotEq (.call "_law_class" [.int 3,.u "_law_query",.u "_law_widths_here",.u "_law_tables_here"]) (.u "_law_due")]) [.ret (.bool vP)] [],
  .ret (.call "_law_any" [.u "_law_query",.u "_law_widths_here"])]
structure TI(q V T:D)(B0 cell:Int)(σ:St):Prop where
 q:Has σ "_law_query" q
 w:Has σ "_law_widths_here" V
 t:Has σ "_law_tables_here" T
 d:Has σ "_law_due" (.int B0)
 c:Has σ "_law_cell" (.int cell)
theorem TI.way{q V T:D}{B0 cell:Int}{v:v7×D}(I:TI q V T B0 cell σ):TI q V T B0 cell (ax σ "_law_way" v):=⟨ai QQ I.q,ai QQ I.w,ai QQ I.t,ai QQ I.d,ai QQ I.c⟩
theorem TI.args{q V T:D}{B0 cell:Int}(I:TI q V T B0 cell σ){e:ME}{d:D}(he:evE cf (vis σ) e=ac d):bk cf (vis σ) [e,.u "_law_query",.u "_law_widths_here",.u "_law_tables_here"]=ac [d,q,V,T]:=by
 rw[dO,he,show bk cf (vis σ) [.u "_law_query",.u "_law_widths_here",.u "_law_tables_here"]=ac [q,V,T] from by rw[dO,vr I.q,dO,vr I.w,dO,vr I.t];rfl]
structure TOk(B9:wq)(w:wy)(A:wt)(B3:Heap)(mg:Str->vY vU)(BM:Env)(q V T:D)(B0 cell:Int):Prop where
 a:∀ d∈[D.int 0,.int 1,.int 2],kj B9 w A B3 mg BM "_law_class" [d,q,V,T] (ld B0)
 b:∀ d∈[D.int 0,.int 1,.int 2],kj B9 w A B3 mg BM "_law_class_back" [d,q,V,T] (ld B0)
 c:B0<3->cell % 3≠1->kj B9 w A B3 mg BM "_law_class" [.int 3,q,V,T] (ld B0)
 d:kj B9 w A B3 mg BM "_law_any" [q,V] λv=>v=.bool vT
section
variable {q V T:D}{B0 cell:Int}
theorem ne_f{i:Int}:(!(i == i))=vP:=by rw[wH];rfl
theorem tail_if(Z:Cx B9 w A B3 mg mb cf)(f:BM.frame=ac BM.locals)(O:TOk B9 w A B3 mg BM q V T B0 cell)(I:TI q V T B0 cell σ):XT B9 w A B3 BS BM B1 B7 m σ (.bop .And [.cmp .Lt (.u "_law_due") (.int 3),.cmp .NotEq (.bin .Mod (.u "_law_cell") (.int 3)) (.int 1),.cmp .NotEq (.call "_law_class" [.int 3,.u "_law_query",.u "_law_widths_here",.u "_law_tables_here"]) (.u "_law_due")]) vP:=by
 have e1:evE cf (vis σ) (.cmp .Lt (.u "_law_due") (.int 3))=ac (.bool (decide (B0<3))):=by rw[rZ,vr I.d];rfl
 have a:evE cf (vis σ) (.cmp .NotEq (.bin .Mod (.u "_law_cell") (.int 3)) (.int 1))=ac (.bool (!(cell % 3 == 1))):=by rw[rZ,ev_bin,vr I.c];rfl
 refine ug ?_
 by_cases h1:B0<3
 ·rw[xF h1] at e1
  by_cases b:cell % 3=1
  ·rw[yx.mpr b] at a
   exact rF (jC Z e1 QQ) (oR (jC Z a QQ))
  ·rw[wK.mpr b] at a
   exact rF (jC Z e1 QQ) (rF (jC Z a QQ) (oR (uf Z f (O.c h1 b) (I.args QQ) (vr I.d) ne_f)))
 ·rw[xg h1] at e1
  exact oR (jC Z e1 QQ)
theorem tail_body(Z:Cx B9 w A B3 mg mb cf)(j:BM.frame=ac BM.locals)(O:TOk B9 w A B3 mg BM q V T B0 cell){b:vR wZ}(c:dP BM.kindOf b [.ite (.bop .Or [.cmp .NotEq (.call "_law_class" [.u "_law_way",.u "_law_query",.u "_law_widths_here",.u "_law_tables_here"]) (.u "_law_due"),.cmp .NotEq (.call "_law_class_back" [.u "_law_way",.u "_law_query",.u "_law_widths_here",.u "_law_tables_here"]) (.u "_law_due")]) [.ret (.bool vP)] []]=vT) :
  se B9 w A B3 BS BM "_law_way" (λB5 Y σ=>(∀ d∈B5,d∈[D.int 0,.int 1,.int 2])/\TI q V T B0 cell σ) (λY Y Y=>False) b:=λs BO B7 m σ dv B5 E i S Y=>by
 have I:=i.2.way (v:=(vP,dv));have n:evE cf (vis (ax σ "_law_way" (vP,dv))) (.u "_law_way")=ac dv:=vr aq;have f:=i.1 dv (.head _);cases b with
 | nil=>cases c
 | cons st b=>
  have o:=wm.mp c;have u:b=[]:=xf.mp o.2;subst u;refine w9 (xs_if (ug (xb_or (uf Z j (O.a dv f) (I.args n) (vr I.d) ne_f) (xb_or (uf Z j (O.b dv f) (I.args n) (vr I.d) ne_f) xb_or0))) S o.1 λs' K=>yN ?_)
  obtain⟨h,tk,dw,rfl,y,t⟩:=K.ok;exact λQ z Y=>z h tk dw _ m _ ⟨λd f=>i.1 d (.tail _ f),I⟩ t y
theorem tail_ok(Z:Cx B9 w A B3 mg mb cf)(B:BM.frame=ac BM.locals)(O:TOk B9 w A B3 mg BM q V T B0 cell)(I:TI q V T B0 cell σ)(S:aP w B3 BS s.heap BM B1 B7 m σ){a:vR wZ}(z:dP BM.kindOf a kz=vT){Q:yY->vZ->Prop}
  (k:∀ h tk dw,KH BS h->Q (.ret (.bool vT)) { s with heap:=h,toks:=tk,drawn:=dw }):wpAny (wc B9 w) A (zA a BM) Q E s:=by
 have U:∃ i o b,a=[i,o,b]/\gD BM.kindOf i (kz[0])=vT/\gD BM.kindOf o (kz[1])=vT/\gD BM.kindOf b (kz[2])=vT:=by
  cases a with
  | nil=>cases z
  | cons i a=>
   have c1:=wm.mp z;cases a with
   | nil=>cases c1.2
   | cons o a=>
    have c2:=wm.mp c1.2;cases a with
    | nil=>cases c2.2
    | cons b a=>
     have c3:=wm.mp c2.2;exact⟨i,o,b,by rw[xf.mp c3.2],c1.1,c2.1,c3.1⟩
 obtain⟨i,o,b,rfl,c1,c2,c3⟩:=U;refine w9 (vG.rec (motive:=λi BF=>wpAny (wc B9 w) A (yj i BM) _ E s) (λC y G H=>aR (im (BK:=[.int 0,.int 1,.int 2]) (tail_body Z B O H) S C y
  (λQ k=>i9 Z S G (d:=.rng 0 3) QQ λu BV j n X Y=>iI (ig (s:={ s with heap:=BV,toks:=j,drawn:=n }) Y Z.hh QQ) λI h tk dw J fr ex W=>k I BV h tk dw X J fr ex W) ⟨λd Ca=>Ca,cx I.q,cx I.w,cx I.t,cx I.d,cx I.c⟩) λf s' Cb=>Cb (λf s'=>match f with | .next=>wpAny (wc B9 w) A (zA [o,b] BM) Q E s' | f=>Q f s') (λh tk dw BX m' BJ L BF Cd=>?_) λBF BF BF BF BF BF BF e BF BF=>e.elim) (px c1))
 refine w9 (xs_if (tail_if Z B O L.2) Cd c2 λs' K=>?_)
 refine w9 (vC.rec (motive:=λb BF=>wpAny (wc B9 w) A (yj b BM) _ E s') (λz=>yR (sr Z B O.d K.st z (show bk cf (vis BJ) [.u "_law_query",.u "_law_widths_here"]=ac [q,V] from by rw[dO,vr L.2.q,dO,vr L.2.w];rfl) λv B2 Ce Cf=>?_)) (pp c3))
 obtain⟨Cg,M,N,Ch,Ci,_⟩:=(K.trans Cf).ok;rw[Ch,Ce];exact k Cg M N Ci.keep
theorem run_pre(Z:Cx B9 w A B3 mg mb cf){Q:yY->vZ->Prop}{t:vR MS}{BJ:St}:∀ (f:vR MS) (b:vR wZ) (s:vZ) (B7:Own) (m:Str->vY vU) (σ:St),dP BM.kindOf b (f++t)=vT->aP w B3 BS s.heap BM B1 B7 m σ->aY cf f σ=ac (.next,BJ) ->
  (∀ b h tk dw B7 m,dP BM.kindOf b t=vT->aP w B3 BS h BM B1 B7 m BJ->wpAny (wc B9 w) A (zA b BM) Q E { s with heap:=h,toks:=tk,drawn:=dw })->wpAny (wc B9 w) A (zA b BM) Q E s:=by
 intro f
 induction f with
 | nil=>exact λb s B7 m σ n S o k=>k b s.heap s.toks s.drawn B7 m n ((wY (v5 o)).2▸S)
 | cons a f u=>
  intro b s B7 m σ n S o k;cases b with
  | nil=>cases n
  | cons st b=>
   have j:=wm.mp n;refine w9 (sq o (λi h1 q=>uk (rn Z a s BM st B1 BS B7 m σ _ E j.1 S h1) (λh tk dw BX m' Y Y y=>?_) λY Y Y Y Y Y e Y Y=>nomatch e) λfr d Y q=>nomatch q)
   exact u b { s with heap:=h,toks:=tk,drawn:=dw } BX m' i j.2 y q λb h tk dw B7 m c S=>k b h tk dw B7 m c S
end
end
end Mine
namespace Mine
open PySem
end Mine
namespace Mine
open PySem PySem.SeqAt PySem.W PyProof.Rows
noncomputable def ExP(mg:Str->vY vU)(h:Heap):Prop:=∃ Q,ExOk mg h Q
theorem ExP.keeps{mg:Str->vY vU}{h h':Heap}(x:ExP mg h)(a:∀ b o,h.get? b=ac o->h'.get? b=ac o):ExP mg h':=
 let ⟨Q,x⟩:=x;⟨Q,x.q,x.qat.keeps (Heap.gt_up a),λc f=>let ⟨C,h1,h2,h3⟩:=x.c c f;⟨C,h1,h2,h3.keeps (Heap.gt_up a)⟩,x.inj⟩
theorem kI{α b:Type}{f:α->b}:∀ {l:vR α},(l.map f).Nodup->∀ x∈l,∀ y∈l,f x=f y->x=y
 | a::l,h,x,c,y,hy,e=>by
  have h:=xQ.mp h
  rcases wf.mp c with rfl | hx'
  ·rcases wf.mp hy with rfl | hy
   ·rfl
   ·exact wI (e▸xn hy) h.1
  ·rcases wf.mp hy with rfl | hy
   ·exact wI (e▸xn hx') h.1
   ·exact kI h.2 x hx' y hy e
theorem ex_of(s:vZ)(e:exAt s=vT):ExP (s.heap.nsMap xj) s.heap:=by
 refine fL e λe1 z A=>?_
 have w:=xu A;obtain⟨Q,N,f,q,bs,a,h,sub,i,col,j,m,n,k2,o,t,h1,B,E,G⟩:=Heap.ownExc_of_ok e1;refine⟨Q,h1,⟨f,q,N,bs,a,h,sub,i,col,j,m,n,k2,o,t,_,B,E,G⟩,λc b=>?_,λc b H u e=>kI w c (.tail _ b) H (.tail _ u) e⟩
 obtain⟨C,N,f,q,bs,a,h,sub,i,col,j,m,n,k2,o,t,g1,y,I,J⟩:=Heap.ownExc_of_ok (wQ.mp z c b);rw[List.map_singleton,h1] at y;refine⟨C,g1,λe=>?_,f,q,N,bs,a,h,sub,i,col,j,m,n,k2,o,t,_,y,I,J⟩
 have:=kI w c (.tail _ b) "QueryError" (.head _) (by rw[g1,h1,e])
 subst this;exact wI b (by decide)
noncomputable def nq:vR (vV×Int):=[("NoStep",1),("NoTable",2),("NoCount",3),("NoColumn",4),("UnlikeSides",5)]
noncomputable def m7:Fn:=⟨["_law_query","_law_widths_here"],[
  .tryq "width" [.u "_law_query",.u "_law_widths_here"],
  .ret (.bool vP)]⟩
noncomputable def fm:Fn:=⟨["_law_way","_law_query","_law_widths_here","_law_tables_here"],[
  .tryc "_law_asked" [.u "_law_way",.u "_law_query",.u "_law_widths_here",.u "_law_tables_here"] [("UnlikeSides",5),("NoColumn",4),("NoCount",3),("NoTable",2),("NoStep",1)],
  .ret (.int 0)]⟩
noncomputable def jW:Fn:=⟨["_law_way","_law_query","_law_widths_here","_law_tables_here"],[
  .tryc "_law_asked" [.u "_law_way",.u "_law_query",.u "_law_widths_here",.u "_law_tables_here"] [("NoStep",1),("NoTable",2),("NoCount",3),("NoColumn",4),("UnlikeSides",5)],
  .ret (.int 0)]⟩
structure vx(P:vR (vV×Fn))(X:CF)(N:Nat)(ns:vR Int):Prop where
 cl:P.lookup "_law_class"=ac jW
 cb:P.lookup "_law_class_back"=ac fm
 an:P.lookup "_law_any"=ac m7
 ok:∃ pre q V T B0 cell σ c,P.lookup "law"=ac ⟨["_law_script"],pre++kz⟩/\aY (ae P X (N+1)) pre [("_law_script",(vP,.list (ns.map .int)))]=ac (.next,σ)/\TI q V T B0 cell σ/\(c,B0)∈nq /\
  (∀ d∈[D.int 0,.int 1,.int 2],(ae P X N).raz "_law_asked" [d,q,V,T]=ac c)/\(B0<3->cell % 3≠1->(ae P X N).raz "_law_asked" [.int 3,q,V,T]=ac c)/\(ae P X N).raz "width" [q,V]=ac c
theorem iV{c:vV}{i:Int}{C:vV->Int->Prop}(h:(c,i)∈nq)(h1:C "NoStep" 1)(a:C "NoTable" 2)(b:C "NoCount" 3)(f:C "NoColumn" 4)(j:C "UnlikeSides" 5):C c i:=by
 simp only[nq,wf,wG,xx,Prod.mk.injEq] at h
 rcases h with⟨rfl,rfl⟩ | ⟨rfl,rfl⟩ | ⟨rfl,rfl⟩ | ⟨rfl,rfl⟩ | ⟨rfl,rfl⟩ <;> assumption
theorem rM{cf:CF}{f c:vV}{ρ:vR (vV×D)}{es:vR ME}{ds:vR D}(h:bk cf ρ es=ac ds)(k:cf.raz f ds=ac c):rzE cf ρ (.call f es)=ac c:=by
 show (match bk cf ρ es with | some ds=>cf.raz f ds | none=>if cf.fn f=vT then jK cf ρ es else none)=_
 rw[h];exact k
theorem law_fin{l:OpenLaw}{w:wy}{z BU:vZ}{mg mb:Str->vY vU}{p:wq}{loose:vR Str}{J n:ExcName->vY vU}{P:vR (vV×Fn)}{X:CF}(N:Nat)(T:Top p loose J mg mb BU.heap)
  (Cy:pK (zX p) P=vT) (Cz:md p loose=vT) (CA:N+2<=300) (Ct:∀ A,AOk A 0->cD l.prog w BU.heap mg X A) (L:TbOk mg BU.heap) (Cd:ExP mg BU.heap)
  {Ce a:v8} {ns:vR Int} (Cf:mg (vQ "law")=ac (.ref Ce)) (CB:BU.gens=#[]) (CC:Well w.params BU.heap (.ref a) (ofPy (PyData.list (ns.map PyData.int)))) (M:¬ ((63:Nat):Int)<(ns.length:Int))
  (b:vx P X N ns) :
  wpAny (wc l.row.toRowW.prog w) y0 (call (.ref Ce) [.ref a]) (λv s'=>GoodWG l.row.toRowW.claim (classAt z.heap) n [ofPy (PyData.list (ns.map PyData.int))] BU (.ok (.ret v)) s')
   (λe s'=>GoodWG l.row.toRowW.claim (classAt z.heap) n [ofPy (PyData.list (ns.map PyData.int))] BU (.error e) s') BU:=by
 have G:=gOk_of T Cz L Cd;have Y:Rep w.params BU.heap (λBF=>False) (.ref a) (.list (ns.map .int)):=by
  cases CC with
  | list CD CE=>exact .mk CD (λq=>q) (by rw[v9];exact v6 (yH.mp (zm.mp M)) (by decide)) (wellInts (by simpa using CE))
 have H:∀ f Cg,P.lookup f=ac Cg->sa BU.heap mg f Cg:=λf Cg Ch=>fnOk_of T L G.lam.2.1 Cy Ch
 obtain⟨Ci,q,V,U,B0,cell,σ,c,Ca,Cb,Cj,j,I,Ck,Cm⟩:=b.ok;obtain⟨CG,o,CO,h1,Cu,CP,go⟩:=ma (B9:=l.prog) (w:=w) G (H _ _ Ca) (ds:=[.list (ns.map .int)]) QQ;have e:CG=Ce:=Value.ref.inj (v5 (h1.symm.trans Cf));subst e;have Cv:AOk y0 (N+2):=aOk_top CA;refine go y0 (wg (v6 (wB _ _) (wB _ _)) Cv.depth) BU (λBF=>False) [.ref a] _ _ ⟨λBF BF e=>e,λBF q=>q.elim,λBF BF BF q=>q⟩ (.cons Y .nil) λBM body BV E m Ch CQ CH S=>?_
 have B:AOk (y0.deeper BM) (N+1):=Cv.deeper (.refl _) BM;have u:(y0.deeper BM).depth+10<xU:=wg (wP (wB _ _) (by decide)) B.depth
 have y:(y0.deeper BM).units+40<yg:=wg (wP (wB _ _) (by decide)) B.units
 have Z:Cx l.prog w (y0.deeper BM) BU.heap mg mb (ae P X (N+1)):=⟨G,lF G H Ct (N+1) _ B,B.handled,⟨wg (wW (by decide) _) y,wg (wW (by decide) _) u⟩⟩
 have Cn:∀ t,cD l.prog w BU.heap mg (ae P X N) ((y0.deeper BM).deeper t):=λt=>lF G H Ct N _ (B.deeper (.refl _) t)
 have Co:c∈bx:=iV (C:=λc BF=>c∈bx) j (by decide) (by decide) (by decide) (by decide) (by decide)
 have Cp:([("NoStep",1),("NoTable",2),("NoCount",3),("NoColumn",4),("UnlikeSides",5)]:vR (vV×Int)).lookup c=ac B0:=iV (C:=λc i=>([("NoStep",1),("NoTable",2),("NoCount",3),("NoColumn",4),("UnlikeSides",5)]:vR (vV×Int)).lookup c=ac i) j QQ QQ QQ QQ QQ
 have Cq:([("UnlikeSides",5),("NoColumn",4),("NoCount",3),("NoTable",2),("NoStep",1)]:vR (vV×Int)).lookup c=ac B0:=iV (C:=λc i=>([("UnlikeSides",5),("NoColumn",4),("NoCount",3),("NoTable",2),("NoStep",1)]:vR (vV×Int)).lookup c=ac i) j QQ QQ QQ QQ QQ
 have Cw:∀ d,(ae P X N).raz "_law_asked" [d,q,V,U]=ac c->kj l.prog w (y0.deeper BM) BU.heap mg BM "_law_class" [d,q,V,U] (ld B0):=λd I=>
  pL (l:=[BM]) G B.handled u y Cn (H _ _ b.cl) (ds:=[d,q,V,U]) QQ QQ QQ Co (rM (ds:=[d,q,V,U]) QQ I) (.inl ⟨_,_,B0,QQ,by decide,Cp,λBF h=>h⟩)
 have CJ:∀ d,(ae P X N).raz "_law_asked" [d,q,V,U]=ac c->kj l.prog w (y0.deeper BM) BU.heap mg BM "_law_class_back" [d,q,V,U] (ld B0):=λd I=>
  pL (l:=[BM]) G B.handled u y Cn (H _ _ b.cb) (ds:=[d,q,V,U]) QQ QQ QQ Co (rM (ds:=[d,q,V,U]) QQ I) (.inl ⟨_,_,B0,QQ,by decide,Cq,λBF h=>h⟩)
 have CL:kj l.prog w (y0.deeper BM) BU.heap mg BM "_law_any" [q,V] (λv=>v=.bool vT):=
  pL (l:=[BM]) G B.handled u y Cn (H _ _ b.an) (ds:=[q,V]) QQ QQ QQ Co (rM (ds:=[q,V]) QQ Cm) (.inr ⟨QQ,QQ⟩)
 have O:TOk l.prog w (y0.deeper BM) BU.heap mg BM q V U B0 cell:=⟨λd Cr=>Cw d (I d Cr),λd Cr=>CJ d (I d Cr),λh1 Cu=>Cw _ (Ck h1 Cu),CL⟩
 refine run_pre Z Ci body { BU with heap:=BV,toks:=E } _ m _ CH S Cb λCR h tk dw B7 m Cs CM=>tail_ok (s:={ BU with heap:=h,toks:=tk,drawn:=dw }) Z Ch O Cj CM Cs λh tk dw CN=>?_
 exact⟨.inl ⟨.bool vT,.bool vT,[],QQ,λBF=>QQ,.bool vT,postW_of (r:=l.row.toRowW) QQ (w_eq_bool (w_res QQ) w_lit) QQ,λBF=>⟨.nil,λBF h=>nomatch h⟩⟩,oldK_of ⟨_,G.lam.2.1⟩ CN,QQ,.of_eq CB⟩
end Mine
namespace Mine
open PySem
set_option maxHeartbeats 1600000
noncomputable def jX:Fn:=⟨["_law_way","_law_query","_law_widths_here","_law_tables_here"],[
  .ite (.cmp .Eq (.u "_law_way") (.int 0)) [.expr (.call "width" [.u "_law_query",.u "_law_widths_here"])] [.ite (.cmp .Eq (.u "_law_way") (.int 1)) [.expr (.call "plan" [.u "_law_query",.u "_law_widths_here"])] [.ite (.cmp .Eq (.u "_law_way") (.int 2)) [.expr (.call "planned" [.u "_law_query",.u "_law_widths_here",.u "_law_tables_here"])] [.expr (.call "answer" [.u "_law_query",.u "_law_tables_here"])]]]]⟩
structure BY(P:vR (vV×Fn)):Prop extends BZ P where
 plan:P.lookup "plan"=ac tA
 planned:P.lookup "planned"=ac m0
 asked:P.lookup "_law_asked"=ac jX
section
variable {P:vR (vV×Fn)} {X:CF} {V U:D}
theorem asked_w(B:BY P){k:Nat}{q:D}{c:vV}(a:bx.contains c=vT)(h:ZW P X "width" V k q c)(n:Nat)(i:k<=n):∀ d∈[D.int 0,.int 1,.int 2],(ae P X (n+3)).raz "_law_asked" [d,q,V,U]=ac c:=by
 have j:=h (n+2) (by omega)
 have m:Bd (ae P X (n+2)) "plan" [q,V] c:=bl B.plan QQ a (cW (d5 (bO (aa (d:=q) QQ (aa (d:=V) QQ vN)) (h (n+1) (by omega)))))
 have b:Bd (ae P X (n+1)) "plan" [q,V] c:=bl B.plan QQ a (cW (d5 (bO (aa (d:=q) QQ (aa (d:=V) QQ vN)) (h n i))));have k2:Bd (ae P X (n+2)) "planned" [q,V,U] c:=bl B.planned QQ a (cW (mx (lT (tB B.answer) (z_hd (bO (aa (d:=q) QQ (aa (d:=V) QQ vN)) b))) QQ));intro d f;refine (bl (X:=X) (n:=n+2) B.asked QQ a ?_).rz;generalize ae P X (n+2)=cf at *;simp only[wf,wG,xx] at f
 rcases f with rfl | rfl | rfl
 ·exact dH (k:=vT) (x:=.bool vT) QQ QQ (cW (d5 (bO (aa (d:=q) QQ (aa (d:=V) QQ vN)) j)))
 ·exact dH (k:=vP) (x:=.bool vP) QQ QQ (dH (k:=vT) (x:=.bool vT) QQ QQ (cW (d5 (bO (aa (d:=q) QQ (aa (d:=V) QQ vN)) m))))
 ·exact dH (k:=vP) (x:=.bool vP) QQ QQ (dH (k:=vP) (x:=.bool vP) QQ QQ (dH (k:=vT) (x:=.bool vT) QQ QQ (cW (d5 (bO (aa (d:=q) QQ (aa (d:=V) QQ (aa (d:=U) QQ vN))) k2)))))
theorem asked_a(B:BY P){k:Nat}{q:D}{c:vV}(a:bx.contains c=vT)(h:ZW P X "answer" U k q c)(n:Nat)(b:k<=n):(ae P X (n+1)).raz "_law_asked" [.int 3,q,V,U]=ac c:=by
 have f:=h n b;refine (bl (X:=X) (n:=n) B.asked QQ a ?_).rz;generalize ae P X n=cf at *;exact dH (k:=vP) (x:=.bool vP) QQ QQ (dH (k:=vP) (x:=.bool vP) QQ QQ (dH (k:=vP) (x:=.bool vP) QQ QQ (cW (d5 (bO (aa (d:=q) QQ (aa (d:=U) QQ vN)) f)))))
theorem cmp_ni(a b:D):b9 .NotIn a b=(kK a b).map λx=>.bool (!x):=rfl
theorem notin3{a b c nm:Str}{vs:vR D}(h1:a≠nm)(f:b≠nm)(h:c≠nm):b9 .NotIn (.str nm) (.dict [.str a,.str b,.str c] vs)=ac (.bool vT):=by
 have e:([D.str a,.str b,.str c].any λx=>aU x (.str nm))=vP:=by rw[xM,gY h1,xM,gY f,xM,gY h];rfl
 rw[cmp_ni,show kK (.str nm) (.dict [.str a,.str b,.str c] vs)=ac vP from (wh (c:=cJ (.str nm) [.str a,.str b,.str c]=vT) (e:=none) QQ).trans (wv ac e)];rfl
theorem sQ{a b c x:Str}{vs:vR D}(h:a.length≠2/\b.length≠2/\c.length≠2)(i:x.length=1):b9 .NotIn (.str (vQ "x"++x)) (.dict [.str a,.str b,.str c] vs)=ac (.bool vT):=by
 have f:(vQ "x"++x).length=2:=by rw[cy,x_len,i]
 exact notin3 (λe=>h.1 (e▸f)) (λe=>h.2.1 (e▸f)) (λe=>h.2.2 (e▸f))
noncomputable def lR(P:vR (vV×Fn))(X:CF)(V U:D)(k:Nat)(d:D)(B0:Int)(ya:Prop):Prop:=∃ cl,(cl,B0)∈nq/\ZW P X "width" V k d cl/\(B0<3->ya->ZW P X "answer" U k d cl)
theorem fV{c:vV}{i:Int}(h:(c,i)∈nq):bx.contains c=vT:=iV (C:=λc Z=>bx.contains c=vT) h (by decide) (by decide) (by decide) (by decide) (by decide)
theorem ue(B:BZ P)(hX:X.glob "STEPS"=ac (.tup aJ)){d:D}(h:NoSt d):ZW P X "width" V 1 d "NoStep"/\ZW P X "answer" U 1 d "NoStep":=by
 obtain⟨s,b,c⟩:=h;refine⟨λn a=>?_,λn a=>?_⟩
 ·obtain⟨m,rfl,_⟩:=lvl a
  exact wb_nostep B.toBW hX m b c
 ·obtain⟨m,rfl,_⟩:=lvl a
  exact ab_nostep B.toBA hX m b c
theorem rD(B:BZ P)(hX:X.glob "STEPS"=ac (.tup aJ)){x:Str}(b:b9 .NotIn (.str (vQ "x"++x)) V=ac (.bool vT))(c:b9 .NotIn (.str (vQ "x"++x)) U=ac (.bool vT)):ZW P X "width" V 1 (dD x) "NoTable"/\ZW P X "answer" U 1 (dD x) "NoTable":=by
 refine⟨λn a=>?_,λn a=>?_⟩
 ·obtain⟨m,rfl,_⟩:=lvl a
  exact wb_table B.toBW hX m b
 ·obtain⟨m,rfl,_⟩:=lvl a
  exact ab_table B.toBA hX m c
theorem za_two{wd c:vV}(B:BZ P)(hX:X.glob "STEPS"=ac (.tup aJ))(a:wd="join"\/wd="both")(b:bx.contains c=vT){q d:D}(f:aD d (.int 0)=ac (sD wd))(h1:aD d (.int 1)=ac q){k:Nat}(h:ZW P X "answer" U k q c):ZW P X "answer" U (k+1) d c:=λn i=>by
 obtain⟨m,rfl,j⟩:=lvl i;exact ab_two1 B.toBA hX m a b f h1 (h m j)
theorem za_up{wd c:vV}(B:BZ P)(hX:X.glob "STEPS"=ac (.tup aJ))(a:wd∈lI)(b:bx.contains c=vT){q d:D}(f:aD d (.int 0)=ac (sD wd))(i:aD d (.int (-1))=ac q){k:Nat}(h:ZW P X "answer" U k q c):ZW P X "answer" U (k+1) d c:=λn j=>by
 obtain⟨m,rfl,o⟩:=lvl j;have:=h m o;obtain⟨m,rfl⟩:=this.pos;exact ab_up B.toBA hX m a b f i this
theorem cls_one(B:BZ P)(hX:X.glob "STEPS"=ac (.tup aJ)){way c:Int}{w:Nat}{q d:D}{B0:Int}{k:Nat}(C:3<=k)(i:∀ x:Str,x.length=1->b9 .NotIn (.str (vQ "x"++x)) V=ac (.bool vT)/\b9 .NotIn (.str (vQ "x"++x)) U=ac (.bool vT))
  (u:OW P X V k q w) (E:∀ n,k<=n->∃ A fr,(ae P X n).call "answer" [q,U]=ac (A,fr)) (h:vo P X V way c w q d B0):lR P X V U (k+2) d B0 True:=by
 rcases h with⟨_,rfl,h⟩ | ⟨_,rfl,h⟩ | ⟨_,_,G,j,h⟩
 ·have z:=ue (V:=V) (U:=U) B hX h
  exact⟨"NoStep",by decide,z.1.up (by omega),λZ Z=>z.2.up (by omega)⟩
 ·refine⟨"NoTable",by decide,?_⟩
  rcases h with⟨_,wd,x,a,b,f,h1⟩ | ⟨_,wd,x,a,b,f,h1,y⟩
  ·have z:=rD (V:=V) (U:=U) B hX (i x b).1 (i x b).2
   exact⟨(jh B.toBW hX a (by decide) f h1 z.1).up (by omega),λZ Z=>(za_two B hX a (by decide) f h1 z.2).up (by omega)⟩
  ·have z:=rD (V:=V) (U:=U) B hX (i x b).1 (i x b).2
   refine⟨λn s=>?_,λZ Z n s=>?_⟩
   ·obtain⟨m,rfl,t⟩:=lvl s
    exact wb_two2 B.toBW hX m a (by decide) f h1 y (u m (by omega)) (z.1 m (by omega))
   ·obtain⟨m,rfl,t⟩:=lvl s
    obtain⟨m,rfl,t⟩:=lvl t;obtain⟨A,fr,e⟩:=E (m+1) (by omega)
    exact ab_two2 B.toBA hX m a (by decide) f h1 y e (z.2 (m+1) (by omega))
 ·have z:=h.o k C u
  rcases j with⟨rfl,rfl⟩ | ⟨rfl,rfl⟩ | ⟨rfl,rfl⟩
  ·exact⟨_,by decide,z,λh=>wI h (by decide)⟩
  ·exact⟨_,by decide,z,λh=>wI h (by decide)⟩
  ·exact⟨_,by decide,z,λh=>wI h (by decide)⟩
noncomputable def t8(way a B0:Int):Int:=if way == 1&&decide (a % 4 > 1) then 2 else if way == 0 then 1 else B0
section
variable {d:D}{B0:Int}{k:Nat}{ya:Prop}
theorem cls_two(B:BZ P)(hX:X.glob "STEPS"=ac (.tup aJ)){way c:Int}{w:Nat}{q:D}{b:Int}(o:∀ x:Str,x.length=1->b9 .NotIn (.str (vQ "x"++x)) V=ac (.bool vT)/\b9 .NotIn (.str (vQ "x"++x)) U=ac (.bool vT))
  (t:lR P X V U k q B0 ya) (A:1<=k) (h:vo P X V way c w q d b):lR P X V U (k+2) d (t8 way c B0) False:=by
 obtain⟨f,a,s,_⟩:=t;unfold t8
 rcases h with⟨rfl,_,h⟩ | ⟨rfl,_,h⟩ | ⟨u,n1,y,_,h⟩
 ·have z:=ue (V:=V) (U:=U) B hX h
  exact⟨"NoStep",(show ("NoStep",(1:Int))∈nq by decide),z.1.up (by omega),λZ h=>h.elim⟩
 ·rcases h with⟨i,wd,x,j,m,n,h1⟩ | ⟨i,wd,x,j,m,n,h1,C⟩
  ·have z:=rD (V:=V) (U:=U) B hX (o x m).1 (o x m).2
   rw[xF i];exact⟨"NoTable",(show ("NoTable",(2:Int))∈nq by decide),(jh B.toBW hX j (by decide) n h1 z.1).up (by omega),λZ h=>h.elim⟩
  ·rw[xg i]
   exact⟨f,a,(jh B.toBW hX j (fV a) n h1 s).up (by omega),λZ h=>h.elim⟩
 ·rw[wK.mpr u,wK.mpr n1]
  exact⟨f,a,h.z k f (fV a) s,λZ h=>h.elim⟩
theorem nr(B:BZ P)(hX:X.glob "STEPS"=ac (.tup aJ)){wd:vV}(b:wd∈lI){q:D}(c:aD d (.int 0)=ac (sD wd))(f:aD d (.int (-1))=ac q)(h:lR P X V U k q B0 ya):lR P X V U (k+1) d B0 ya:=by
 obtain⟨i,a,j,m⟩:=h;exact⟨i,a,ud B.toBW hX b (fV a) c f j,λh1 n=>za_up B hX b (fV a) c f (m h1 n)⟩
theorem lR.up{c:Nat}(h:lR P X V U k d B0 ya)(f:k<=c):lR P X V U c d B0 ya:=let ⟨cl,h1,h2,h3⟩:=h;⟨cl,h1,h2.up f,λa b=>(h3 a b).up f⟩
end
end
set_option maxHeartbeats 1600000
noncomputable def rG:vR MS:=[.x0 "_law_some" (.lst [.tup [.str "once",.u "_law_query"],.tup [.str "order",.tup [],.u "_law_query"],.tup [.str "first",.int 2,.u "_law_query"],.tup [.str "first",.int 0,.u "_law_query"]]),.append "_law_some" (.tup [.str "sieve",.tup [.tup []],.u "_law_query"]),.x0 "_law_query" (.sub (.u "_law_some") (.bin .Mod (.call "_law_mixed" [.u "_law_cell",.u "_law_k"]) (.int 5)))]
noncomputable def vb:vR MS:=[
  .for_ "_law_k" (.blt "range" [.bin .Mod (.call "_law_mixed" [.u "_law_cell",.int 8]) (.int 4)]) rG,
  .x0 "_law_widths_here" (.call "_law_widths" [.u "_law_script"]),
  .x0 "_law_tables_here" (.call "_law_tables" [.u "_law_script",.int 0])]
noncomputable def twoMS:vR MS:=[.x0 "_law_way" (.bin .Mod (.bin .FloorDiv (.u "_law_cell") (.int 3)) (.int 12)),.x0 "_law_more" (.bin .FloorDiv (.u "_law_cell") (.int 36)),.x0 "_law_query" (.sub (.call "_law_wrong" [.u "_law_way",.u "_law_more",.u "_law_query",.int 9]) (.int 0)),.ite (.cmp .Eq (.u "_law_way") (.int 0)) [.x0 "_law_due" (.int 1)] [],.ite (.bop .And [.cmp .Eq (.u "_law_way") (.int 1),.cmp .Gt (.bin .Mod (.u "_law_more") (.int 4)) (.int 1)]) [.x0 "_law_due" (.int 2)] []]
noncomputable def uH:vR MS:=[
  .x0 "_law_built" (.call "_law_stepped" [.bin .Add (.sl (.u "_law_script") .none (.int 6)) (.sl (.u "_law_script") (.int 9) (.int 27))]),
  .x0 "_law_cell" (.call "_law_cell_at" [.u "_law_script",.int 6]),
  .x0 "_law_way" (.sub (.lst [.int 0,.int 1,.int 2,.int 3,.int 4,.int 5,.int 6,.int 7,.int 8,.int 9,.int 10,.int 11,.int 9,.int 10,.int 9]) (.bin .Mod (.u "_law_cell") (.int 15))),
  .x0 "_law_cell" (.call "_law_cell_at" [.u "_law_script",.int 7]),
  .x0 "_law_wrong_here" (.call "_law_wrong" [.u "_law_way",.u "_law_cell",.sub (.u "_law_built") (.int 0),.sub (.u "_law_built") (.int 1)]),
  .x0 "_law_cell" (.call "_law_cell_at" [.u "_law_script",.int 8]),
  .x0 "_law_query" (.sub (.u "_law_wrong_here") (.int 0)),
  .x0 "_law_due" (.sub (.u "_law_wrong_here") (.int 1)),
  .ite (.cmp .Eq (.bin .Mod (.u "_law_cell") (.int 3)) (.int 1)) twoMS []]++vb
theorem eL{cf:CF}{z:vV}{e:ME}{r:vR MS}{σ:St}{d:D}{fr:v7}{R:Fl->St->Prop}(h:evF cf (vis σ) e=ac (d,fr))(k:∀ BJ:St,(∀ x u,(x == z)=vP->Has σ x u->Has BJ x u)->Has BJ z d->Out cf r BJ R):Out cf (.x0 z e::r) σ R:=
 aM (ak h) (k _ (λx u a i=>ai a (av i)) aq)
section
variable {P:vR (vV×Fn)} {X:CF} {V U:D}
structure LI(P:vR (vV×Fn))(X:CF)(V U S:D)(cell B0:Int)(ya:Prop)(k:Nat)(σ:St):Prop where
 s:Has σ "_law_script" S
 c:Has σ "_law_cell" (.int cell)
 d:Has σ "_law_due" (.int B0)
 q:∃ q,Has σ "_law_query" q/\lR P X V U k q B0 ya
section
variable {S:D}{cell B0:Int}{ya:Prop}{k:Nat}{σ:St}
theorem wrap_turn(B:BZ P)(hX:X.glob "STEPS"=ac (.tup aJ))(n:Nat){i:Nat}(I:LI P X V U S cell B0 ya k σ):Out (ae P X (n+1)) rG (ax σ "_law_k" (vP,.int i)) λo BJ=>o=.next/\LI P X V U S cell B0 ya (k+1) BJ:=by
 obtain⟨q,t,a⟩:=I.q;obtain⟨r,_,u⟩:=mixed (X:=X) B.toBG n cell i;have w:=ai (y:="_law_k") (v:=(vP,D.int i)) QQ I.s;have j:=ai (y:="_law_k") (v:=(vP,D.int i)) QQ I.c;have z:=ai (y:="_law_k") (v:=(vP,D.int i)) QQ I.d;have b:=ai (y:="_law_k") (v:=(vP,D.int i)) QQ t;have A:Has (ax σ "_law_k" (vP,.int i)) "_law_k" (.int i):=aq;generalize ax σ "_law_k" (vP,.int i)=σ at *;obtain⟨e,C,f⟩:=bJ (l:=[.tup [sD "once",q],.tup [sD "order",.tup [],q],.tup [sD "first",.int 2,q],.tup [sD "first",.int 0,q],.tup [sD "sieve",.tup [.tup []],q]]) (xH _) r (R:=λd=>lR P X V U (k+1) d B0 ya) (by
  intro d m;simp only[wf,wG,xx] at m
  rcases m with rfl | rfl | rfl | rfl | rfl
  ·exact nr B hX (wd:="once") (by decide) QQ QQ a
  ·exact nr B hX (wd:="order") (by decide) QQ QQ a
  ·exact nr B hX (wd:="first") (by decide) QQ QQ a
  ·exact nr B hX (wd:="first") (by decide) QQ QQ a
  ·exact nr B hX (wd:="sieve") (by decide) QQ QQ a)
 have f:aD (.list [.tup [sD "once",q],.tup [sD "order",.tup [],q],.tup [sD "first",.int 2,q],.tup [sD "first",.int 0,q],.tup [sD "sieve",.tup [.tup []],q]]) (.int (r % 5))=ac e:=f;refine aM (ak (d:=.list [.tup [sD "once",q],.tup [sD "order",.tup [],q],.tup [sD "first",.int 2,q],.tup [sD "first",.int 0,q]]) (fr:=vT) (ao (cE (aa (aw (aa vS (vv b vN)) (vW QQ)) (aa (aw (aa vS (aa (aw vN (ww _)) (vv b vN))) (vW QQ)) (aa (aw (aa vS (aa vI (vv b vN))) (vW QQ)) (aa (aw (aa vS (aa vI (vv b vN))) (vW QQ)) vN)))) (vW QQ)) QQ QQ)) ?_;refine aM (eu (d:=.tup [sD "sieve",.tup [.tup []],q]) (ds:=[.tup [sD "once",q],.tup [sD "order",.tup [],q],.tup [sD "first",.int 2,q],.tup [sD "first",.int 0,q]]) (aw (aa vS (aa (aw (aa (aw vN (ww _)) vN) (vW QQ)) (vv (ai QQ (av b)) vN))) (vW QQ)) (gR QQ fw) (vW QQ)) ?_;refine eL (d:=e) (fr:=vP) (ao (ay (vr aq) (aj (au (vv (ai QQ (av (ai QQ (av j)))) (vv (ai QQ (av (ai QQ (av A)))) vN)) u) vI (aB (by decide))) f) QQ QQ) λBJ h E=>?_
 exact cu ⟨QQ,h _ _ QQ (ai QQ (av (ai QQ (av w)))),h _ _ QQ (ai QQ (av (ai QQ (av j)))),h _ _ QQ (ai QQ (av (ai QQ (av z)))),e,E,C⟩
theorem sR(B:BZ P)(hX:X.glob "STEPS"=ac (.tup aJ))(n:Nat)(A:(ae P X (n+1)).call "_law_widths" [S]=ac (V,vT))(C:(ae P X (n+1)).call "_law_tables" [S,.int 0]=ac (U,vT))(I:LI P X V U S cell B0 ya k σ) :
  Out (ae P X (n+1)) vb σ λt BJ=>t=.next/\∃ q,TI q V U B0 cell BJ/\lR P X V U (k+3) q B0 ya:=by
 obtain⟨r,_,E⟩:=mixed (X:=X) B.toBG n cell 8;obtain⟨m,u,G⟩:=a9 r (k:=4) (by decide)
 have u:r % 4=(m:Int):=u;have b:ce .Mod (.int r) (.int 4)=ac (.int m):=by rw[<- u];exact aB (by decide)
 obtain⟨BJ,e⟩:=mI (cf:=ae P X (n+1)) (body:=rG) (z:="_law_k") (λj σ=>LI P X V U S cell B0 ya (k+j) σ) (λZ Z=>False) m ((wR m).map λ(i:Nat)=>D.int (i:Int)) 0 (freeze (ME.names (.blt "range" [.bin .Mod (.call "_law_mixed" [.u "_law_cell",.int 8]) (.int 4)])) σ) (by rw[v9,xo];omega) ⟨cx I.s,cx I.c,cx I.d,let ⟨q,h1,w⟩:=I.q;⟨q,cx h1,w⟩⟩ (by
  intro j N σ O y I;obtain⟨i,_,rfl⟩:=wz.mp y;obtain⟨t,BJ,q,e⟩:=wrap_turn B hX n (i:=i) I;exact⟨t,BJ,.inl q,e⟩)
 rcases e with⟨a,e⟩ | ⟨_,_,h,_⟩
 ·refine uK (cg (aa (aj (au (vv I.c (aa vI vN)) E) vI b) vN) (kg (v6 (xb G) (by decide)))) (d8 m) e ?_
  rw[v9,xo,x9] at a;obtain⟨q,h1,w⟩:=a.q;refine eL (aI (vv a.s vN) A) λH f J=>?_
  refine eL (aI (vv (f _ _ QQ a.s) (aa vI vN)) C) λL o M=>?_
  exact cu ⟨QQ,q,⟨o _ _ QQ (f _ _ QQ h1),o _ _ QQ J,M,o _ _ QQ (f _ _ QQ a.d),o _ _ QQ (f _ _ QQ a.c)⟩,w.up (by omega)⟩
 ·exact h.elim
theorem law_two(B:BZ P)(hX:X.glob "STEPS"=ac (.tup aJ))(n:Nat){Q:Fl->St->Prop}(Cb:1<=k)(Cd:∀ x:Str,x.length=1->b9 .NotIn (.str (vQ "x"++x)) V=ac (.bool vT)/\b9 .NotIn (.str (vQ "x"++x)) U=ac (.bool vT))(I:LI P X V U S cell B0 ya k σ){r:vR MS}
  (J:∀ B0 σ,LI P X V U S cell B0 False (k+2) σ->Out (ae P X (n+4)) r σ Q):Out (ae P X (n+4)) (twoMS++r) σ Q:=by
 obtain⟨q,Ce,Cf⟩:=I.q;refine eL (d:=.int (cell / 3 % 12)) (fr:=vP) (ao (aj (aj (vr I.c) vI (aQ (by decide))) vI (aB (by decide))) QQ QQ) λCg o Ch=>?_
 refine eL (d:=.int (cell / 36)) (fr:=vP) (ao (aj (vr (o _ _ QQ I.c)) vI (aQ (by decide))) QQ QQ) λCi t L=>?_
 generalize cell / 3 % 12=way at *;generalize z:cell / 36=a at *;obtain⟨d,i,Cj,A⟩:=pV (X:=X) (T:=V) B hX n way a (w:=9) (by decide) q
 have A:(ae P X (n+4)).call "_law_wrong" [.int way,.int a,q,.int 9]=ac (.tup [d,.int i],vP):=A;have w2:=t _ _ QQ Ch;refine eL (d:=d) (fr:=vP) (ao (ay (x:=.tup [d,.int i]) (y:=.int 0) (au (vv w2 (vv L (vv (t _ _ QQ (o _ _ QQ Ce)) (aa vI vN)))) A) vI QQ) QQ QQ) λC u M=>?_
 have b:=cls_two B hX Cd Cf Cb Cj;have N:=u _ _ QQ (t _ _ QQ (o _ _ QQ I.s));have c3:=u _ _ QQ (t _ _ QQ (o _ _ QQ I.c));have Ck:=u _ _ QQ (t _ _ QQ (o _ _ QQ I.d));have E:=u _ _ QQ w2;have O:=u _ _ QQ L;have j:∀ (dd:Int) (σ:St),dd=(if way == 0 then 1 else B0)->Has σ "_law_script" S->Has σ "_law_cell" (.int cell)->Has σ "_law_due" (.int dd)->Has σ "_law_way" (.int way)->Has σ "_law_more" (.int a)->Has σ "_law_query" d->Out (ae P X (n+4)) (.ite (.bop .And [.cmp .Eq (.u "_law_way") (.int 1),.cmp .Gt (.bin .Mod (.u "_law_more") (.int 4)) (.int 1)]) [.x0 "_law_due" (.int 2)] []::r) σ Q:=λdd σ G Y Z Cm Cn Co Ca=>by
  refine d6 (k:=way == 1&&decide (a % 4 > 1)) (dX (al (vr Cn) vI QQ) λBF=>bz (al (aj (vr Co) vI (aB (by decide))) vI QQ)) QQ (λh=>?_) λh=>?_
  ·refine eL (d:=.int 2) (fr:=vP) (ao vI QQ QQ) λm f H=>?_
   have e:t8 way a B0=2:=by unfold t8;rw[h];rfl
   rw[e] at b;exact J 2 m ⟨f _ _ QQ Y,f _ _ QQ Z,H,d,f _ _ QQ Ca,b⟩
  ·have e:t8 way a B0=dd:=by unfold t8;rw[h,G];rfl
   rw[e] at b;exact J dd σ ⟨Y,Z,Cm,d,Ca,b⟩
 refine d6 (k:=way == 0) (al (vr E) vI QQ) QQ (λh=>?_) λh=>?_
 ·refine eL (d:=.int 1) (fr:=vP) (ao vI QQ QQ) λm f H=>?_
  exact j 1 m (by rw[h];rfl) (f _ _ QQ N) (f _ _ QQ c3) H (f _ _ QQ E) (f _ _ QQ O) (f _ _ QQ M)
 ·exact j B0 C (by rw[h];rfl) N c3 Ck E O M
end
end
set_option maxHeartbeats 1600000
noncomputable def fn_law:Fn:=⟨["_law_script"],uH++kz⟩
noncomputable def PP:vR (vV×Fn):=[("before",kX),("does",pF),("rank",tz),("told_of",jr),("holds",nb),("alike",qR),("once",pE),("ordered",jt),("grouped",ju),("cells_at",lB),("keeps",m9),("meets",m4),("_law_one_by",fH),("places_of",jT),("need_columns",eI),("stepped",js),("met",rY),("_law_many",iz),("_law_clause_by",cS),("width_upon",fG),("width_of_two",gN),("answer",iU),("planned",m0),("plan",tA),("_law_thing_by",eJ),("_law_among",jY),("_law_pairs_by",gO),("_law_keys_by",iB),("_law_sums_by",ip),("_law_places_by",fT),("_law_clauses_by",cK),("width",qQ),("_law_asked",jX),("_law_rows_of",iv),("_law_rows_by",ix),("_law_wide_by",io),("_law_names",jU),("_law_bad_place",cT),("_law_bad_column",dN),("_law_sign_by",iu),("_law_no_step",iy),("_law_of_two",ef),("_law_sieve_on",eK),("_law_around",ei),("_law_leaf",iA),("_law_any",m7),("_law_class_back",fm),("_law_class",jW),("_law_tables",je),("_law_widths",jd),("_law_mixed",jV),("_law_wrong",gB),("_law_cell_at",iC),("_law_stepped",ir),("law",fn_law)]
noncomputable def X7:CF:=⟨λZ Z=>wa,λx=>if x="STEPS" then ac (.tup aJ) else wa,λZ Z=>wa,λZ=>vP⟩
theorem by9:BY PP:={ toBZ:={ toBT:={ toBE:=⟨⟨⟨⟨QQ,QQ,QQ,QQ⟩,QQ,QQ⟩,QQ,QQ,QQ,QQ,QQ,QQ,QQ,QQ,QQ⟩,QQ,QQ,QQ,QQ,QQ,QQ⟩,toBA:=⟨QQ,QQ,QQ,QQ,QQ,QQ,QQ,QQ,QQ,QQ,QQ,QQ,QQ,QQ,QQ⟩,rowsBy:=rfl,tables:=rfl },toBW:=⟨QQ,QQ,QQ,QQ,QQ⟩,among:=rfl,badp:=rfl,badc:=rfl,nost:=rfl,wrong:=rfl },plan:=rfl,planned:=rfl,asked:=rfl }
theorem get6(ns:vR Int){k:Nat}(a:k<6):(ns.take 6++(ns.take 27).drop 9).getD k 0=ns.getD k 0:=by
 rw[wC,wC]
 by_cases h:k<ns.length
 ·rw[yT (by rw[xK];omega),List.getElem?_take_of_lt a]
 ·rw[List.drop_eq_nil_of_le (by rw[xK];omega),xY,List.getElem?_take_of_lt a]
theorem tbs3{a b c:Str}(C:a≠b)(E:a≠c)(G:b≠c){s t u w y r2:Nat}{i j m:Tab}(z:bB s i/\i.length=w)(A:bB t j/\j.length=y)(B:bB u m/\m.length=r2):vq (W3 a b c s t u) (W3 a b c w y r2) [(a,i),(b,j),(c,m)]:=λo k h=>by
 unfold W3 at h ⊢;rw[wk] at h ⊢;cases e1:o == a with
 | true=>
  rw[e1] at h;exact⟨i,QQ,v5 h▸z.1,λr f=>by rw[wk,e1] at f;exact v5 f▸wD z.2⟩
 | false=>
  rw[e1] at h;dsimp only at h ⊢;rw[wk] at h ⊢;cases n:o == b with
  | true=>
   rw[n] at h;exact⟨j,QQ,v5 h▸A.1,λr f=>by rw[wk,e1] at f;dsimp only at f;rw[wk,n] at f;exact v5 f▸wD A.2⟩
  | false=>
   rw[n] at h;dsimp only at h ⊢;rw[wk] at h ⊢;cases q:o == c with
   | true=>
    rw[q] at h;exact⟨m,QQ,v5 h▸B.1,λr f=>by rw[wk,e1] at f;dsimp only at f;rw[wk,n] at f;dsimp only at f;rw[wk,q] at f;exact v5 f▸wD B.2⟩
   | false=>rw[q] at h;cases h
theorem pure_ok(n:Nat)(ns:vR Int):vx PP X7 (n+60) ns:=by
 have hX:X7.glob "STEPS"=ac (.tup aJ):=rfl;have B:=by9;obtain⟨a,b,c,⟨o,s,u⟩,y,Ck⟩:=names_gen (X:=X7) B.toBE (ns.getD 0 0);have C:∀ n,(ae PP X7 (n+2)).call "_law_names" [.list (ns.map .int)]=_:=Ck _ λn=>cU (X:=X7) B.toBG n ns 0
 have J:∀ n,(ae PP X7 (n+2)).call "_law_names" [.list ((ns.take 6++(ns.take 27).drop 9).map .int)]=_:=Ck _ λn=>by
  have:=cU (X:=X7) B.toBG n (ns.take 6++(ns.take 27).drop 9) 0;rw[get6 ns (by decide)] at this
  exact this
 have Cm:(ae PP X7 (n+61)).call "_law_widths" [.list (ns.map .int)]=_:=widths_eq B.toBE (n+58) ns o s u (C (n+58));obtain⟨L,M,N,⟨CB,CC,CD⟩,Cn⟩:=tables_eq (X:=X7) B.toBT (n+56) ns 0 o s u (C (n+58));have CE:=tbs3 o s u CB CC CD;have O:=stepped_eq (X:=X7) (W:=W3 a b c (aG (ns.getD 0 0)) (aG (ns.getD 1 0)) (aG (ns.getD 2 0))) (R:=W3 a b c (cN (ns.getD 0 0)) (cN (ns.getD 1 0)) (cN (ns.getD 2 0))) B.toBE (n+53) (ns:=ns.take 6++(ns.take 27).drop 9) λk CG=>by
  have:=leaf_eq (X:=X7) B.toBE (n+57) (ns.take 6++(ns.take 27).drop 9) o s u (J (n+57)) k CG;rw[get6 ns (k:=0) (by decide),get6 ns (k:=1) (by decide),get6 ns (k:=2) (by decide)] at this
  exact this
 obtain⟨d,fr,⟨q,r,k,t,rfl⟩,CH⟩:=O;have CJ:=t.dp;have Y:q.wd (W3 a b c (aG (ns.getD 0 0)) (aG (ns.getD 1 0)) (aG (ns.getD 2 0)))<=1000:=by have:=t.wd;have:=t.k2;omega
 have CL:OW PP X7 (W3 a b c (aG (ns.getD 0 0)) (aG (ns.getD 1 0)) (aG (ns.getD 2 0))).d 33 q.d (q.wd (W3 a b c (aG (ns.getD 0 0)) (aG (ns.getD 1 0)) (aG (ns.getD 2 0)))):=λm CM=>by
  obtain⟨j,rfl⟩:∃ j,m=j+3:=⟨m - 3,by omega⟩
  exact width_eq B.toBW hX q j t.ok (by omega)
 have CN:∀ m,33<=m->∃ A fr,(ae PP X7 m).call "answer" [q.d,Tbs.d [(a,L),(b,M),(c,N)]]=ac (A,fr):=λm CM=>by
  obtain⟨j,rfl⟩:∃ j,m=j+5:=⟨m - 5,by omega⟩
  exact⟨_,_,answer_eq B.toBA hX CE q r j t.ok t.rb t.r t.nar (by omega)⟩
 have Co:∀ x:Str,x.length=1->b9 .NotIn (.str (vQ "x"++x)) (W3 a b c (aG (ns.getD 0 0)) (aG (ns.getD 1 0)) (aG (ns.getD 2 0))).d=ac (.bool vT)/\b9 .NotIn (.str (vQ "x"++x)) (Tbs.d [(a,L),(b,M),(c,N)])=ac (.bool vT):=λx Cp=>⟨sQ y Cp,sQ y Cp⟩
 have CO:aD (aF (W3 a b c (aG (ns.getD 0 0)) (aG (ns.getD 1 0)) (aG (ns.getD 2 0))) q r k) (.int 0)=ac q.d:=rfl;have u1:aD (aF (W3 a b c (aG (ns.getD 0 0)) (aG (ns.getD 1 0)) (aG (ns.getD 2 0))) q r k) (.int 1)=ac (.int (q.wd (W3 a b c (aG (ns.getD 0 0)) (aG (ns.getD 1 0)) (aG (ns.getD 2 0))))):=rfl;have CP:(ae PP X7 (n+61)).call "_law_cell_at" [.list (ns.map .int),.int 6]=ac (.int (ns.getD 6 0),vP):=cU (X:=X7) B.toBG (n+60) ns 6;have CQ:(ae PP X7 (n+61)).call "_law_cell_at" [.list (ns.map .int),.int 7]=ac (.int (ns.getD 7 0),vP):=cU (X:=X7) B.toBG (n+60) ns 7;have CR:(ae PP X7 (n+61)).call "_law_cell_at" [.list (ns.map .int),.int 8]=ac (.int (ns.getD 8 0),vP):=cU (X:=X7) B.toBG (n+60) ns 8;have CS:slD (.list (ns.map .int)) .none (.int 6)=ac (.list ((ns.take 6).map .int)):=by
  show ac (D.list (((ns.map D.int).take 6).drop 0))=_;rw[AQ,A8]
 have CT:slD (.list (ns.map .int)) (.int 9) (.int 27)=ac (.list (((ns.take 27).drop 9).map .int)):=by
  show ac (D.list (((ns.map D.int).take 27).drop 9))=_;rw[List.map_drop,A8]
 have Cq:100<=big:=by decide
 have CU:ce .Add (.list ((ns.take 6).map .int)) (.list (((ns.take 27).drop 9).map .int))=ac (.list ((ns.take 6++(ns.take 27).drop 9).map .int)):=by
  rw[wS];exact r7 (by rw[v9,v9,ym,xK,xK];omega)
 generalize aF (W3 a b c (aG (ns.getD 0 0)) (aG (ns.getD 1 0)) (aG (ns.getD 2 0))) q r k=Dl at *;generalize q.wd (W3 a b c (aG (ns.getD 0 0)) (aG (ns.getD 1 0)) (aG (ns.getD 2 0)))=w at *;generalize (W3 a b c (aG (ns.getD 0 0)) (aG (ns.getD 1 0)) (aG (ns.getD 2 0))).d=V at *;generalize Tbs.d [(a,L),(b,M),(c,N)]=U at *;generalize q.d=CV at *;generalize CW:D.list (ns.map .int)=S at *;generalize ns.getD 6 0=Cr at *;generalize ns.getD 7 0=CX at *;generalize ns.getD 8 0=cell at *;have Z:Out (ae PP X7 (n+61)) uH [("_law_script",(vP,S))] λG BJ=>G=.next/\∃ q B0 ya,TI q V U B0 cell BJ/\lR PP X7 V U 40 q B0 ya/\(cell % 3≠1->ya):=by
  refine eL (aI (aa (aj (nQ (vr ad) (gC _ _) vI CS) (nQ (vr ad) vI vI CT) CU) vN) CH) λCY CZ C0=>?_
  have Cs:=CZ _ _ QQ ad;refine eL (aI (vv Cs (aa vI vN)) CP) λC1 Ct C3=>?_
  have C4:=Ct _ _ QQ Cs;obtain⟨way,f⟩:=mz [0,1,2,3,4,5,6,7,8,9,10,11,9,10,9] (by decide) Cr
  have f:aD (.list [.int 0,.int 1,.int 2,.int 3,.int 4,.int 5,.int 6,.int 7,.int 8,.int 9,.int 10,.int 11,.int 9,.int 10,.int 9]) (.int (Cr % 15))=ac (.int way):=f;refine eL (d:=.int way) (fr:=vP) (ao (ay (x:=.list [.int 0,.int 1,.int 2,.int 3,.int 4,.int 5,.int 6,.int 7,.int 8,.int 9,.int 10,.int 11,.int 9,.int 10,.int 9]) QQ (aj (vr C3) vI (aB (by decide))) f) QQ QQ) λC5 Cu C6=>?_
  have Cv:=Cu _ _ QQ C4;refine eL (aI (vv Cv (aa vI vN)) CQ) λC7 Ca C8=>?_
  have C9:=Ca _ _ QQ Cv;have Cw:=Ca _ _ QQ (Cu _ _ QQ (Ct _ _ QQ C0));obtain⟨d,B0,Db,Dc⟩:=pV (X:=X7) (T:=V) B.toBZ hX (n+57) way CX Y CV;refine eL (aI (vv (Ca _ _ QQ C6) (vv C8 (aa (vsi Cw CO) (aa (vsi Cw u1) vN)))) Dc) λDd De Df=>?_
  have Cy:=De _ _ QQ C9;refine eL (aI (vv Cy (aa vI vN)) CR) λDg Cz Cb=>?_
  have Dh:=Cz _ _ QQ Cy;have CA:=Cz _ _ QQ Df;refine eL (d:=d) (fr:=vP) (ao (vsi (d:=.tup [d,.int B0]) (i:=0) CA QQ) QQ QQ) λDi Cd Ce=>?_
  refine eL (d:=.int B0) (fr:=vP) (ao (vsi (d:=.tup [d,.int B0]) (i:=1) (Cd _ _ QQ CA) QQ) QQ QQ) λCf Cg Dj=>?_
  have H:=cls_one (V:=V) (U:=U) B.toBZ hX (k:=33) (by decide) Co CL CN Db
  have I:LI PP X7 V U S cell B0 True 35 Cf:=⟨Cg _ _ QQ (Cd _ _ QQ Dh),Cg _ _ QQ (Cd _ _ QQ Cb),Dj,d,Cg _ _ QQ Ce,H⟩;refine d6 (k:=cell % 3 == 1) (al (aj (vr I.c) vI (aB (by decide))) vI QQ) QQ (λh=>?_) λBF=>?_
  ·refine law_two B.toBZ hX (n+57) (by decide) Co I (r:=vb) λB0 σ I=>?_
   obtain⟨G,BJ,⟨rfl,q,h1,E⟩,e⟩:=sR B.toBZ hX (n+60) Cm Cn I;exact⟨_,BJ,⟨QQ,q,B0,False,h1,E,λh'=>h' (eq_of_beq h)⟩,e⟩
  ·obtain⟨G,BJ,⟨rfl,q,h1,E⟩,e⟩:=sR B.toBZ hX (n+60) Cm Cn I
   exact⟨_,BJ,⟨QQ,q,B0,True,h1,E.up (by decide),λBF=>trivial⟩,e⟩
 obtain⟨G,σ,⟨rfl,q,B0,ya,Ch,⟨Dk,z,H,Ci⟩,Cj⟩,e⟩:=Z;refine⟨QQ,QQ,QQ,uH,q,V,U,B0,cell,σ,Dk,QQ,by rw[CW];exact e,Ch,z,asked_w B (fV z) H (n+57) (by omega),λh1 E=>asked_a B (fV z) (Ci h1 (Cj E)) (n+59) (by omega),(H (n+60) (by omega)).rz⟩
noncomputable def GlobOk(mg:Str->vY vU)(h:Heap):Prop:=∃ a vs n,mg (vQ "STEPS")=ac (.ref a)/\h.get? a=ac (dm vs n)/\jH vs.toList oa=vT
theorem GlobOk.keeps{mg:Str->vY vU}{h h':Heap}(x:GlobOk mg h)(c:∀ b o,h.get? b=ac o->h'.get? b=ac o):GlobOk mg h':=let ⟨a,vs,n,h1,h2,h3⟩:=x;⟨a,vs,n,h1,c _ _ h2,h3⟩
theorem glob_of(s:vZ)(e:lV s=vT):GlobOk (s.heap.nsMap xj) s.heap:=by
 unfold lV at e;split at e
 ·rename_i a j
  split at e
  ·rename_i o m
   unfold p5 at e;simp only[yl,yx,xX,A9] at e;obtain⟨⟨⟨e1,b⟩,f⟩,h⟩:=e;split at e1
   ·rename_i vs n i
    refine⟨a,vs,n,j,?_,e1⟩;rw[m];obtain⟨c,d,q,t⟩:=o;dsimp only at b f h i;subst b f h i
    rfl
   ·cases e1
  ·cases e
 ·cases e
theorem od{P:wT}{h:Heap}{H:v8->Prop}:∀ {vs:vR vU} {ys:vR Str},jH vs ys=vT->am P h H vs (ys.map .str)
 | [],[],_=>.nil
 | [],_::_,e=>by cases e
 | _::_,[],e=>by cases e
 | v::vs,y::ys,e=>by
  rw[jH,yl] at e;obtain⟨e1,b⟩:=e;refine .cons ?_ (od b);cases v <;> first | (cases e1;done) | skip
  rename_i x t
  have a:(x == y)=vT:=e1;rw[yx] at a;subst a;exact .str _ _
theorem hx7{B9:wq}{w:wy}{B3:Heap}{mg:Str->vY vU}{A:wt}(g:GlobOk mg B3):cD B9 w B3 mg X7 A:=by
 refine⟨(λZ Z Z Z h=>nomatch h),λx d h=>?_,(λZ Z Z h=>nomatch h),λZ h=>nomatch h⟩
 have h:(if x="STEPS" then ac (D.tup aJ) else wa)=ac d:=h
 split at h
 ·rename_i b
  cases h;subst b;obtain⟨a,vs,n,h1,c,f⟩:=g;refine⟨_,h1,.tup c (λq=>q) (by decide) ?_⟩
  exact od f
 ·cases h
end Mine
namespace Mine
open PySem PySem.W PyProof.Rows
set_option maxHeartbeats 0
theorem chkd:pK (zX vw) PP=vT:=by decide +kernel
theorem freed:md vw (looseW vw [])=vT:=by decide +kernel
end Mine
open PySem PySem.W PyProof.Rows
set_option maxRecDepth 100000 in
set_option maxHeartbeats 8000000 in
theorem PySem.Challenge.cw_uf030018_09_holds : PySem.Challenge.rw_uf030018_09.Holds := by
 refine holds_law Mine.ws fun said=>?_
 refine holds_open (q:=Mine.vw) (loose:=[]) (Xt:=Mine.hdXt) (XP:=(fun mg h=>XL Mine.vw [] mg h∧Mine.TbOk mg h∧Mine.GlobOk mg h∧Mine.ExP mg h)) (Yf:=Hook.obs Hook.none) (Ya:=Hook.val Hook.none) (YP:=Hook.says Hook.none) (N:=20000) Mine.left (Hook.of Hook.none) (Hook.keeps Hook.none) (fun s e=>⟨xl_of s (wm.mp (wm.mp (Mine.hdXi e)).1).1,Mine.tb_of s (wm.mp (wm.mp (Mine.hdXi e)).2).1,Mine.glob_of s (wm.mp (wm.mp (wm.mp (Mine.hdXi e)).2).2).1,Mine.ex_of s (wm.mp (wm.mp (wm.mp (Mine.hdXi e)).2).2).2⟩) (fun mg h h' x k=>⟨XL.keeps mg h h' x.1 k,Mine.TbOk.keeps x.2.1 k,Mine.GlobOk.keeps x.2.2.1 k,Mine.ExP.keeps x.2.2.2 k⟩) Mine.dlDef Mine.dlIs Mine.dlKw (fun s e=>recFacts_of (wm.mp (wm.mp (Mine.hdXi e)).1).2) (by rfl) said Mine.okAll ⟨rfl,rfl,rfl,rfl,rfl,by decide +kernel⟩ ?hw ?hc
 (case hw=>w_witness2)
 intro w s₀ BU mg mb G Y fa o pm cd doc dV kV ho hd hcd hD hmg hg args vals as hpre hlay hrd hwl hlo;rw[Mine.dlName] at hmg;refine Ground.open G ?_;intro T B D TE TW
 wrow_args hpre hlay hrd hwl hlo
 exact Mine.law_fin (P:=Mine.PP) (X:=Mine.X7) 60 T Mine.chkd Mine.freed (by decide) (fun _ _=>Mine.hx7 G.X.2.2.1) G.X.2.1 G.X.2.2.2 hmg hg (by assumption) (by assumption) (Mine.pure_ok _ _)
